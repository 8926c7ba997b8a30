/-
 Plain proofs about the functions of this seat, part 1 of 4.
-/
import Derived.Test.YtagnkfbpgkckiaaGreatFlatM4
import Derived.IntWalk
import Derived.Test.YtagnkfbpgkckiaaGreatTr
set_option linter.unusedVariables false
set_option linter.unusedSimpArgs false
open Go.IntKind (wrap)
namespace Go.Plim
open Go.Flat
def uvB (n:Nat):List UInt8:=if n<128 then [UInt8.ofNat n] else UInt8.ofNat (n % 128+128)::uvB (n / 128)
termination_by n
decreasing_by omega
theorem i0p {n:Nat}(h:n<128):uvB n=[UInt8.ofNat n]:=by unfold uvB;rw[q0z h]
theorem w0h {n:Nat}(h:¬n<128):uvB n=UInt8.ofNat (n % 128+128)::uvB (n / 128):=by rw[uvB];rw[q0n h]
def txB (s:List UInt8):List UInt8:=uvB s.length++s
def labB (l:List (List UInt8×List UInt8)):List UInt8:=uvB l.length++l.flatMap fun x=>txB x.1++txB x.2
theorem j2w:∀c:Fin 256,orI .u8 (c.val:Int) 128=(c.val:Int) % 128+128:=by decide +kernel
theorem or128 (v:Int):orI .u8 (wrap .u8 v) 128=v % 128+128:=by
 rw[y0j];have h1:=Int.emod_nonneg v (show (256:Int)≠0 by decide);have h2:=Int.emod_lt_of_pos v (show (0:Int)<256 by decide);have:=j2w ⟨(v % 256).toNat,by omega⟩;simp only at this;rw[show (((v % 256).toNat:Nat):Int)=v % 256 by omega] at this;rw[this];omega
theorem shr7 {v:Int}(h:0<=v):shrI .u64 v 7=v / 128:=by
 show v.fdiv (2^(7:Int).toNat)=_;rw[Int.fdiv_eq_ediv_of_nonneg _ (by decide)];rfl
def uvI (v:Int):List Int:=c0c (uvB v.toNat)
theorem s1d {v:Int}(h0:0<=v)(h:v<128):uvI v=[v]:=by
 unfold uvI;rw[i0p (by omega)];simp[c0c];omega
theorem o1r {v:Int}(h0:0<=v)(h:¬v<128):uvI v=(v % 128+128)::uvI (v / 128):=by
 unfold uvI;rw[w0h (by omega)];have e:(v / 128).toNat=v.toNat / 128:=by omega
 rw[e];simp[c0c];omega
abbrev Wd:=Int×Int
abbrev Ev:=Int×(Int×(Int×Bool))
abbrev Cel:=Int×(Ev×(Ev×(Wd×(Int×(Int×Int)))))
instance decWd:DecidableEq Wd:=inferInstanceAs (DecidableEq (Int×Int))
instance decEv:DecidableEq Ev:=inferInstanceAs (DecidableEq (Int×(Int×(Int×Bool))))
instance decCel:DecidableEq Cel := @instDecidableEqProd _ _ _ (@instDecidableEqProd _ _ decEv (@instDecidableEqProd _ _ decEv (@instDecidableEqProd _ _ decWd inferInstance)))
def wv (a:Wd):Int:=a.1*18446744073709551616+a.2
structure WdOk (a:Wd):Prop where
 hi:0<=a.1/\a.1<=18446744073709551615
 lo:0<=a.2/\a.2<=18446744073709551615
def mkW (v:Int):Wd:=(v / 18446744073709551616,v % 18446744073709551616)
theorem k2j {a:Wd}(h:WdOk a):mkW (wv a)=a:=by
 obtain ⟨h1,h2⟩:=h;obtain ⟨x,y⟩:=a;simp only[mkW,wv] at *
 exact Prod.ext (by simp only;omega) (by simp only;omega)
theorem b2c (v:Int):wv (mkW v)=v:=by
 simp only[mkW,wv];omega
theorem v1l {v:Int}(h:0<=v)(h':v<340282366920938463463374607431768211456):WdOk (mkW v):=by
 constructor<;>simp only[mkW]<;>omega
theorem z0p {a:Wd}(h:WdOk a):0<=wv a/\wv a<340282366920938463463374607431768211456:=by
 obtain ⟨h1,h2⟩:=h;simp only[wv];omega
theorem wv_zero:wv (0,0)=0:=rfl
def addW (a b:Wd):Wd×Int:=if wv a+wv b<340282366920938463463374607431768211456 then (mkW (wv a+wv b),0) else ((0,0),1)
def e0:Ev:=(0,(0,(0,false)))
structure EvOk (e:Ev):Prop where
 t0:0<=e.1
 t1:e.1<35184372088832
 v0:0<=e.2.1
 v1:e.2.1<=18446744073709551615
 c0:0<=e.2.2.1
 c1:e.2.2.1<=e.1
 st:e.2.2.2=true->e.2.1=0/\e.2.2.1=0
theorem evOk_iff (e:Ev):EvOk e↔(0<=e.1/\e.1<35184372088832/\0<=e.2.1/\e.2.1<=18446744073709551615/\0<=e.2.2.1/\e.2.2.1<=e.1/\(e.2.2.2=true->e.2.1=0/\e.2.2.1=0)) :=
 ⟨fun ⟨a,b,c,d,f,g,h⟩=>⟨a,b,c,d,f,g,h⟩,fun ⟨a,b,c,d,f,g,h⟩=>⟨a,b,c,d,f,g,h⟩⟩
instance (e:Ev):Decidable (EvOk e):=decidable_of_iff _ (evOk_iff e).symm
def btw (p c:Ev):Int×(Int×(Int×Int)) :=
 if c.2.2.2=true then (0,0,0,0)
 else if p.1<c.2.2.1 then (c.2.1,1,0,c.1-c.2.2.1)
 else if p.2.2.2=true then (0,0,1,0)
 else if c.2.1<p.2.1 then (c.2.1,1,0,c.1-p.1)
 else (c.2.1-p.2.1,0,0,c.1-p.1)
structure DlOk (d:Int×(Int×(Int×Int)))(s:Int):Prop where
 i:0<=d.1/\d.1<=18446744073709551615
 r:0<=d.2.1
 g:0<=d.2.2.1
 rg:d.2.1+d.2.2.1<=1
 s:0<=d.2.2.2/\d.2.2.2<=s
def z0:Cel:=(0,(e0,(e0,((0,0),(0,(0,0))))))
structure CellN (c:Cel):Prop where
 n1:1<=c.1
 f:EvOk c.2.1
 l:EvOk c.2.2.1
 one:c.1=1->c.2.1=c.2.2.1
 more:1<c.1->c.2.1.1<c.2.2.1.1
 n2:c.1-1<=c.2.2.1.1-c.2.1.1
 w:WdOk c.2.2.2.1
 inc:wv c.2.2.2.1<=18446744073709551615*(c.1-1)
 r:0<=c.2.2.2.2.1
 g:0<=c.2.2.2.2.2.1
 rg:c.2.2.2.2.1+c.2.2.2.2.2.1<=c.1-1
 s0:0<=c.2.2.2.2.2.2
 s1:c.2.2.2.2.2.2<=c.2.2.1.1-c.2.1.1
theorem wdOk_iff (a:Wd):WdOk a↔(0<=a.1/\a.1<=18446744073709551615)/\(0<=a.2/\a.2<=18446744073709551615) :=
 ⟨fun ⟨a,b⟩=>⟨a,b⟩,fun ⟨a,b⟩=>⟨a,b⟩⟩
instance (a:Wd):Decidable (WdOk a):=decidable_of_iff _ (wdOk_iff a).symm
theorem m2l (c:Cel):CellN c↔(1<=c.1/\EvOk c.2.1/\EvOk c.2.2.1/\(c.1=1->c.2.1=c.2.2.1)/\(1<c.1->c.2.1.1<c.2.2.1.1)/\c.1-1<=c.2.2.1.1-c.2.1.1/\WdOk c.2.2.2.1 /\
  wv c.2.2.2.1<=18446744073709551615*(c.1-1)/\0<=c.2.2.2.2.1/\0<=c.2.2.2.2.2.1/\c.2.2.2.2.1+c.2.2.2.2.2.1<=c.1-1/\0<=c.2.2.2.2.2.2/\c.2.2.2.2.2.2<=c.2.2.1.1-c.2.1.1) :=
 ⟨fun ⟨a,b,c,d,e,f,g,h,i,j,k,l,m⟩=>⟨a,b,c,d,e,f,g,h,i,j,k,l,m⟩,fun ⟨a,b,c,d,e,f,g,h,i,j,k,l,m⟩=>⟨a,b,c,d,e,f,g,h,i,j,k,l,m⟩⟩
instance (c:Cel):Decidable (CellN c):=decidable_of_iff _ (m2l c).symm
def m0g (c:Cel):Prop:=c=z0\/CellN c
instance (c:Cel):Decidable (m0g c):=by unfold m0g;infer_instance
theorem CellN.ne {c:Cel}(h:CellN c):c≠z0:=by
 intro e;have:=h.n1;rw[e] at this;simp[z0] at this
theorem CellN.ok {c:Cel}(h:CellN c):m0g c := .inr h
theorem m0g.n {c:Cel}(h:m0g c)(hz:c≠z0):CellN c:=h.resolve_left hz
theorem m0g.count {c:Cel}(h:m0g c):(c.1=0↔c=z0)/\0<=c.1:=by
 rcases h with rfl | h
 ·exact ⟨⟨fun _=>rfl,fun _=>rfl⟩,by simp[z0]⟩
 ·have:=h.n1;exact ⟨⟨fun e=>by omega,fun e=>absurd e h.ne⟩,by omega⟩
theorem CellN.ft {c:Cel}(h:CellN c):c.2.1.1<=c.2.2.1.1:=by have:=h.n1;have:=h.n2;omega
theorem CellN.small {c:Cel}(h:CellN c):c.1<=35184372088832:=by
 have:=h.n2;have:=h.f.t0;have:=h.l.t1;omega
def mrg (a b:Cel):Cel :=
 if a=z0 then b else if b=z0 then a else
  (a.1+b.1,(a.2.1,(b.2.2.1,(mkW (wv a.2.2.2.1+(btw a.2.2.1 b.2.1).1+wv b.2.2.2.1),
   (a.2.2.2.2.1+(btw a.2.2.1 b.2.1).2.1+b.2.2.2.2.1,(a.2.2.2.2.2.1+(btw a.2.2.1 b.2.1).2.2.1+b.2.2.2.2.2.1,a.2.2.2.2.2.2+(btw a.2.2.1 b.2.1).2.2.2+b.2.2.2.2.2.2))))))
def Ahead (a b:Cel):Prop:=a=z0\/b=z0\/a.2.2.1.1<b.2.1.1
instance (a b:Cel):Decidable (Ahead a b):=by unfold Ahead;infer_instance
def evCell (e:Ev):Cel:=(1,(e,(e,((0,0),(0,(0,0))))))
def cellOf (l:List Ev):Cel:=l.foldl (fun c e=>mrg c (evCell e)) z0
structure Foll (l:List Ev):Prop where
 ok:∀e∈l,EvOk e
 inc:l.Pairwise fun a b=>a.1<b.1
theorem Foll.nil:Foll []:=⟨by simp,.nil⟩
theorem t0m {l m:List Ev}:Foll (l++m)↔Foll l/\Foll m/\∀x∈l,∀y∈m,x.1<y.1:=by
 constructor
 ·rintro ⟨h1,h2⟩;rw[List.pairwise_append] at h2;exact ⟨⟨fun x hx=>h1 x (by simp[hx]),h2.1⟩,⟨fun x hx=>h1 x (by simp[hx]),h2.2.1⟩,h2.2.2⟩
 ·rintro ⟨h1,h2,h3⟩;refine ⟨fun x hx => ?_,List.pairwise_append.2 ⟨h1.inc,h2.inc,h3⟩⟩;rcases q2o.1 hx with hx | hx
  ·exact h1.ok x hx
  ·exact h2.ok x hx
theorem Foll.sub {l m:List Ev}(h:Foll l)(s:m.Sublist l):Foll m:=⟨fun e he=>h.ok e (s.subset he),h.inc.sublist s⟩
structure Has (l:List Ev)(c:Cel):Prop where
 n:CellN c
 cnt:c.1=l.length
 first:l.head? = some c.2.1
 last:l.getLast? = some c.2.2.1
def mrgE (a b:Cel):Cel×Int:=if m0g a/\m0g b then (if Ahead a b then (mrg a b,0) else (z0,9)) else (z0,2)
def allE:Cel->List Cel->Cel×Int
 | c,[]=>(c,0)
 | c,x::r=>if (mrgE c x).2=0 then allE (mrgE c x).1 r else (z0,(mrgE c x).2)
end Go.Plim
namespace Go.Proofs.YtagnkfbpgkckiaaGreat
open Go.Flat Go.Plim
theorem s0n (x:Int)(k:Nat)(hk:k<=64):shrI .u64 x (k:Int)=x / 2^k:=by
 unfold shrI;rw[show min (k:Int).toNat IntKind.u64.bits=k from by show min (k:Int).toNat 64=k;omega];exact Int.fdiv_eq_ediv_of_nonneg _ (Int.le_of_lt (Int.pow_pos (by decide)))
theorem d2n (x:Int)(k:Nat)(hk:k<=63)(h:0<=x)(h':x<=18446744073709551615):andI .u64 x ((2^k-1:Nat):Int)=x % ((2^k:Nat):Int):=by
 obtain ⟨a,rfl⟩:=Int.eq_ofNat_of_zero_le h;have hp:2^k<=2^63:=Nat.pow_le_pow_right (by decide) hk;have h63:(2:Nat)^63=9223372036854775808:=by decide
 unfold andI;have e:(BitVec.ofInt IntKind.u64.bits (a:Int) &&& BitVec.ofInt IntKind.u64.bits ((2^k-1:Nat):Int)).toNat=a % 2^k:=by
  show (BitVec.ofInt 64 (a:Int) &&& BitVec.ofInt 64 ((2^k-1:Nat):Int)).toNat=_;rw[BitVec.toNat_and,BitVec.ofInt_natCast,BitVec.ofInt_natCast,BitVec.toNat_ofNat,BitVec.toNat_ofNat,Nat.mod_eq_of_lt (a:=a) (by omega),Nat.mod_eq_of_lt (a:=2^k-1) (by omega),Nat.and_two_pow_sub_one_eq_mod]
 rw[e];have:a % 2^k<2^k:=Nat.mod_lt _ (Nat.pow_pos (by decide));rw[wu64 (by omega) (by omega)];simp
theorem m0r (a x:Int)(k:Nat)(hk:k<=56)(ha:0<=a)(ha':a<((2^k:Nat):Int))(hx:0<=x)(hx':x<=255) :
  orI .u64 a (shlI .u64 (wrap .u64 x) (k:Int))=a+x*((2^k:Nat):Int):=by
 obtain ⟨a,rfl⟩:=Int.eq_ofNat_of_zero_le ha;obtain ⟨c,rfl⟩:=Int.eq_ofNat_of_zero_le hx;have hp:2^k<=2^56:=Nat.pow_le_pow_right (by decide) hk;have h56:(2:Nat)^56=72057594037927936:=by decide
 have hc:c*2^k<=255*2^k:=q3x _ (by omega);have e1:shlI .u64 (wrap .u64 (c:Int)) (k:Int)=((c*2^k:Nat):Int):=by
  rw[wu64 (by omega) (by omega)];show wrap .u64 ((c:Int)*2^(min (k:Int).toNat 64))=_;rw[show min (k:Int).toNat 64=k by omega];have:(c:Int)*2^k=((c*2^k:Nat):Int):=by simp
  rw[this,wu64 (by omega) (by omega)]
 rw[e1];unfold orI;have e2:(BitVec.ofInt IntKind.u64.bits (a:Int) ||| BitVec.ofInt IntKind.u64.bits ((c*2^k:Nat):Int)).toNat=c*2^k+a:=by
  show (BitVec.ofInt 64 (a:Int) ||| BitVec.ofInt 64 ((c*2^k:Nat):Int)).toNat=_;rw[BitVec.toNat_or,BitVec.ofInt_natCast,BitVec.ofInt_natCast,BitVec.toNat_ofNat,BitVec.toNat_ofNat,Nat.mod_eq_of_lt (by omega),Nat.mod_eq_of_lt (by omega)];have:=Nat.two_pow_add_eq_or_of_lt (i:=k) (b:=a) (by omega) c;rw[Nat.mul_comm c (2^k),this,Nat.or_comm]
 rw[e2,wu64 (by omega) (by omega)];simp[Int.add_comm]
theorem or_zero (a b:Int)(ha:0<=a/\a<=18446744073709551615)(hb:0<=b/\b<=18446744073709551615):orI .u64 a b=0↔a=0/\b=0:=by
 obtain ⟨a,rfl⟩:=Int.eq_ofNat_of_zero_le ha.1;obtain ⟨b,rfl⟩:=Int.eq_ofNat_of_zero_le hb.1;unfold orI;have e2:(BitVec.ofInt IntKind.u64.bits (a:Int) ||| BitVec.ofInt IntKind.u64.bits (b:Int)).toNat=a ||| b:=by
  show (BitVec.ofInt 64 (a:Int) ||| BitVec.ofInt 64 (b:Int)).toNat=_;rw[BitVec.toNat_or,BitVec.ofInt_natCast,BitVec.ofInt_natCast,BitVec.toNat_ofNat,BitVec.toNat_ofNat,Nat.mod_eq_of_lt (by omega),Nat.mod_eq_of_lt (by omega)]
 rw[e2];have:a ||| b<2^64:=Nat.or_lt_two_pow (by omega) (by omega)
 rw[wu64 (by omega) (by omega)];have h3:a ||| b=0↔a=0/\b=0:=Nat.or_eq_zero_iff
 omega
theorem wide_of (n:Nat)(x:Int):x1b (n+1) x=some (0,x):=d2w n x
theorem o1m (n:Nat)(a:Wd)(o:Int):h1l (n+1) a o=some (if o=0 then (a,0) else ((0,0),1)):=by
 rw[r1y];by_cases h:o=0<;>simp[h]
theorem h2f (n:Nat){a b:Wd}(ha:WdOk a)(hb:WdOk b):h1m (n+1) a b=some (decide (wv a<wv b)):=by
 obtain ⟨h1,h2⟩:=ha;obtain ⟨h3,h4⟩:=hb;obtain ⟨ah,al⟩:=a;obtain ⟨bh,bl⟩:=b;simp only at h1 h2 h3 h4;rw[r1z];have ea:wv (ah,al)=ah*18446744073709551616+al:=rfl;have eb:wv (bh,bl)=bh*18446744073709551616+bl:=rfl;generalize wv (ah,al)=va at *
 generalize wv (bh,bl)=vb at *
 simp only[tfd];by_cases c1:ah<bh
 ·rw[q0z c1,q2a (by omega)]
 ·rw[q0n c1];by_cases c2:ah=bh
  ·rw[q0z c2];congr 1;exact q2t.2 (by omega)
  ·rw[q0n c2,q1z (by omega)]
theorem mul64 (n:Nat)(x y:Int)(hx:0<=x/\x<=18446744073709551615)(hy:0<=y/\y<=18446744073709551615):h0d (n+1) x y=some (x*y / 18446744073709551616,x*y % 18446744073709551616):=by
 rw[c1c];have sh:∀z:Int,shrI .u64 z (32:Int)=z / 4294967296:=fun z=>s0n z 32 (by decide)
 have an:∀z:Int,0<=z->z<=18446744073709551615->andI .u64 z (4294967295:Int)=z % 4294967296:=fun z h h'=>d2n z 32 (by decide) h h'
 rw[an x hx.1 hx.2,an y hy.1 hy.2];simp only[sh];have b1:0<=x / 4294967296/\x / 4294967296<=4294967295:=by omega
 have b2:0<=y / 4294967296/\y / 4294967296<=4294967295:=by omega
 have b3:0<=x % 4294967296/\x % 4294967296<=4294967295:=by omega
 have b4:0<=y % 4294967296/\y % 4294967296<=4294967295:=by omega
 have ex:x=x / 4294967296*4294967296+x % 4294967296:=by omega
 have ey:y=y / 4294967296*4294967296+y % 4294967296:=by omega
 generalize hx1:x / 4294967296=x1 at *
 generalize hx0:x % 4294967296=x0 at *
 generalize hy1:y / 4294967296=y1 at *
 generalize hy0:y % 4294967296=y0 at *
 have bound:∀ {u v:Int},0<=u/\u<=4294967295->0<=v/\v<=4294967295->0<=u*v/\u*v<=18446744065119617025:=fun {u v} hu hv =>
  ⟨Int.mul_nonneg hu.1 hv.1,Int.le_trans (Int.mul_le_mul hu.2 hv.2 hv.1 (by decide)) (by decide)⟩
 have p11:=bound b1 b2;have p10:=bound b1 b4;have p01:=bound b3 b2;have p00:=bound b3 b4;have exy:x*y=x1*y1*18446744073709551616+(x1*y0+x0*y1)*4294967296+x0*y0:=by
  rw[ex,ey];simp only[Int.add_mul,Int.mul_add];have q1:x1*4294967296*(y1*4294967296)=x1*y1*18446744073709551616:=by
   rw[Int.mul_assoc,Int.mul_left_comm 4294967296 y1,<-Int.mul_assoc];rfl
  have q2:x0*(y1*4294967296)=x0*y1*4294967296:=by rw[Int.mul_assoc]
  have q3:x1*4294967296*y0=x1*y0*4294967296:=by rw[Int.mul_assoc,Int.mul_comm 4294967296 y0,<-Int.mul_assoc]
  rw[q1,q2,q3];omega
 rw[exy];generalize x1*y1=a11 at *
 generalize x1*y0=a10 at *
 generalize x0*y1=a01 at *
 generalize x0*y0=a00 at *
 rw[wu64 (x:=a00) (by omega) (by omega),wu64 (x:=a11) (by omega) (by omega),wu64 (x:=a10) (by omega) (by omega),wu64 (x:=a01) (by omega) (by omega)];rw[wu64 (x:=a10+a00 / 4294967296) (by omega) (by omega),an _ (by omega) (by omega)];rw[wu64 (x:=a11+(a10+a00 / 4294967296) / 4294967296) (by omega) (by omega),wu64 (x:=(a10+a00 / 4294967296) % 4294967296+a01) (by omega) (by omega),wu64 (by omega) (by omega)];have wm:∀z:Int,wrap .u64 z=z % 18446744073709551616:=fun z=>IntKind.wrap_u64 z
 rw[wm];congr 2;omega
def m1p (a:Wd)(k:Int):Wd×Int:=if wv a*k<340282366920938463463374607431768211456 then (mkW (wv a*k),0) else ((0,0),1)
theorem d2v (n:Nat){a:Wd}(ha:WdOk a)(k:Int)(hk:0<=k/\k<=18446744073709551615):c1y (n+2) a k=some (m1p a k):=by
 obtain ⟨h1,h2⟩:=ha;obtain ⟨ah,al⟩:=a;simp only at h1 h2;rw[o1n,mul64 n al k h2 hk,mul64 n ah k h1 hk];simp only[obs];have bd:∀ {u:Int},0<=u/\u<=18446744073709551615->0<=u*k/\u*k<=340282366920938463426481119284349108225:=fun {u} hu =>
  ⟨Int.mul_nonneg hu.1 hk.1,Int.le_trans (Int.mul_le_mul hu.2 hk.2 hk.1 (by decide)) (by decide)⟩
 have b1:=bd h1;have b2:=bd h2;unfold m1p;have e:wv (ah,al)*k=ah*k*18446744073709551616+al*k:=by
  simp only[wv];rw[Int.add_mul,Int.mul_assoc,Int.mul_comm 18446744073709551616 k,<-Int.mul_assoc]
 rw[e];generalize ah*k=p at *
 generalize al*k=q at *
 simp only[d1a,tfd,tft,q0z (show (0:Int)<=p % 18446744073709551616 by omega),q0z (show (0:Int)<=q / 18446744073709551616 by omega),o1m,obs];have ho:=or_zero (p / 18446744073709551616) ((p % 18446744073709551616+q / 18446744073709551616+0) / 18446744073709551616) (by omega) (by omega);by_cases hc:p*18446744073709551616+q<340282366920938463463374607431768211456
 ·rw[q0z hc,q0z (ho.2 (by omega))];simp only[mkW];congr 2;exact Prod.ext (by simp only;omega) (by simp only;omega)
 ·rw[q0n hc,q0n (fun h=>by have:=ho.1 h;omega)]
def Byt (x:Int):Prop:=0<=x/\x<=255
theorem bytes8 (v:Int)(h:0<=v/\v<=18446744073709551615):∃x0 x1 x2 x3 x4 x5 x6 x7:Int,(Byt x0/\Byt x1/\Byt x2/\Byt x3/\Byt x4/\Byt x5/\Byt x6/\Byt x7)/\v=x0+x1*256+x2*65536+x3*16777216+x4*4294967296+x5*1099511627776+x6*281474976710656+x7*72057594037927936 /\
  v % 256=x0/\v / 256 % 256=x1/\v / 65536 % 256=x2/\v / 16777216 % 256=x3/\v / 4294967296 % 256=x4/\v / 1099511627776 % 256=x5/\v / 281474976710656 % 256=x6/\v / 72057594037927936 % 256=x7:=by
 refine ⟨v % 256,v / 256 % 256,v / 65536 % 256,v / 16777216 % 256,v / 4294967296 % 256,v / 1099511627776 % 256,v / 281474976710656 % 256,v / 72057594037927936 % 256,?_,?_,rfl,rfl,rfl,rfl,rfl,rfl,rfl,rfl⟩
 ·simp only[Byt];omega
 ·have e2:v / 65536=v / 256 / 256:=by omega
  have e3:v / 16777216=v / 65536 / 256:=by omega
  have e4:v / 4294967296=v / 16777216 / 256:=by omega
  have e5:v / 1099511627776=v / 4294967296 / 256:=by omega
  have e6:v / 281474976710656=v / 1099511627776 / 256:=by omega
  have e7:v / 72057594037927936=v / 281474976710656 / 256:=by omega
  have e8:v / 72057594037927936 / 256=0:=by omega
  omega
theorem b1q (n:Nat){a:Wd}(ha:WdOk a):∃x0 x1 x2 x3 x4 x5 x6 x7 x8 x9 x10 x11 x12 x13 x14 x15:Int,r0h (n+1) a=some (x0,x1,x2,x3,x4,x5,x6,x7,x8,x9,x10,x11,x12,x13,x14,x15)/\(Byt x0/\Byt x1/\Byt x2/\Byt x3/\Byt x4/\Byt x5/\Byt x6/\Byt x7/\Byt x8/\Byt x9/\Byt x10/\Byt x11/\Byt x12/\Byt x13/\Byt x14/\Byt x15)/\a.2=x0+x1*256+x2*65536+x3*16777216+x4*4294967296+x5*1099511627776+x6*281474976710656+x7*72057594037927936/\a.1=x8+x9*256+x10*65536+x11*16777216+x12*4294967296+x13*1099511627776+x14*281474976710656+x15*72057594037927936:=by
 obtain ⟨x0,x1,x2,x3,x4,x5,x6,x7,⟨b0,b1,b2,b3,b4,b5,b6,b7⟩,hv,e0,e1,e2,e3,e4,e5,e6,e7⟩:=bytes8 a.2 ha.lo;obtain ⟨x8,x9,x10,x11,x12,x13,x14,x15,⟨b8,b9,b10,b11,b12,b13,b14,b15⟩,hv',e8,e9,e10,e11,e12,e13,e14,e15⟩:=bytes8 a.1 ha.hi;refine ⟨x0,x1,x2,x3,x4,x5,x6,x7,x8,x9,x10,x11,x12,x13,x14,x15,?_,⟨b0,b1,b2,b3,b4,b5,b6,b7,b8,b9,b10,b11,b12,b13,b14,b15⟩,hv,hv'⟩;have an:∀z:Int,0<=z->z<=18446744073709551615->andI .u64 z (255:Int)=z % 256:=fun z h h'=>d2n z 8 (by decide) h h'
 have s0:∀z:Int,shrI .u64 z (0:Int)=z / 1:=fun z=>s0n z 0 (by decide)
 have s1:∀z:Int,shrI .u64 z (8:Int)=z / 256:=fun z=>s0n z 8 (by decide)
 have s2:∀z:Int,shrI .u64 z (16:Int)=z / 65536:=fun z=>s0n z 16 (by decide)
 have s3:∀z:Int,shrI .u64 z (24:Int)=z / 16777216:=fun z=>s0n z 24 (by decide)
 have s4:∀z:Int,shrI .u64 z (32:Int)=z / 4294967296:=fun z=>s0n z 32 (by decide)
 have s5:∀z:Int,shrI .u64 z (40:Int)=z / 1099511627776:=fun z=>s0n z 40 (by decide)
 have s6:∀z:Int,shrI .u64 z (48:Int)=z / 281474976710656:=fun z=>s0n z 48 (by decide)
 have s7:∀z:Int,shrI .u64 z (56:Int)=z / 72057594037927936:=fun z=>s0n z 56 (by decide)
 have h1:=ha.lo;have h2:=ha.hi;rw[u1t];simp only[s0,s1,s2,s3,s4,s5,s6,s7,Int.ediv_one];rw[an (a.2) (by omega) (by omega),e0,w64 (x:=x0) (by have:=b0.1;omega) (by have:=b0.2;omega)];rw[an (a.2 / 256) (by omega) (by omega),e1,w64 (x:=x1) (by have:=b1.1;omega) (by have:=b1.2;omega)];rw[an (a.2 / 65536) (by omega) (by omega),e2,w64 (x:=x2) (by have:=b2.1;omega) (by have:=b2.2;omega)];rw[an (a.2 / 16777216) (by omega) (by omega),e3,w64 (x:=x3) (by have:=b3.1;omega) (by have:=b3.2;omega)]
 rw[an (a.2 / 4294967296) (by omega) (by omega),e4,w64 (x:=x4) (by have:=b4.1;omega) (by have:=b4.2;omega)];rw[an (a.2 / 1099511627776) (by omega) (by omega),e5,w64 (x:=x5) (by have:=b5.1;omega) (by have:=b5.2;omega)];rw[an (a.2 / 281474976710656) (by omega) (by omega),e6,w64 (x:=x6) (by have:=b6.1;omega) (by have:=b6.2;omega)];rw[an (a.2 / 72057594037927936) (by omega) (by omega),e7,w64 (x:=x7) (by have:=b7.1;omega) (by have:=b7.2;omega)];rw[an (a.1) (by omega) (by omega),e8,w64 (x:=x8) (by have:=b8.1;omega) (by have:=b8.2;omega)]
 rw[an (a.1 / 256) (by omega) (by omega),e9,w64 (x:=x9) (by have:=b9.1;omega) (by have:=b9.2;omega)];rw[an (a.1 / 65536) (by omega) (by omega),e10,w64 (x:=x10) (by have:=b10.1;omega) (by have:=b10.2;omega)];rw[an (a.1 / 16777216) (by omega) (by omega),e11,w64 (x:=x11) (by have:=b11.1;omega) (by have:=b11.2;omega)];rw[an (a.1 / 4294967296) (by omega) (by omega),e12,w64 (x:=x12) (by have:=b12.1;omega) (by have:=b12.2;omega)];rw[an (a.1 / 1099511627776) (by omega) (by omega),e13,w64 (x:=x13) (by have:=b13.1;omega) (by have:=b13.2;omega)]
 rw[an (a.1 / 281474976710656) (by omega) (by omega),e14,w64 (x:=x14) (by have:=b14.1;omega) (by have:=b14.2;omega)];rw[an (a.1 / 72057594037927936) (by omega) (by omega),e15,w64 (x:=x15) (by have:=b15.1;omega) (by have:=b15.2;omega)]
theorem r01_of (n:Nat){x0 x1 x2 x3 x4 x5 x6 x7 x8 x9 x10 x11 x12 x13 x14 x15:Int}(b0:Byt x0)(b1:Byt x1)(b2:Byt x2)(b3:Byt x3)(b4:Byt x4)(b5:Byt x5)(b6:Byt x6)(b7:Byt x7)(b8:Byt x8)(b9:Byt x9)(b10:Byt x10)(b11:Byt x11)(b12:Byt x12)(b13:Byt x13)(b14:Byt x14)(b15:Byt x15):c2a (n+1) (x0,x1,x2,x3,x4,x5,x6,x7,x8,x9,x10,x11,x12,x13,x14,x15)=some (x8+x9*256+x10*65536+x11*16777216+x12*4294967296+x13*1099511627776+x14*281474976710656+x15*72057594037927936,x0+x1*256+x2*65536+x3*16777216+x4*4294967296+x5*1099511627776+x6*281474976710656+x7*72057594037927936):=by
 rw[j2l];simp only[Byt] at *
 have q0:orI .u64 (0:Int) (shlI .u64 (wrap .u64 x0) (0:Int))=(0:Int)+x0*1:=m0r _ _ 0 (by decide) (by omega) (by show _<(1:Int);omega) b0.1 b0.2;have q1:orI .u64 ((0:Int)+x0*1) (shlI .u64 (wrap .u64 x1) (8:Int))=(0:Int)+x0*1+x1*256:=m0r _ _ 8 (by decide) (by omega) (by show _<(256:Int);omega) b1.1 b1.2;have q2:orI .u64 ((0:Int)+x0*1+x1*256) (shlI .u64 (wrap .u64 x2) (16:Int))=(0:Int)+x0*1+x1*256+x2*65536:=m0r _ _ 16 (by decide) (by omega) (by show _<(65536:Int);omega) b2.1 b2.2
 have q3:orI .u64 ((0:Int)+x0*1+x1*256+x2*65536) (shlI .u64 (wrap .u64 x3) (24:Int))=(0:Int)+x0*1+x1*256+x2*65536+x3*16777216:=m0r _ _ 24 (by decide) (by omega) (by show _<(16777216:Int);omega) b3.1 b3.2;have q4:orI .u64 ((0:Int)+x0*1+x1*256+x2*65536+x3*16777216) (shlI .u64 (wrap .u64 x4) (32:Int))=(0:Int)+x0*1+x1*256+x2*65536+x3*16777216+x4*4294967296:=m0r _ _ 32 (by decide) (by omega) (by show _<(4294967296:Int);omega) b4.1 b4.2
 have q5:orI .u64 ((0:Int)+x0*1+x1*256+x2*65536+x3*16777216+x4*4294967296) (shlI .u64 (wrap .u64 x5) (40:Int))=(0:Int)+x0*1+x1*256+x2*65536+x3*16777216+x4*4294967296+x5*1099511627776:=m0r _ _ 40 (by decide) (by omega) (by show _<(1099511627776:Int);omega) b5.1 b5.2;have q6:orI .u64 ((0:Int)+x0*1+x1*256+x2*65536+x3*16777216+x4*4294967296+x5*1099511627776) (shlI .u64 (wrap .u64 x6) (48:Int))=(0:Int)+x0*1+x1*256+x2*65536+x3*16777216+x4*4294967296+x5*1099511627776+x6*281474976710656:=m0r _ _ 48 (by decide) (by omega) (by show _<(281474976710656:Int);omega) b6.1 b6.2
 have q7:orI .u64 ((0:Int)+x0*1+x1*256+x2*65536+x3*16777216+x4*4294967296+x5*1099511627776+x6*281474976710656) (shlI .u64 (wrap .u64 x7) (56:Int))=(0:Int)+x0*1+x1*256+x2*65536+x3*16777216+x4*4294967296+x5*1099511627776+x6*281474976710656+x7*72057594037927936:=m0r _ _ 56 (by decide) (by omega) (by show _<(72057594037927936:Int);omega) b7.1 b7.2;have q8:orI .u64 (0:Int) (shlI .u64 (wrap .u64 x8) (0:Int))=(0:Int)+x8*1:=m0r _ _ 0 (by decide) (by omega) (by show _<(1:Int);omega) b8.1 b8.2
 have q9:orI .u64 ((0:Int)+x8*1) (shlI .u64 (wrap .u64 x9) (8:Int))=(0:Int)+x8*1+x9*256:=m0r _ _ 8 (by decide) (by omega) (by show _<(256:Int);omega) b9.1 b9.2;have q10:orI .u64 ((0:Int)+x8*1+x9*256) (shlI .u64 (wrap .u64 x10) (16:Int))=(0:Int)+x8*1+x9*256+x10*65536:=m0r _ _ 16 (by decide) (by omega) (by show _<(65536:Int);omega) b10.1 b10.2;have q11:orI .u64 ((0:Int)+x8*1+x9*256+x10*65536) (shlI .u64 (wrap .u64 x11) (24:Int))=(0:Int)+x8*1+x9*256+x10*65536+x11*16777216:=m0r _ _ 24 (by decide) (by omega) (by show _<(16777216:Int);omega) b11.1 b11.2
 have q12:orI .u64 ((0:Int)+x8*1+x9*256+x10*65536+x11*16777216) (shlI .u64 (wrap .u64 x12) (32:Int))=(0:Int)+x8*1+x9*256+x10*65536+x11*16777216+x12*4294967296:=m0r _ _ 32 (by decide) (by omega) (by show _<(4294967296:Int);omega) b12.1 b12.2;have q13:orI .u64 ((0:Int)+x8*1+x9*256+x10*65536+x11*16777216+x12*4294967296) (shlI .u64 (wrap .u64 x13) (40:Int))=(0:Int)+x8*1+x9*256+x10*65536+x11*16777216+x12*4294967296+x13*1099511627776:=m0r _ _ 40 (by decide) (by omega) (by show _<(1099511627776:Int);omega) b13.1 b13.2
 have q14:orI .u64 ((0:Int)+x8*1+x9*256+x10*65536+x11*16777216+x12*4294967296+x13*1099511627776) (shlI .u64 (wrap .u64 x14) (48:Int))=(0:Int)+x8*1+x9*256+x10*65536+x11*16777216+x12*4294967296+x13*1099511627776+x14*281474976710656:=m0r _ _ 48 (by decide) (by omega) (by show _<(281474976710656:Int);omega) b14.1 b14.2
 have q15:orI .u64 ((0:Int)+x8*1+x9*256+x10*65536+x11*16777216+x12*4294967296+x13*1099511627776+x14*281474976710656) (shlI .u64 (wrap .u64 x15) (56:Int))=(0:Int)+x8*1+x9*256+x10*65536+x11*16777216+x12*4294967296+x13*1099511627776+x14*281474976710656+x15*72057594037927936:=m0r _ _ 56 (by decide) (by omega) (by show _<(72057594037927936:Int);omega) b15.1 b15.2;rw[q8,q9,q10,q11,q12,q13,q14,q15,q0,q1,q2,q3,q4,q5,q6,q7];congr 2
 ·omega
 ·omega
theorem r01_less (n:Nat){a b:Wd}(ha:WdOk a)(hb:WdOk b):x0b (n+2) a b=some (decide (wv a<wv b)):=by
 obtain ⟨x0,x1,x2,x3,x4,x5,x6,x7,x8,x9,x10,x11,x12,x13,x14,x15,hx,⟨b0,b1,b2,b3,b4,b5,b6,b7,b8,b9,b10,b11,b12,b13,b14,b15⟩,va,va'⟩:=b1q n ha;obtain ⟨y0,y1,y2,y3,y4,y5,y6,y7,y8,y9,y10,y11,y12,y13,y14,y15,hy,⟨d0,d1,d2,d3,d4,d5,d6,d7,d8,d9,d10,d11,d12,d13,d14,d15⟩,vb,vb'⟩:=b1q n hb;rw[z1j,hx,hy];simp only[obs,tfn,tfd];simp only[Byt] at *
 have ea:wv a=a.1*18446744073709551616+a.2:=rfl;have eb:wv b=b.1*18446744073709551616+b.2:=rfl;rw[va,va'] at ea;rw[vb,vb'] at eb;clear va va' vb vb' hx hy ha hb;generalize wv a=va at *
 generalize wv b=vb at *
 by_cases c15:x15=y15
 case neg=>rw[q0n c15];congr 1;exact q2t.2 (by omega)
 rw[q0z c15];subst c15;by_cases c14:x14=y14
 case neg=>rw[q0n c14];congr 1;exact q2t.2 (by omega)
 rw[q0z c14];subst c14;by_cases c13:x13=y13
 case neg=>rw[q0n c13];congr 1;exact q2t.2 (by omega)
 rw[q0z c13];subst c13;by_cases c12:x12=y12
 case neg=>rw[q0n c12];congr 1;exact q2t.2 (by omega)
 rw[q0z c12];subst c12;by_cases c11:x11=y11
 case neg=>rw[q0n c11];congr 1;exact q2t.2 (by omega)
 rw[q0z c11];subst c11;by_cases c10:x10=y10
 case neg=>rw[q0n c10];congr 1;exact q2t.2 (by omega)
 rw[q0z c10];subst c10;by_cases c9:x9=y9
 case neg=>rw[q0n c9];congr 1;exact q2t.2 (by omega)
 rw[q0z c9];subst c9;by_cases c8:x8=y8
 case neg=>rw[q0n c8];congr 1;exact q2t.2 (by omega)
 rw[q0z c8];subst c8;by_cases c7:x7=y7
 case neg=>rw[q0n c7];congr 1;exact q2t.2 (by omega)
 rw[q0z c7];subst c7;by_cases c6:x6=y6
 case neg=>rw[q0n c6];congr 1;exact q2t.2 (by omega)
 rw[q0z c6];subst c6;by_cases c5:x5=y5
 case neg=>rw[q0n c5];congr 1;exact q2t.2 (by omega)
 rw[q0z c5];subst c5;by_cases c4:x4=y4
 case neg=>rw[q0n c4];congr 1;exact q2t.2 (by omega)
 rw[q0z c4];subst c4;by_cases c3:x3=y3
 case neg=>rw[q0n c3];congr 1;exact q2t.2 (by omega)
 rw[q0z c3];subst c3;by_cases c2:x2=y2
 case neg=>rw[q0n c2];congr 1;exact q2t.2 (by omega)
 rw[q0z c2];subst c2;by_cases c1:x1=y1
 case neg=>rw[q0n c1];congr 1;exact q2t.2 (by omega)
 rw[q0z c1];subst c1;by_cases c0:x0=y0
 case neg=>rw[q0n c0];congr 1;exact q2t.2 (by omega)
 rw[q0z c0];subst c0;rw[q1z (by omega)]
def cN (x y m:Int):Int:=wrap .i64 (Int.tdiv (wrap .i64 ((wrap .i64 (x+y))+m)) (256:Int))
def dN (x y m:Int):Int:=Int.tmod (wrap .i64 ((wrap .i64 (x+y))+m)) (256:Int)
theorem digit (x y m:Int)(hx:Byt x)(hy:Byt y)(hm:0<=m/\m<=1):(0<=cN x y m/\cN x y m<=1)/\Byt (dN x y m)/\x+y+m=256*cN x y m+dN x y m:=by
 obtain ⟨h1,h2⟩:=hx;obtain ⟨h3,h4⟩:=hy;unfold cN dN Byt;rw[w64 (x:=x+y) (by omega) (by omega),w64 (x:=x+y+m) (by omega) (by omega),q0f (by omega),i0i (by omega),w64 (by omega) (by omega)];omega
theorem p1z (n:Nat){a b:Wd}(ha:WdOk a)(hb:WdOk b):j1e (n+2) a b=some (addW a b):=by
 obtain ⟨x0,x1,x2,x3,x4,x5,x6,x7,x8,x9,x10,x11,x12,x13,x14,x15,hx,⟨b0,b1,b2,b3,b4,b5,b6,b7,b8,b9,b10,b11,b12,b13,b14,b15⟩,va,va'⟩:=b1q n ha;obtain ⟨y0,y1,y2,y3,y4,y5,y6,y7,y8,y9,y10,y11,y12,y13,y14,y15,hy,⟨d0,d1,d2,d3,d4,d5,d6,d7,d8,d9,d10,d11,d12,d13,d14,d15⟩,vb,vb'⟩:=b1q n hb;rw[f2e,hx,hy];simp only[obs]
 show tif (decide ((0:Int)<(cN x15 y15 (cN x14 y14 (cN x13 y13 (cN x12 y12 (cN x11 y11 (cN x10 y10 (cN x9 y9 (cN x8 y8 (cN x7 y7 (cN x6 y6 (cN x5 y5 (cN x4 y4 (cN x3 y3 (cN x2 y2 (cN x1 y1 (cN x0 y0 (0:Int))))))))))))))))))) (some (((0:Int),(0:Int)),(1:Int))) (a0a (c2a (n+1) (dN x0 y0 (0:Int),dN x1 y1 (cN x0 y0 (0:Int)),dN x2 y2 (cN x1 y1 (cN x0 y0 (0:Int))),dN x3 y3 (cN x2 y2 (cN x1 y1 (cN x0 y0 (0:Int)))),dN x4 y4 (cN x3 y3 (cN x2 y2 (cN x1 y1 (cN x0 y0 (0:Int))))),dN x5 y5 (cN x4 y4 (cN x3 y3 (cN x2 y2 (cN x1 y1 (cN x0 y0 (0:Int)))))),dN x6 y6 (cN x5 y5 (cN x4 y4 (cN x3 y3 (cN x2 y2 (cN x1 y1 (cN x0 y0 (0:Int))))))),dN x7 y7 (cN x6 y6 (cN x5 y5 (cN x4 y4 (cN x3 y3 (cN x2 y2 (cN x1 y1 (cN x0 y0 (0:Int)))))))),dN x8 y8 (cN x7 y7 (cN x6 y6 (cN x5 y5 (cN x4 y4 (cN x3 y3 (cN x2 y2 (cN x1 y1 (cN x0 y0 (0:Int))))))))),dN x9 y9 (cN x8 y8 (cN x7 y7 (cN x6 y6 (cN x5 y5 (cN x4 y4 (cN x3 y3 (cN x2 y2 (cN x1 y1 (cN x0 y0 (0:Int)))))))))),dN x10 y10 (cN x9 y9 (cN x8 y8 (cN x7 y7 (cN x6 y6 (cN x5 y5 (cN x4 y4 (cN x3 y3 (cN x2 y2 (cN x1 y1 (cN x0 y0 (0:Int))))))))))),dN x11 y11 (cN x10 y10 (cN x9 y9 (cN x8 y8 (cN x7 y7 (cN x6 y6 (cN x5 y5 (cN x4 y4 (cN x3 y3 (cN x2 y2 (cN x1 y1 (cN x0 y0 (0:Int)))))))))))),dN x12 y12 (cN x11 y11 (cN x10 y10 (cN x9 y9 (cN x8 y8 (cN x7 y7 (cN x6 y6 (cN x5 y5 (cN x4 y4 (cN x3 y3 (cN x2 y2 (cN x1 y1 (cN x0 y0 (0:Int))))))))))))),dN x13 y13 (cN x12 y12 (cN x11 y11 (cN x10 y10 (cN x9 y9 (cN x8 y8 (cN x7 y7 (cN x6 y6 (cN x5 y5 (cN x4 y4 (cN x3 y3 (cN x2 y2 (cN x1 y1 (cN x0 y0 (0:Int)))))))))))))),dN x14 y14 (cN x13 y13 (cN x12 y12 (cN x11 y11 (cN x10 y10 (cN x9 y9 (cN x8 y8 (cN x7 y7 (cN x6 y6 (cN x5 y5 (cN x4 y4 (cN x3 y3 (cN x2 y2 (cN x1 y1 (cN x0 y0 (0:Int))))))))))))))),dN x15 y15 (cN x14 y14 (cN x13 y13 (cN x12 y12 (cN x11 y11 (cN x10 y10 (cN x9 y9 (cN x8 y8 (cN x7 y7 (cN x6 y6 (cN x5 y5 (cN x4 y4 (cN x3 y3 (cN x2 y2 (cN x1 y1 (cN x0 y0 (0:Int)))))))))))))))))) fun r2=>some (r2,(0:Int)))=_
 obtain ⟨k0,g0,z0⟩:=digit x0 y0 (0:Int) b0 d0 (by omega);generalize cN x0 y0 (0:Int)=c0 at *
 generalize dN x0 y0 (0:Int)=t0 at *
 obtain ⟨k1,g1,z1⟩:=digit x1 y1 c0 b1 d1 (by omega);generalize cN x1 y1 c0=c1 at *
 generalize dN x1 y1 c0=t1 at *
 obtain ⟨k2,g2,z2⟩:=digit x2 y2 c1 b2 d2 (by omega);generalize cN x2 y2 c1=c2 at *
 generalize dN x2 y2 c1=t2 at *
 obtain ⟨k3,g3,z3⟩:=digit x3 y3 c2 b3 d3 (by omega);generalize cN x3 y3 c2=c3 at *
 generalize dN x3 y3 c2=t3 at *
 obtain ⟨k4,g4,z4⟩:=digit x4 y4 c3 b4 d4 (by omega);generalize cN x4 y4 c3=c4 at *
 generalize dN x4 y4 c3=t4 at *
 obtain ⟨k5,g5,z5⟩:=digit x5 y5 c4 b5 d5 (by omega);generalize cN x5 y5 c4=c5 at *
 generalize dN x5 y5 c4=t5 at *
 obtain ⟨k6,g6,z6⟩:=digit x6 y6 c5 b6 d6 (by omega);generalize cN x6 y6 c5=c6 at *
 generalize dN x6 y6 c5=t6 at *
 obtain ⟨k7,g7,z7⟩:=digit x7 y7 c6 b7 d7 (by omega);generalize cN x7 y7 c6=c7 at *
 generalize dN x7 y7 c6=t7 at *
 obtain ⟨k8,g8,z8⟩:=digit x8 y8 c7 b8 d8 (by omega);generalize cN x8 y8 c7=c8 at *
 generalize dN x8 y8 c7=t8 at *
 obtain ⟨k9,g9,z9⟩:=digit x9 y9 c8 b9 d9 (by omega);generalize cN x9 y9 c8=c9 at *
 generalize dN x9 y9 c8=t9 at *
 obtain ⟨k10,g10,z10⟩:=digit x10 y10 c9 b10 d10 (by omega);generalize cN x10 y10 c9=c10 at *
 generalize dN x10 y10 c9=t10 at *
 obtain ⟨k11,g11,z11⟩:=digit x11 y11 c10 b11 d11 (by omega);generalize cN x11 y11 c10=c11 at *
 generalize dN x11 y11 c10=t11 at *
 obtain ⟨k12,g12,z12⟩:=digit x12 y12 c11 b12 d12 (by omega);generalize cN x12 y12 c11=c12 at *
 generalize dN x12 y12 c11=t12 at *
 obtain ⟨k13,g13,z13⟩:=digit x13 y13 c12 b13 d13 (by omega);generalize cN x13 y13 c12=c13 at *
 generalize dN x13 y13 c12=t13 at *
 obtain ⟨k14,g14,z14⟩:=digit x14 y14 c13 b14 d14 (by omega);generalize cN x14 y14 c13=c14 at *
 generalize dN x14 y14 c13=t14 at *
 obtain ⟨k15,g15,z15⟩:=digit x15 y15 c14 b15 d15 (by omega);generalize cN x15 y15 c14=c15 at *
 generalize dN x15 y15 c14=t15 at *
 rw[r01_of n g0 g1 g2 g3 g4 g5 g6 g7 g8 g9 g10 g11 g12 g13 g14 g15];simp only[tfd,obs];have e:wv a+wv b=c15*340282366920938463463374607431768211456+((t8+t9*256+t10*65536+t11*16777216+t12*4294967296+t13*1099511627776+t14*281474976710656+t15*72057594037927936)*18446744073709551616+(t0+t1*256+t2*65536+t3*16777216+t4*4294967296+t5*1099511627776+t6*281474976710656+t7*72057594037927936)):=by
  simp only[wv];omega
 have r1:0<=t8+t9*256+t10*65536+t11*16777216+t12*4294967296+t13*1099511627776+t14*281474976710656+t15*72057594037927936/\t8+t9*256+t10*65536+t11*16777216+t12*4294967296+t13*1099511627776+t14*281474976710656+t15*72057594037927936<=18446744073709551615:=by simp only[Byt] at *;omega
 have r2:0<=t0+t1*256+t2*65536+t3*16777216+t4*4294967296+t5*1099511627776+t6*281474976710656+t7*72057594037927936/\t0+t1*256+t2*65536+t3*16777216+t4*4294967296+t5*1099511627776+t6*281474976710656+t7*72057594037927936<=18446744073709551615:=by simp only[Byt] at *;omega
 generalize t8+t9*256+t10*65536+t11*16777216+t12*4294967296+t13*1099511627776+t14*281474976710656+t15*72057594037927936=hi at *
 generalize t0+t1*256+t2*65536+t3*16777216+t4*4294967296+t5*1099511627776+t6*281474976710656+t7*72057594037927936=lo at *
 clear va va' vb vb';unfold addW;by_cases hc:(0:Int)<c15
 ·rw[q0z hc,q0n (by omega)]
 ·rw[q0n hc,q0z (by omega)];simp only[mkW];refine congrArg (fun z=>some (z,(0:Int))) (Prod.ext ?_ ?_)
  ·simp only;omega
  ·simp only;omega
theorem b0o {α:Type}{l pre rest:List α}{x:α}{i:Int}(h:l=pre++x::rest)(hi:i=pre.length):at? l i=some x:=by
 subst h hi;simp[at?]
theorem idx {α:Type}{l pre rest:List α}{x:α}{i len:Int}(h:l=pre++x::rest)(hi:i=pre.length)(hn:len=l.length):i<len:=by
 have:=congrArg List.length h;simp at this;omega
theorem idxe {α:Type}{l pre:List α}{i len:Int}(h:l=pre++[])(hi:i=pre.length)(hn:len=l.length):¬(i<len):=by
 have:=congrArg List.length h;simp at this;omega
theorem idxw {α:Type}{l pre rest:List α}{x:α}{i:Int}(h:l=pre++x::rest)(hi:i=pre.length)(hL:l.length<=1000000000000):wrap .i64 (i+1)=i+1:=by
 have:=congrArg List.length h;simp at this;rw[w64 (by omega) (by omega)]
theorem idxs {α:Type}{pre:List α}{x:α}{i:Int}(hi:i=pre.length):i+1=((pre++[x]).length:Int):=by simp;omega
theorem idxl {α:Type}{l pre rest:List α}{x:α}(h:l=pre++x::rest):l=(pre++[x])++rest:=by rw[h];simp
theorem evEq (a b:Ev):((decide (a.1=b.1))&&((decide (a.2.1=b.2.1))&&((decide (a.2.2.1=b.2.2.1))&&(a.2.2.2==b.2.2.2))))=decide (a=b):=by
 rw[Bool.eq_iff_iff];simp[Prod.ext_iff]
theorem celEq (a b:Cel):((decide (a.1=b.1))&&((decide (a.2.1.1=b.2.1.1))&&((decide (a.2.1.2.1=b.2.1.2.1))&&((decide (a.2.1.2.2.1=b.2.1.2.2.1))&&((a.2.1.2.2.2==b.2.1.2.2.2)&&((decide (a.2.2.1.1=b.2.2.1.1))&&((decide (a.2.2.1.2.1=b.2.2.1.2.1))&&((decide (a.2.2.1.2.2.1=b.2.2.1.2.2.1))&&((a.2.2.1.2.2.2==b.2.2.1.2.2.2)&&((decide (a.2.2.2.1.1=b.2.2.2.1.1))&&((decide (a.2.2.2.1.2=b.2.2.2.1.2))&&((decide (a.2.2.2.2.1=b.2.2.2.2.1))&&((decide (a.2.2.2.2.2.1=b.2.2.2.2.2.1))&&(decide (a.2.2.2.2.2.2=b.2.2.2.2.2.2)))))))))))))))=decide (a=b):=by
 rw[Bool.eq_iff_iff];simp[Prod.ext_iff];grind
theorem celEq0 (a:Cel):((decide (a.1=(0:Int)))&&((decide (a.2.1.1=(0:Int)))&&((decide (a.2.1.2.1=(0:Int)))&&((decide (a.2.1.2.2.1=(0:Int)))&&((a.2.1.2.2.2==false)&&((decide (a.2.2.1.1=(0:Int)))&&((decide (a.2.2.1.2.1=(0:Int)))&&((decide (a.2.2.1.2.2.1=(0:Int)))&&((a.2.2.1.2.2.2==false)&&((decide (a.2.2.2.1.1=(0:Int)))&&((decide (a.2.2.2.1.2=(0:Int)))&&((decide (a.2.2.2.2.1=(0:Int)))&&((decide (a.2.2.2.2.2.1=(0:Int)))&&(decide (a.2.2.2.2.2.2=(0:Int))))))))))))))))=decide (a=z0):=celEq a z0
def I64 (x:Int):Prop := -9223372036854775808<=x/\x<=9223372036854775807
structure EvW (e:Ev):Prop where
 t:I64 e.1
 v:0<=e.2.1/\e.2.1<=18446744073709551615
 c:I64 e.2.2.1
structure CelW (c:Cel):Prop where
 n:I64 c.1
 f:EvW c.2.1
 l:EvW c.2.2.1
 w:WdOk c.2.2.2.1
 r:I64 c.2.2.2.2.1
 g:I64 c.2.2.2.2.2.1
 s:I64 c.2.2.2.2.2.2
theorem EvW.of {e:Ev}(h:EvOk e):EvW e:=by
 obtain ⟨a,b,c,d,f,g,_⟩:=h;exact ⟨by unfold I64;omega,⟨c,d⟩,by unfold I64;omega⟩
theorem CelW.ofN {c:Cel}(h:CellN c):CelW c:=by
 have:=h.small;have:=h.n1;have:=h.f.t0;have:=h.f.t1;have:=h.l.t0;have:=h.l.t1;have:=h.r;have:=h.g;have:=h.rg;have:=h.s0;have:=h.s1;exact ⟨by unfold I64;omega,.of h.f,.of h.l,h.w,by unfold I64;omega,by unfold I64;omega,by unfold I64;omega⟩
theorem m2m:CelW z0:=⟨by simp[I64,z0],⟨by simp[I64,z0,e0],by simp[z0,e0],by simp[I64,z0,e0]⟩,⟨by simp[I64,z0,e0],by simp[z0,e0],by simp[I64,z0,e0]⟩,⟨by simp[z0],by simp[z0]⟩,by simp[I64,z0],by simp[I64,z0],by simp[I64,z0]⟩
theorem CelW.of {c:Cel}(h:m0g c):CelW c:=by
 rcases h with rfl | h
 ·exact m2m
 ·exact .ofN h
theorem l1l (n:Nat)(s4 out:Wd):∀(k f:Nat) (m:Int) (a:Wd),m<=k->k<f->0<m->m<=18446744073709551615->WdOk a->e0j (n+2) f (m,a,s4,out,true,())=some (.inr ((0,0),1)):=by
 intro k;induction k with
 | zero=>intro f m a h1 h2 h3;omega
 | succ k ih =>
  intro f m a h1 h2 h3 h4 ha;obtain ⟨f,rfl⟩:∃g,f=g+1:=⟨f-1,by omega⟩;rw[k0h];simp only[tfd,q0z h3,i0i (a:=m) (by omega),tft];by_cases c:m % 2=1
  ·rw[q0z c]
  ·rw[q0n c,p1z n ha ha];simp only[obs];rw[q0f (by omega),wu64 (by omega) (by omega)];exact ih f (m / 2) (addW a a).1 (by omega) (by omega) (by omega) (by omega) (by
    unfold addW;have:=z0p ha;split
    ·exact v1l (by omega) (by omega)
    ·exact ⟨by simp,by simp⟩)
theorem z1i (n:Nat)(s4:Wd):∀(k f:Nat) (m:Int) (a out:Wd),m<=k->k<f->0<=m->m<=18446744073709551615->WdOk a->WdOk out->∀p,p=wv a*m ->
  e0j (n+2) f (m,a,s4,out,false,())=some (if wv out+p<340282366920938463463374607431768211456 then .inl (s4,mkW (wv out+p),()) else .inr ((0,0),1)):=by
 intro k;induction k with
 | zero =>
  intro f m a out h1 h2 h3 h4 ha ho p hp;obtain ⟨f,rfl⟩:∃g,f=g+1:=⟨f-1,by omega⟩;obtain rfl:m=0:=by omega
  rw[k0h];have:=z0p ho;rw[Int.mul_zero] at hp;subst hp;simp only[tfd,q0n (show ¬((0:Int)<0) by omega),Int.add_zero];rw[q0z (by omega),k2j ho]
 | succ k ih =>
  intro f m a out h1 h2 h3 h4 ha ho p hp;obtain ⟨f,rfl⟩:∃g,f=g+1:=⟨f-1,by omega⟩;rw[k0h];have ra:=z0p ha;have ro:=z0p ho;by_cases h0:0<m
  ·have hp0:0<=p:=by rw[hp];exact Int.mul_nonneg ra.1 h3
   have hq:wv a*m=2*(wv a*(m / 2))+wv a*(m % 2):=by
    have e:m=2*(m / 2)+m % 2:=by omega
    conv=>lhs;rw[e,Int.mul_add,Int.mul_left_comm]
   have hq0:0<=wv a*(m / 2):=Int.mul_nonneg ra.1 (by omega);have hq1:1<=m / 2->wv a<=wv a*(m / 2):=fun h=>by
    have:=Int.mul_le_mul_of_nonneg_left h ra.1;omega
   have hz:m / 2=0->wv a*(m / 2)=0:=fun h=>by rw[h,Int.mul_zero]
   rw[<-hp] at hq;have next:∀out':Wd,WdOk out'->a0a (some (addW a a)) (fun r1=>tif false (e0j (n+2) f (wrap .u64 (Int.tdiv m 2),r1.1,s4,out',true,())) (e0j (n+2) f (wrap .u64 (Int.tdiv m 2),r1.1,s4,out',!(decide (r1.2=(0:Int))),()))) =
     some (if wv out'+2*(wv a*(m / 2))<340282366920938463463374607431768211456 then .inl (s4,mkW (wv out'+2*(wv a*(m / 2))),()) else .inr ((0,0),1)):=by
    intro out' ho';have ro':=z0p ho';rw[q0f (by omega),wu64 (by omega) (by omega)];simp only[obs,tff];by_cases hov:wv a+wv a<340282366920938463463374607431768211456
    ·have ew:addW a a=(mkW (wv a+wv a),0):=q0z hov;rw[ew];have:=ih f (m / 2) (mkW (wv a+wv a)) out' (by omega) (by omega) (by omega) (by omega) (v1l (by omega) hov) ho' (2*(wv a*(m / 2))) (by rw[b2c,<-Int.two_mul,Int.mul_assoc])
     simpa using this
    ·have ew:addW a a=((0,0),1):=q0n hov;rw[ew];by_cases hm:0<m / 2
     ·have:=l1l n s4 out' k f (m / 2) (0,0) (by omega) (by omega) hm (by omega) ⟨by simp,by simp⟩;have:=hq1 (by omega);rw[q0n (by omega)]
      simpa using by assumption
     ·obtain ⟨f,rfl⟩:∃g,f=g+1:=⟨f-1,by omega⟩;have e0:m / 2=0:=by omega
      rw[hz e0,e0,k0h];simp only[tfd,q0n (show ¬((0:Int)<0) by omega),Int.mul_zero,Int.add_zero];rw[q0z (by omega),k2j ho']
   simp only[tfd,q0z h0,i0i (a:=m) (by omega),tff];by_cases c:m % 2=1
   ·rw[q0z c,p1z n ho ha];rw[c,Int.mul_one] at hq;by_cases hov:wv out+wv a<340282366920938463463374607431768211456
    ·have ew:addW out a=(mkW (wv out+wv a),0):=q0z hov;rw[ew];have:=next (mkW (wv out+wv a)) (v1l (by omega) hov);rw[b2c] at this;rw[p1z n ha ha];simp only[tff] at this;simp only[obs,tfn,tfd,q0z trivial,tff] at this ⊢;rw[this,hq];rw[show wv out+(2*(wv a*(m / 2))+wv a)=wv out+wv a+2*(wv a*(m / 2)) by omega]
    ·have ew:addW out a=((0,0),1):=q0n hov;rw[ew];simp only[obs,tfn,tfd];rw[q0n (by decide),q0n (by omega)]
   ·rw[q0n c,p1z n ha ha];have c0:m % 2=0:=by omega
    rw[c0,Int.mul_zero,Int.add_zero] at hq;have:=next out ho;simp only[tff] at this;simp only[obs] at this ⊢;rw[this,hq]
  ·obtain rfl:m=0:=by omega
   rw[Int.mul_zero] at hp;subst hp;simp only[tfd,q0n (show ¬((0:Int)<0) by omega),Int.add_zero];rw[q0z (by omega),k2j ho]
theorem j2k (n:Nat){a:Wd}(ha:WdOk a)(k:Int)(hk:0<=k/\k<=18446744073709551615):r0g (n+3) a k=some (m1p a k):=by
 rw[u1s,z1i n (0,0) 18446744073709551615 a0b k a (0,0) (by omega) (by unfold a0b;omega) hk.1 hk.2 ha ⟨by simp,by simp⟩ _ rfl];simp only[wv_zero,Int.zero_add,obs];unfold m1p;by_cases h:wv a*k<340282366920938463463374607431768211456
 ·rw[q0z h,q0z h];simp
 ·rw[q0n h,q0n h];simp
theorem z0e (n:Nat){e:Ev}(h:EvW e):o0u (n+1) e=some (if EvOk e then 0 else 2):=by
 obtain ⟨_,hv,_⟩:=h;rw[m1g];simp only[tfd];by_cases h1:e.1<0
 ·rw[q0z h1,q0n (fun k=>by have:=k.t0;omega)]
 by_cases h2:(35184372088832:Int)<=e.1
 ·rw[q0n h1,q0z h2,q0n (fun k=>by have:=k.t1;omega)]
 by_cases h3:e.2.2.1<0
 ·rw[q0n h1,q0n h2,q0z h3,q0n (fun k=>by have:=k.c0;omega)]
 by_cases h4:e.1<e.2.2.1
 ·rw[q0n h1,q0n h2,q0n h3,q0z h4,q0n (fun k=>by have:=k.c1;omega)]
 rw[q0n h1,q0n h2,q0n h3,q0n h4];cases h5:e.2.2.2 with
 | false =>
  rw[tff,q0z ⟨by omega,by omega,hv.1,hv.2,by omega,by omega,fun k=>by rw[h5] at k;cases k⟩]
 | true =>
  rw[tft];by_cases h6:e.2.1=0/\e.2.2.1=0
  ·rw[q0z ⟨by omega,by omega,hv.1,hv.2,by omega,by omega,fun _=>h6⟩];simp[h6]
  ·rw[q0n (fun k=>h6 (k.st h5))];by_cases h7:e.2.1=0
   ·have h8:¬(e.2.2.1=0):=fun k=>h6 ⟨h7,k⟩
    simp[h7,h8]
   ·simp[h7]
theorem j1a (n:Nat){e:Ev}(h:EvW e):v0j (n+1) e=some (if EvOk e then 0 else 2):=by
 obtain ⟨_,hv,_⟩:=h;rw[u1h];simp only[tfd,tfn];by_cases h1:e.1<0
 ·rw[q0z h1,q0n (fun k=>by have:=k.t0;omega)]
 by_cases h2:(35184372088832:Int)<=e.1
 ·rw[q0n h1,q0z h2,q0n (fun k=>by have:=k.t1;omega)]
 by_cases h3:e.2.2.1<0
 ·rw[q0n h1,q0n h2,q0z h3,q0n (fun k=>by have:=k.c0;omega)]
 by_cases h4:e.1<e.2.2.1
 ·rw[q0n h1,q0n h2,q0n h3,q0z h4,q0n (fun k=>by have:=k.c1;omega)]
 rw[q0n h1,q0n h2,q0n h3,q0n h4];cases h5:e.2.2.2 with
 | false =>
  rw[tff,q0z ⟨by omega,by omega,hv.1,hv.2,by omega,by omega,fun k=>by rw[h5] at k;cases k⟩]
 | true =>
  rw[tft];by_cases h6:e.2.1=0/\e.2.2.1=0
  ·rw[q0z h6.1,q0z h6.2,q0z ⟨by omega,by omega,hv.1,hv.2,by omega,by omega,fun _=>h6⟩]
  ·by_cases h7:e.2.1=0
   ·have h8:¬(e.2.2.1=0):=fun k=>h6 ⟨h7,k⟩
    rw[q0z h7,q0n h8,q0n (fun k=>h6 (k.st h5))]
   ·rw[q0n h7,q0n (fun k=>h6 (k.st h5))]
theorem zif (p:Prop)[Decidable p]:decide ((if p then (0:Int) else 2)=0)=decide p:=by by_cases h:p<;>simp[h]
theorem r1a (n:Nat)(l:List Ev)(hL:l.length<=1000000000000)(hw:∀e∈l,EvW e):∀(rest pre:List Ev) (f:Nat) (i len:Int),l=pre++rest->i=pre.length->len=l.length->rest.length<f ->
  l0p (n+1) f (l,len,i,())=some (if ∀e∈rest,EvOk e then .inl () else .inr false):=by
 intro rest;induction rest with
 | nil =>
  intro pre f i len hl hi hn hf;obtain ⟨f,rfl⟩:=FSu hf;rw[r0t];have:=idxe hl hi hn;simp[tfd,q0n this]
 | cons x rest ih =>
  intro pre f i len hl hi hn hf;obtain ⟨f,rfl⟩:=FSu hf;rw[r0t];have hlt:=idx hl hi hn;have hx:EvW x:=hw x (by rw[hl];simp);simp only[tfd,tfn,q0z hlt,b0o hl hi,obs,z0e n hx,idxw hl hi hL];by_cases ho:EvOk x
  ·rw[q0z ho,q0z rfl,ih (pre++[x]) f (i+1) len (idxl hl) (idxs hi) hn (by simp at hf;omega)];have e:(∀e∈x::rest,EvOk e)↔(∀e∈rest,EvOk e):=by simp[ho]
   by_cases hr:∀e∈rest,EvOk e
   ·rw[q0z hr,q0z (e.2 hr)]
   ·rw[q0n hr,q0n (fun k=>hr (e.1 k))]
  ·have h2:¬(∀e∈x::rest,EvOk e):=fun k=>ho (k x (by simp))
   rw[q0n ho,q0n (by decide),q0n h2]
theorem k1b (n:Nat)(l:List Ev)(hL:l.length<=1000000000000)(hw:∀e∈l,EvW e):t0o (n+2) l=some (decide (∀e∈l,EvOk e)):=by
 rw[m1f,r1a n l hL hw l [] a0b 0 l.length rfl rfl rfl (by unfold a0b;omega)];by_cases h:∀e∈l,EvOk e
 ·rw[q0z h,q2a h];simp
 ·rw[q0n h,q1z h];simp
theorem w1g (n:Nat){p c:Ev}(hp:EvW p)(hc:EvW c):t0o (n+2) [p,c]=some (decide (EvOk p/\EvOk c)):=by
 rw[k1b n [p,c] (by simp) (by simp[hp,hc])];simp
theorem f1s (n:Nat){p c:Ev}(hp:EvW p)(hc:EvW c):p0y (n+3) p c=some (decide (EvOk p/\EvOk c/\p.1<c.1)):=by
 rw[k1c,w1g n hp hc];by_cases h:EvOk p/\EvOk c
 ·simp[h.1,h.2]
 ·have h2:¬(EvOk p/\EvOk c/\p.1<c.1):=fun k=>h ⟨k.1,k.2.1⟩
  rw[q1z h,q1z h2];simp
theorem r1s (n:Nat)(c:Cel):k1n (n+1) c=some (decide (c=z0)):=by rw[w1t,celEq0]
theorem a2w (n:Nat)(x m:Int):k1o (n+1) x m=some (decide (0<=x/\x<=m)):=by
 rw[g2q];by_cases h1:(0:Int)<=x<;>by_cases h2:x<=m<;>simp[h1,h2]
def w1z (c:Cel):Prop:=(c.1=1/\c.2.1=c.2.2.1/\EvOk c.2.1)\/(1<c.1/\EvOk c.2.1/\EvOk c.2.2.1/\c.2.1.1<c.2.2.1.1/\c.1-1<=c.2.2.1.1-c.2.1.1)
instance (c:Cel):Decidable (w1z c):=by unfold w1z;infer_instance
theorem m1k (n:Nat){c:Cel}(hw:CelW c):e1q (n+4) c=some (decide (w1z c)):=by
 rw[r1r,evEq];simp only[tfd];by_cases h1:c.1=1
 ·rw[q0z h1];by_cases h2:c.2.1=c.2.2.1
  ·rw[q0z h2,z0e _ hw.f];simp only[obs,zif];congr 1;refine q2t.2 ⟨fun h => .inl ⟨h1,h2,h⟩,fun h => ?_⟩;rcases h with h | h
   ·exact h.2.2
   ·exact h.2.1
  ·rw[q0n h2,q1z];rintro (h | h)
   ·exact h2 h.2.1
   ·omega
 ·rw[q0n h1];by_cases h2:1<c.1
  ·rw[q0z h2,f1s _ hw.f hw.l];simp only[obs,tfd];by_cases h3:EvOk c.2.1/\EvOk c.2.2.1/\c.2.1.1<c.2.2.1.1
   ·rw[q0z h3];obtain ⟨h3,h4,h5⟩:=h3;have:=hw.n;unfold I64 at this;have:=h3.t0;have:=h4.t1;have:=h3.t1;have:=h4.t0;rw[w64 (by omega) (by omega),w64 (by omega) (by omega)];congr 1;refine q2t.2 ⟨fun h => .inr ⟨h2,h3,h4,h5,h⟩,fun h => ?_⟩;rcases h with h | h
    ·omega
    ·exact h.2.2.2.2
   ·rw[q0n h3,q1z];rintro (h | h)
    ·omega
    ·exact h3 ⟨h.2.1,h.2.2.1,h.2.2.2.1⟩
  ·rw[q0n h2,q1z];rintro (h | h)<;>omega
theorem CellN.spans {c:Cel}(h:CellN c):w1z c:=by
 by_cases h1:c.1=1
 ·exact .inl ⟨h1,h.one h1,h.f⟩
 ·have:=h.n1;exact .inr ⟨by omega,h.f,h.l,h.more (by omega),h.n2⟩
theorem d2k {c:Cel}(hw:CelW c)(hs:w1z c)(hi:wv c.2.2.2.1<=18446744073709551615*(c.1-1))(hr:0<=c.2.2.2.2.1)(hg:0<=c.2.2.2.2.2.1)(hrg:c.2.2.2.2.1+c.2.2.2.2.2.1<=c.1-1)
  (h0:0<=c.2.2.2.2.2.2) (h1:c.2.2.2.2.2.2<=c.2.2.1.1-c.2.1.1):CellN c:=by
 rcases hs with ⟨a,b,d⟩ | ⟨a,b,d,e,f⟩
 ·exact ⟨by omega,d,b ▸ d,fun _=>b,fun h=>by omega,by rw[b];omega,hw.w,hi,hr,hg,hrg,h0,h1⟩
 ·exact ⟨by omega,b,d,fun h=>by omega,fun _=>e,f,hw.w,hi,hr,hg,hrg,h0,h1⟩
theorem x1t {c:Cel}(h:w1z c):1<=c.1/\c.1<=35184372088832/\0<=c.2.2.1.1-c.2.1.1/\c.2.2.1.1-c.2.1.1<=35184372088832:=by
 rcases h with ⟨a,b,d⟩ | ⟨a,b,d,e,f⟩
 ·rw[b];have:=d.t0;omega
 ·have:=b.t0;have:=d.t1;omega
theorem m1o {k:Int}(h:0<=k/\k<=35184372088832):m1p (0,18446744073709551615) k=(mkW (18446744073709551615*k),0):=by
 unfold m1p;rw[show wv (0,18446744073709551615)=18446744073709551615 from rfl,q0z (by omega)]
theorem g2r (n:Nat){c:Cel}(hw:CelW c):e1r (n+5) c=some (if m0g c then 0 else 2):=by
 rw[r1t,r1s,m1k n hw];simp only[obs,tfd,tfn];by_cases h0:c=z0
 ·rw[q0z h0,q0z (.inl h0)]
 rw[q0n h0];by_cases hs:w1z c
 ·rw[q0z hs];obtain ⟨s1,s2,s3,s4⟩:=x1t hs;have hg:=hw.g;have hr:=hw.r;have hse:=hw.s;unfold I64 at hg hr hse;have hmw:WdOk (mkW (18446744073709551615*(c.1-1))):=v1l (by omega) (by omega);rw[wide_of,w64 (x:=c.1-1) (by omega) (by omega),wu64 (by omega) (by omega)];simp only[obs];rw[d2v (n+2) ⟨by simp,by simp⟩ _ (by omega),m1o (by omega)];simp only[obs,q0z trivial,h2f (n+3) hmw hw.w,b2c,a2w,tfd];by_cases c1:18446744073709551615*(c.1-1)<wv c.2.2.2.1
  ·rw[q0z c1,q0n (fun k=>by have:=(k.n h0).inc;omega)]
  rw[q0n c1];by_cases c2:0<=c.2.2.2.2.2.1/\c.2.2.2.2.2.1<=c.1-1
  ·rw[q0z c2,w64 (by omega) (by omega)];by_cases c3:0<=c.2.2.2.2.1/\c.2.2.2.2.1<=c.1-1-c.2.2.2.2.2.1
   ·rw[q0z c3,w64 (by omega) (by omega)];by_cases c4:0<=c.2.2.2.2.2.2/\c.2.2.2.2.2.2<=c.2.2.1.1-c.2.1.1
    ·rw[q0z c4,q0z (.inr (d2k hw hs (by omega) c3.1 c2.1 (by omega) c4.1 c4.2))]
    ·rw[q0n c4,q0n (fun k=>c4 ⟨(k.n h0).s0,(k.n h0).s1⟩)]
   ·rw[q0n c3,q0n (fun k=>c3 (by have:=(k.n h0).r;have:=(k.n h0).rg;omega))]
  ·rw[q0n c2,q0n (fun k=>c2 (by have:=(k.n h0).r;have:=(k.n h0).g;have:=(k.n h0).rg;omega))]
 ·rw[q0n hs,q0n (fun k=>hs (CellN.spans (k.n h0)))]
theorem j2i (n:Nat){c:Cel}(hw:CelW c):i1z (n+4) c=some (if m0g c then 0 else 2):=by
 rw[u1g,evEq,celEq0,j1a _ hw.f,j1a _ hw.l];simp only[obs,tfd,tfn];by_cases h0:c=z0
 ·rw[q0z h0,q0z (.inl h0)]
 rw[q0n h0];have no:∀ {p:Prop},(CellN c->p)->¬p->(if m0g c then (0:Int) else 2)=2:=fun h h'=>q0n (fun k=>h' (h (k.n h0)))
 by_cases c1:c.1<1
 ·rw[q0z c1,no (fun k=>k.n1) (by omega)]
 rw[q0n c1];by_cases c2:EvOk c.2.1
 case neg=>rw[q0n c2,q0n (by decide),no (fun k=>k.f) c2]
 by_cases c3:EvOk c.2.2.1
 case neg=>rw[q0z c2,q0z rfl,q0n c3,q0n (by decide),no (fun k=>k.l) c3]
 rw[q0z c2,q0z rfl,q0z c3,q0z rfl];have t0:=c2.t0;have t1:=c2.t1;have t2:=c3.t0;have t3:=c3.t1;by_cases c4:c.2.2.1.1<c.2.1.1
 ·rw[q0z c4,no (fun k=>k.ft) (by omega)]
 rw[q0n c4,w64 (x:=c.2.2.1.1-c.2.1.1) (by omega) (by omega),w64 (x:=c.2.2.1.1-c.2.1.1+1) (by omega) (by omega)];by_cases c5:c.2.2.1.1-c.2.1.1+1<c.1
 ·rw[q0z c5,no (fun k=>k.n2) (by omega)]
 rw[q0n c5];have hg:=hw.g;have hr:=hw.r;have hse:=hw.s;unfold I64 at hg hr hse;have hmw:WdOk (mkW (18446744073709551615*(c.1-1))):=v1l (by omega) (by omega);rw[w64 (x:=c.1-1) (by omega) (by omega),wu64 (by omega) (by omega),j2k n (a:=(0,18446744073709551615)) ⟨by simp,by simp⟩ _ (by omega),m1o (by omega)];simp only[obs,r01_less (n+1) hmw hw.w,b2c,tfd];have tail:w1z c->(if c.2.2.2.2.1<0 then some (2:Int) else if c.2.2.2.2.2.1<0 then some 2 else if c.2.2.2.2.2.2<0 then some 2 else if c.1<=c.2.2.2.2.1 then some 2 else if c.1<=c.2.2.2.2.2.1 then some 2
   else if c.1<=wrap .i64 (c.2.2.2.2.1+c.2.2.2.2.2.1) then some 2 else if c.2.2.1.1-c.2.1.1<c.2.2.2.2.2.2 then some 2 else if 18446744073709551615*(c.1-1)<wv c.2.2.2.1 then some 2 else some 0)=some (if m0g c then 0 else 2):=by
  intro hs;by_cases d1:c.2.2.2.2.1<0
  ·rw[q0z d1,no (fun k=>k.r) (by omega)]
  by_cases d2:c.2.2.2.2.2.1<0
  ·rw[q0n d1,q0z d2,no (fun k=>k.g) (by omega)]
  by_cases d3:c.2.2.2.2.2.2<0
  ·rw[q0n d1,q0n d2,q0z d3,no (fun k=>k.s0) (by omega)]
  by_cases d4:c.1<=c.2.2.2.2.1
  ·rw[q0n d1,q0n d2,q0n d3,q0z d4,no (fun k=>k.rg) (by omega)]
  by_cases d5:c.1<=c.2.2.2.2.2.1
  ·rw[q0n d1,q0n d2,q0n d3,q0n d4,q0z d5,no (fun k=>k.rg) (by omega)]
  rw[q0n d1,q0n d2,q0n d3,q0n d4,q0n d5,w64 (x:=c.2.2.2.2.1+c.2.2.2.2.2.1) (by omega) (by omega)];by_cases d6:c.1<=c.2.2.2.2.1+c.2.2.2.2.2.1
  ·rw[q0z d6,no (fun k=>k.rg) (by omega)]
  by_cases d7:c.2.2.1.1-c.2.1.1<c.2.2.2.2.2.2
  ·rw[q0n d6,q0z d7,no (fun k=>k.s1) (by omega)]
  by_cases d8:18446744073709551615*(c.1-1)<wv c.2.2.2.1
  ·rw[q0n d6,q0n d7,q0z d8,no (fun k=>k.inc) (by omega)]
  ·rw[q0n d6,q0n d7,q0n d8,q0z (.inr (d2k hw hs (by omega) (by omega) (by omega) (by omega) (by omega) (by omega)))]
 by_cases c6:c.1=1
 ·rw[q0z c6];by_cases c7:c.2.1=c.2.2.1
  ·rw[q0z c7,q0n (show ¬(1<c.1) by omega)];exact tail (.inl ⟨c6,c7,c2⟩)
  ·rw[q0n c7,no (fun k=>k.one c6) c7]
 ·rw[q0n c6];have c8:1<c.1:=by omega
  rw[q0z c8];by_cases c9:c.2.1.1=c.2.2.1.1
  ·rw[q0z c9,no (fun k=>k.more c8) (by omega)]
  ·rw[q0n c9];exact tail (.inr ⟨c8,c2,c3,by omega,by omega⟩)
theorem z02 (p:Prop)[Decidable p]:((if p then (0:Int) else 2)=0)↔p:=by by_cases h:p<;>simp[h]
theorem v1y {l:List Ev}{x:Ev}:Foll (l++[x])↔Foll l/\EvOk x/\∀e∈l,e.1<x.1:=by
 rw[t0m];constructor
 ·rintro ⟨h1,h2,h3⟩;exact ⟨h1,h2.ok x (by simp),fun e he=>h3 e he x (by simp)⟩
 ·rintro ⟨h1,h2,h3⟩;refine ⟨h1,⟨by simpa using h2,by simp⟩,fun e he y hy => ?_⟩;simp at hy;subst hy;exact h3 e he
theorem last_all {l:List Ev}(h:Foll l){x y:Ev}(hy:l.getLast? = some y)(hlt:y.1<x.1):∀e∈l,e.1<x.1:=by
 intro e he;rcases List.eq_nil_or_concat l with rfl | ⟨q,z,rfl⟩
 ·cases he
 rw[List.concat_eq_append] at *
 simp at hy;subst hy;rcases q2o.1 he with h1 | h1
 ·have:=(t0m.1 h).2.2 e h1 z (by simp);omega
 ·simp at h1;subst h1;exact hlt
open Go.Flat
abbrev Conf:=Int×((Int×(Int×Int))×((Int×(Int×Int))×(Int×Int)))
def prt (n e:Int):Int:=(n+e-1) / e
def plc (c:Conf):Int:=1+prt c.1 16+prt c.2.2.1.1 4+prt c.2.2.1.2.1 4+prt c.2.2.1.2.2 4
structure Rng (c:Conf):Prop where
 raw:1<=c.1/\c.1<=4096
 cap:1<=c.2.2.2.1/\c.2.2.2.1<=65536
 log:1<=c.2.2.2.2/\c.2.2.2.2<=8192
 w0:1<=c.2.1.1/\c.2.1.1<=1099511627776
 w1:1<=c.2.1.2.1/\c.2.1.2.1<=1099511627776
 w2:1<=c.2.1.2.2/\c.2.1.2.2<=1099511627776
 n0:1<=c.2.2.1.1/\c.2.2.1.1<=4096
 n1:1<=c.2.2.1.2.1/\c.2.2.1.2.1<=4096
 n2:1<=c.2.2.1.2.2/\c.2.2.1.2.2<=4096
structure OkC (c:Conf):Prop where
 rng:Rng c
 m1:c.2.1.2.1 % c.2.1.1=0
 d1:c.2.1.2.1 / c.2.1.1<=c.2.2.1.1
 m2:c.2.1.2.2 % c.2.1.2.1=0
 d2:c.2.1.2.2 / c.2.1.2.1<=c.2.2.1.2.1
 pl:plc c<c.2.2.2.2
theorem b1u (n:Nat)(x e:Int)(he:1<=e)(he':e<=1000)(hx:0<=x)(hx':x<=1000000000):n0o (n+1) x e=some (prt x e):=by
 rw[r1n];have h1:¬(e=0):=by omega
 simp only[tfd,q0n h1];rw[w64 (x:=x+e) (by omega) (by omega),w64 (x:=x+e-1) (by omega) (by omega),q0f (by omega)];have h2:0<=(x+e-1) / e:=Int.ediv_nonneg (by omega) (by omega);have h3:(x+e-1) / e<=x+e-1:=Int.ediv_le_self _ (by omega);rw[w64 (by omega) (by omega)];rfl
theorem prt_step (x e:Int)(he:1<=e):prt x e=1+prt (x-e) e:=by
 unfold prt;rw[show x+e-1=(x-e+e-1)+1*e by omega,Int.add_mul_ediv_right _ _ (by omega)];omega
theorem c2e (x e:Int)(h1 : -e<x)(hx:x<=0):prt x e=0:=Int.ediv_eq_zero_of_lt (by omega) (by omega)
theorem l1j (n:Nat)(e:Int)(he:1<=e)(he':e<=1000):∀(m f:Nat) (x k:Int),x<=m -> -e<x->m<f->0<=k->k+m<=1000000000->m<=1000000000->p0m n f (x,e,k,())=some (.inl (k+prt x e,())):=by
 intro m;induction m with
 | zero =>
  intro f x k hx hx' hf hk hkm hm;obtain ⟨f,rfl⟩:∃g,f=g+1:=⟨f-1,by omega⟩;rw[v0f];have h1:¬((0:Int)<x):=by omega
  simp only[tfd,q0n h1];rw[c2e x e hx' (by omega),Int.add_zero]
 | succ m ih =>
  intro f x k hx hx' hf hk hkm hm;obtain ⟨f,rfl⟩:∃g,f=g+1:=⟨f-1,by omega⟩;rw[v0f];by_cases h1:(0:Int)<x
  ·simp only[tfd,q0z h1];rw[w64 (x:=x-e) (by omega) (by omega),w64 (x:=k+1) (by omega) (by omega),ih f (x-e) (k+1) (by omega) (by omega) (by omega) (by omega) (by omega) (by omega),prt_step x e he];congr 3;omega
  ·simp only[tfd,q0n h1];rw[c2e x e hx' (by omega),Int.add_zero]
theorem m0y (n:Nat)(x e:Int)(he:1<=e)(he':e<=1000)(hx:0<=x)(hx':x<=100000000):r0f (n+1) x e=some (prt x e):=by
 rw[u1b,l1j n e he he' x.toNat a0b x 0 (by omega) (by omega) (by unfold a0b;omega) (by omega) (by omega) (by omega)];simp
theorem g0j {x e:Int}(he:1<=e)(hx:0<=x):0<=prt x e/\prt x e<=x:=by
 unfold prt;refine ⟨Int.ediv_nonneg (by omega) (by omega),?_⟩;have:x+e-1<(x+1)*e:=by
  have:=Int.mul_le_mul_of_nonneg_left he (show 0<=x by omega);rw[Int.add_mul];omega
 have:=Int.ediv_lt_of_lt_mul (by omega) this;omega
theorem h0b {c:Conf}(h:Rng c):1<=plc c/\plc c<=20000:=by
 have a:=g0j (x:=c.1) (e:=16) (by omega) (by have:=h.raw;omega);have b:=g0j (x:=c.2.2.1.1) (e:=4) (by omega) (by have:=h.n0;omega);have d:=g0j (x:=c.2.2.1.2.1) (e:=4) (by omega) (by have:=h.n1;omega);have f:=g0j (x:=c.2.2.1.2.2) (e:=4) (by omega) (by have:=h.n2;omega);have:=h.raw;have:=h.n0;have:=h.n1;have:=h.n2;unfold plc;omega
theorem b1s (n:Nat){c:Conf}(h:Rng c):l0e (n+2) c=some (plc c):=by
 have h0:=h.raw;have h1:=h.n0;have h2:=h.n1;have h3:=h.n2;rw[r1m,b1u n _ 16 (by omega) (by omega) (by omega) (by omega),b1u n _ 4 (by omega) (by omega) (by omega) (by omega),b1u n _ 4 (by omega) (by omega) (by omega) (by omega),b1u n _ 4 (by omega) (by omega) (by omega) (by omega)];simp only[obs];have a:=g0j (x:=c.1) (e:=16) (by omega) (by omega);have b:=g0j (x:=c.2.2.1.1) (e:=4) (by omega) (by omega);have d:=g0j (x:=c.2.2.1.2.1) (e:=4) (by omega) (by omega);have f:=g0j (x:=c.2.2.1.2.2) (e:=4) (by omega) (by omega)
 rw[w64 (x:=1+_) (by omega) (by omega),w64 (x:=1+_+_) (by omega) (by omega),w64 (x:=1+_+_+_) (by omega) (by omega),w64 (by omega) (by omega)];rfl
theorem s0x (n:Nat){c:Conf}(h:Rng c):b1j (n+2) c=some (plc c):=by
 have h0:=h.raw;have h1:=h.n0;have h2:=h.n1;have h3:=h.n2;rw[u1a,m0y n _ 16 (by omega) (by omega) (by omega) (by omega),m0y n _ 4 (by omega) (by omega) (by omega) (by omega),m0y n _ 4 (by omega) (by omega) (by omega) (by omega),m0y n _ 4 (by omega) (by omega) (by omega) (by omega)];simp only[obs];have a:=g0j (x:=c.1) (e:=16) (by omega) (by omega);have b:=g0j (x:=c.2.2.1.1) (e:=4) (by omega) (by omega);have d:=g0j (x:=c.2.2.1.2.1) (e:=4) (by omega) (by omega);have f:=g0j (x:=c.2.2.1.2.2) (e:=4) (by omega) (by omega)
 rw[w64 (x:=1+_) (by omega) (by omega),w64 (x:=1+_+_) (by omega) (by omega),w64 (x:=1+_+_+_) (by omega) (by omega),w64 (by omega) (by omega)];rfl
theorem in_int (n:Nat)(x a b:Int):h0o (n+1) x a b=some (decide (a<=x/\x<=b)):=by
 rw[m1j];by_cases h1:a<=x<;>by_cases h2:x<=b<;>simp[h1,h2]
theorem c2r (n:Nat)(x a b:Int):k0j (n+1) x a b=some (decide (a<=x/\x<=b)):=by
 rw[g1g];by_cases h1:a<=x<;>by_cases h2:x<=b<;>simp[h1,h2]
theorem u1u {a b:Int}(ha:1<=a/\a<=1099511627776)(hb:1<=b):wrap .i64 (Int.tdiv a b)=a / b:=by
 rw[q0f (by omega)];have h2:0<=a / b:=Int.ediv_nonneg (by omega) (by omega);have h3:a / b<=a:=Int.ediv_le_self _ (by omega);rw[w64 (by omega) (by omega)]
theorem x0i (n:Nat){c:Conf}(h:OkC c):e0u (n+3) c=some 0:=by
 obtain ⟨hr,m1,d1,m2,d2,pl⟩:=h;have hp:=b1s n hr;obtain ⟨raw,cap,log,w0,w1,w2,n0,n1,n2⟩:=hr;rw[c1s];simp only[in_int,c2r,obs,tfd,q0z raw,q0z cap,q0z log,q0z w0,q0z w1,q0z w2,q0z n0,q0z n1,q0z n2];have z0:¬(c.2.1.1=0):=by omega
 have z1:¬(c.2.1.2.1=0):=by omega
 rw[u1u w1 w0.1,u1u w2 w1.1,i0i (a:=c.2.1.2.1) (by omega),i0i (a:=c.2.1.2.2) (by omega)];have l:¬(c.2.2.2.2<=plc c):=by omega
 simp only[q0n z0,q0n z1,q0z m1,q0z d1,q0z m2,q0z d2,tfn,tfd,hp,obs,q0n l]
theorem d2j (n:Nat){c:Conf}(h:¬OkC c):e0u (n+3) c=some 2:=by
 rw[c1s];simp only[in_int,c2r,obs,tfd,tfn];by_cases raw:1<=c.1/\c.1<=4096
 case neg=>rw[q0n raw]
 rw[q0z raw];by_cases cap:1<=c.2.2.2.1/\c.2.2.2.1<=65536
 case neg=>rw[q0n cap]
 rw[q0z cap];by_cases log:1<=c.2.2.2.2/\c.2.2.2.2<=8192
 case neg=>rw[q0n log]
 rw[q0z log];by_cases w0:1<=c.2.1.1/\c.2.1.1<=1099511627776
 case neg=>rw[q0n w0]
 rw[q0z w0];by_cases n0:1<=c.2.2.1.1/\c.2.2.1.1<=4096
 case neg=>rw[q0n n0]
 rw[q0z n0];by_cases w1:1<=c.2.1.2.1/\c.2.1.2.1<=1099511627776
 case neg=>rw[q0n w1]
 rw[q0z w1];by_cases n1:1<=c.2.2.1.2.1/\c.2.2.1.2.1<=4096
 case neg=>rw[q0n n1]
 rw[q0z n1];by_cases w2:1<=c.2.1.2.2/\c.2.1.2.2<=1099511627776
 case neg=>rw[q0n w2]
 rw[q0z w2];by_cases n2:1<=c.2.2.1.2.2/\c.2.2.1.2.2<=4096
 case neg=>rw[q0n n2,q0n n2]
 rw[q0z n2];have hr:Rng c:=⟨raw,cap,log,w0,w1,w2,n0,n1,n2⟩;have hp:=b1s n hr;have z0:¬(c.2.1.1=0):=by omega
 have z1:¬(c.2.1.2.1=0):=by omega
 rw[u1u w1 w0.1,u1u w2 w1.1,i0i (a:=c.2.1.2.1) (by omega),i0i (a:=c.2.1.2.2) (by omega)];rw[q0n z0,q0n z0];by_cases m1:c.2.1.2.1 % c.2.1.1=0
 case neg=>rw[q0n m1]
 rw[q0z m1];by_cases d1:c.2.1.2.1 / c.2.1.1<=c.2.2.1.1
 case neg=>rw[q0n d1,q0n d1]
 rw[q0z d1,q0n z1,q0n z1];by_cases m2:c.2.1.2.2 % c.2.1.2.1=0
 case neg=>rw[q0n m2]
 rw[q0z m2];by_cases d2:c.2.1.2.2 / c.2.1.2.1<=c.2.2.1.2.1
 case neg=>rw[q0n d2,q0n d2]
 rw[q0z d2,q0z d2,hp];simp only[obs];by_cases pl:c.2.2.2.2<=plc c
 ·rw[q0z pl]
 ·exact absurd ⟨hr,m1,d1,m2,d2,by omega⟩ h
theorem j0l (n:Nat){c:Conf}(h:OkC c):f0q (n+3) c=some 0:=by
 obtain ⟨hr,m1,d1,m2,d2,pl⟩:=h;have hp:=s0x n hr;obtain ⟨raw,cap,log,w0,w1,w2,n0,n1,n2⟩:=hr;rw[f1k];rw[u1u w1 w0.1,u1u w2 w1.1,i0i (a:=c.2.1.2.1) (by omega),i0i (a:=c.2.1.2.2) (by omega)];have l:¬(c.2.2.2.2<=plc c):=by omega
 simp only[tfd,tfn,hp,obs];rw[q0n (by omega),q0n (by omega),q0n (by omega),q0n (by omega),q0n (by omega),q0n (by omega),q0n (by omega),q0n (by omega),q0n (by omega),q0n (by omega),q0n (by omega),q0n (by omega),q0n (by omega),q0n (by omega),q0n (by omega)];rw[q0z m1,q0n (by omega),q0n (by omega),q0n (by omega),q0n (by omega),q0n (by omega),q0n (by omega),q0n (by omega)];rw[q0z m2,q0n (by omega),q0n (by omega),q0n l]
theorem f1j (n:Nat){c:Conf}(h:¬OkC c):f0q (n+3) c=some 2:=by
 rw[f1k];simp only[tfd,tfn];by_cases raw:1<=c.1/\c.1<=4096
 case neg =>
  by_cases z:c.1<1
  ·rw[q0z z]
  ·rw[q0n z,q0z (by omega)]
 rw[q0n (by omega),q0n (by omega)];by_cases cap:1<=c.2.2.2.1/\c.2.2.2.1<=65536
 case neg =>
  by_cases z:c.2.2.2.1<1
  ·rw[q0z z]
  ·rw[q0n z,q0z (by omega)]
 rw[q0n (by omega),q0n (by omega)];by_cases log:1<=c.2.2.2.2/\c.2.2.2.2<=8192
 case neg =>
  by_cases z:c.2.2.2.2<1
  ·rw[q0z z]
  ·rw[q0n z,q0z (by omega)]
 rw[q0n (by omega),q0n (by omega)];by_cases w0:1<=c.2.1.1/\c.2.1.1<=1099511627776
 case neg =>
  by_cases z:c.2.1.1<1
  ·rw[q0z z]
  ·rw[q0n z,q0z (by omega)]
 rw[q0n (by omega),q0n (by omega)];by_cases n0:1<=c.2.2.1.1/\c.2.2.1.1<=4096
 case neg =>
  by_cases z:c.2.2.1.1<1
  ·rw[q0z z]
  ·rw[q0n z,q0z (by omega)]
 rw[q0n (by omega),q0n (by omega)];by_cases w1:1<=c.2.1.2.1/\c.2.1.2.1<=1099511627776
 case neg =>
  by_cases z:c.2.1.2.1<1
  ·rw[q0z z]
  ·rw[q0n z,q0z (by omega)]
 rw[q0n (by omega),q0n (by omega)];by_cases n1:1<=c.2.2.1.2.1/\c.2.2.1.2.1<=4096
 case neg =>
  by_cases z:c.2.2.1.2.1<1
  ·rw[q0z z]
  ·rw[q0n z,q0z (by omega)]
 rw[q0n (by omega),q0n (by omega),q0n (by omega)];rw[i0i (a:=c.2.1.2.1) (by omega),u1u w1 w0.1];by_cases m1:c.2.1.2.1 % c.2.1.1=0
 case neg=>rw[q0n m1]
 rw[q0z m1,q0n (by omega)];by_cases d1:c.2.1.2.1 / c.2.1.1<=c.2.2.1.1
 case neg=>rw[q0z (by omega)]
 rw[q0n (by omega)];by_cases w2:1<=c.2.1.2.2/\c.2.1.2.2<=1099511627776
 case neg =>
  by_cases z:c.2.1.2.2<1
  ·rw[q0z z]
  ·rw[q0n z,q0z (by omega)]
 rw[q0n (by omega),q0n (by omega)];by_cases n2:1<=c.2.2.1.2.2/\c.2.2.1.2.2<=4096
 case neg =>
  by_cases z:c.2.2.1.2.2<1
  ·rw[q0z z]
  ·rw[q0n z,q0z (by omega)]
 rw[q0n (by omega),q0n (by omega),q0n (by omega)];rw[i0i (a:=c.2.1.2.2) (by omega),u1u w2 w1.1];by_cases m2:c.2.1.2.2 % c.2.1.2.1=0
 case neg=>rw[q0n m2]
 rw[q0z m2,q0n (by omega)];by_cases d2:c.2.1.2.2 / c.2.1.2.1<=c.2.2.1.2.1
 case neg=>rw[q0z (by omega)]
 rw[q0n (by omega)];have hr:Rng c:=⟨raw,cap,log,w0,w1,w2,n0,n1,n2⟩;rw[s0x n hr];simp only[obs];by_cases pl:c.2.2.2.2<=plc c
 ·rw[q0z pl]
 ·exact absurd ⟨hr,m1,d1,m2,d2,by omega⟩ h
theorem pow_le (k:Nat)(hk:k<=7):(256:Int)^k<=72057594037927936:=by
 match k,hk with
 | 0,_ | 1,_ | 2,_ | 3,_ | 4,_ | 5,_ | 6,_ | 7,_=>decide
theorem two_pow8 (k:Nat):(2:Int)^(8*k)=256^k:=by rw[Int.pow_mul];rfl
theorem h2e (n:Nat)(x:Int):∀(k f:Nat) (w:List Int),k<=8->k<f->w.length+k<=1000000 ->
  f0e n f (w,x,8*((k:Int)-1),())=some (.inl (w++beI k x,())):=by
 intro k;induction k with
 | zero =>
  intro f w _ hf _;obtain ⟨f,rfl⟩:∃g,f=g+1:=⟨f-1,by omega⟩;rw[j0p];simp[tfd,beI]
 | succ k ih =>
  intro f w hk hf hl;obtain ⟨f,rfl⟩:∃g,f=g+1:=⟨f-1,by omega⟩;rw[j0p];have h1:(0:Int)<=8*(((k+1:Nat):Int)-1):=by omega
  have h2:¬(8*(((k+1:Nat):Int)-1)<(0:Int)):=by omega
  have h3:(w.length+1)*1<=140737488355328:=by omega
  simp only[tfd,q0z h1,q0n h2,q0z h3];have e1:wrap .i64 (8*(((k+1:Nat):Int)-1)-8)=8*((k:Int)-1):=by rw[w64 (by omega) (by omega)];omega
  have e2:wrap .u8 (shrI .u64 x (8*(((k+1:Nat):Int)-1)))=x / 256^k % 256:=by
   rw[y0j];congr 1;have:min (8*(((k+1:Nat):Int)-1)).toNat IntKind.u64.bits=8*k:=by
    have:(8*(((k+1:Nat):Int)-1)).toNat=8*k:=by omega
    rw[this];show min (8*k) 64=8*k;omega
   simp only[shrI,this,two_pow8];exact Int.fdiv_eq_ediv_of_nonneg _ (Int.le_of_lt (Int.pow_pos (by decide)))
  rw[e1,e2,ih f _ (by omega) (by omega) (by simp;omega)];simp[beI]
theorem c0g (n:Nat)(w:List Int)(k:Nat)(width x:Int)(hw:width=k)(hk:1<=k)(hk':k<=8)(hl:w.length+k<=1000000) :
  a0w (n+1) w width x=some (w++beI k x):=by
 subst hw;rw[w0c];have h1:¬((k:Int)<1):=by omega
 have h2:¬((8:Int)<k):=by omega
 have e:wrap .i64 (8*wrap .i64 ((k:Int)-1))=8*((k:Int)-1):=by
  rw[w64 (x:=(k:Int)-1) (by omega) (by omega),w64 (by omega) (by omega)]
 simp only[tfd,q0n h1,q0n h2,e];rw[h2e n x k a0b w hk' (by unfold a0b;omega) hl];rfl
theorem set_rep (m:Nat)(v:Int)(t:List Int):(List.replicate (m+1) (0:Int)++t).set m v=List.replicate m 0++v::t:=by
 rw[List.replicate_succ',q2g,List.set_append];simp
theorem r03_l5 (n:Nat)(x:Int)(hx:0<=x)(hx':x<=18446744073709551615)(k:Nat)(hk:k<=8):∀(m i f:Nat),m+i=k->m<f ->
  p0q n f ((k:Int),x / 256^i,List.replicate m 0++beI i x,(k:Int),(i:Int),())=some (.inl (beI k x,())):=by
 intro m;induction m with
 | zero =>
  intro i f hi hf;obtain ⟨f,rfl⟩:∃g,f=g+1:=⟨f-1,by omega⟩;rw[v0o];have h1:¬((i:Int)<(k:Int)):=by omega
  have:i=k:=by omega
  subst this;simp
 | succ m ih =>
  intro i f hi hf;obtain ⟨f,rfl⟩:∃g,f=g+1:=⟨f-1,by omega⟩;rw[v0o];have h1:(i:Int)<(k:Int):=by omega
  have e1:wrap .i64 (wrap .i64 ((k:Int)-1)-(i:Int))=(m:Int):=by
   rw[w64 (x:=(k:Int)-1) (by omega) (by omega),w64 (by omega) (by omega)];omega
  have hp:(0:Int)<256^i:=Int.pow_pos (by decide);have hq:0<=x / 256^i:=Int.ediv_nonneg hx (Int.le_of_lt hp);have hq':x / 256^i<=x:=Int.ediv_le_self _ hx;have e2:wrap .u64 (Int.tdiv (x / 256^i) 256)=x / 256^(i+1):=by
   rw[q0f hq,wu64 (by omega) (by omega),Int.pow_succ,Int.ediv_ediv_of_nonneg (Int.le_of_lt hp)]
  have e3:wrap .u8 (Int.tmod (x / 256^i) 256)=x / 256^i % 256:=by
   rw[i0i hq,wu8 (by omega) (by omega)]
  have e4:at? (List.replicate (m+1) (0:Int)++beI i x) (m:Int)=some 0:=by
   simp[at?,List.getElem?_append]
  have e5:(List.replicate (m+1) (0:Int)++beI i x)[(m:Int).toNat]? = some 0:=by
   simp[List.getElem?_append]
  have e6:wrap .i64 ((i:Int)+1)=((i+1:Nat):Int):=by rw[w64 (by omega) (by omega)];omega
  simp only[tfd,q0z h1,e1,e2,e3,e4,e5,e6,obs];have e7:(List.replicate (m+1) (0:Int)++beI i x).set (m:Int).toNat (x / 256^i % 256)=List.replicate m 0++beI (i+1) x:=by
   rw[show (m:Int).toNat=m by omega,set_rep];rfl
  rw[e7];exact ih (i+1) f (by omega) (by omega)
theorem g0i (n:Nat)(k:Nat)(width x:Int)(hw:width=k)(hk:1<=k)(hk':k<=8)(hx:0<=x)(hx':x<=18446744073709551615):d0b (n+1) width x=some (toB (beI k x)):=by
 subst hw;rw[u1r];have h1:¬((k:Int)<1):=by omega
 have h2:¬((8:Int)<k):=by omega
 have h3:(0:Int)<=k:=by omega
 have h4:(k:Int)*1<=140737488355328:=by omega
 have e1:(k:Int).toNat=k:=by omega
 have:=r03_l5 n x hx hx' k hk' k 0 a0b (by omega) (by unfold a0b;omega);simp only[Int.pow_zero,Int.ediv_one,beI,q2x,Int.natCast_zero] at this;simp only[tfd,q0n h1,q0n h2,d1a,q0z h3,q0z (Int.le_refl (k:Int)),q0z h4,e1,q3b];rw[show (0:Int)=((0:Nat):Int) from rfl] at this ⊢;rw[this];rfl
theorem or_shl (v b:Int)(hv:0<=v)(hv':v<72057594037927936)(hb:0<=b)(hb':b<=255):orI .u64 (shlI .u64 v 8) (wrap .u64 b)=v*256+b:=by
 obtain ⟨a,rfl⟩:=Int.eq_ofNat_of_zero_le hv;obtain ⟨c,rfl⟩:=Int.eq_ofNat_of_zero_le hb;have e1:shlI .u64 (a:Int) 8=((a*256:Nat):Int):=by
  show wrap .u64 ((a:Int)*2^(min 8 64))=_;have:(2:Int)^(min 8 64)=256:=by decide
  rw[this,wu64 (by omega) (by omega)];omega
 rw[e1,wu64 (by omega) (by omega)];unfold orI;have e2:(BitVec.ofInt IntKind.u64.bits ((a*256:Nat):Int) ||| BitVec.ofInt IntKind.u64.bits (c:Int)).toNat=a*256+c:=by
  show (BitVec.ofInt 64 ((a*256:Nat):Int) ||| BitVec.ofInt 64 (c:Int)).toNat=_;rw[BitVec.toNat_or,BitVec.ofInt_natCast,BitVec.ofInt_natCast,BitVec.toNat_ofNat,BitVec.toNat_ofNat,Nat.mod_eq_of_lt (by omega),Nat.mod_eq_of_lt (by omega)];have:=Nat.two_pow_add_eq_or_of_lt (i:=8) (b:=c) (by omega) a;rw[Nat.mul_comm a 256];exact this.symm
 rw[e2,wu64 (by omega) (by omega)];omega
theorem z0x (l:List Int)(i:Nat)(h:i<l.length):valI (l.take (i+1))=valI (l.take i)*256+l[i]:=by
 rw[List.take_succ_eq_append_getElem h,valI,List.foldl_append];rfl
theorem i2t (n:Nat)(r:List UInt8×Bool)(l:List Int)(hl:l.length<=8)(hr:∀x∈l,0<=x/\x<=255):∀(m i f:Nat),m+i=l.length->m<f ->
  c0z n f (r,valI (l.take i),l,(l.length:Int),(i:Int),())=some (.inl (r,valI l,())):=by
 intro m;induction m with
 | zero =>
  intro i f hi hf;obtain ⟨f,rfl⟩:∃g,f=g+1:=⟨f-1,by omega⟩;rw[j0q];have h1:¬((i:Int)<(l.length:Int)):=by omega
  simp only[tfd,q0n h1];rw[q3j (by omega)]
 | succ m ih =>
  intro i f hi hf;obtain ⟨f,rfl⟩:∃g,f=g+1:=⟨f-1,by omega⟩;rw[j0q];have hlt:i<l.length:=by omega
  have h1:(i:Int)<(l.length:Int):=by omega
  have e1:at? l (i:Int)=some l[i]:=by simp[at?,hlt]
  have hb:=hr l[i] (List.getElem_mem hlt);have hv:=z0q (l:=l.take i) fun x hx=>hr x (q3p hx)
  rw[List.length_take_of_le (by omega)] at hv;have hp:=pow_le i (by omega);have e2:wrap .i64 ((i:Int)+1)=((i+1:Nat):Int):=by rw[w64 (by omega) (by omega)];omega
  simp only[tfd,q0z h1,e1,obs,e2];rw[or_shl _ _ hv.1 (by omega) hb.1 hb.2,<-z0x l i hlt];exact ih (i+1) f (by omega) (by omega)
theorem p1x (n:Nat)(r q:List UInt8×Bool)(s:List UInt8)(hl:s.length<=8):∀(m i f:Nat),m+i=s.length->m<f ->
  d0l n f (r,q,s,valI ((c0c s).take i),(i:Int),())=some (.inl (r,q,valI (c0c s),())):=by
 intro m;induction m with
 | zero =>
  intro i f hi hf;obtain ⟨f,rfl⟩:∃g,f=g+1:=⟨f-1,by omega⟩;rw[k0r];have h1:¬((i:Int)<(s.length:Int)):=by omega
  simp only[tfd,q0n h1];rw[q3j (by rw[k0m];omega)]
 | succ m ih =>
  intro i f hi hf;obtain ⟨f,rfl⟩:∃g,f=g+1:=⟨f-1,by omega⟩;rw[k0r];have hlt:i<s.length:=by omega
  have h1:(i:Int)<(s.length:Int):=by omega
  have e1:at? s (i:Int)=some s[i]:=by simp[at?,hlt]
  have hlt':i<(c0c s).length:=by rw[k0m];exact hlt
  have hb:(c0c s)[i]=(s[i].toNat:Int):=by simp[c0c]
  have hb':=m0e s _ (List.getElem_mem hlt');rw[hb] at hb';have hv:=z0q (l:=(c0c s).take i) fun x hx=>m0e s x (q3p hx)
  rw[List.length_take_of_le (by omega)] at hv;have hp:=pow_le i (by omega);have e2:wrap .i64 ((i:Int)+1)=((i+1:Nat):Int):=by rw[w64 (by omega) (by omega)];omega
  simp only[tfd,q0z h1,e1,obs,e2];rw[wu64 (x:=256*_) (by omega) (by omega),wu64 (x:=((s[i].toNat:Nat):Int)) (by omega) (by omega),wu64 (by omega) (by omega)];have:=z0x (c0c s) i hlt';rw[hb] at this;rw[show 256*valI ((c0c s).take i)+(s[i].toNat:Int)=valI ((c0c s).take (i+1)) by rw[this];omega];exact ih (i+1) f (by omega) (by omega)
def rd (st:List UInt8×Bool)(k:Nat):Int×(List UInt8×Bool):=if st.2=true\/st.1.length<k then (0,([],true)) else (valI (c0c (st.1.take k)),(st.1.drop k,false))
theorem a0v (n:Nat)(st:List UInt8×Bool)(k:Nat)(width:Int)(hw:width=k)(hk:1<=k)(hk':k<=8):a0h (n+3) st width=some (rd st k):=by
 subst hw;rw[w0d,j0f];simp only[d0f];have h1:¬((k:Int)<1):=by omega
 have h2:¬((8:Int)<k):=by omega
 have h3:¬((k:Int)<0):=by omega
 have e0:(k:Int).toNat=k:=by omega
 have fin:∀(s:List UInt8) (q:List UInt8×Bool),s.length<=8 ->
   (a0a (c0z (n+2) a0b (q,(0,(s.map fun y=>((y.toNat:Nat):Int)),(((s.map fun y=>((y.toNat:Nat):Int)).length:Nat):Int),0,()))) fun r5=>b0g (fun y6=>some (y6.2.1,y6.1)) (fun z7=>some z7) r5)=some (valI (c0c s),q):=by
  intro s q hs;have:=i2t (n+2) q (c0c s) (by rw[k0m];exact hs) (m0e s) s.length 0 a0b (by rw[k0m];omega) (by unfold a0b;omega);simp only[List.take_zero] at this;have hv0:valI []=0:=rfl;rw[hv0] at this;show a0a (c0z (n+2) a0b (q,0,c0c s,((c0c s).length:Int),((0:Nat):Int),())) _=_;rw[this];rfl
 simp only[tfd,q0n h1,q0n h2,q0n h3];obtain ⟨s,b⟩:=st;cases b with
 | true =>
  simp only[tft,obs];have:=fin [] ([],true) (by simp);simp only[List.map_nil] at this;rw[show rd (s,true) k=(0,([],true)) by simp[rd]];exact this
 | false =>
  simp only[tff,obs];by_cases hlt:s.length<k
  ·have h4:(s.length:Int)<k:=by omega
   rw[q0z h4];simp only[obs];have:=fin [] ([],true) (by simp);simp only[List.map_nil] at this;rw[show rd (s,false) k=(0,([],true)) by simp[rd,hlt]];exact this
  ·have h4:¬((s.length:Int)<k):=by omega
   have h5:(0:Int)<=k:=by omega
   have h6:(k:Int)<=(s.length:Int):=by omega
   have h7:k<=s.length:=by omega
   simp only[q0n h4,d1a,tfd,q0z h5,q0z h6,e0,q0z h7,obs];rw[show rd (s,false) k=(valI (c0c (s.take k)),(s.drop k,false)) by simp[rd,hlt]];rw[List.drop_zero,List.take_length];exact fin (s.take k) (s.drop k,false) (by simp;omega)
theorem c0i (n:Nat)(st:List UInt8×Bool)(k:Nat)(width:Int)(hw:width=k)(hk:1<=k)(hk':k<=8):b0t (n+2) st width=some ((rd st k).2,(rd st k).1):=by
 subst hw;rw[y0s,l0a];have h1:¬((k:Int)<1):=by omega
 have h2:¬((8:Int)<k):=by omega
 have h3:¬((k:Int)<0):=by omega
 have e0:(k:Int).toNat=k:=by omega
 have fin:∀(s:List UInt8) (q:List UInt8×Bool),s.length<=8 ->
   (a0a (d0l (n+1) a0b (q,([],false),s,0,0,())) fun r1=>b0g (fun y2=>some (y2.1,y2.2.2.1)) (fun z3=>some z3) r1)=some (q,valI (c0c s)):=by
  intro s q hs;have:=p1x (n+1) q ([],false) s hs s.length 0 a0b (by omega) (by unfold a0b;omega);simp only[List.take_zero] at this;have hv0:valI []=0:=rfl;rw[hv0] at this;show a0a (d0l (n+1) a0b (q,([],false),s,0,((0:Nat):Int),())) _=_;rw[this];rfl
 simp only[tfd,q0n h1,q0n h2,q0n h3];obtain ⟨s,b⟩:=st;cases b with
 | true =>
  simp only[tft,obs];rw[show rd (s,true) k=(0,([],true)) by simp[rd]];exact fin [] ([],true) (by simp)
 | false =>
  simp only[tff,obs];by_cases hlt:s.length<k
  ·have h4:(s.length:Int)<k:=by omega
   rw[q0z h4];simp only[obs];rw[show rd (s,false) k=(0,([],true)) by simp[rd,hlt]];exact fin [] ([],true) (by simp)
  ·have h4:¬((s.length:Int)<k):=by omega
   have h5:(0:Int)<=k:=by omega
   have h6:(k:Int)<=(s.length:Int):=by omega
   have h7:k<=s.length:=by omega
   simp only[q0n h4,d1a,tfd,q0z h5,q0z h6,e0,q0z h7,obs];rw[show rd (s,false) k=(valI (c0c (s.take k)),(s.drop k,false)) by simp[rd,hlt]];rw[List.drop_zero,List.take_length];exact fin (s.take k) (s.drop k,false) (by simp;omega)
def bts (c:Conf):List Int :=
 beI 4 c.1++(beI 8 c.2.1.1++(beI 8 c.2.1.2.1++(beI 8 c.2.1.2.2++(beI 4 c.2.2.1.1++(beI 4 c.2.2.1.2.1++(beI 4 c.2.2.1.2.2++(beI 4 c.2.2.2.1++(beI 4 c.2.2.2.2++beI 8 0))))))))
theorem g2v (c:Conf):(bts c).length=56:=by simp[bts,b0n]
theorem bytes_ok (n:Nat){c:Conf}(h:OkC c):e1p (n+4) c=some (toB (bts c)):=by
 rw[r1o,x0i n h];obtain ⟨⟨raw,cap,log,w0,w1,w2,n0,n1,n2⟩,_⟩:=h;simp only[obs,tfd,tfn];rw[q0z trivial];rw[wu64 (x:=c.1) (by omega) (by omega),wu64 (x:=c.2.1.1) (by omega) (by omega),wu64 (x:=c.2.1.2.1) (by omega) (by omega),wu64 (x:=c.2.1.2.2) (by omega) (by omega),wu64 (x:=c.2.2.1.1) (by omega) (by omega),
  wu64 (x:=c.2.2.1.2.1) (by omega) (by omega),wu64 (x:=c.2.2.1.2.2) (by omega) (by omega),wu64 (x:=c.2.2.2.1) (by omega) (by omega),wu64 (x:=c.2.2.2.2) (by omega) (by omega)]
 rw[c0g _ _ 4 4 _ rfl (by omega) (by omega) (by simp)];simp only[obs];rw[c0g _ _ 8 8 _ rfl (by omega) (by omega) (by simp[b0n])];simp only[obs];rw[c0g _ _ 8 8 _ rfl (by omega) (by omega) (by simp[b0n])];simp only[obs];rw[c0g _ _ 8 8 _ rfl (by omega) (by omega) (by simp[b0n])];simp only[obs];rw[c0g _ _ 4 4 _ rfl (by omega) (by omega) (by simp[b0n])];simp only[obs];rw[c0g _ _ 4 4 _ rfl (by omega) (by omega) (by simp[b0n])];simp only[obs]
 rw[c0g _ _ 4 4 _ rfl (by omega) (by omega) (by simp[b0n])];simp only[obs];rw[c0g _ _ 4 4 _ rfl (by omega) (by omega) (by simp[b0n])];simp only[obs];rw[c0g _ _ 4 4 _ rfl (by omega) (by omega) (by simp[b0n])];simp only[obs];rw[c0g _ _ 8 8 _ rfl (by omega) (by omega) (by simp[b0n])];simp only[obs];rw[o0w];simp only[obs,q2r,q2g];rfl
theorem zeros8:toB (beI 8 0)=((0:UInt8)::((0:UInt8)::((0:UInt8)::((0:UInt8)::((0:UInt8)::((0:UInt8)::((0:UInt8)::((0:UInt8)::[])))))))):=by decide
theorem v0g (n:Nat){c:Conf}(h:OkC c):v0i (n+4) c=some (toB (bts c)):=by
 rw[u1d,j0l n h];obtain ⟨⟨raw,cap,log,w0,w1,w2,n0,n1,n2⟩,_⟩:=h;simp only[obs,tfd,tfn];rw[q0z trivial];rw[wu64 (x:=c.1) (by omega) (by omega),wu64 (x:=c.2.1.1) (by omega) (by omega),wu64 (x:=c.2.1.2.1) (by omega) (by omega),wu64 (x:=c.2.1.2.2) (by omega) (by omega),wu64 (x:=c.2.2.1.1) (by omega) (by omega),
  wu64 (x:=c.2.2.1.2.1) (by omega) (by omega),wu64 (x:=c.2.2.1.2.2) (by omega) (by omega),wu64 (x:=c.2.2.2.1) (by omega) (by omega),wu64 (x:=c.2.2.2.2) (by omega) (by omega)]
 rw[g0i _ 4 4 _ rfl (by omega) (by omega) (by omega) (by omega)];simp only[obs];rw[g0i _ 8 8 _ rfl (by omega) (by omega) (by omega) (by omega)];simp only[obs];rw[q0z (by simp[c0p,b0n]),g0i _ 8 8 _ rfl (by omega) (by omega) (by omega) (by omega)];simp only[obs];rw[q0z (by simp[c0p,b0n]),g0i _ 8 8 _ rfl (by omega) (by omega) (by omega) (by omega)];simp only[obs];rw[q0z (by simp[c0p,b0n]),g0i _ 4 4 _ rfl (by omega) (by omega) (by omega) (by omega)];simp only[obs]
 rw[q0z (by simp[c0p,b0n]),g0i _ 4 4 _ rfl (by omega) (by omega) (by omega) (by omega)];simp only[obs];rw[q0z (by simp[c0p,b0n]),g0i _ 4 4 _ rfl (by omega) (by omega) (by omega) (by omega)];simp only[obs];rw[q0z (by simp[c0p,b0n]),g0i _ 4 4 _ rfl (by omega) (by omega) (by omega) (by omega)];simp only[obs];rw[q0z (by simp[c0p,b0n]),g0i _ 4 4 _ rfl (by omega) (by omega) (by omega) (by omega)];simp only[obs];rw[q0z (by simp[c0p,b0n]),q0z (by simp[c0p,b0n]),<-zeros8]
 simp only[bts,c1z,q2g]
theorem d1q (k:Nat)(v:Int)(t:List UInt8):rd (toB (beI k v)++t,false) k=(v % 256^k,(t,false)):=by
 have hl:(toB (beI k v)).length=k:=by rw[c0p,b0n]
 unfold rd;rw[q0n (by simp[hl])];have h1:(toB (beI k v)++t).take k=toB (beI k v):=by rw[List.take_append_of_le_length (by omega),q3j (by omega)]
 have h2:(toB (beI k v)++t).drop k=t:=by rw[List.drop_append_of_le_length (by omega),List.drop_of_length_le (by omega)];rfl
 rw[h1,h2,o1f (n2a v k),val_be]
theorem o0f {st:List UInt8×Bool}{k:Nat}(h:(rd st k).2.2=false):st.2=false/\st.1=toB (beI k (rd st k).1)++(rd st k).2.1/\0<=(rd st k).1/\(rd st k).1<256^k:=by
 unfold rd at h ⊢;split at h
 ·cases h
 ·rename_i hn;rw[q0n hn];simp only[not_or,Nat.not_lt,Bool.not_eq_true] at hn;have hl:(c0c (st.1.take k)).length=k:=by rw[k0m,q2z];omega
  have hv:=z0q (m0e (st.1.take k));rw[hl] at hv;refine ⟨hn.1,?_,hv⟩;dsimp only;rw[m2z (m0e _) hl,w0i,q3d]
theorem k0a (st:List UInt8×Bool)(k:Nat):0<=(rd st k).1/\(rd st k).1<256^k:=by
 cases h:(rd st k).2.2 with
 | false=>exact (o0f h).2.2
 | true =>
  unfold rd at h ⊢;split
  ·exact ⟨by simp,Int.pow_pos (by decide)⟩
  ·rename_i hn;rw[q0n hn] at h;cases h
def q0 (s:List UInt8):=rd (s,false) 4
def q1 (s:List UInt8):=rd (q0 s).2 8
def q2 (s:List UInt8):=rd (q1 s).2 8
def q3 (s:List UInt8):=rd (q2 s).2 8
def q4 (s:List UInt8):=rd (q3 s).2 4
def q5 (s:List UInt8):=rd (q4 s).2 4
def q6 (s:List UInt8):=rd (q5 s).2 4
def q7 (s:List UInt8):=rd (q6 s).2 4
def q8 (s:List UInt8):=rd (q7 s).2 4
def q9 (s:List UInt8):=rd (q8 s).2 8
def cfg (s:List UInt8):Conf:=(wrap .i64 (q0 s).1,((wrap .i64 (q1 s).1,(wrap .i64 (q2 s).1,wrap .i64 (q3 s).1)),((wrap .i64 (q4 s).1,(wrap .i64 (q5 s).1,wrap .i64 (q6 s).1)),(wrap .i64 (q7 s).1,wrap .i64 (q8 s).1))))
def cfg0:Conf:=(0,((0,(0,0)),((0,(0,0)),(0,0))))
structure Full (s:List UInt8):Prop where
 z:(q9 s).1=0
 good:(q9 s).2.2=false
 left:(q9 s).2.1=[]
theorem m0v {v w:Int}(h0:0<=v)(h1:v<18446744073709551616)(hw:wrap .i64 v=w)(hp:1<=w):v=w:=by
 rw[IntKind.wrap_i64] at hw;omega
theorem g2b {s:List UInt8}(hr:Rng (cfg s))(h:Full s):toB (bts (cfg s))=s:=by
 have g9:=o0f h.good;have g8:=o0f g9.1;have g7:=o0f g8.1;have g6:=o0f g7.1;have g5:=o0f g6.1;have g4:=o0f g5.1;have g3:=o0f g4.1;have g2:=o0f g3.1;have g1:=o0f g2.1;have g0:=o0f g1.1;have e0:s=toB (beI 4 (q0 s).1)++(q0 s).2.1:=g0.2.1;have e1:(q0 s).2.1=toB (beI 8 (q1 s).1)++(q1 s).2.1:=g1.2.1;have e2:(q1 s).2.1=toB (beI 8 (q2 s).1)++(q2 s).2.1:=g2.2.1;have e3:(q2 s).2.1=toB (beI 8 (q3 s).1)++(q3 s).2.1:=g3.2.1;have e4:(q3 s).2.1=toB (beI 4 (q4 s).1)++(q4 s).2.1:=g4.2.1;have e5:(q4 s).2.1=toB (beI 4 (q5 s).1)++(q5 s).2.1:=g5.2.1
 have e6:(q5 s).2.1=toB (beI 4 (q6 s).1)++(q6 s).2.1:=g6.2.1;have e7:(q6 s).2.1=toB (beI 4 (q7 s).1)++(q7 s).2.1:=g7.2.1;have e8:(q7 s).2.1=toB (beI 4 (q8 s).1)++(q8 s).2.1:=g8.2.1;have e9:(q8 s).2.1=toB (beI 8 (q9 s).1)++(q9 s).2.1:=g9.2.1;have p4:(256:Int)^4=4294967296:=by decide
 have p8:(256:Int)^8=18446744073709551616:=by decide
 have r0:=k0a (s,false) 4;have r1:=k0a (q0 s).2 8;have r2:=k0a (q1 s).2 8;have r3:=k0a (q2 s).2 8;have r4:=k0a (q3 s).2 4;have r5:=k0a (q4 s).2 4;have r6:=k0a (q5 s).2 4;have r7:=k0a (q6 s).2 4;have r8:=k0a (q7 s).2 4;rw[p4] at r0 r4 r5 r6 r7 r8;rw[p8] at r1 r2 r3;have v0:(q0 s).1=(cfg s).1:=m0v r0.1 (Int.lt_trans r0.2 (by decide)) rfl hr.raw.1;have v1:(q1 s).1=(cfg s).2.1.1:=m0v r1.1 r1.2 rfl hr.w0.1;have v2:(q2 s).1=(cfg s).2.1.2.1:=m0v r2.1 r2.2 rfl hr.w1.1;have v3:(q3 s).1=(cfg s).2.1.2.2:=m0v r3.1 r3.2 rfl hr.w2.1
 have v4:(q4 s).1=(cfg s).2.2.1.1:=m0v r4.1 (Int.lt_trans r4.2 (by decide)) rfl hr.n0.1;have v5:(q5 s).1=(cfg s).2.2.1.2.1:=m0v r5.1 (Int.lt_trans r5.2 (by decide)) rfl hr.n1.1;have v6:(q6 s).1=(cfg s).2.2.1.2.2:=m0v r6.1 (Int.lt_trans r6.2 (by decide)) rfl hr.n2.1;have v7:(q7 s).1=(cfg s).2.2.2.1:=m0v r7.1 (Int.lt_trans r7.2 (by decide)) rfl hr.cap.1;have v8:(q8 s).1=(cfg s).2.2.2.2:=m0v r8.1 (Int.lt_trans r8.2 (by decide)) rfl hr.log.1;rw[v0,e1,v1,e2,v2,e3,v3,e4,v4,e5,v5,e6,v6,e7,v7,e8,v8,e9,h.z,h.left] at e0;generalize cfg s=c at *
 rw[e0];simp only[bts,c1z,q2x]
theorem k1m {c:Conf}(hr:Rng c):cfg (toB (bts c))=c/\Full (toB (bts c)):=by
 obtain ⟨raw,cap,log,w0,w1,w2,n0,n1,n2⟩:=hr;have p4:(256:Int)^4=4294967296:=by decide
 have p8:(256:Int)^8=18446744073709551616:=by decide
 have e:toB (bts c)=toB (beI 4 c.1)++(toB (beI 8 c.2.1.1)++(toB (beI 8 c.2.1.2.1)++(toB (beI 8 c.2.1.2.2)++(toB (beI 4 c.2.2.1.1)++(toB (beI 4 c.2.2.1.2.1)++(toB (beI 4 c.2.2.1.2.2)++(toB (beI 4 c.2.2.2.1)++(toB (beI 4 c.2.2.2.2)++(toB (beI 8 0)++[]))))))))):=by
  simp only[bts,c1z,q2x]
 rw[e];generalize hs:toB (beI 4 c.1)++_=s;have a0:q0 s=(c.1,(toB (beI 8 c.2.1.1)++(toB (beI 8 c.2.1.2.1)++(toB (beI 8 c.2.1.2.2)++(toB (beI 4 c.2.2.1.1)++(toB (beI 4 c.2.2.1.2.1)++(toB (beI 4 c.2.2.1.2.2)++(toB (beI 4 c.2.2.2.1)++(toB (beI 4 c.2.2.2.2)++(toB (beI 8 0)++[])))))))),false)):=by
  unfold q0;rw[<-hs,d1q,p4,Int.emod_eq_of_lt (by omega) (by omega)]
 have a1:q1 s=(c.2.1.1,(toB (beI 8 c.2.1.2.1)++(toB (beI 8 c.2.1.2.2)++(toB (beI 4 c.2.2.1.1)++(toB (beI 4 c.2.2.1.2.1)++(toB (beI 4 c.2.2.1.2.2)++(toB (beI 4 c.2.2.2.1)++(toB (beI 4 c.2.2.2.2)++(toB (beI 8 0)++[]))))))),false)):=by
  unfold q1;rw[a0,d1q,p8,Int.emod_eq_of_lt (by omega) (by omega)]
 have a2:q2 s=(c.2.1.2.1,(toB (beI 8 c.2.1.2.2)++(toB (beI 4 c.2.2.1.1)++(toB (beI 4 c.2.2.1.2.1)++(toB (beI 4 c.2.2.1.2.2)++(toB (beI 4 c.2.2.2.1)++(toB (beI 4 c.2.2.2.2)++(toB (beI 8 0)++[])))))),false)):=by
  unfold q2;rw[a1,d1q,p8,Int.emod_eq_of_lt (by omega) (by omega)]
 have a3:q3 s=(c.2.1.2.2,(toB (beI 4 c.2.2.1.1)++(toB (beI 4 c.2.2.1.2.1)++(toB (beI 4 c.2.2.1.2.2)++(toB (beI 4 c.2.2.2.1)++(toB (beI 4 c.2.2.2.2)++(toB (beI 8 0)++[]))))),false)):=by
  unfold q3;rw[a2,d1q,p8,Int.emod_eq_of_lt (by omega) (by omega)]
 have a4:q4 s=(c.2.2.1.1,(toB (beI 4 c.2.2.1.2.1)++(toB (beI 4 c.2.2.1.2.2)++(toB (beI 4 c.2.2.2.1)++(toB (beI 4 c.2.2.2.2)++(toB (beI 8 0)++[])))),false)):=by
  unfold q4;rw[a3,d1q,p4,Int.emod_eq_of_lt (by omega) (by omega)]
 have a5:q5 s=(c.2.2.1.2.1,(toB (beI 4 c.2.2.1.2.2)++(toB (beI 4 c.2.2.2.1)++(toB (beI 4 c.2.2.2.2)++(toB (beI 8 0)++[]))),false)):=by
  unfold q5;rw[a4,d1q,p4,Int.emod_eq_of_lt (by omega) (by omega)]
 have a6:q6 s=(c.2.2.1.2.2,(toB (beI 4 c.2.2.2.1)++(toB (beI 4 c.2.2.2.2)++(toB (beI 8 0)++[])),false)):=by
  unfold q6;rw[a5,d1q,p4,Int.emod_eq_of_lt (by omega) (by omega)]
 have a7:q7 s=(c.2.2.2.1,(toB (beI 4 c.2.2.2.2)++(toB (beI 8 0)++[]),false)):=by
  unfold q7;rw[a6,d1q,p4,Int.emod_eq_of_lt (by omega) (by omega)]
 have a8:q8 s=(c.2.2.2.2,(toB (beI 8 0)++[],false)):=by
  unfold q8;rw[a7,d1q,p4,Int.emod_eq_of_lt (by omega) (by omega)]
 have a9:q9 s=(0,([],false)):=by
  unfold q9;rw[a8,d1q,p8];rfl
 refine ⟨?_,by rw[a9],by rw[a9],by rw[a9]⟩;unfold cfg;rw[a0,a1,a2,a3,a4,a5,a6,a7,a8];dsimp only;rw[w64 (x:=c.1) (by omega) (by omega),w64 (x:=c.2.1.1) (by omega) (by omega),w64 (x:=c.2.1.2.1) (by omega) (by omega),w64 (x:=c.2.1.2.2) (by omega) (by omega),w64 (x:=c.2.2.1.1) (by omega) (by omega),
  w64 (x:=c.2.2.1.2.1) (by omega) (by omega),w64 (x:=c.2.2.1.2.2) (by omega) (by omega),w64 (x:=c.2.2.2.1) (by omega) (by omega),w64 (x:=c.2.2.2.2) (by omega) (by omega)]
theorem t1c (n:Nat)(s:List UInt8):o0v (n+4) s =
  (if (q9 s).1=0 then tif (q9 s).2.2 (some (cfg0,4)) (if (0:Int)<(((q9 s).2.1.length:Nat):Int) then some (cfg0,4) else
   a0a (e0u (n+3) (cfg s)) fun r13=>if r13=0 then some (cfg s,0) else some (cfg0,4)) else some (cfg0,4)):=by
 rw[w1o,f0f];simp only[obs];rw[a0v n _ 4 4 rfl (by omega) (by omega)];simp only[obs];rw[a0v n _ 8 8 rfl (by omega) (by omega)];simp only[obs];rw[a0v n _ 8 8 rfl (by omega) (by omega)];simp only[obs];rw[a0v n _ 8 8 rfl (by omega) (by omega)];simp only[obs];rw[a0v n _ 4 4 rfl (by omega) (by omega)];simp only[obs];rw[a0v n _ 4 4 rfl (by omega) (by omega)];simp only[obs];rw[a0v n _ 4 4 rfl (by omega) (by omega)];simp only[obs];rw[a0v n _ 4 4 rfl (by omega) (by omega)];simp only[obs]
 rw[a0v n _ 4 4 rfl (by omega) (by omega)];simp only[obs];rw[a0v n _ 8 8 rfl (by omega) (by omega)];simp only[obs,d0o,i0o,tfd,tfn];rfl
theorem b2s (n:Nat){s:List UInt8}(h:OkC (cfg s))(hf:Full s):o0v (n+4) s=some (cfg s,0):=by
 rw[t1c,q0z hf.z,hf.good,hf.left,x0i n h];rfl
theorem i2u (n:Nat){s:List UInt8}(h:¬(OkC (cfg s)/\Full s)):o0v (n+4) s=some (cfg0,4):=by
 rw[t1c];by_cases h1:(q9 s).1=0
 case neg=>rw[q0n h1]
 rw[q0z h1];cases h2:(q9 s).2.2 with
 | true=>rfl
 | false =>
  simp only[tff];by_cases h3:(q9 s).2.1=[]
  ·rw[h3];have hno:¬OkC (cfg s):=fun hc=>h ⟨hc,h1,h2,h3⟩
   rw[d2j n hno];rfl
  ·rw[q0z];have:0<(q9 s).2.1.length:=List.length_pos_iff.2 h3;omega
theorem b1i (n:Nat)(s:List UInt8):b1l (n+5) s =
  a0a (f0q (n+4) (cfg s)) fun r9=>if r9=0 then a0a (v0i (n+4) (cfg s)) fun r10=>tif (r10==s) (some (cfg s,0)) (some (cfg0,4)) else some (cfg0,4):=by
 rw[y1y];rw[c0i (n+2) _ 4 4 rfl (by omega) (by omega)];simp only[obs];rw[c0i (n+2) _ 8 8 rfl (by omega) (by omega)];simp only[obs];rw[c0i (n+2) _ 8 8 rfl (by omega) (by omega)];simp only[obs];rw[c0i (n+2) _ 8 8 rfl (by omega) (by omega)];simp only[obs];rw[c0i (n+2) _ 4 4 rfl (by omega) (by omega)];simp only[obs];rw[c0i (n+2) _ 4 4 rfl (by omega) (by omega)];simp only[obs];rw[c0i (n+2) _ 4 4 rfl (by omega) (by omega)];simp only[obs];rw[c0i (n+2) _ 4 4 rfl (by omega) (by omega)]
 simp only[obs];rw[c0i (n+2) _ 4 4 rfl (by omega) (by omega)];simp only[obs,tfd,tfn];rfl
theorem t1z (n:Nat){s:List UInt8}(h:OkC (cfg s))(hf:Full s):b1l (n+5) s=some (cfg s,0):=by
 rw[b1i,j0l (n+1) h];simp only[obs];rw[q0z trivial,v0g n h,g2b h.rng hf];simp
theorem y1x (n:Nat){s:List UInt8}(h:¬(OkC (cfg s)/\Full s)):b1l (n+5) s=some (cfg0,4):=by
 rw[b1i];by_cases hc:OkC (cfg s)
 ·rw[j0l (n+1) hc];simp only[obs];rw[q0z trivial,v0g n hc];have hne:(toB (bts (cfg s))==s)=false:=by
   cases he:toB (bts (cfg s))==s with
   | false=>rfl
   | true =>
    exfalso;have he:=eq_of_beq he;have:=(k1m hc.rng).2;rw[he] at this;exact h ⟨hc,this⟩
  simp[hne]
 ·rw[f1j (n+1) hc];rfl
abbrev Lab:=List UInt8×List UInt8
def sgn (c:Int):Prop:=(97<=c/\c<=122)\/(65<=c/\c<=90)\/(48<=c/\c<=57)\/c=95
instance (c:Int):Decidable (sgn c):=by unfold sgn;infer_instance
def f1u (c:Int):Prop:=48<=c/\c<=57
instance (c:Int):Decidable (f1u c):=by unfold f1u;infer_instance
def k0t:List UInt8->Prop
 | []=>False
 | b::r=>(b::r).length<=64/\¬f1u (b.toNat:Int)/\∀x∈b::r,sgn (x.toNat:Int)
instance:(s:List UInt8)->Decidable (k0t s)
 | [] => .isFalse id
 | b::r=>by unfold k0t;infer_instance
theorem low_all:∀c:Fin 256,(97<=orI .u8 (c.val:Int) 32/\orI .u8 (c.val:Int) 32<=122)↔((97<=(c.val:Int)/\(c.val:Int)<=122)\/(65<=(c.val:Int)/\(c.val:Int)<=90)):=by decide +kernel
theorem low (c:Int)(h:0<=c/\c<=255):(97<=orI .u8 c 32/\orI .u8 c 32<=122)↔((97<=c/\c<=122)\/(65<=c/\c<=90)):=by
 obtain ⟨k,rfl⟩:=Int.eq_ofNat_of_zero_le h.1;exact low_all ⟨k,by omega⟩
theorem v0w (n:Nat)(c:Int):t0h (n+1) c=some (decide (f1u c)):=by
 rw[l1r];unfold f1u;by_cases h1:(48:Int)<=c<;>by_cases h2:c<=57<;>simp[h1,h2]
theorem l1o (n:Nat)(c:Int)(h:0<=c/\c<=255):e1d (n+2) c=some (decide (sgn c)):=by
 rw[q1m,v0w];simp only[obs,tfd];have hl:=low c h;by_cases h1:f1u c
 ·rw[q0z h1,q2a (show sgn c from .inr (.inr (.inl h1)))]
 rw[q0n h1];by_cases h2:c=95
 ·rw[q0z h2,q2a (show sgn c from .inr (.inr (.inr h2)))]
 rw[q0n h2];by_cases h3:97<=orI .u8 c 32
 ·rw[q0z h3];refine congrArg some (q2t.2 ?_);constructor
  ·intro k;rcases hl.1 ⟨h3,k⟩ with q | q
   ·exact .inl q
   ·exact .inr (.inl q)
  ·intro k;rcases k with k | k | k | k
   ·exact (hl.2 (.inl k)).2
   ·exact (hl.2 (.inr k)).2
   ·exact absurd k h1
   ·exact absurd k h2
 ·rw[q0n h3,q1z];intro k;rcases k with k | k | k | k
  ·exact h3 (hl.2 (.inl k)).1
  ·exact h3 (hl.2 (.inr k)).1
  ·exact h1 k
  ·exact h2 k
theorem f2z (n:Nat){del:Int×Unit->Option Bool}{p:Int->Bool}(l:List Int)(hL:l.length<=1000000000000)(hd:∀x∈l,del (x,())=some (p x)):∀(rest pre:List Int) (f:Nat) (i len:Int),l=pre++rest->i=pre.length->len=l.length->rest.length<f ->
  (e0c n f (l,del,len,i,())=some (.inl ())/\∀x∈rest,p x=false) \/
  (∃k:Int,0<=k/\e0c n f (l,del,len,i,())=some (.inr k)/\∃x∈rest,p x=true):=by
 intro rest;induction rest with
 | nil =>
  intro pre f i len hl hi hn hf;obtain ⟨f,rfl⟩:=FSu hf;rw[j0u];exact .inl ⟨by simp only[tfd,q0n (idxe hl hi hn)],by simp⟩
 | cons x rest ih =>
  intro pre f i len hl hi hn hf;obtain ⟨f,rfl⟩:=FSu hf;rw[j0u];simp only[tfd,q0z (idx hl hi hn),b0o hl hi,obs,hd x (by rw[hl];simp),idxw hl hi hL];cases hp:p x with
  | true=>exact .inr ⟨i,by omega,by simp,x,by simp,hp⟩
  | false =>
   rw[tff];rcases ih (pre++[x]) f (i+1) len (idxl hl) (idxs hi) hn (by simp at hf;omega) with ⟨h1,h2⟩ | ⟨k,h1,h2,y,hy,h3⟩
   ·exact .inl ⟨h1,by intro z hz;rcases q2m.1 hz with rfl | hz;exact hp;exact h2 z hz⟩
   ·exact .inr ⟨k,h1,h2,y,by simp[hy],h3⟩
theorem r1l (n:Nat){del:Int×Unit->Option Bool}{p:Int->Bool}(l:List Int)(hL:l.length<=1000000000000)(hd:∀x∈l,del (x,())=some (p x)):i0k (n+2) l del=some (l.any p):=by
 rw[s0j,x0m];rcases f2z n l hL hd l [] a0b 0 l.length rfl rfl rfl (by unfold a0b;omega) with ⟨h1,h2⟩ | ⟨k,h1,h2,x,hx,h3⟩
 ·rw[h1];have:l.any p=false:=by rw[List.any_eq_false];intro x hx;simp[h2 x hx]
  rw[this];rfl
 ·rw[h2];have:l.any p=true:=List.any_eq_true.2 ⟨x,hx,h3⟩;simp[this,h1]
theorem l1q (n:Nat)(s:List UInt8):e1f (n+5) s=some (decide (k0t s)):=by
 rw[q1o]
 match s with
 | []=>rfl
 | b::r =>
  have e1:((b::r)==[])=false:=rfl;have e2:at? (b::r) (0:Int)=some b:=rfl;rw[e1,tff,e2,obs,v0w,obs];simp only[tfd];by_cases h1:(64:Int)<(b::r).length
  ·rw[q0z h1,q1z (fun k:k0t (b::r)=>by have:=k.1;omega)]
  rw[q0n h1];by_cases h2:f1u (b.toNat:Int)
  ·rw[q0z h2,q1z (fun k:k0t (b::r)=>k.2.1 h2)]
  rw[q0n h2,r1l (p:=fun c => !decide (sgn c)) (n+2) _ (by simp at h1 ⊢;omega) (fun x hx=>by
   obtain ⟨c,_,rfl⟩:=q3k.1 hx;have:=c.toNat_lt;show v0v (n+3+1) _=_
   rw[j1r,l1o (n+1) _ (by omega)];rfl)]
  simp only[obs];refine congrArg some ?_;by_cases h3:∀x∈b::r,sgn (x.toNat:Int)
  ·rw[q2a (show k0t (b::r) from ⟨by omega,h2,h3⟩)];rw[List.any_eq_false.2]
   ·rfl
   ·intro x hx;obtain ⟨c,hc,rfl⟩:=q3k.1 hx;simp[h3 c hc]
  ·rw[q1z (fun k:k0t (b::r)=>h3 k.2.2)];have:∃x∈b::r,¬sgn (x.toNat:Int):=Classical.byContradiction fun k=>h3 fun x hx=>Classical.byContradiction fun q=>k ⟨x,hx,q⟩
   obtain ⟨x,hx,hq⟩:=this;rw[List.any_eq_true.2 ⟨(x.toNat:Int),q3k.2 ⟨x,hx,rfl⟩,by simp[hq]⟩];rfl
theorem f2c (n:Nat)(s:List UInt8)(hL:s.length<=1000000000000):∀(rest pre:List UInt8) (f:Nat) (i:Int),s=pre++rest->i=pre.length->rest.length<f ->
  b0x n f (s,i,())=some (if ∀x∈rest,sgn (x.toNat:Int) then .inl () else .inr false):=by
 intro rest;induction rest with
 | nil =>
  intro pre f i hl hi hf;obtain ⟨f,rfl⟩:=FSu hf;rw[y0c];simp[tfd,q0n (idxe hl hi rfl)]
 | cons x rest ih =>
  intro pre f i hl hi hf;obtain ⟨f,rfl⟩:=FSu hf;rw[y0c];simp only[tfd,tfn,q0z (idx hl hi rfl),b0o hl hi,obs,idxw hl hi hL];rw[ih (pre++[x]) f (i+1) (idxl hl) (idxs hi) (by simp at hf;omega)];have hsplit:(∀y∈x::rest,sgn (y.toNat:Int))↔sgn (x.toNat:Int)/\∀y∈rest,sgn (y.toNat:Int):=by simp
  generalize hR:(some (if ∀y∈rest,sgn (y.toNat:Int) then (Sum.inl ():Unit ⊕ Bool) else .inr false))=R;have good:sgn (x.toNat:Int)->R=some (if ∀y∈x::rest,sgn (y.toNat:Int) then .inl () else .inr false):=by
   intro hx;rw[<-hR];by_cases h:∀y∈rest,sgn (y.toNat:Int)
   ·rw[q0z h,q0z (hsplit.2 ⟨hx,h⟩)]
   ·rw[q0n h,q0n (fun k=>h (hsplit.1 k).2)]
  have bad:¬sgn (x.toNat:Int)->some (.inr false)=some (if ∀y∈x::rest,sgn (y.toNat:Int) then (Sum.inl ():Unit ⊕ Bool) else .inr false):=by
   intro hx;rw[q0n (fun k=>hx (hsplit.1 k).1)]
  have hc:=x.toNat_lt;generalize (x.toNat:Int)=c at *
  clear hR ih;unfold sgn at good bad;by_cases a1:(97:Int)<=c<;>by_cases a2:c<=122<;>by_cases a3:(65:Int)<=c<;>by_cases a4:c<=90<;>by_cases a5:(48:Int)<=c<;>by_cases a6:c<=57<;>by_cases a7:c=95 <;>
   first
    | omega
    | (simp only[a1,a2,a3,a4,a5,a6,a7,if_true,if_false];first | exact good (by omega) | exact bad (by omega))
    | (simp[a1,a2,a3,a4,a5,a6,a7];done)
theorem u1i (n:Nat)(s:List UInt8):p1v (n+1) s=some (decide (k0t s)):=by
 rw[z1c]
 match s with
 | []=>rfl
 | b::r =>
  have e2:at? (b::r) (0:Int)=some b:=rfl;rw[e2,obs,obs];simp only[tfd];rw[q0n (show ¬(((b::r).length:Int)<1) by simp;omega)];by_cases h1:(64:Int)<(b::r).length
  ·rw[q0z h1,q1z (fun k:k0t (b::r)=>by have:=k.1;omega)]
  rw[q0n h1,f2c n (b::r) (by omega) (b::r) [] a0b 0 rfl rfl (by unfold a0b;omega)];simp only[obs];have fin:¬f1u (b.toNat:Int)->(b0g (fun _:Unit=>some true) (fun z4=>some z4) (if ∀x∈b::r,sgn (x.toNat:Int) then .inl () else .inr false))=some (decide (k0t (b::r))):=by
   intro h2;by_cases h3:∀x∈b::r,sgn (x.toNat:Int)
   ·rw[q0z h3,q2a (show k0t (b::r) from ⟨by omega,h2,h3⟩)];rfl
   ·rw[q0n h3,q1z (fun k:k0t (b::r)=>h3 k.2.2)];rfl
  by_cases h4:(48:Int)<=(b.toNat:Int)
  ·rw[q0z h4];by_cases h5:(b.toNat:Int)<=57
   ·rw[q0z h5,q1z (fun k:k0t (b::r)=>k.2.1 ⟨h4,h5⟩)]
   ·rw[q0n h5];exact fin (fun k=>h5 k.2)
  ·rw[q0n h4];exact fin (fun k=>h4 k.1)
def chkL:Option (List UInt8)->List Lab->Prop
 | _,[]=>True
 | p,x::r=>k0t x.1/\x.2.length<=128/\(∀q,p=some q->Op.bytesLess q x.1=true)/\chkL (some x.1) r
def sumL (l:List Lab):Int:=(l.map fun x=>((x.1.length:Int)+x.2.length)).sum
theorem x1n (l:List Lab):0<=sumL l:=by
 induction l with
 | nil=>simp[sumL]
 | cons x l ih=>simp only[sumL,q3m,List.sum_cons] at *;omega
theorem z0z (x:Lab)(l:List Lab):sumL (x::l)=x.1.length+x.2.length+sumL l:=by simp[sumL]
theorem k0t.len {s:List UInt8}(h:k0t s):s.length<=64:=by
 match s with
 | []=>simp
 | b::r=>exact h.1
structure LabOk (l:List Lab):Prop where
 n0:1<=l.length
 n1:l.length<=16
 c:chkL none l
 t:sumL l<=256
noncomputable instance (l:List Lab):Decidable (LabOk l):=Classical.propDecidable _
theorem j2m {l pre rest:List Lab}{x:Lab}{i:Int}(hl:l=pre++x::rest)(hi:i=pre.length)(hL:l.length<=1000000)(h:0<i):∃q,pre.getLast? = some q/\at? l (wrap .i64 (i-1))=some q:=by
 rcases List.eq_nil_or_concat pre with rfl | ⟨q,y,rfl⟩
 ·simp at hi;omega
 rw[List.concat_eq_append] at *
 have hlen:=congrArg List.length hl;simp at hlen hi;refine ⟨y,by simp,?_⟩;rw[w64 (by omega) (by omega)];exact b0o (pre:=q) (rest:=x::rest) (by rw[hl];simp) (by omega)
theorem q1p (n:Nat)(l:List Lab)(hL:l.length<=16):∀(rest pre:List Lab) (f:Nat) (left i len:Int),l=pre++rest->i=pre.length->len=l.length->rest.length<f->0<=left->left<=256 ->
  (chkL (pre.getLast?.map (·.1)) rest/\sumL rest<=left->g0o (n+5) f (l,left,l,len,i,())=some (.inl ())) /\
  (¬(chkL (pre.getLast?.map (·.1)) rest/\sumL rest<=left)->g0o (n+5) f (l,left,l,len,i,())=some (.inr 8)):=by
 intro rest;induction rest with
 | nil =>
  intro pre f left i len hl hi hn hf h0 h1;obtain ⟨f,rfl⟩:=FSu hf;rw[r0m];refine ⟨fun _=>by simp only[tfd,q0n (idxe hl hi hn)],fun k=>absurd ⟨trivial,by simpa [sumL] using h0⟩ k⟩
 | cons x rest ih =>
  intro pre f left i len hl hi hn hf h0 h1;obtain ⟨f,rfl⟩:=FSu hf;rw[r0m];have hsn:=x1n rest;simp only[tfd,tfn,q0z (idx hl hi hn),b0o hl hi,obs,idxw hl hi (by omega),l1q n x.1];rw[z0z];by_cases c1:k0t x.1
  case neg=>rw[q0n c1];exact ⟨fun k=>absurd k.1.1 c1,fun _=>rfl⟩
  rw[q0z c1];have hn1:=c1.len;by_cases c2:(128:Int)<x.2.length
  ·rw[q0z c2];exact ⟨fun k=>by have:=k.1.2.1;omega,fun _=>rfl⟩
  rw[q0n c2,w64 (x:=(x.1.length:Int)+x.2.length) (by omega) (by omega),w64 (x:=left-((x.1.length:Int)+x.2.length)) (by omega) (by omega)];by_cases c3:left-((x.1.length:Int)+x.2.length)<0
  ·rw[q0z c3];exact ⟨fun k=>by have:=k.2;omega,fun _=>rfl⟩
  rw[q0n c3];have ih':=ih (pre++[x]) f (left-((x.1.length:Int)+x.2.length)) (i+1) len (idxl hl) (idxs hi) hn (by simp at hf;omega) (by omega) (by omega);have el:(pre++[x]).getLast?.map (·.1)=some x.1:=by simp
  rw[el] at ih';have step:(∀q,pre.getLast?.map (·.1)=some q->Op.bytesLess q x.1=true) ->
    ((chkL (pre.getLast?.map (·.1)) (x::rest)/\(x.1.length:Int)+x.2.length+sumL rest<=left)↔(chkL (some x.1) rest/\sumL rest<=left-((x.1.length:Int)+x.2.length))):=by
   intro hq;constructor
   ·rintro ⟨k1,k2⟩;exact ⟨k1.2.2.2,by omega⟩
   ·rintro ⟨k1,k2⟩;exact ⟨⟨c1,by omega,hq,k1⟩,by omega⟩
  by_cases c4:0<i
  ·obtain ⟨q,hq,hat⟩:=j2m hl hi (by omega) c4;rw[q0z c4,hat,obs];by_cases c5:Op.bytesLess q.1 x.1=true
   ·rw[c5,tft,step (fun z hz=>by rw[hq] at hz;simp at hz;rw[<-hz];exact c5)];exact ih'
   ·have c5':Op.bytesLess q.1 x.1=false:=by simpa using c5
    rw[c5',tff];exact ⟨fun k=>absurd (k.1.2.2.1 q.1 (by rw[hq];rfl)) c5,fun _=>rfl⟩
  ·have hp:pre=[]:=List.length_eq_zero_iff.1 (by omega);rw[q0n c4,step (fun z hz=>by rw[hp] at hz;cases hz)];exact ih'
theorem t0i (n:Nat)(l:List Lab):o0l (n+6) l=some (if LabOk l then 0 else 8):=by
 rw[l1s];simp only[tfd];by_cases h1:(l.length:Int)=0
 ·rw[q0z h1,q0n (fun k:LabOk l=>by have:=k.n0;omega)]
 by_cases h2:(16:Int)<l.length
 ·rw[q0n h1,q0z h2,q0n (fun k:LabOk l=>by have:=k.n1;omega)]
 rw[q0n h1,q0n h2];have hl:=q1p n l (by omega) l [] a0b 256 0 l.length rfl rfl rfl (by unfold a0b;omega) (by decide) (by decide);by_cases h3:chkL none l/\sumL l<=256
 ·rw[hl.1 h3,q0z (⟨by omega,by omega,h3.1,h3.2⟩:LabOk l)];rfl
 ·rw[hl.2 h3,q0n (fun k:LabOk l=>h3 ⟨k.c,k.t⟩)];rfl
theorem z1d (n:Nat)(l:List Lab)(hL:l.length<=16):∀(rest pre:List Lab) (f:Nat) (all i len:Int),l=pre++rest->i=pre.length->len=l.length->rest.length<f->0<=all->all<=192*pre.length ->
  (chkL (pre.getLast?.map (·.1)) rest->j0m (n+1) f (l,all,l,len,i,())=some (.inl (all+sumL rest,()))) /\
  (¬chkL (pre.getLast?.map (·.1)) rest->j0m (n+1) f (l,all,l,len,i,())=some (.inr 8)):=by
 intro rest;induction rest with
 | nil =>
  intro pre f left i len hl hi hn hf h0 h1;obtain ⟨f,rfl⟩:=FSu hf;rw[v0l];refine ⟨fun _=>by simp only[tfd,q0n (idxe hl hi hn),sumL,List.map_nil,List.sum_nil,Int.add_zero],fun k=>absurd trivial k⟩
 | cons x rest ih =>
  intro pre f left i len hl hi hn hf h0 h1;obtain ⟨f,rfl⟩:=FSu hf;rw[v0l];have hsn:=x1n rest;have hpl:pre.length+1<=l.length:=by have:=congrArg List.length hl;simp at this;omega
  simp only[tfd,tfn,q0z (idx hl hi hn),b0o hl hi,obs,idxw hl hi (by omega),u1i n x.1];rw[z0z];by_cases c1:k0t x.1
  case neg=>rw[q0n c1];exact ⟨fun k=>absurd k.1 c1,fun _=>rfl⟩
  rw[q0z c1];have hn1:=c1.len;by_cases c2:(128:Int)<x.2.length
  ·rw[q0z c2];exact ⟨fun k=>by have:=k.2.1;omega,fun _=>rfl⟩
  rw[q0n c2,w64 (x:=(x.1.length:Int)+x.2.length) (by omega) (by omega),w64 (x:=left+((x.1.length:Int)+x.2.length)) (by omega) (by omega)];have ih':=ih (pre++[x]) f (left+((x.1.length:Int)+x.2.length)) (i+1) len (idxl hl) (idxs hi) hn (by simp at hf;omega) (by omega) (by simp;omega);have el:(pre++[x]).getLast?.map (·.1)=some x.1:=by simp
  rw[el] at ih';have ea:left+((x.1.length:Int)+x.2.length+sumL rest)=left+((x.1.length:Int)+x.2.length)+sumL rest:=by omega
  rw[ea];have step:(∀q,pre.getLast?.map (·.1)=some q->Op.bytesLess q x.1=true)->(chkL (pre.getLast?.map (·.1)) (x::rest)↔chkL (some x.1) rest):=by
   intro hq;constructor
   ·intro k;exact k.2.2.2
   ·intro k;exact ⟨c1,by omega,hq,k⟩
  by_cases c4:0<i
  ·obtain ⟨q,hq,hat⟩:=j2m hl hi (by omega) c4;rw[q0z c4,hat,obs];by_cases c5:Op.bytesLess q.1 x.1=true
   ·rw[c5,tft,step (fun z hz=>by rw[hq] at hz;simp at hz;rw[<-hz];exact c5)];exact ih'
   ·have c5':Op.bytesLess q.1 x.1=false:=by simpa using c5
    rw[c5',tff];exact ⟨fun k=>absurd (k.2.2.1 q.1 (by rw[hq];rfl)) c5,fun _=>rfl⟩
  ·have hp:pre=[]:=List.length_eq_zero_iff.1 (by omega);rw[q0n c4,step (fun z hz=>by rw[hp] at hz;cases hz)];exact ih'
theorem b1n (n:Nat)(l:List Lab):v0m (n+2) l=some (if LabOk l then 0 else 8):=by
 rw[u1m];simp only[tfd];by_cases h1:(l.length:Int)<1
 ·rw[q0z h1,q0n (fun k:LabOk l=>by have:=k.n0;omega)]
 by_cases h2:(16:Int)<l.length
 ·rw[q0n h1,q0z h2,q0n (fun k:LabOk l=>by have:=k.n1;omega)]
 rw[q0n h1,q0n h2];have hl:=z1d n l (by omega) l [] a0b 0 0 l.length rfl rfl rfl (by unfold a0b;omega) (by decide) (by simp);by_cases h3:chkL none l
 ·rw[hl.1 h3];simp only[obs,a0m,Int.zero_add];by_cases h4:(256:Int)<sumL l
  ·rw[q0z h4,q0n (fun k:LabOk l=>by have:=k.t;omega)]
  ·rw[q0n h4,q0z (⟨by omega,by omega,h3,by omega⟩:LabOk l)]
 ·rw[hl.2 h3,q0n (fun k:LabOk l=>h3 k.c)];rfl
theorem labEq (a b:Lab):((a.1==b.1)&&(a.2==b.2))=decide (a=b):=by
 rw[Bool.eq_iff_iff];simp[Prod.ext_iff]
theorem l0d {d f:Nat}(h:d<f):∃g,f=g+1:=⟨f-1,by omega⟩
theorem uint_l (n:Nat):∀(m f:Nat) (w:List Int) (v:Int),v.toNat<=m->0<=v->m<f->w.length+(uvI v).length<=140737488355328 ->
  ∃w' v',f0l n f (w,v,())=some (.inl (w',(v',())))/\w'++[v']=w++uvI v/\0<=v'/\v'<128:=by
 intro m;induction m using Nat.strongRecOn with
 | _ m ih =>
  intro f w v hm h0 hf hl;obtain ⟨f,rfl⟩:=l0d hf;rw[t0q,tfd];by_cases h:v<128
  ·rw[q0n (by omega)];exact ⟨w,v,rfl,by rw[s1d h0 h],h0,h⟩
  ·rw[o1r h0 h] at hl;simp only[q2k] at hl;rw[q0z (by omega),q2a (show (w.length+1)*1<=140737488355328 by omega),tft,or128,shr7 h0];obtain ⟨w',v',e1,e2,e3,e4⟩:=ih (v / 128).toNat (by omega) f (w++[v % 128+128]) (v / 128) (q2e _) (by omega) (by omega) (by simp only[q2d,List.length_singleton];omega);exact ⟨w',v',e1,by rw[e2,o1r h0 h];simp,e3,e4⟩
theorem b2e (n:Nat){v:Int}(h0:0<=v)(h1:v<=18446744073709551615){w:List Int}(hl:w.length+(uvI v).length<=140737488355328):i0c (n+1) w v=some (w++uvI v):=by
 obtain ⟨w',v',e1,e2,e3,e4⟩:=uint_l n v.toNat a0b w v (q2e _) h0 (by unfold a0b;omega) hl;have hlen:w'.length+1<=140737488355328:=by
  have:=congrArg List.length e2;simp only[q2d,List.length_singleton] at this;omega
 rw[x0p,e1,obs,a0m,q2a (show (w'.length+1)*1<=140737488355328 by omega),tft,y0j,Int.emod_eq_of_lt e3 (by omega),e2]
theorem o1s:∀(m:Nat) (v:Int),v.toNat<=m->0<=v->(uvI v).length<=v.toNat+1:=by
 intro m;induction m using Nat.strongRecOn with
 | _ m ih =>
  intro v hm h0;by_cases h:v<128
  ·rw[s1d h0 h];simp
  ·rw[o1r h0 h];have:=ih (v / 128).toNat (by omega) (v / 128) (q2e _) (by omega);simp only[q2k];omega
theorem e1s (a b:List UInt8):c0c (a++b)=c0c a++c0c b:=by simp[c0c]
theorem j0r (a:List UInt8):(c0c a).length=a.length:=by simp[c0c]
theorem o1q (n:Nat):uvI (n:Int)=c0c (uvB n):=by unfold uvI;rw[q2i]
theorem h2k {s:List UInt8}(h:s.length<=256):(txB s).length<=1000:=by
 have:=o1s s.length (s.length:Int) (by simp) (by omega);rw[o1q,j0r] at this;unfold txB;rw[q2d];simp at this;omega
theorem p1j (n:Nat){w:List Int}{s:List UInt8}(h:w.length+s.length<=140737488355328):e0v (n+1) w s=some (w++c0c s):=by
 rw[z0i,List.length_map,q2a (show (w.length+s.length)*1<=140737488355328 by omega),tft];rfl
theorem b2h (n:Nat){w:List Int}{s:List UInt8}(hs:s.length<=256)(h:w.length<=1000000):i0d (n+2) w s=some (w++c0c (txB s)):=by
 have h1:=o1s s.length (s.length:Int) (by simp) (by omega);have h2:(s.length:Int).toNat=s.length:=by simp
 rw[x0q,wu64 (by omega) (by omega),b2e n (by omega) (by omega) (by omega),obs,p1j n (by rw[q2d];omega),obs,q2g,o1q,<-e1s];rfl
theorem j1l (n:Nat)(w:List Int):d0h (n+1) w=some (toB w,w):=by rw[o0w];rfl
theorem lab_len {l:List Lab}(h:LabOk l):∀x∈l,x.1.length<=256/\x.2.length<=256:=by
 have key:∀l:List Lab,∀x∈l,(x.1.length:Int)+x.2.length<=sumL l:=by
  intro l;induction l with
  | nil=>intro x hx;cases hx
  | cons y l ih =>
   intro x hx;rw[z0z];have:=x1n l;rcases q2m.1 hx with rfl | hx
   ·omega
   ·have:=ih x hx;omega
 intro x hx;have:=key l x hx;have:=h.t;omega
theorem bytes_l (n:Nat){l:List Lab}(hl:LabOk l):∀(rest pre:List Lab) (f:Nat) (w:List Int) (ix len:Int),l=pre++rest->ix=pre.length->len=l.length->rest.length<f->w.length+2000*rest.length<=100000 ->
  l0m (n+2) f (w,l,len,ix,())=some (.inl (w++c0c (rest.flatMap fun x=>txB x.1++txB x.2),())):=by
 intro rest;induction rest with
 | nil =>
  intro pre f w ix len ha hi hn hf hw;obtain ⟨f,rfl⟩:=l0d hf;rw[r0n,q1z (idxe ha hi hn),tff];simp[c0c]
 | cons x r ih =>
  intro pre f w ix len ha hi hn hf hw;obtain ⟨f,rfl⟩:=l0d hf;simp only[q2k] at hw;obtain ⟨k1,k2⟩:=lab_len hl x (by rw[ha];simp);have t1:=h2k k1;have t2:=h2k k2;have hL:l.length<=1000000000000:=by have:=hl.n1;omega
  rw[r0n,q2a (idx ha hi hn),tft,b0o ha hi,obs,b2h n k1 (by omega),obs,b2h n k2 (by rw[q2d,j0r];omega),obs,idxw ha hi hL];rw[ih (pre++[x]) f _ (ix+1) len (idxl ha) (idxs hi) hn (by simp at hf;omega) (by simp only[q2d,j0r];omega)];simp only[q3l,e1s,q2g]
theorem a2c (n:Nat)(l:List Lab):y0v (n+7) l=some (if LabOk l then (labB l,0) else ([],8)):=by
 rw[l1t,t0i n l,obs,tfn,tfd];by_cases h:LabOk l
 case neg=>rw[q0n h,q0n h,q0n (by decide)]
 rw[q0z h,q0z h,q0z rfl];have hn:=h.n1;have h1:=o1s l.length (l.length:Int) (by simp) (by omega);have h2:(l.length:Int).toNat=l.length:=by simp
 rw[wu64 (by omega) (by omega),b2e (n+5) (by omega) (by omega) (by simp only[List.length_nil];omega),obs,bytes_l (n+4) h l [] a0b _ 0 _ rfl rfl rfl (by unfold a0b;omega) (by simp only[q2r];omega),obs,a0m,j1l (n+5),obs];rw[q2r,o1q,<-e1s,w0i];rfl
end Go.Proofs.YtagnkfbpgkckiaaGreat
namespace Go.Plim
variable {α:Type}
def Srt (key:α->Int)(d:List α)(a b:Nat):Prop:=∀i j x y,a<=i->i<j->j<b->d[i]? = some x->d[j]? = some y->key x<=key y
structure Mv (d d':List α)(a b:Nat):Prop where
 perm:d'.Perm d
 out:∀i,(i<a\/b<=i)->d'[i]? = d[i]?
 ins:∀i x,a<=i->i<b->d'[i]? = some x->∃j,a<=j/\j<b/\d[j]? = some x
theorem Mv.len {d d':List α}{a b:Nat}(h:Mv d d' a b):d'.length=d.length:=h.perm.length_eq
theorem Mv.refl (d:List α)(a b:Nat):Mv d d a b:=⟨.refl _,fun _ _=>rfl,fun i x h1 h2 h=>⟨i,h1,h2,h⟩⟩
theorem Mv.trans {d d' d'':List α}{a b:Nat}(h:Mv d d' a b)(g:Mv d' d'' a b):Mv d d'' a b :=
 ⟨g.perm.trans h.perm,fun i hi=>(g.out i hi).trans (h.out i hi),fun i x h1 h2 hx=>by
  obtain ⟨j,j1,j2,hj⟩:=g.ins i x h1 h2 hx
  exact h.ins j x j1 j2 hj⟩
theorem Mv.mono {d d':List α}{a b a' b':Nat}(h:Mv d d' a b)(ha:a'<=a)(hb:b<=b'):Mv d d' a' b' :=
 ⟨h.perm,fun i hi=>h.out i (by omega),fun i x h1 h2 hx=>by
  by_cases k:a<=i/\i<b
  ·obtain ⟨j,j1,j2,hj⟩:=h.ins i x k.1 k.2 hx;exact ⟨j,by omega,by omega,hj⟩
  ·rw[h.out i (by omega)] at hx
   exact ⟨i,h1,h2,hx⟩⟩
theorem Srt.mono {key:α->Int}{d:List α}{a b a' b':Nat}(h:Srt key d a b)(ha:a<=a')(hb:b'<=b):Srt key d a' b' :=
 fun i j x y h1 h2 h3=>h i j x y (by omega) h2 (by omega)
theorem Srt.keep {key:α->Int}{d d':List α}{a b p q:Nat}(h:Srt key d p q)(m:Mv d d' a b)(hd:q<=a\/b<=p):Srt key d' p q :=
 fun i j x y h1 h2 h3 hx hy=>h i j x y h1 h2 h3 (by rw[<-m.out i (by omega)];exact hx) (by rw[<-m.out j (by omega)];exact hy)
theorem Srt.one (key:α->Int)(d:List α){a b:Nat}(h:b<=a+1):Srt key d a b:=fun i j _ _ h1 h2 h3=>by omega
theorem s0f {d:List α}{i j:Nat}{x y:α}(hi:d[i]? = some x)(hj:d[j]? = some y)(k:Nat) :
  ((d.set i y).set j x)[k]? = if k=j then some x else if k=i then some y else d[k]? := by
 have li:=(q2q.1 hi).1;have lj:=(q2q.1 hj).1;simp only[List.getElem?_set,List.length_set];by_cases e:j=k
 ·subst e;simp[lj]
 ·by_cases e':i=k
  ·subst e';simp[e,li,Ne.symm e]
  ·simp[e,e',Ne.symm e,Ne.symm e']
theorem x1m {d:List α}{i j a b:Nat}{x y:α}(hi:d[i]? = some x)(hj:d[j]? = some y)(i1:a<=i)(i2:i<b)(j1:a<=j)(j2:j<b):Mv d ((d.set i y).set j x) a b:=by
 have li:=(q2q.1 hi);have lj:=(q2q.1 hj);obtain ⟨li,rfl⟩:=li;obtain ⟨lj,rfl⟩:=lj;refine ⟨List.set_set_perm li lj,fun k hk => ?_,fun k z k1 k2 hz => ?_⟩
 ·rw[s0f hi hj,q0n (by omega),q0n (by omega)]
 ·rw[s0f hi hj] at hz;by_cases e:k=j
  ·rw[q0z e] at hz;exact ⟨i,i1,i2,by rw[<-hz,hi]⟩
  ·rw[q0n e] at hz;by_cases e':k=i
   ·rw[q0z e'] at hz;exact ⟨j,j1,j2,by rw[<-hz,hj]⟩
   ·rw[q0n e'] at hz;exact ⟨k,k1,k2,hz⟩
structure Turned (d d':List α)(a m b:Nat):Prop where
 mv:Mv d d' a b
 lo:∀i,a<=i->i<a+(b-m)->d'[i]? = d[i+(m-a)]?
 hi:∀i,a+(b-m)<=i->i<b->d'[i]? = d[i-(b-m)]?
theorem s1f {P U V S d d':List α}{a m b:Nat}(hd:d=P++(U++(V++S)))(hd':d'=P++(V++(U++S)))(ha:P.length=a)(hm:a+U.length=m)(hb:m+V.length=b):Turned d d' a m b:=by
 subst hd hd' ha hm hb;have perm:(P++(V++(U++S))).Perm (P++(U++(V++S))):=by
  refine List.Perm.append_left P ?_;rw[<-q2g,<-q2g];exact List.Perm.append_right S List.perm_append_comm
 have out:∀i,(i<P.length\/P.length+U.length+V.length<=i)->(P++(V++(U++S)))[i]? = (P++(U++(V++S)))[i]? := by
  intro i hi;rcases hi with hi | hi
  ·rw[q3c hi,q3c hi]
  ·rw[q2h (by omega),q2h (by omega),q2h (by omega),q2h (by omega),q2h (by omega),q2h (by omega)];congr 1;omega
 have lo:∀i,P.length<=i->i<P.length+(P.length+U.length+V.length-(P.length+U.length))->(P++(V++(U++S)))[i]? = (P++(U++(V++S)))[i+(P.length+U.length-P.length)]? := by
  intro i h1 h2;rw[q2h (by omega),q3c (by omega),q2h (by omega),q2h (by omega),q3c (by omega)];congr 1;omega
 have hi:∀i,P.length+(P.length+U.length+V.length-(P.length+U.length))<=i->i<P.length+U.length+V.length->(P++(V++(U++S)))[i]? = (P++(U++(V++S)))[i-(P.length+U.length+V.length-(P.length+U.length))]? := by
  intro i h1 h2;rw[q2h (by omega),q2h (by omega),q3c (by omega),q2h (by omega),q3c (by omega)];congr 1;omega
 refine ⟨⟨perm,out,fun i x h1 h2 hx => ?_⟩,lo,hi⟩;by_cases k:i<P.length+(P.length+U.length+V.length-(P.length+U.length))
 ·rw[lo i h1 k] at hx;exact ⟨_,by omega,by omega,hx⟩
 ·rw[hi i (by omega) h2] at hx;exact ⟨_,by omega,by omega,hx⟩
theorem turned_refl (d:List α){a m b:Nat}(h:(a<=m/\m=b)\/(a=m/\m<=b)):Turned d d a m b:=by
 rcases h with ⟨h1,rfl⟩ | ⟨rfl,h1⟩
 ·exact ⟨.refl _ _ _,fun i h2 h3=>by omega,fun i h2 h3=>by simp⟩
 ·exact ⟨.refl _ _ _,fun i h2 h3=>by simp,fun i h2 h3=>by omega⟩
theorem cut4 (d:List α){a m b:Nat}(h1:a<=m)(h2:m<=b)(h3:b<=d.length) :
  ∃P U V S,d=P++(U++(V++S))/\P.length=a/\a+U.length=m/\m+V.length=b:=by
 refine ⟨d.take a,(d.drop a).take (m-a),(d.drop m).take (b-m),d.drop b,?_,?_,?_,?_⟩
 ·have e1:(d.drop m).take (b-m)++d.drop b=d.drop m:=by
   conv=>rhs;rw[<-q3d (b-m) (d.drop m),q3g]
   rw[show m+(b-m)=b by omega]
  have e2:(d.drop a).take (m-a)++d.drop m=d.drop a:=by
   conv=>rhs;rw[<-q3d (m-a) (d.drop a),q3g]
   rw[show a+(m-a)=m by omega]
  rw[e1,e2,q3d]
 all_goals simp
 all_goals omega
theorem halves {key:α->Int}{d d':List α}{a m b mid s e:Nat}(h1:Srt key d a m)(h2:Srt key d m b)(t:Turned d d' s m e)
  (k1:a<=s) (k2:s<=m) (k3:m<=e) (k4:e<=b) (k5:e+s=mid+m) (hb:b<=d.length)
  (c1:∀x y,a<s->e<b->d[s-1]? = some x->d[e]? = some y->key x<=key y)
  (c2:∀x y,s<m->m<e->d[e-1]? = some x->d[s]? = some y->key x<=key y) :
  (Srt key d' a s/\Srt key d' s mid/\Srt key d' mid e/\Srt key d' e b) /\
  ∀i j x y,a<=i->i<mid->mid<=j->j<b->d'[i]? = some x->d'[j]? = some y->key x<=key y:=by
 have lo:=t.lo;have hi:=t.hi;have out:=t.mv.out;have e1:s+(e-m)=mid:=by omega
 rw[e1] at lo hi;have le1:∀ {i j x y},a<=i->i<=j->j<m->d[i]? = some x->d[j]? = some y->key x<=key y:=by
  intro i j x y q1 q2 q3 hx hy;rcases Nat.lt_or_eq_of_le q2 with q | q
  ·exact h1 i j x y q1 q q3 hx hy
  ·subst q;rw[hx] at hy;injection hy with hy;subst hy;exact Int.le_refl _
 have le2:∀ {i j x y},m<=i->i<=j->j<b->d[i]? = some x->d[j]? = some y->key x<=key y:=by
  intro i j x y q1 q2 q3 hx hy;rcases Nat.lt_or_eq_of_le q2 with q | q
  ·exact h2 i j x y q1 q q3 hx hy
  ·subst q;rw[hx] at hy;injection hy with hy;subst hy;exact Int.le_refl _
 have getm:∀i,i<d.length->∃x,d[i]? = some x:=fun i h=>⟨d[i],q2b h⟩
 refine ⟨⟨?_,?_,?_,?_⟩,?_⟩
 ·intro i j x y q1 q2 q3 hx hy;rw[out i (by omega)] at hx;rw[out j (by omega)] at hy;exact h1 i j x y q1 q2 (by omega) hx hy
 ·intro i j x y q1 q2 q3 hx hy;rw[lo i (by omega) (by omega)] at hx;rw[lo j (by omega) (by omega)] at hy;exact h2 _ _ x y (by omega) (by omega) (by omega) hx hy
 ·intro i j x y q1 q2 q3 hx hy;rw[hi i (by omega) (by omega)] at hx;rw[hi j (by omega) (by omega)] at hy;exact h1 _ _ x y (by omega) (by omega) (by omega) hx hy
 ·intro i j x y q1 q2 q3 hx hy;rw[out i (by omega)] at hx;rw[out j (by omega)] at hy;exact h2 i j x y (by omega) q2 q3 hx hy
 ·intro i j x y q1 q2 q3 q4 hx hy;by_cases r1:i<s
  ·rw[out i (by omega)] at hx;by_cases r2:j<e
   ·rw[hi j (by omega) (by omega)] at hy;exact le1 (by omega) (by omega) (by omega) hx hy
   ·rw[out j (by omega)] at hy;obtain ⟨u,hu⟩:=getm (s-1) (by omega);obtain ⟨v,hv⟩:=getm e (by omega);have:=c1 u v (by omega) (by omega) hu hv;have:=le1 (i:=i) (j:=s-1) (by omega) (by omega) (by omega) hx hu;have:=le2 (i:=e) (j:=j) (by omega) (by omega) (by omega) hv hy;omega
  ·rw[lo i (by omega) (by omega)] at hx;by_cases r2:j<e
   ·rw[hi j (by omega) (by omega)] at hy;obtain ⟨u,hu⟩:=getm (e-1) (by omega);obtain ⟨v,hv⟩:=getm s (by omega);have:=c2 u v (by omega) (by omega) hu hv;have:=le2 (i:=i+(m-s)) (j:=e-1) (by omega) (by omega) (by omega) hx hu;have:=le1 (i:=s) (j:=j-(e-m)) (by omega) (by omega) (by omega) hv hy;omega
   ·rw[out j (by omega)] at hy;exact le2 (by omega) (by omega) (by omega) hx hy
theorem Srt.join {key:α->Int}{d:List α}{a m b:Nat}(h1:Srt key d a m)(h2:Srt key d m b)(h:∀i j x y,a<=i->i<m->m<=j->j<b->d[i]? = some x->d[j]? = some y->key x<=key y):Srt key d a b:=by
 intro i j x y q1 q2 q3 hx hy;by_cases r1:j<m
 ·exact h1 i j x y q1 q2 r1 hx hy
 ·by_cases r2:m<=i
  ·exact h2 i j x y r2 q2 q3 hx hy
  ·exact h i j x y q1 (by omega) (by omega) q3 hx hy
theorem d2g {key:α->Int}{d d':List α}{a m b:Nat}(h:∀i j x y,a<=i->i<m->m<=j->j<b->d[i]? = some x->d[j]? = some y->key x<=key y)
  (t:Mv d d' a m\/Mv d d' m b):∀i j x y,a<=i->i<m->m<=j->j<b->d'[i]? = some x->d'[j]? = some y->key x<=key y:=by
 intro i j x y q1 q2 q3 q4 hx hy;rcases t with t | t
 ·obtain ⟨k,k1,k2,hk⟩:=t.ins i x q1 q2 hx;rw[t.out j (by omega)] at hy;exact h k j x y k1 k2 q3 q4 hk hy
 ·obtain ⟨k,k1,k2,hk⟩:=t.ins j y q3 q4 hy;rw[t.out i (by omega)] at hx;exact h i k x y q1 q2 k1 k2 hx hk
end Go.Plim
namespace Go.Proofs.YtagnkfbpgkckiaaGreat
open Go.Flat Go.Plim
theorem k1u {α:Type}(xs:List α)(i:Nat):at? xs (i:Int)=xs[i]? := by simp[at?]
theorem at_some {α:Type}{xs:List α}{i:Nat}(h:i<xs.length):at? xs (i:Int)=some xs[i]:=by simp[at?,h]
theorem wn {x:Int}{k:Nat}(h:x=k)(hk:k<=4000000000000):wrap .i64 x=(k:Int):=by rw[w64 (by omega) (by omega),h]
theorem g1x (a b:Nat)(h:a+b<=4000000000000):wrap .i64 (shrI .u64 (wrap .u64 (wrap .i64 ((a:Int)+(b:Int)))) 1)=(((a+b) / 2:Nat):Int):=by
 rw[w64 (x:=(a:Int)+b) (by omega) (by omega),wu64 (by omega) (by omega)];have e:shrI .u64 ((a:Int)+(b:Int)) 1=(((a+b) / 2:Nat):Int):=by
  show Int.fdiv ((a:Int)+b) (2^(min 1 64))=_;rw[show ((2:Int)^(min 1 64))=2 from by decide,Int.fdiv_eq_ediv_of_nonneg _ (by decide)];omega
 rw[e,w64 (by omega) (by omega)]
theorem tif_tif {α:Type}(p q:Prop)[Decidable p][Decidable q](x y:α):tif (decide p) (tif (decide q) x y) y=if p/\q then x else y:=by
 by_cases hp:p<;>by_cases hq:q<;>simp[hp,hq]
def Cmp (cmp:(a0d×(a0d×Unit))->Option Int)(key:a0d->Int):Prop:=∀x y,∃c,cmp (x,(y,()))=some c/\(c<0↔key x<key y)
section
variable {cmp:(a0d×(a0d×Unit))->Option Int}{key:a0d->Int}(hc:Cmp cmp key)
include hc
theorem ins_l4 (n:Nat)(a b:Int)(an i:Nat)(ha:a=an):∀(k f:Nat) (d:List a0d),k<=i-an->an+k<=i->k<f->i<d.length->d.length<=1000000000000 ->
  (∀p q x y,an<=p->p<q->q<=i->p≠an+k->q≠an+k->d[p]? = some x->d[q]? = some y->key x<=key y) ->
  (∀q x y,an+k<q->q<=i->d[an+k]? = some x->d[q]? = some y->key x<=key y) ->
  ∃d',w0n n f (d,a,b,cmp,(i:Int),((an+k:Nat):Int),())=some (.inl (d',a,b,cmp,(i:Int),()))/\Mv d d' an (i+1)/\Srt key d' an (i+1):=by
 subst ha;intro k;induction k with
 | zero =>
  intro f d hk hi hf hl hL h1 h2;obtain ⟨f,rfl⟩:∃g,f=g+1:=⟨f-1,by omega⟩;rw[a1k];simp only[tfd,q0n (show ¬((an:Int)<((an+0:Nat):Int)) by omega)];refine ⟨d,rfl,.refl _ _ _,fun p q x y q1 q2 q3 hx hy => ?_⟩;by_cases e:p=an+0
  ·subst e;exact h2 q x y q2 (by omega) hx hy
  ·exact h1 p q x y q1 q2 (by omega) e (by omega) hx hy
 | succ k ih =>
  intro f d hk hi hf hl hL h1 h2;obtain ⟨f,rfl⟩:∃g,f=g+1:=⟨f-1,by omega⟩;rw[a1k];have e1:wrap .i64 (((an+(k+1):Nat):Int)-1)=((an+k:Nat):Int):=wn (by omega) (by omega);have lj:an+(k+1)<d.length:=by omega
  have lk:an+k<d.length:=by omega
  obtain ⟨c,hcm,hlt⟩:=hc d[an+(k+1)] d[an+k];have gj:d[an+(k+1)]? = some d[an+(k+1)]:=q2b lj;have gk:d[an+k]? = some d[an+k]:=q2b lk;simp only[tfd,q0z (show ((an:Int)<((an+(k+1):Nat):Int)) by omega),e1,k1u,q2i,gj,gk,obs,hcm];by_cases hlt':c<0
  ·have kl:=hlt.1 hlt';have g1:(d.set (an+(k+1)) d[an+k])[an+k]? = some d[an+k]:=by rw[q3h (by omega)];exact gk
   simp only[q0z hlt',g1,obs];have sg:=s0f (d:=d) gj gk;have mv:=x1m (d:=d) (a:=an) (b:=i+1) gj gk (by omega) (by omega) (by omega) (by omega);obtain ⟨d',r1,r2,r3⟩:=ih f ((d.set (an+(k+1)) d[an+k]).set (an+k) d[an+(k+1)]) (by omega) (by omega) (by omega) (by simpa using hl) (by simpa using hL)
    (fun p q x y q1 q2 q3 p1 p2 hx hy=>by
     rw[sg] at hx hy;rw[q0n p1] at hx;rw[q0n p2] at hy;by_cases ep:p=an+(k+1)
     ·rw[q0z ep] at hx;rw[q0n (by omega)] at hy;have:d[an+k]? = some x:=by rw[gk];exact hx
      exact h1 (an+k) q x y (by omega) (by omega) q3 (by omega) (by omega) this hy
     ·rw[q0n ep] at hx;by_cases eq:q=an+(k+1)
      ·rw[q0z eq] at hy;have:d[an+k]? = some y:=by rw[gk];exact hy
       exact h1 p (an+k) x y q1 (by omega) (by omega) ep (by omega) hx this
      ·rw[q0n eq] at hy
       exact h1 p q x y q1 q2 q3 ep eq hx hy)
    (fun q x y q1 q2 hx hy=>by
     rw[sg] at hx hy;rw[q0z rfl] at hx;injection hx with hx;subst hx;rw[q0n (by omega)] at hy;by_cases eq:q=an+(k+1)
     ·rw[q0z eq] at hy;injection hy with hy;subst hy;omega
     ·rw[q0n eq] at hy
      exact h2 q _ y (by omega) q2 gj hy)
   exact ⟨d',r1,mv.trans r2,r3⟩
  ·simp only[q0n hlt'];refine ⟨d,rfl,.refl _ _ _,fun p q x y q1 q2 q3 hx hy => ?_⟩;have kl:key d[an+k]<=key d[an+(k+1)]:=by
    have:=mt hlt.2 hlt';omega
   by_cases ep:p=an+(k+1)
   ·subst ep;exact h2 q x y q2 (by omega) hx hy
   ·by_cases eq:q=an+(k+1)
    ·subst eq;rw[gj] at hy;injection hy with hy;subst hy;by_cases e3:p=an+k
     ·subst e3;rw[gk] at hx;injection hx with hx;subst hx;exact kl
     ·have:=h1 p (an+k) x _ q1 (by omega) (by omega) ep (by omega) hx gk;omega
    ·exact h1 p q x y q1 q2 (by omega) ep eq hx hy
theorem ins_l1 (n:Nat)(a b:Int)(an bn:Nat)(ha:a=an)(hb:b=bn):∀(k f:Nat) (i:Nat) (d:List a0d),bn-i<=k->k<f->an<i->(i<=bn\/bn<=an+1)->bn<=d.length->d.length<=1000000000000->Srt key d an i ->
  ∃d',w0o n f (d,a,b,cmp,(i:Int),())=some (.inl (d',()))/\Mv d d' an bn/\Srt key d' an bn:=by
 intro k;induction k with
 | zero =>
  intro f i d hk hf hi hib hl hL hs;obtain ⟨f,rfl⟩:∃g,f=g+1:=⟨f-1,by omega⟩;rw[a1l];subst ha hb;simp only[tfd,q0n (show ¬((i:Int)<(bn:Int)) by omega)];exact ⟨d,rfl,.refl _ _ _,hs.mono (by omega) (by omega)⟩
 | succ k ih =>
  intro f i d hk hf hi hib hl hL hs;obtain ⟨f,rfl⟩:∃g,f=g+1:=⟨f-1,by omega⟩;rw[a1l];by_cases hlt:i<bn
  ·obtain ⟨d',r1,r2,r3⟩:=ins_l4 hc n a b an i ha (i-an) a0b d (by omega) (by omega) (by unfold a0b;omega) (by omega) hL
    (fun p q x y q1 q2 q3 p1 p2 hx hy=>hs p q x y q1 q2 (by omega) hx hy) (fun q x y q1 q2=>by omega)
   rw[show an+(i-an)=i by omega] at r1;subst ha hb;simp only[tfd,q0z (show ((i:Int)<(bn:Int)) by omega),r1,obs,a0m];rw[wn (k:=i+1) (by omega) (by omega)];have ml:=r2.len;obtain ⟨d'',s1,s2,s3⟩:=ih f (i+1) d' (by omega) (by omega) (by omega) (by omega) (by omega) (by omega) r3;exact ⟨d'',s1,(r2.mono (by omega) (by omega)).trans s2,s3⟩
  ·subst ha hb;simp only[tfd,q0n (show ¬((i:Int)<(bn:Int)) by omega)];exact ⟨d,rfl,.refl _ _ _,hs.mono (by omega) (by omega)⟩
theorem ins_ok (n:Nat)(a b:Int)(an bn:Nat)(ha:a=an)(hb:b=bn)(d:List a0d)(hab:an<=bn)(hl:bn<=d.length)(hL:d.length<=1000000000000) :
  ∃d',p1f (n+1) d a b cmp=some d'/\Mv d d' an bn/\Srt key d' an bn:=by
 rw[e2l];have e:wrap .i64 (a+1)=((an+1:Nat):Int):=wn (by omega) (by omega);rw[e];obtain ⟨d',r1,r2,r3⟩:=ins_l1 hc n a b an bn ha hb bn a0b (an+1) d (by omega) (by unfold a0b;omega) (by omega) (by omega) hl hL (Srt.one _ _ (by omega));rw[r1];exact ⟨d',by simp,r2,r3⟩
omit hc in
theorem s1n (n:Nat)(a b m:Int)(P:List a0d):∀(k f i:Nat) (X X' M Y Y' S:List a0d),X'.length=k->Y'.length=k->X.length=i->Y.length=i->k<f ->
  a=P.length->b=P.length+X.length+X'.length+M.length->m=i+k->b+m<=2000000000000 ->
  w0l n f (P++(Y++(X'++(M++(X++(Y'++S))))),a,b,m,(i:Int),())=some (.inl (P++(Y++(Y'++(M++(X++(X'++S))))),())):=by
 intro k;induction k with
 | zero =>
  intro f i X X' M Y Y' S h1 h2 h3 h4 hf ha hb hm hs;obtain ⟨f,rfl⟩:∃g,f=g+1:=⟨f-1,by omega⟩;obtain rfl:=List.length_eq_zero_iff.1 h1;obtain rfl:=List.length_eq_zero_iff.1 h2;rw[a1g];simp only[tfd,q0n (show ¬((i:Int)<m) by omega)]
 | succ k ih =>
  intro f i X X' M Y Y' S h1 h2 h3 h4 hf ha hb hm hs;obtain ⟨f,rfl⟩:∃g,f=g+1:=⟨f-1,by omega⟩
  match X',Y' with
  | x::X',y::Y' =>
   simp only[q2k] at h1 h2 hb;rw[a1g];have ea:wrap .i64 (a+(i:Int))=((P.length+i:Nat):Int):=wn (by omega) (by omega);have eb:wrap .i64 (b+(i:Int))=((P.length+i+(k+1)+M.length+i:Nat):Int):=wn (by omega) (by omega);have g1:(P++(Y++(x::X'++(M++(X++(y::Y'++S))))))[P.length+i]? = some x:=by
    rw[q2h (by omega),q2h (by omega)];rw[show P.length+i-P.length-Y.length=0 by omega];rfl
   have g2:(P++(Y++(x::X'++(M++(X++(y::Y'++S))))))[P.length+i+(k+1)+M.length+i]? = some y:=by
    rw[q2h (by omega),q2h (by omega),q2h (by simp;omega),q2h (by simp;omega),q2h (by simp;omega)];simp only[q2k];rw[show P.length+i+(k+1)+M.length+i-P.length-Y.length-(X'.length+1)-M.length-X.length=0 by omega];rfl
   have s1:(P++(Y++(x::X'++(M++(X++(y::Y'++S)))))).set (P.length+i) y=P++(Y++(y::X'++(M++(X++(y::Y'++S))))):=by
    rw[q3v _ _ (by omega),q3v _ _ (by omega),show P.length+i-P.length-Y.length=0 by omega];rfl
   have s2:(P++(Y++(y::X'++(M++(X++(y::Y'++S)))))).set (P.length+i+(k+1)+M.length+i) x=P++(Y++(y::X'++(M++(X++(x::Y'++S))))):=by
    rw[q3v _ _ (by omega),q3v _ _ (by omega),q3v _ _ (by simp;omega),q3v _ _ (by simp;omega),q3v _ _ (by simp;omega)];simp only[q2k];rw[show P.length+i+(k+1)+M.length+i-P.length-Y.length-(X'.length+1)-M.length-X.length=0 by omega];rfl
   have g3:(P++(Y++(y::X'++(M++(X++(y::Y'++S))))))[P.length+i+(k+1)+M.length+i]? = some y:=by
    rw[q2h (by omega),q2h (by omega),q2h (by simp;omega),q2h (by simp;omega),q2h (by simp;omega)];simp only[q2k];rw[show P.length+i+(k+1)+M.length+i-P.length-Y.length-(X'.length+1)-M.length-X.length=0 by omega];rfl
   simp only[tfd,q0z (show ((i:Int)<m) by omega),ea,eb,k1u,q2i,g1,g2,s1,g3,s2,obs];have e6:wrap .i64 ((i:Int)+1)=((i+1:Nat):Int):=wn (by omega) (by omega);rw[e6];have:=ih f (i+1) (X++[x]) X' M (Y++[y]) Y' S (by omega) (by omega) (by simp;omega) (by simp;omega) (by omega) ha (by simp;omega) (by omega) hs;simp only[q2g,List.singleton_append,q3z] at this ⊢;exact this
omit hc in
theorem u0p (n:Nat)(a b m:Int)(P X M Y S:List a0d)(h:X.length=Y.length)(ha:a=P.length)(hb:b=P.length+X.length+M.length)(hm:m=X.length)(hs:b+m<=2000000000000)(d:List a0d)(hd:d=P++(X++(M++(Y++S)))) :
  i1c (n+1) d a b m cmp=some (P++(Y++(M++(X++S)))):=by
 subst hd;rw[e2i];have:=s1n n a b m P X.length a0b 0 [] X M [] Y S rfl h.symm rfl rfl (by unfold a0b;omega) ha (by simp;omega) (by omega) hs;simp only[q2r] at this;rw[show (0:Int)=((0:Nat):Int) from rfl,this];simp
omit hc in
theorem i2r (n:Nat)(m:Int):∀(k f:Nat) (P U V S d:List a0d) (i j:Int),U.length+V.length<=k->k<f->U≠[]->V≠[]->i=U.length->j=V.length->m=P.length+U.length->m+j<=1000000000000->d=P++(U++(V++S)) ->
  ∃P' U' V' S' d',q0y (n+1) f (d,m,cmp,i,j,())=some (.inl (d',m,cmp,(U'.length:Int),()))/\U'.length=V'.length/\m=P'.length+U'.length/\d'=P'++(U'++(V'++S'))/\P'++(V'++(U'++S'))=P++(V++(U++S)):=by
 intro k;induction k with
 | zero =>
  intro f P U V S d i j hk hf hu hv;exact absurd (List.length_eq_zero_iff.1 (show U.length=0 by omega)) hu
 | succ k ih =>
  intro f P U V S d i j hk hf hu hv hi hj hm hmj hd;obtain ⟨f,rfl⟩:∃g,f=g+1:=⟨f-1,by omega⟩;have lu:=List.length_pos_iff.2 hu;have lv:=List.length_pos_iff.2 hv;rw[p1e];by_cases e:i=j
  ·simp only[tfn,tfd,q0z e];exact ⟨P,U,V,S,d,by rw[hi],by omega,hm,hd,rfl⟩
  ·by_cases lt:j<i
   ·-- the front of U with V
    have hU:U=U.take V.length++U.drop V.length:=(q3d _ _).symm;have l1:(U.take V.length).length=V.length:=by simp;omega
    have l2:(U.drop V.length).length=U.length-V.length:=by simp
    have hs:=u0p (cmp:=cmp) n (P.length:Int) m j P (U.take V.length) (U.drop V.length) V S l1 rfl (by omega) (by omega) (by omega) d (by rw[hd,<-q2g (U.take V.length),<-hU]);have e1:wrap .i64 (m-i)=(P.length:Int):=wn (by omega) (by omega);have e2:wrap .i64 (i-j)=((U.drop V.length).length:Int):=wn (by omega) (by omega);simp only[tfn,tfd,q0n e,q0z lt,e1,e2,hs,obs]
    obtain ⟨P',U',V',S',d',r1,r2,r3,r4,r5⟩:=ih f (P++V) (U.drop V.length) (U.take V.length) S (P++(V++(U.drop V.length++(U.take V.length++S)))) ((U.drop V.length).length:Int) j (by omega) (by omega)
     (by intro h;rw[h] at l2;simp at l2;omega) (by intro h;rw[h] at l1;simp at l1;omega) rfl (by omega) (by simp;omega) hmj (by simp only[q2g])
    exact ⟨P',U',V',S',d',r1,r2,r3,r4,by rw[r5];rw[q2g,<-q2g (U.take V.length),<-hU]⟩
   ·have hV:V=V.take (V.length-U.length)++V.drop (V.length-U.length):=(q3d _ _).symm;have l1:(V.take (V.length-U.length)).length=V.length-U.length:=by simp
    have l2:(V.drop (V.length-U.length)).length=U.length:=by simp;omega
    have hs:=u0p (cmp:=cmp) n (P.length:Int) (m+j-i) i P U (V.take (V.length-U.length)) (V.drop (V.length-U.length)) S l2.symm rfl (by omega) (by omega) (by omega) d (by rw[hd,<-q2g (V.take _) (V.drop _) S,<-hV]);have e1:wrap .i64 (m-i)=(P.length:Int):=wn (by omega) (by omega);have e2:wrap .i64 (j-i)=((V.take (V.length-U.length)).length:Int):=wn (by omega) (by omega);have e3:wrap .i64 (wrap .i64 (m+j)-i)=m+j-i:=by rw[w64 (x:=m+j) (by omega) (by omega),w64 (by omega) (by omega)]
    simp only[tfn,tfd,q0n e,q0n lt,e1,e2,e3,hs,obs];obtain ⟨P',U',V',S',d',r1,r2,r3,r4,r5⟩:=ih f P (V.drop (V.length-U.length)) (V.take (V.length-U.length)) (U++S) _ i ((V.take (V.length-U.length)).length:Int) (by omega) (by omega)
     (by intro h;rw[h] at l2;simp at l2;omega) (by intro h;rw[h] at l1;simp at l1;omega) (by omega) rfl (by omega) (by omega) rfl
    exact ⟨P',U',V',S',d',r1,r2,r3,r4,by rw[r5];rw[<-q2g (V.take _) (V.drop _),<-hV]⟩
omit hc in
theorem i2q (n:Nat)(a m b:Int)(an mn bn:Nat)(ha:a=an)(hm:m=mn)(hb:b=bn)(d:List a0d)(h1:an<mn)(h2:mn<bn)(hl:bn<=d.length)(hL:d.length<=1000000000000) :
  ∃d',i1d (n+2) d a m b cmp=some d'/\Turned d d' an mn bn:=by
 obtain ⟨P,U,V,S,hd,la,lm,lb⟩:=cut4 d (a:=an) (m:=mn) (b:=bn) (by omega) (by omega) hl;rw[e2k];have e1:wrap .i64 (m-a)=(U.length:Int):=wn (by omega) (by omega);have e2:wrap .i64 (b-m)=(V.length:Int):=wn (by omega) (by omega);have hfl:U.length+V.length<a0b:=by
  have:d.length=P.length+(U.length+(V.length+S.length)):=by rw[hd];simp
  unfold a0b;omega
 have hu:U≠[]:=by intro h;rw[h] at lm;simp at lm;omega
 have hv:V≠[]:=by intro h;rw[h] at lb;simp at lb;omega
 obtain ⟨P',U',V',S',d',r1,r2,r3,r4,r5⟩:=i2r (cmp:=cmp) n m (U.length+V.length) a0b P U V S d (U.length:Int) (V.length:Int) (by omega) hfl hu hv rfl rfl (by omega) (by omega) hd;have ld:d'.length=d.length:=by
  have:=congrArg List.length r5;rw[r4,hd];simp at this ⊢;omega
 have hs:=u0p (cmp:=cmp) n (P'.length:Int) m (U'.length:Int) P' U' [] V' S' r2 rfl (by simp;omega) rfl (by rw[r4] at ld;simp at ld;omega) d' (by rw[r4];simp);simp only[e1,e2,r1,obs,a0m,wn (x:=m-(U'.length:Int)) (k:=P'.length) (by omega) (by rw[r4] at ld;simp at ld;omega),hs];simp only[q2r];exact ⟨_,rfl,s1f (P:=P) (U:=U) (V:=V) (S:=S) hd r5 la lm lb⟩
theorem sym_l3 (n:Nat)(a:Int)(an:Nat)(ha:a=an)(d:List a0d)(x:a0d)(hx:d[an]? = some x)(hL:d.length<=1000000000000)(lo hi:Nat)(hs:Srt key d lo hi)(hh:hi<=d.length):∀(k f i j:Nat),j-i<=k->k<f->i<=j->lo<=i->j<=hi ->
  (∀p y,lo<=p->p<i->d[p]? = some y->key y<key x)->(∀p y,j<=p->p<hi->d[p]? = some y->key x<=key y) ->
  ∃r:Nat,q0w n f (d,a,cmp,(i:Int),(j:Int),())=some (.inl (d,a,(r:Int),()))/\lo<=r/\r<=hi /\
   (∀p y,lo<=p->p<r->d[p]? = some y->key y<key x)/\(∀p y,r<=p->p<hi->d[p]? = some y->key x<=key y):=by
 subst ha;intro k;induction k with
 | zero =>
  intro f i j hk hf hij hi hj h1 h2;obtain ⟨f,rfl⟩:∃g,f=g+1:=⟨f-1,by omega⟩;rw[a1f];simp only[tfd,q0n (show ¬((i:Int)<(j:Int)) by omega)];have e:i=j:=by omega
  subst e;exact ⟨i,rfl,by omega,by omega,h1,h2⟩
 | succ k ih =>
  intro f i j hk hf hij hi hj h1 h2;obtain ⟨f,rfl⟩:∃g,f=g+1:=⟨f-1,by omega⟩;rw[a1f];by_cases lt:i<j
  ·have e1:=g1x i j (by omega);have lh:(i+j) / 2<d.length:=by omega
   obtain ⟨c,hcm,hlt⟩:=hc d[(i+j) / 2] x;have gh:d[(i+j) / 2]? = some d[(i+j) / 2]:=q2b lh;simp only[tfd,q0z (show ((i:Int)<(j:Int)) by omega),e1,k1u,q2i,gh,hx,obs,hcm];by_cases hlt':c<0
   ·have kl:=hlt.1 hlt';simp only[q0z hlt'];rw[wn (x:=(((i+j) / 2:Nat):Int)+1) (k:=(i+j) / 2+1) (by omega) (by omega)];refine ih f ((i+j) / 2+1) j (by omega) (by omega) (by omega) (by omega) hj (fun p y p1 p2 hy => ?_) h2;by_cases ep:p=(i+j) / 2
    ·subst ep;rw[gh] at hy;injection hy with hy;subst hy;exact kl
    ·have:=hs p ((i+j) / 2) y _ p1 (by omega) (by omega) hy gh;omega
   ·have kl:key x<=key d[(i+j) / 2]:=by have:=mt hlt.2 hlt';omega
    simp only[q0n hlt'];refine ih f i ((i+j) / 2) (by omega) (by omega) (by omega) hi (by omega) h1 (fun p y p1 p2 hy => ?_);by_cases ep:p=(i+j) / 2
    ·subst ep;rw[gh] at hy;injection hy with hy;subst hy;exact kl
    ·have:=hs ((i+j) / 2) p _ y (by omega) (by omega) (by omega) gh hy;omega
  ·simp only[tfd,q0n (show ¬((i:Int)<(j:Int)) by omega)];have e:i=j:=by omega
   subst e;exact ⟨i,rfl,by omega,by omega,h1,h2⟩
theorem sym_l15 (n:Nat)(m:Int)(mn:Nat)(hm:m=mn)(d:List a0d)(x:a0d)(hx:d[mn]? = some x)(hL:d.length<=1000000000000)(lo hi:Nat)(hs:Srt key d lo hi)(hh:hi<=d.length):∀(k f i j:Nat),j-i<=k->k<f->i<=j->lo<=i->j<=hi ->
  (∀p y,lo<=p->p<i->d[p]? = some y->key y<=key x)->(∀p y,j<=p->p<hi->d[p]? = some y->key x<key y) ->
  ∃r:Nat,n0y n f (d,m,cmp,(i:Int),(j:Int),())=some (.inl (d,m,(r:Int),()))/\lo<=r/\r<=hi /\
   (∀p y,lo<=p->p<r->d[p]? = some y->key y<=key x)/\(∀p y,r<=p->p<hi->d[p]? = some y->key x<key y):=by
 subst hm;intro k;induction k with
 | zero =>
  intro f i j hk hf hij hi hj h1 h2;obtain ⟨f,rfl⟩:∃g,f=g+1:=⟨f-1,by omega⟩;rw[x0u];simp only[tfd,q0n (show ¬((i:Int)<(j:Int)) by omega)];have e:i=j:=by omega
  subst e;exact ⟨i,rfl,by omega,by omega,h1,h2⟩
 | succ k ih =>
  intro f i j hk hf hij hi hj h1 h2;obtain ⟨f,rfl⟩:∃g,f=g+1:=⟨f-1,by omega⟩;rw[x0u];by_cases lt:i<j
  ·have e1:=g1x i j (by omega);have lh:(i+j) / 2<d.length:=by omega
   obtain ⟨c,hcm,hlt⟩:=hc x d[(i+j) / 2];have gh:d[(i+j) / 2]? = some d[(i+j) / 2]:=q2b lh;simp only[tfn,tfd,q0z (show ((i:Int)<(j:Int)) by omega),e1,k1u,q2i,gh,hx,obs,hcm];by_cases hlt':c<0
   ·have kl:=hlt.1 hlt';simp only[q0z hlt'];refine ih f i ((i+j) / 2) (by omega) (by omega) (by omega) hi (by omega) h1 (fun p y p1 p2 hy => ?_);by_cases ep:p=(i+j) / 2
    ·subst ep;rw[gh] at hy;injection hy with hy;subst hy;exact kl
    ·have:=hs ((i+j) / 2) p _ y (by omega) (by omega) (by omega) gh hy;omega
   ·have kl:key d[(i+j) / 2]<=key x:=by have:=mt hlt.2 hlt';omega
    simp only[q0n hlt'];rw[wn (x:=(((i+j) / 2:Nat):Int)+1) (k:=(i+j) / 2+1) (by omega) (by omega)];refine ih f ((i+j) / 2+1) j (by omega) (by omega) (by omega) (by omega) hj (fun p y p1 p2 hy => ?_) h2;by_cases ep:p=(i+j) / 2
    ·subst ep;rw[gh] at hy;injection hy with hy;subst hy;exact kl
    ·have:=hs p ((i+j) / 2) y _ p1 (by omega) (by omega) hy gh;omega
  ·simp only[tfd,q0n (show ¬((i:Int)<(j:Int)) by omega)];have e:i=j:=by omega
   subst e;exact ⟨i,rfl,by omega,by omega,h1,h2⟩
end
def Exc (key:a0d->Int)(d:List a0d)(a b k:Nat):Prop:=∀p q x y,a<=p->p<q->q<b->p≠k->q≠k->d[p]? = some x->d[q]? = some y->key x<=key y
def Place (key:a0d->Int)(d:List a0d)(a b k i:Nat)(x:a0d):Prop :=
 (∀p z,a<=p->p<i->p≠k->d[p]? = some z->key z<=key x)/\(∀p z,i<=p->p<b->p≠k->d[p]? = some z->key x<=key z)
theorem c2y {key:a0d->Int}{d:List a0d}{a b k j:Nat}{x y:a0d}(hj:j=k+1\/k=j+1)(ja:a<=j)(jb:j<b)(hx:d[k]? = some x)(hy:d[j]? = some y)(h:Exc key d a b k):Exc key ((d.set k y).set j x) a b j:=by
 intro p q u v q1 q2 q3 p1 p2 hu hv;rw[s0f hx hy,q0n p1] at hu;rw[s0f hx hy,q0n p2] at hv;by_cases ep:p=k
 ·rw[q0z ep] at hu;rw[q0n (by omega)] at hv;injection hu with hu;subst hu;exact h j q y v (by omega) (by omega) q3 (by omega) (by omega) hy hv
 ·rw[q0n ep] at hu;by_cases eq:q=k
  ·rw[q0z eq] at hv;injection hv with hv;subst hv;exact h p j u y q1 (by omega) (by omega) (by omega) (by omega) hu hy
  ·rw[q0n eq] at hv;exact h p q u v q1 q2 q3 ep eq hu hv
theorem l2n {key:a0d->Int}{d:List a0d}{a b k i:Nat}{x:a0d}(h:Exc key d a b k)(hp:Place key d a b k i x)(hx:d[k]? = some x)(hk:k=i\/k+1=i):Srt key d a b:=by
 intro p q u v q1 q2 q3 hu hv;by_cases ep:p=k
 ·subst ep;rw[hx] at hu;injection hu with hu;subst hu;exact hp.2 q v (by omega) q3 (by omega) hv
 ·by_cases eq:q=k
  ·subst eq;rw[hx] at hv;injection hv with hv;subst hv;exact hp.1 p u q1 (by omega) ep hu
  ·exact h p q u v q1 q2 q3 ep eq hu hv
theorem sym_l9 {key:a0d->Int}(n:Nat)(a b i:Nat)(x:a0d):∀(c f k:Nat) (d:List a0d),k+c+1=i->c<f->a<=k->i<=b->b<=d.length->d.length<=1000000000000->d[k]? = some x->Exc key d a b k->Place key d a b k i x ->
  ∃d',w0k n f (d,(i:Int),(k:Int),())=some (.inl (d',()))/\Mv d d' a b/\Srt key d' a b:=by
 intro c;induction c with
 | zero =>
  intro f k d hk hf ha hi hb hL hx h1 h2;obtain ⟨f,rfl⟩:∃g,f=g+1:=⟨f-1,by omega⟩;rw[a1e];rw[wn (x:=(i:Int)-1) (k:=k) (by omega) (by omega)];simp only[tfd,q0n (show ¬((k:Int)<(k:Int)) by omega)];exact ⟨d,rfl,.refl _ _ _,l2n h1 h2 hx (by omega)⟩
 | succ c ih =>
  intro f k d hk hf ha hi hb hL hx h1 h2;obtain ⟨f,rfl⟩:∃g,f=g+1:=⟨f-1,by omega⟩;rw[a1e];have lk:k+1<d.length:=by omega
  have gy:d[k+1]? = some d[k+1]:=q2b lk;have g1:(d.set k d[k+1])[k+1]? = some d[k+1]:=by rw[q3h (by omega)];exact gy
  rw[wn (x:=(i:Int)-1) (k:=i-1) (by omega) (by omega),wn (x:=(k:Int)+1) (k:=k+1) (by omega) (by omega)];simp only[tfd,q0z (show ((k:Int)<((i-1:Nat):Int)) by omega),k1u,q2i,gy,hx,g1,obs];have sg:=s0f hx gy;have mv:=x1m (a:=a) (b:=b) hx gy (by omega) (by omega) (by omega) (by omega);obtain ⟨d',r1,r2,r3⟩:=ih f (k+1) ((d.set k d[k+1]).set (k+1) x) (by omega) (by omega) (by omega) hi (by simpa using hb) (by simpa using hL)
   (by rw[sg,q0z rfl]) (c2y (.inl rfl) (by omega) (by omega) hx gy h1)
   ⟨fun p z p1 p2 p3 hz=>by
    rw[sg,q0n p3] at hz;by_cases e:p=k
    ·rw[q0z e] at hz;injection hz with hz;subst hz;exact h2.1 (k+1) _ (by omega) (by omega) (by omega) gy
    ·rw[q0n e] at hz;exact h2.1 p z p1 p2 e hz,
    fun p z p1 p2 p3 hz=>by
     rw[sg,q0n p3,q0n (by omega)] at hz
     exact h2.2 p z p1 p2 (by omega) hz⟩
  exact ⟨d',r1,mv.trans r2,r3⟩
theorem sym_l21 {key:a0d->Int}(n:Nat)(a b i:Nat)(x:a0d):∀(c f k:Nat) (d:List a0d),i+c=k->c<f->a<=i->k<b->b<=d.length->d.length<=1000000000000->d[k]? = some x->Exc key d a b k->Place key d a b k i x ->
  ∃d',s0i n f (d,(i:Int),(k:Int),())=some (.inl (d',()))/\Mv d d' a b/\Srt key d' a b:=by
 intro c;induction c with
 | zero =>
  intro f k d hk hf ha hi hb hL hx h1 h2;obtain ⟨f,rfl⟩:∃g,f=g+1:=⟨f-1,by omega⟩;rw[x0t];simp only[tfd,q0n (show ¬((i:Int)<(k:Int)) by omega)];exact ⟨d,rfl,.refl _ _ _,l2n h1 h2 hx (by omega)⟩
 | succ c ih =>
  intro f k d hk hf ha hi hb hL hx h1 h2;obtain ⟨f,rfl⟩:∃g,f=g+1:=⟨f-1,by omega⟩;obtain ⟨k,rfl⟩:∃g,k=g+1:=⟨k-1,by omega⟩;rw[x0t];have lk:k<d.length:=by omega
  have gy:d[k]? = some d[k]:=q2b lk;have g1:(d.set (k+1) d[k])[k]? = some d[k]:=by rw[q3h (by omega)];exact gy
  rw[wn (x:=((k+1:Nat):Int)-1) (k:=k) (by omega) (by omega)];simp only[tfd,q0z (show ((i:Int)<((k+1:Nat):Int)) by omega),k1u,q2i,gy,hx,g1,obs];have sg:=s0f hx gy;have mv:=x1m (a:=a) (b:=b) hx gy (by omega) (by omega) (by omega) (by omega);obtain ⟨d',r1,r2,r3⟩:=ih f k ((d.set (k+1) d[k]).set k x) (by omega) (by omega) (by omega) (by omega) (by simpa using hb) (by simpa using hL)
   (by rw[sg,q0z rfl]) (c2y (.inr rfl) (by omega) (by omega) hx gy h1)
   ⟨fun p z p1 p2 p3 hz=>by
    rw[sg,q0n p3,q0n (by omega)] at hz;exact h2.1 p z p1 p2 (by omega) hz,
    fun p z p1 p2 p3 hz=>by
     rw[sg,q0n p3] at hz;by_cases e:p=k+1
     ·rw[q0z e] at hz;injection hz with hz;subst hz;exact h2.2 k _ (by omega) (by omega) (by omega) gy
     ·rw[q0n e] at hz;exact h2.2 p z p1 p2 e hz⟩
  exact ⟨d',r1,mv.trans r2,r3⟩
section
variable {cmp:(a0d×(a0d×Unit))->Option Int}{key:a0d->Int}(hc:Cmp cmp key)
include hc
theorem h2t (n:Nat)(a b mid n_:Int)(m p:Int)(mn bn pn:Nat)(an:Nat)(hp:p=pn)(d:List a0d)(hL:d.length<=1000000000000)(h1:Srt key d an mn)(h2:Srt key d mn bn)(hb:bn<=d.length)(lo hi:Nat)
  (hlo:an<=lo) (hhi:hi<=mn) (hq:∀c,lo<=c->c<hi->c<=pn/\mn<=pn-c/\pn-c<bn):∀(k f i j:Nat),j-i<=k->k<f->i<=j->lo<=i->j<=hi ->
  (∀c x y,lo<=c->c<i->d[c]? = some x->d[pn-c]? = some y->key x<=key y)->(∀c x y,j<=c->c<hi->d[c]? = some x->d[pn-c]? = some y->key y<key x) ->
  ∃r:Nat,k0u n f (d,a,m,b,cmp,mid,n_,(i:Int),(j:Int),p,())=some (.inl (d,a,m,b,cmp,mid,n_,(r:Int),()))/\lo<=r/\r<=hi /\
   (∀c x y,lo<=c->c<r->d[c]? = some x->d[pn-c]? = some y->key x<=key y)/\(∀c x y,r<=c->c<hi->d[c]? = some x->d[pn-c]? = some y->key y<key x):=by
 subst hp;have le1:∀ {i j x y},an<=i->i<=j->j<mn->d[i]? = some x->d[j]? = some y->key x<=key y:=by
  intro i j x y q1 q2 q3 hx hy;rcases Nat.lt_or_eq_of_le q2 with q | q
  ·exact h1 i j x y q1 q q3 hx hy
  ·subst q;rw[hx] at hy;injection hy with hy;subst hy;exact Int.le_refl _
 have le2:∀ {i j x y},mn<=i->i<=j->j<bn->d[i]? = some x->d[j]? = some y->key x<=key y:=by
  intro i j x y q1 q2 q3 hx hy;rcases Nat.lt_or_eq_of_le q2 with q | q
  ·exact h2 i j x y q1 q q3 hx hy
  ·subst q;rw[hx] at hy;injection hy with hy;subst hy;exact Int.le_refl _
 intro k;induction k with
 | zero =>
  intro f i j hk hf hij hi' hj g1 g2;obtain ⟨f,rfl⟩:∃g,f=g+1:=⟨f-1,by omega⟩;rw[x0s];simp only[tfd,q0n (show ¬((i:Int)<(j:Int)) by omega)];have e:i=j:=by omega
  subst e;exact ⟨i,rfl,hi',hj,g1,g2⟩
 | succ k ih =>
  intro f i j hk hf hij hi' hj g1 g2;obtain ⟨f,rfl⟩:∃g,f=g+1:=⟨f-1,by omega⟩;rw[x0s];by_cases lt:i<j
  ·generalize hcc:(i+j) / 2=c;have hq':=hq c (by omega) (by omega);have e1:=g1x i j (by omega);rw[hcc] at e1;have e2:wrap .i64 ((pn:Int)-(c:Int))=((pn-c:Nat):Int):=wn (by omega) (by omega);obtain ⟨v,hcm,hlt⟩:=hc d[pn-c] d[c];have gc:d[c]? = some d[c]:=q2b (by omega);have gp:d[pn-c]? = some d[pn-c]:=q2b (by omega);simp only[tfn,tfd,q0z (show ((i:Int)<(j:Int)) by omega),e1,e2,k1u,q2i,gc,gp,obs,hcm];by_cases hlt':v<0
   ·have kl:=hlt.1 hlt';simp only[q0z hlt'];refine ih f i c (by omega) (by omega) (by omega) hi' (by omega) g1 (fun q x y p1 p2 hx hy => ?_);have hq2:=hq q (by omega) (by omega);have:=le1 (i:=c) (j:=q) (by omega) p1 (by omega) gc hx;have:=le2 (i:=pn-q) (j:=pn-c) (by omega) (by omega) (by omega) hy gp;omega
   ·have kl:key d[c]<=key d[pn-c]:=by have:=mt hlt.2 hlt';omega
    simp only[q0n hlt'];rw[wn (x:=(c:Int)+1) (k:=c+1) (by omega) (by omega)];refine ih f (c+1) j (by omega) (by omega) (by omega) (by omega) hj (fun q x y p1 p2 hx hy => ?_) g2;have hq2:=hq q (by omega) (by omega);have:=le1 (i:=q) (j:=c) (by omega) (by omega) (by omega) hx gc;have:=le2 (i:=pn-c) (j:=pn-q) (by omega) (by omega) (by omega) gp hy;omega
  ·simp only[tfd,q0n (show ¬((i:Int)<(j:Int)) by omega)];have e:i=j:=by omega
   subst e;exact ⟨i,rfl,hi',hj,g1,g2⟩
theorem h1u:∀(dd n:Nat) (a m b:Int) (an mn bn:Nat) (d:List a0d),a=an->m=mn->b=bn->an<mn->mn<bn->bn<=d.length->d.length<=1000000000000->bn-an<=2^dd->Srt key d an mn->Srt key d mn bn ->
  ∃d',b0w (n+dd+2) d a m b cmp=some d'/\Mv d d' an bn/\Srt key d' an bn:=by
 intro dd;induction dd with
 | zero=>intro n a m b an mn bn d ha hm hb h1 h2 hl hL hd;simp at hd;omega
 | succ dd ih =>
  intro n a m b an mn bn d ha hm hb h1 h2 hl hL hd s1 s2;subst ha hm hb;rw[show n+(dd+1)+2=(n+dd+2)+1 by omega,e2h];rw[wn (x:=(mn:Int)-an) (k:=mn-an) (by omega) (by omega),wn (x:=(bn:Int)-mn) (k:=bn-mn) (by omega) (by omega)];simp only[tif_tif];simp only[tfd];have gm:d[mn]? = some d[mn]:=q2b (by omega);have ga:d[an]? = some d[an]:=q2b (by omega);by_cases c1:((mn-an:Nat):Int)=1
  ·rw[q0z c1];have e:mn=an+1:=by omega
   obtain ⟨r,r1,r2,r3,r4,r5⟩:=sym_l3 hc (n+dd+2) (an:Int) an rfl d d[an] ga hL mn bn s2 hl (bn-mn) a0b mn bn (by omega) (by unfold a0b;omega) (by omega) (by omega) (by omega) (fun p y p1 p2=>by omega) (fun p y p1 p2=>by omega);rw[r1];simp only[obs,a0m];obtain ⟨d',t1,t2,t3⟩:=sym_l9 (key:=key) (n+dd+2) an bn r d[an] (r-an-1) a0b an d (by omega) (by unfold a0b;omega) (by omega) r3 hl hL ga
    (fun p q x y p1 p2 p3 p4 p5 hx hy=>s2 p q x y (by omega) p2 p3 hx hy)
    ⟨fun p z p1 p2 p3 hz=>Int.le_of_lt (r4 p z (by omega) p2 hz),fun p z p1 p2 p3 hz=>r5 p z p1 p2 hz⟩
   rw[t1];exact ⟨d',by simp,t2,t3⟩
  rw[q0n c1];by_cases c2:((bn-mn:Nat):Int)=1
  ·rw[q0z c2];obtain ⟨r,r1,r2,r3,r4,r5⟩:=sym_l15 hc (n+dd+2) (mn:Int) mn rfl d d[mn] gm hL an mn s1 (by omega) (mn-an) a0b an mn (by omega) (by unfold a0b;omega) (by omega) (by omega) (by omega) (fun p y p1 p2=>by omega) (fun p y p1 p2=>by omega);rw[r1];simp only[obs,a0m];obtain ⟨d',t1,t2,t3⟩:=sym_l21 (key:=key) (n+dd+2) an bn r d[mn] (mn-r) a0b mn d (by omega) (by unfold a0b;omega) (by omega) (by omega) hl hL gm
    (fun p q x y p1 p2 p3 p4 p5 hx hy=>s1 p q x y (by omega) p2 (by omega) hx hy)
    ⟨fun p z p1 p2 p3 hz=>r4 p z p1 p2 hz,fun p z p1 p2 p3 hz=>Int.le_of_lt (r5 p z p1 (by omega) hz)⟩
   rw[t1];exact ⟨d',by simp,t2,t3⟩
  rw[q0n c2,g1x an bn (by omega)];generalize hmid:(an+bn) / 2=mid;have hpow:2^(dd+1)=2^dd*2:=Nat.pow_succ 2 dd;generalize 2^dd=P at *
  rw[wn (x:=(mid:Int)+mn) (k:=mid+mn) (by omega) (by omega)];have fin:∀s:Nat,an<=s->s<=mn->mn<=mid+mn-s->mid+mn-s<=bn->s<=mid ->
    (∀x y,an<s->mid+mn-s<bn->d[s-1]? = some x->d[mid+mn-s]? = some y->key x<=key y) ->
    (∀x y,s<mn->mn<mid+mn-s->d[mid+mn-s-1]? = some x->d[s]? = some y->key x<=key y) ->
    ∃d',(if (s:Int)<(mn:Int)/\(mn:Int)<((mid+mn-s:Nat):Int) then
      a0a (i1d (n+dd+2) d (s:Int) (mn:Int) ((mid+mn-s:Nat):Int) cmp) fun r14 =>
       if (an:Int)<(s:Int)/\(s:Int)<(mid:Int) then
        a0a (b0w (n+dd+2) r14 (an:Int) (s:Int) (mid:Int) cmp) fun r15 =>
         if (mid:Int)<((mid+mn-s:Nat):Int)/\((mid+mn-s:Nat):Int)<(bn:Int) then a0a (b0w (n+dd+2) r15 (mid:Int) ((mid+mn-s:Nat):Int) (bn:Int) cmp) fun r16=>some r16
         else some r15
       else if (mid:Int)<((mid+mn-s:Nat):Int)/\((mid+mn-s:Nat):Int)<(bn:Int) then a0a (b0w (n+dd+2) r14 (mid:Int) ((mid+mn-s:Nat):Int) (bn:Int) cmp) fun r17=>some r17
        else some r14
     else if (an:Int)<(s:Int)/\(s:Int)<(mid:Int) then
       a0a (b0w (n+dd+2) d (an:Int) (s:Int) (mid:Int) cmp) fun r15 =>
        if (mid:Int)<((mid+mn-s:Nat):Int)/\((mid+mn-s:Nat):Int)<(bn:Int) then a0a (b0w (n+dd+2) r15 (mid:Int) ((mid+mn-s:Nat):Int) (bn:Int) cmp) fun r16=>some r16
        else some r15
       else if (mid:Int)<((mid+mn-s:Nat):Int)/\((mid+mn-s:Nat):Int)<(bn:Int) then a0a (b0w (n+dd+2) d (mid:Int) ((mid+mn-s:Nat):Int) (bn:Int) cmp) fun r17=>some r17
        else some d)=some d'/\Mv d d' an bn/\Srt key d' an bn:=by
   intro s k1 k2 k3 k4 k5 q1 q2;generalize he:mid+mn-s=e at *
   have tail : ∀ d1, Turned d d1 s mn e -> ∃ d', (if (an : Int) < (s : Int) /\ (s : Int) < (mid : Int) then
             a0a (b0w (n+dd+2) d1 (an:Int) (s:Int) (mid:Int) cmp) fun r15 =>
              if (mid:Int)<((e:Nat):Int)/\((e:Nat):Int)<(bn:Int) then a0a (b0w (n+dd+2) r15 (mid:Int) ((e:Nat):Int) (bn:Int) cmp) fun r16=>some r16
              else some r15
     else if (mid:Int)<((e:Nat):Int)/\((e:Nat):Int)<(bn:Int) then a0a (b0w (n+dd+2) d1 (mid:Int) ((e:Nat):Int) (bn:Int) cmp) fun r17=>some r17
      else some d1)=some d'/\Mv d d' an bn/\Srt key d' an bn:=by
    intro d1 t;obtain ⟨⟨w1,w2,w3,w4⟩,cr⟩:=halves (a:=an) (b:=bn) (mid:=mid) s1 s2 t k1 k2 k3 k4 (by omega) hl q1 q2;have l1:=t.mv.len;have m1:Mv d d1 an bn:=t.mv.mono k1 k4;have half1:∃d2,(((an:Int)<(s:Int)/\(s:Int)<(mid:Int))->b0w (n+dd+2) d1 (an:Int) (s:Int) (mid:Int) cmp=some d2)/\(¬((an:Int)<(s:Int)/\(s:Int)<(mid:Int))->d2=d1)/\Mv d1 d2 an mid/\Srt key d2 an mid:=by
     by_cases c:(an:Int)<(s:Int)/\(s:Int)<(mid:Int)
     ·obtain ⟨d2,t1,t2,t3⟩:=ih n (an:Int) (s:Int) (mid:Int) an s mid d1 rfl rfl rfl (by omega) (by omega) (by omega) (by omega) (by omega) w1 w2;exact ⟨d2,fun _=>t1,fun h=>absurd c h,t2,t3⟩
     ·refine ⟨d1,fun h=>absurd h c,fun _=>rfl,.refl _ _ _,?_⟩;by_cases c':an<s
      ·have:s=mid:=by omega
       subst this;exact w1
      ·have:s=an:=by omega
       subst this;exact w2
    obtain ⟨d2,u1,u2,u3,u4⟩:=half1;have l2:=u3.len;have w3':=w3.keep u3 (.inr (q2e _));have w4':=w4.keep u3 (.inr (by omega));have cr2:=d2g cr (.inl u3);have half2:∃d3,(((mid:Int)<(e:Int)/\(e:Int)<(bn:Int))->b0w (n+dd+2) d2 (mid:Int) (e:Int) (bn:Int) cmp=some d3)/\(¬((mid:Int)<(e:Int)/\(e:Int)<(bn:Int))->d3=d2)/\Mv d2 d3 mid bn/\Srt key d3 mid bn:=by
     by_cases c:(mid:Int)<(e:Int)/\(e:Int)<(bn:Int)
     ·obtain ⟨d3,t1,t2,t3⟩:=ih n (mid:Int) (e:Int) (bn:Int) mid e bn d2 rfl rfl rfl (by omega) (by omega) (by omega) (by omega) (by omega) w3' w4';exact ⟨d3,fun _=>t1,fun h=>absurd c h,t2,t3⟩
     ·refine ⟨d2,fun h=>absurd h c,fun _=>rfl,.refl _ _ _,?_⟩;by_cases c':mid<e
      ·have:e=bn:=by omega
       rw[this] at w3';exact w3'
      ·have:e=mid:=by omega
       rw[this] at w4';exact w4'
    obtain ⟨d3,v1,v2,v3,v4⟩:=half2;have fin3:Mv d d3 an bn/\Srt key d3 an bn :=
     ⟨(m1.trans (u3.mono (q2e _) (by omega))).trans (v3.mono (by omega) (q2e _)),Srt.join (u4.keep v3 (.inl (q2e _))) v4 (d2g cr2 (.inr v3))⟩
    refine ⟨d3,?_,fin3⟩;by_cases c:(an:Int)<(s:Int)/\(s:Int)<(mid:Int)
    ·rw[q0z c,u1 c,obs];by_cases c':(mid:Int)<(e:Int)/\(e:Int)<(bn:Int)
     ·rw[q0z c',v1 c',obs]
     ·rw[q0n c',v2 c']
    ·rw[q0n c];obtain rfl:=u2 c;by_cases c':(mid:Int)<(e:Int)/\(e:Int)<(bn:Int)
     ·rw[q0z c',v1 c',obs]
     ·rw[q0n c',v2 c']
   by_cases c:(s:Int)<(mn:Int)/\(mn:Int)<(e:Int)
   ·obtain ⟨d1,t1,t2⟩:=i2q (cmp:=cmp) (n+dd) (s:Int) (mn:Int) (e:Int) s mn e rfl rfl rfl d (by omega) (by omega) (by omega) hL;rw[q0z c,t1,obs];exact tail d1 t2
   ·rw[q0n c];exact tail d (turned_refl d (by omega))
  by_cases c3:(mid:Int)<(mn:Int)
  ·rw[q0z c3,wn (x:=((mid+mn:Nat):Int)-bn) (k:=mid+mn-bn) (by omega) (by omega),wn (x:=((mid+mn:Nat):Int)-1) (k:=mid+mn-1) (by omega) (by omega)];obtain ⟨r,r1,r2,r3,r4,r5⟩:=h2t hc (n+dd+2) (an:Int) (bn:Int) (mid:Int) ((mid+mn:Nat):Int) (mn:Int) ((mid+mn-1:Nat):Int) mn bn (mid+mn-1) an rfl d hL s1 s2 hl (mid+mn-bn) mid (by omega) (by omega)
    (fun c h1 h2=>by omega) (mid-(mid+mn-bn)) a0b (mid+mn-bn) mid (by omega) (by unfold a0b;omega) (by omega) (by omega) (by omega) (fun c x y h1 h2=>by omega) (fun c x y h1 h2=>by omega)
   rw[r1];simp only[obs,a0m,wn (x:=((mid+mn:Nat):Int)-(r:Int)) (k:=mid+mn-r) (by omega) (by omega)];refine fin r (by omega) (by omega) (by omega) (by omega) (by omega) (fun x y h1 h2 hx hy => ?_) (fun x y h1 h2 hx hy => ?_)
   ·refine r4 (r-1) x y (by omega) (by omega) hx ?_;rw[show mid+mn-1-(r-1)=mid+mn-r by omega];exact hy
   ·refine Int.le_of_lt (r5 r y x (by omega) (by omega) hy ?_);rw[show mid+mn-1-r=mid+mn-r-1 by omega];exact hx
  ·rw[q0n c3,wn (x:=((mid+mn:Nat):Int)-1) (k:=mid+mn-1) (by omega) (by omega)];obtain ⟨r,r1,r2,r3,r4,r5⟩:=h2t hc (n+dd+2) (an:Int) (bn:Int) (mid:Int) ((mid+mn:Nat):Int) (mn:Int) ((mid+mn-1:Nat):Int) mn bn (mid+mn-1) an rfl d hL s1 s2 hl an mn (by omega) (by omega)
    (fun c h1 h2=>by omega) (mn-an) a0b an mn (by omega) (by unfold a0b;omega) (by omega) (by omega) (by omega) (fun c x y h1 h2=>by omega) (fun c x y h1 h2=>by omega)
   rw[r1];simp only[obs,a0m,wn (x:=((mid+mn:Nat):Int)-(r:Int)) (k:=mid+mn-r) (by omega) (by omega)];refine fin r (by omega) (by omega) (by omega) (by omega) (by omega) (fun x y h1 h2 hx hy => ?_) (fun x y h1 h2 hx hy => ?_)
   ·refine r4 (r-1) x y (by omega) (by omega) hx ?_;rw[show mid+mn-1-(r-1)=mid+mn-r by omega];exact hy
   ·refine Int.le_of_lt (r5 r y x (by omega) (by omega) hy ?_);rw[show mid+mn-1-r=mid+mn-r-1 by omega];exact hx
end
end Go.Proofs.YtagnkfbpgkckiaaGreat
