/-
 Plain proofs about the functions of this seat, part 1 of 1.
-/
import Derived.Test.YtmcgmijdnfcfgaaTr
import Derived.Test.YtmcgmijdnfcfgaaFlatM4
import Derived.KernelRfl
import Derived.IntWalk
import Derived.Test.YtmcgmijdnfcfgaaChkP
namespace Go.Proofs.Ytmcgmijdnfcfgaa
open Go.Flat
set_option linter.unusedVariables false
set_option linter.unusedSimpArgs false
abbrev Sec:=List UInt8
abbrev Chg:=Int×Sec
abbrev Dsk:=List Sec×(List Chg×(Int×Bool))
theorem g0b {α:Type} {l pre rest:List α} {x:α} {i:Int} (h:l=pre++x::rest) (hi:i=pre.length):at? l i=some x:=by
 subst h hi;simp[at?]
theorem x0m {α:Type} {l pre rest:List α} {x:α} {i:Int} (h:l=pre++x::rest) (hi:i=pre.length):l[i.toNat]? = some x:=by
 subst h hi;simp
def FitC (m:Nat) (z:Chg):Prop:=0≤z.1∧z.1<m∧z.2.length=512
def a0x (S:List Sec) (l:List Chg):List Sec:=l.foldl (fun S z=>S.set z.1.toNat z.2) S
theorem c0g (l:List Chg):∀S,(a0x S l).length=S.length:=by
 induction l with
 | nil=>intro S;rfl
 | cons z l ih=>intro S;simp only[a0x,List.foldl_cons] at ih ⊢;rw[ih];simp
theorem b0m (S:List Sec) (l r:List Chg):a0x S (l++r)=a0x (a0x S l) r:=by simp[a0x]
def i0w (k:Int→Bool):Int→List Chg→List Chg
 | _,[]=>[]
 | i,z::r=>if k i=true then z::i0w k (i+1) r else i0w k (i+1) r
theorem j1m (l:List Chg):∀i,i0w (fun _=>true) i l=l:=by
 induction l with
 | nil=>intro i;rfl
 | cons z r ih=>intro i;simp[i0w,ih]
theorem t0h {k:Int→Bool} {z:Chg}:∀(l:List Chg) (i:Int),z∈i0w k i l→z∈l
 | [],_,h=>h
 | y::r,i,h=>by
  unfold i0w at h;split at h
  ·rcases List.mem_cons.1 h with h | h
   ·exact h ▸ List.mem_cons_self
   ·exact List.mem_cons_of_mem _ (t0h r _ h)
  ·exact List.mem_cons_of_mem _ (t0h r _ h)
structure DkOk (d:Dsk):Prop where
 len:d.1.length≤16777216
 pen:d.2.1.length≤1000000000000
 fit:∀z∈d.2.1,FitC d.1.length z
theorem has_val (n:Nat) (d:Dsk) (i:Int):k0x (n+1) d i=some (decide (0≤i∧i<d.1.length),d):=by
 rw[r0j];simp only[tfd];by_cases h:0≤i
 ·rw[if_pos h];simp[h]
 ·rw[if_neg h];simp[h]
def stepD (d:Dsk):Int×Dsk :=
 if d.2.2.2=true then (14,d) else if d.2.2.1=1 then (14,d.1,d.2.1,0,true) else if 1<d.2.2.1 then (0,d.1,d.2.1,d.2.2.1-1,d.2.2.2) else (0,d)
theorem c1r (n:Nat) (d:Dsk) (h:d.2.2.1≤9223372036854775807):g0n (n+1) d=some (stepD d):=by
 rw[q0e];unfold stepD;simp only[f0t,decide_eq_true_eq];by_cases h1:d.2.2.2=true
 ·rw[if_pos h1,if_pos h1]
 rw[if_neg h1,if_neg h1];by_cases h2:d.2.2.1=1
 ·rw[if_pos h2,if_pos h2]
 rw[if_neg h2,if_neg h2];by_cases h3:1<d.2.2.1
 ·rw[if_pos h3,if_pos h3,w64 (by omega) (by omega)]
 ·rw[if_neg h3,if_neg h3]
def o0i (d:Dsk) (i:Int) (s:Sec):Int×Dsk :=
 if 0≤i∧i<d.1.length∧s.length=512 then
  if (stepD d).1=0 then (0,(stepD d).2.1,(stepD d).2.2.1++[(i,s)],(stepD d).2.2.2) else stepD d
 else (1,d)
theorem m0s (d:Dsk):(stepD d).2.1=d.1∧(stepD d).2.2.1=d.2.1:=by
 unfold stepD;split
 ·exact ⟨rfl,rfl⟩
 split
 ·exact ⟨rfl,rfl⟩
 split<;>exact ⟨rfl,rfl⟩
theorem g1t (n:Nat) (d:Dsk) (i:Int) (s:Sec) (h:d.2.2.1≤9223372036854775807) (hp:d.2.1.length≤1000000000000):i0r (n+2) d i s=some (o0i d i s):=by
 rw[p0f,has_val,obs];unfold o0i;by_cases h1:0≤i∧i<(d.1.length:Int)
 ·by_cases h2:s.length=512
  ·rw[if_pos ⟨h1.1,h1.2,h2⟩];have e2:decide (((s.length:Nat):Int)=512)=true:=by simp[h2]
   rw[decide_eq_true h1,e2];simp only[f0t,Bool.not_true,Bool.false_eq_true,if_false];rw[c1r n d h,obs];by_cases h3:(stepD d).1=0
   ·rw[if_pos (by simpa using h3),if_pos h3];have hl:(stepD d).2.2.1.length=d.2.1.length:=by rw[(m0s d).2]
    rw[if_pos (by simp;omega),h3]
   ·rw[if_neg (by simpa using h3),if_neg h3]
  ·rw[if_neg (fun q=>h2 q.2.2)];have e2:decide (((s.length:Nat):Int)=512)=false:=by simp;omega
   rw[decide_eq_true h1,e2];rfl
 ·rw[if_neg (fun q=>h1 ⟨q.1,q.2.1⟩),decide_eq_false h1];rfl
theorem j1k (n:Nat) {is:Int×Unit→Option Bool} {k:Int→Bool} (l:List Chg) (hl:l.length≤1000000000000):∀(rest pre:List Chg) (f:Nat) (d:Dsk) (c i:Int),(∀j:Int,0≤j→j<l.length→is (j,())=some (k j))→d.2.1=l→l=pre++rest→i=pre.length→(∀z∈rest,FitC d.1.length z)→0≤c→c≤pre.length →
  d0g n (f+rest.length+1) (d,is,c,(l.length:Int),i,())=some (.inl ((a0x d.1 (i0w k i rest),d.2),(c+(i0w k i rest).length,()))):=by
 intro rest;induction rest with
 | nil =>
  intro pre f d c i his hd h hi hf hc0 hc;rw[h0q];have h1:¬(i<(l.length:Int)):=by have:=congrArg List.length h;simp at this;omega
  simp only[tfd,if_neg h1];simp[i0w,a0x]
 | cons z rest ih =>
  intro pre f d c i his hd h hi hf hc0 hc;have hlen:=congrArg List.length h;simp at hlen;rw[show f+(z::rest).length+1=(f+rest.length+1)+1 by simp;omega,h0q];have h1:i<(l.length:Int):=by omega
  simp only[tfd,if_pos h1,hd];rw[g0b h hi,obs,x0m h hi,obs,his i (by omega) h1,obs];have hz:=hf z List.mem_cons_self;have hnext:i+1=((pre++[z]).length:Int):=by simp;omega
  rw[w64 (x:=i+1) (by omega) (by omega)];by_cases hk:k i=true
  ·rw[hk];simp only[f0t,if_true];have ha:∃v,d.1[z.1.toNat]? = some v:=⟨_,List.getElem?_eq_getElem (by have:=hz.1;have:=hz.2.1;omega)⟩;obtain ⟨v,hv⟩:=ha;have hat:at? d.1 z.1=some v:=by
    simp[at?,hz.1,hv]
   rw[hat,obs,hv,obs,w64 (x:=c+1) (by omega) (by omega)];have:=ih (pre++[z]) f (d.1.set z.1.toNat z.2,d.2) (c+1) (i+1) his hd (by rw[h];simp) hnext (fun y hy=>by simpa using hf y (List.mem_cons_of_mem _ hy)) (by omega) (by simp;omega);rw[this];have hkf:i0w k i (z::rest)=z::i0w k (i+1) rest:=by rw[i0w,if_pos hk]
   rw[hkf];have e:c+1+((i0w k (i+1) rest).length:Int)=c+((z::i0w k (i+1) rest).length:Int):=by rw[List.length_cons];push_cast;omega
   rw[e];rfl
  ·have hk':k i=false:=by simpa using hk
   rw[hk'];simp only[f0t,Bool.false_eq_true,if_false];have:=ih (pre++[z]) f d c (i+1) his hd (by rw[h];simp) hnext (fun y hy=>hf y (List.mem_cons_of_mem _ hy)) hc0 (by simp;omega);rw[this];have hkf:i0w k i (z::rest)=i0w k (i+1) rest:=by rw[i0w,if_neg hk]
   rw[hkf]
def keepD (d:Dsk) (k:Int→Bool):Int×Dsk:=(((i0w k 0 d.2.1).length:Int),a0x d.1 (i0w k 0 d.2.1),[],d.2.2)
theorem d1k (n:Nat) (d:Dsk) {is:Int×Unit→Option Bool} {k:Int→Bool} (h:DkOk d) (his:∀j:Int,0≤j→j<d.2.1.length→is (j,())=some (k j)):g0o (n+1) d is=some (keepD d k):=by
 rw[q0f];have hfu:(a0b-d.2.1.length-1)+d.2.1.length+1=a0b:=by
  have:=h.pen;unfold a0b;omega
 have:=j1k n d.2.1 h.pen d.2.1 [] (a0b-d.2.1.length-1) d 0 0 his rfl rfl rfl h.fit (Int.le_refl _) (by simp);rw[hfu] at this;rw[this,obs,c0f];simp[keepD]
def e1n (d:Dsk):Int×Dsk:=if (stepD d).1=0 then (0,(keepD (stepD d).2 fun _=>true).2) else stepD d
theorem DkOk.step {d:Dsk} (h:DkOk d):DkOk (stepD d).2:=by
 obtain ⟨e1,e2⟩:=m0s d;exact ⟨by rw[e1];exact h.len,by rw[e2];exact h.pen,by rw[e1,e2];exact h.fit⟩
theorem sync_val (n:Nat) (d:Dsk) (h:DkOk d) (ha:d.2.2.1≤9223372036854775807):g0p (n+2) d=some (e1n d):=by
 rw[q0h,c1r n d ha,obs];unfold e1n;by_cases h1:(stepD d).1=0
 ·simp only[tfd,if_pos h1];rw[d1k n (stepD d).2 (is:=fun y1=>g0z (n+1) y1.1) h.step (k:=fun _=>true) (fun j _ _=>o0c n j),obs,h1]
 ·simp only[tfd,if_neg h1]
def upK (keep:List Bool) (j:Int):Bool:=decide (j<keep.length)&&(keep[j.toNat]?.getD false)
def upD (d:Dsk) (keep:List Bool):Int×Dsk:=keepD (d.1,d.2.1,0,false) (upK keep)
theorem up_val (n:Nat) (d:Dsk) (keep:List Bool) (h:DkOk d):e0z (n+2) d keep=some (upD d keep):=by
 rw[t0p];have h':DkOk (d.1,d.2.1,(0:Int),false):=⟨h.len,h.pen,h.fit⟩;rw[d1k n (d.1,d.2.1,(0:Int),false) (is:=fun y0=>j0s (n+1) y0.1 keep) h' (k:=upK keep) (fun j h0 h1 => ?_),obs]
 ·rfl
 ·rw[q0g];unfold upK;by_cases hj:j<(keep.length:Int)
  ·obtain ⟨v,hv⟩:∃v,keep[j.toNat]? = some v:=⟨_,List.getElem?_eq_getElem (by omega)⟩;simp[tfd,hj,at?,h0,hv]
  ·simp[tfd,hj]
end Go.Proofs.Ytmcgmijdnfcfgaa

set_option maxRecDepth 100000
namespace Go.Proofs.Ytmcgmijdnfcfgaa
open Go.Flat
theorem rep512 (n:Nat):strings_Repeat (n+3) [0] 512=some (List.replicate 512 0):=by kernel_rfl
end Go.Proofs.Ytmcgmijdnfcfgaa
namespace Go.Proofs.Ytmcgmijdnfcfgaa
open Go.Flat
set_option linter.unusedVariables false
set_option linter.unusedSimpArgs false
theorem rep_loop (n:Nat) (r:Sec) (m:Nat) (hm:m≤16777216):∀(f k:Nat),1≤k→k≤m→m-k≤f →
  d0o n (f+1) (List.replicate k r++List.replicate (m-k) [],(k:Int),())=some (.inl (List.replicate m r,())):=by
 intro f;induction f with
 | zero =>
  intro k h1 h2 h3;obtain rfl:k=m:=by omega
  rw[f0o];simp[tfd]
 | succ f ih =>
  intro k h1 h2 h3;rw[f0o];have hlen:(List.replicate k r++List.replicate (m-k) ([]:Sec)).length=m:=by simp;omega
  rw[hlen];by_cases hk:k=m
  ·subst hk;simp[tfd]
  ·have c1:((k:Int)<(m:Int)):=by omega
   have c2:((0:Int)≤(k:Int)):=by omega
   have c3:(Int.toNat (k:Int)≤m):=by simp;omega
   have c4:(decide ((0:Int)≤(k:Int))&&decide ((k:Int)≤(m:Int)))=true:=by simp;omega
   have c5:(Int.toNat (k:Int)+(m-Int.toNat (k:Int))≤m):=by simp;omega
   rw[c4];simp only[f0t,decide_eq_true_eq,if_pos c1,if_pos c2,if_pos c3,if_pos c5,if_true];have e1:List.take (Int.toNat (k:Int)-0) (List.drop 0 (List.replicate k r++List.replicate (m-k) ([]:Sec)))=List.replicate k r:=by simp
   rw[e1];have e2:List.take (m-Int.toNat (k:Int)) (List.replicate k r)=List.replicate (min (m-k) k) r:=by simp
   rw[e2];have e3:(k:Int)+((List.replicate (min (m-k) k) r).length:Int)=((k+min (m-k) k:Nat):Int):=by simp
   rw[e3,w64 (by omega) (by omega)];have e4:Go.Flat.putRow (List.replicate k r++List.replicate (m-k) ([]:Sec)) (Int.toNat (k:Int)) (List.replicate (min (m-k) k) r)=List.replicate (k+min (m-k) k) r++List.replicate (m-(k+min (m-k) k)) []:=by
    unfold Go.Flat.putRow;rw[show Int.toNat (k:Int)=k by simp,List.take_left' (by simp),List.drop_append,List.drop_of_length_le (by simp),List.replicate_append_replicate];simp;omega
   rw[e4];exact ih (k+min (m-k) k) (by omega) (by omega) (by omega)
end Go.Proofs.Ytmcgmijdnfcfgaa

namespace Go.Plim
set_option linter.unusedVariables false
abbrev Wd:=Int×Int
abbrev Ev:=Int×(Int×(Int×Bool))
abbrev Cel:=Int×(Ev×(Ev×(Wd×(Int×(Int×Int)))))
instance decWd:DecidableEq Wd:=inferInstanceAs (DecidableEq (Int×Int))
instance decEv:DecidableEq Ev:=inferInstanceAs (DecidableEq (Int×(Int×(Int×Bool))))
instance decCel:DecidableEq Cel := @instDecidableEqProd _ _ _ (@instDecidableEqProd _ _ decEv (@instDecidableEqProd _ _ decEv (@instDecidableEqProd _ _ decWd inferInstance)))
def wv (a:Wd):Int:=a.1*18446744073709551616+a.2
structure WdOk (a:Wd):Prop where
 hi:0≤a.1∧a.1≤18446744073709551615
 lo:0≤a.2∧a.2≤18446744073709551615
def e0:Ev:=(0,(0,(0,false)))
structure EvOk (e:Ev):Prop where
 t0:0≤e.1
 t1:e.1<35184372088832
 v0:0≤e.2.1
 v1:e.2.1≤18446744073709551615
 c0:0≤e.2.2.1
 c1:e.2.2.1≤e.1
 st:e.2.2.2=true→e.2.1=0∧e.2.2.1=0
structure DlOk (d:Int×(Int×(Int×Int))) (s:Int):Prop where
 i:0≤d.1∧d.1≤18446744073709551615
 r:0≤d.2.1
 g:0≤d.2.2.1
 rg:d.2.1+d.2.2.1≤1
 s:0≤d.2.2.2∧d.2.2.2≤s
def z0:Cel:=(0,(e0,(e0,((0,0),(0,(0,0))))))
structure CellN (c:Cel):Prop where
 n1:1≤c.1
 f:EvOk c.2.1
 l:EvOk c.2.2.1
 one:c.1=1→c.2.1=c.2.2.1
 more:1<c.1→c.2.1.1<c.2.2.1.1
 n2:c.1-1≤c.2.2.1.1-c.2.1.1
 w:WdOk c.2.2.2.1
 inc:wv c.2.2.2.1≤18446744073709551615*(c.1-1)
 r:0≤c.2.2.2.2.1
 g:0≤c.2.2.2.2.2.1
 rg:c.2.2.2.2.1+c.2.2.2.2.2.1≤c.1-1
 s0:0≤c.2.2.2.2.2.2
 s1:c.2.2.2.2.2.2≤c.2.2.1.1-c.2.1.1
def w0m (c:Cel):Prop:=c=z0∨CellN c
theorem CellN.ne {c:Cel} (h:CellN c):c≠z0:=by
 intro e;have:=h.n1;rw[e] at this;simp[z0] at this
theorem CellN.ok {c:Cel} (h:CellN c):w0m c := .inr h
theorem w0m.n {c:Cel} (h:w0m c) (hz:c≠z0):CellN c:=h.resolve_left hz
theorem w0m.count {c:Cel} (h:w0m c):(c.1=0↔c=z0)∧0≤c.1:=by
 rcases h with rfl | h
 ·exact ⟨⟨fun _=>rfl,fun _=>rfl⟩,by simp[z0]⟩
 ·have:=h.n1;exact ⟨⟨fun e=>by omega,fun e=>absurd e h.ne⟩,by omega⟩
theorem CellN.ft {c:Cel} (h:CellN c):c.2.1.1≤c.2.2.1.1:=by have:=h.n1;have:=h.n2;omega
theorem CellN.small {c:Cel} (h:CellN c):c.1≤35184372088832:=by
 have:=h.n2;have:=h.f.t0;have:=h.l.t1;omega
structure Foll (l:List Ev):Prop where
 ok:∀e∈l,EvOk e
 inc:l.Pairwise fun a b=>a.1<b.1
theorem Foll.nil:Foll []:=⟨by simp,.nil⟩
theorem Foll.sub {l m:List Ev} (h:Foll l) (s:m.Sublist l):Foll m:=⟨fun e he=>h.ok e (s.subset he),h.inc.sublist s⟩
structure Has (l:List Ev) (c:Cel):Prop where
 n:CellN c
 cnt:c.1=l.length
 first:l.head? = some c.2.1
 last:l.getLast? = some c.2.2.1
end Go.Plim

namespace Go.Proofs.Ytmcgmijdnfcfgaa
open Go.Flat Go.Plim
set_option linter.unusedVariables false
set_option linter.unusedSimpArgs false
theorem shr_nat (x:Int) (k:Nat) (hk:k≤64):shrI .u64 x (k:Int)=x / 2^k:=by
 unfold shrI;rw[show min (k:Int).toNat IntKind.u64.bits=k from by show min (k:Int).toNat 64=k;omega];exact Int.fdiv_eq_ediv_of_nonneg _ (Int.le_of_lt (Int.pow_pos (by decide)))
theorem and_mask (x:Int) (k:Nat) (hk:k≤63) (h:0≤x) (h':x≤18446744073709551615):andI .u64 x ((2^k-1:Nat):Int)=x % ((2^k:Nat):Int):=by
 obtain ⟨a,rfl⟩:=Int.eq_ofNat_of_zero_le h;have hp:2^k≤2^63:=Nat.pow_le_pow_right (by decide) hk;have h63:(2:Nat)^63=9223372036854775808:=by decide
 unfold andI;have e:(BitVec.ofInt IntKind.u64.bits (a:Int) &&& BitVec.ofInt IntKind.u64.bits ((2^k-1:Nat):Int)).toNat=a % 2^k:=by
  show (BitVec.ofInt 64 (a:Int) &&& BitVec.ofInt 64 ((2^k-1:Nat):Int)).toNat=_;rw[BitVec.toNat_and,BitVec.ofInt_natCast,BitVec.ofInt_natCast,BitVec.toNat_ofNat,BitVec.toNat_ofNat,Nat.mod_eq_of_lt (a:=a) (by omega),Nat.mod_eq_of_lt (a:=2^k-1) (by omega),Nat.and_two_pow_sub_one_eq_mod]
 rw[e];have:a % 2^k<2^k:=Nat.mod_lt _ (Nat.pow_pos (by decide));rw[wu64 (by omega) (by omega)];simp
theorem mul64 (n:Nat) (x y:Int) (hx:0≤x∧x≤18446744073709551615) (hy:0≤y∧y≤18446744073709551615):i0p (n+1) x y=some (x*y / 18446744073709551616,x*y % 18446744073709551616):=by
 rw[o0x];have sh:∀z:Int,shrI .u64 z (32:Int)=z / 4294967296:=fun z=>shr_nat z 32 (by decide)
 have an:∀z:Int,0≤z→z≤18446744073709551615→andI .u64 z (4294967295:Int)=z % 4294967296:=fun z h h'=>and_mask z 32 (by decide) h h'
 rw[an x hx.1 hx.2,an y hy.1 hy.2];simp only[sh];have b1:0≤x / 4294967296∧x / 4294967296≤4294967295:=by omega
 have b2:0≤y / 4294967296∧y / 4294967296≤4294967295:=by omega
 have b3:0≤x % 4294967296∧x % 4294967296≤4294967295:=by omega
 have b4:0≤y % 4294967296∧y % 4294967296≤4294967295:=by omega
 have ex:x=x / 4294967296*4294967296+x % 4294967296:=by omega
 have ey:y=y / 4294967296*4294967296+y % 4294967296:=by omega
 generalize hx1:x / 4294967296=x1 at *
 generalize hx0:x % 4294967296=x0 at *
 generalize hy1:y / 4294967296=y1 at *
 generalize hy0:y % 4294967296=y0 at *
 have bound:∀ {u v:Int},0≤u∧u≤4294967295→0≤v∧v≤4294967295→0≤u*v∧u*v≤18446744065119617025:=fun {u v} hu hv =>
  ⟨Int.mul_nonneg hu.1 hv.1,Int.le_trans (Int.mul_le_mul hu.2 hv.2 hv.1 (by decide)) (by decide)⟩
 have p11:=bound b1 b2;have p10:=bound b1 b4;have p01:=bound b3 b2;have p00:=bound b3 b4;have exy:x*y=x1*y1*18446744073709551616+(x1*y0+x0*y1)*4294967296+x0*y0:=by
  rw[ex,ey];simp only[Int.add_mul,Int.mul_add];have q1:x1*4294967296*(y1*4294967296)=x1*y1*18446744073709551616:=by
   rw[Int.mul_assoc,Int.mul_left_comm 4294967296 y1,←Int.mul_assoc];rfl
  have q2:x0*(y1*4294967296)=x0*y1*4294967296:=by rw[Int.mul_assoc]
  have q3:x1*4294967296*y0=x1*y0*4294967296:=by rw[Int.mul_assoc,Int.mul_comm 4294967296 y0,←Int.mul_assoc]
  rw[q1,q2,q3];omega
 rw[exy];generalize x1*y1=a11 at *
 generalize x1*y0=a10 at *
 generalize x0*y1=a01 at *
 generalize x0*y0=a00 at *
 rw[wu64 (x:=a00) (by omega) (by omega),wu64 (x:=a11) (by omega) (by omega),wu64 (x:=a10) (by omega) (by omega),wu64 (x:=a01) (by omega) (by omega)];rw[wu64 (x:=a10+a00 / 4294967296) (by omega) (by omega),an _ (by omega) (by omega)];rw[wu64 (x:=a11+(a10+a00 / 4294967296) / 4294967296) (by omega) (by omega),wu64 (x:=(a10+a00 / 4294967296) % 4294967296+a01) (by omega) (by omega),wu64 (by omega) (by omega)];have wm:∀z:Int,IntKind.wrap .u64 z=z % 18446744073709551616:=fun z=>IntKind.wrap_u64 z
 rw[wm];congr 2;omega
end Go.Proofs.Ytmcgmijdnfcfgaa
namespace Go.Proofs.Ytmcgmijdnfcfgaa
open Go.Flat
set_option linter.unusedVariables false
set_option linter.unusedSimpArgs false
theorem e1u (n:Nat) (r:Sec) (m:Nat) (h1:1≤m) (h2:m≤16777216):g0w (n+3) [r] (m:Int)=some (List.replicate m r):=by
 rw[n0v];have c1:¬((m:Int)<0):=by omega
 have e1:(((List.length [r]:Nat)):Int)=1:=rfl;rw[e1,wu64 (x:=1) (by omega) (by omega),wu64 (x:=(m:Int)) (by omega) (by omega),l0i,mul64 n 1 (m:Int) (by omega) (by omega)];have e2:(1:Int)*(m:Int) / 18446744073709551616=0:=by omega
 have e3:(1:Int)*(m:Int) % 18446744073709551616=(m:Int):=by omega
 rw[e2,e3,obs,obs];have c2:¬((9223372036854775807:Int)<(m:Int)):=by omega
 have e4:IntKind.wrap .i64 (m:Int)=(m:Int):=w64 (by omega) (by omega);rw[e4];have c3:(decide ((0:Int)≤(m:Int))&&(decide ((m:Int)≤(m:Int))&&decide ((m:Int)*16≤(140737488355328:Int))))=true:=by simp;omega
 rw[c3];simp only[f0t,decide_eq_true_eq,if_neg c1,if_neg c2,if_true,Int.lt_irrefl,if_false,Int.toNat_natCast,List.length_replicate];have e5:List.take m [r]=[r]:=by
  cases m with
  | zero=>omega
  | succ m=>simp
 have e6:Go.Flat.putRow (List.replicate m ([]:Sec)) 0 [r]=List.replicate 1 r++List.replicate (m-1) []:=by simp[Go.Flat.putRow]
 rw[e5,e6];have:=rep_loop (n+2) r m h2 (a0b-1) 1 (Nat.le_refl _) h1 (by unfold a0b;omega);rw[show a0b-1+1=a0b by unfold a0b;omega] at this;have e7:(((List.length [r]:Nat)):Int)=((1:Nat):Int):=rfl;rw[e7,this,obs,c0f]
def zsec:Sec:=List.replicate 512 0
def newD (m:Nat):Dsk:=(List.replicate m zsec,[],0,false)
theorem i1x (n:Nat) (c:Int):p0e (n+4) c=some (if 1≤c∧c≤16777216 then (some (newD c.toNat),0) else (none,1)):=by
 rw[c1j];by_cases h1:c<1
 ·rw[if_neg (by omega)];simp only[tfd,if_pos h1]
 by_cases h2:16777216<c
 ·rw[if_neg (by omega)];simp only[tfd,if_neg h1,if_pos h2]
 rw[if_pos (by omega)];simp only[tfd,if_neg h1,if_neg h2];have e:c=((c.toNat:Nat):Int):=by omega
 rw[rep512,obs];have:=e1u n (List.replicate 512 0) c.toNat (by omega) (by omega);rw[←e] at this;rw[this,obs];rfl
theorem f1w (i:Int) (s:Sec):∀r:List Chg,r.foldr (fun z s=>if z.1=i then z.2 else s) s=(match r.find? (fun z=>decide (z.1=i)) with | some z=>z.2 | none=>s)
 | []=>rfl
 | z::r=>by
  rw[List.foldr_cons,List.find?_cons];by_cases h:z.1=i
  ·simp[h]
  ·rw[if_neg h,f1w i s r,decide_eq_false h]
def c0i (d:Dsk) (i:Int):Sec×Int :=
 if d.2.2.2=true then ([],14) else if 0≤i∧i<d.1.length then
  ((match d.2.1.reverse.find? (fun z=>decide (z.1=i)) with | some z=>z.2 | none=>d.1[i.toNat]?.getD []),0) else ([],1)
theorem o0p (n:Nat) (d:Dsk) (i:Int):d0e (n+1) d i=some ((c0i d i).1,(c0i d i).2,d):=by
 rw[q0i];unfold r0a c0i;cases d.2.2.2 with
 | true=>rfl
 | false =>
  by_cases h:0≤i∧i<(d.1.length:Int)
  ·rw[if_pos h,decide_eq_true h.1,decide_eq_true h.2];simp only[Bool.and_self,cond_true,cond_false,Bool.false_eq_true,if_false];cases d.2.1.reverse.find? (fun z=>decide (z.1=i))<;>rfl
  ·rw[if_neg h];have:(decide (0≤i)&&decide (i<(d.1.length:Int)))=false:=by simp;omega
   rw[this];rfl
theorem i1a (n:Nat) (l:List Sec) (hl:l.length≤1000000000):∀(rest pre:List Sec) (f:Nat) (i:Int),l=pre++rest→i=pre.length →
  f0x n (f+rest.length+1) (l,l,(l.length:Int),i,())=some (.inl ()):=by
 intro rest;induction rest with
 | nil =>
  intro pre f i h hi;rw[g0k];have h1:¬(i<(l.length:Int)):=by have:=congrArg List.length h;simp at this;omega
  simp only[tfd,if_neg h1]
 | cons z rest ih =>
  intro pre f i h hi;have hlen:=congrArg List.length h;simp at hlen;rw[show f+(z::rest).length+1=(f+rest.length+1)+1 by simp;omega,g0k];have h1:i<(l.length:Int):=by omega
  simp only[tfd,if_pos h1];rw[g0b h hi,obs,obs,w64 (x:=i+1) (by omega) (by omega),ih (pre++[z]) f (i+1) (by rw[h];simp) (by simp;omega)];simp[f0t]
theorem w0v (n:Nat) (l:List Sec) (hl:l.length≤1000000000):c0c (n+1) l l=some true:=by
 rw[s0t];have hfu:(a0b-l.length-1)+l.length+1=a0b:=by unfold a0b;omega
 have:=i1a n l hl l [] (a0b-l.length-1) 0 rfl rfl;rw[hfu] at this;rw[this];simp[f0t]
end Go.Proofs.Ytmcgmijdnfcfgaa
namespace Go.Proofs.Ytmcgmijdnfcfgaa
open Go.Flat Go.Plim
set_option linter.unusedVariables false
set_option linter.unusedSimpArgs false
theorem idx {α:Type} {l pre rest:List α} {x:α} {i len:Int} (h:l=pre++x::rest) (hi:i=pre.length) (hn:len=l.length):i<len:=by
 have:=congrArg List.length h;simp at this;omega
def I64 (x:Int):Prop := -9223372036854775808≤x∧x≤9223372036854775807
structure EvW (e:Ev):Prop where
 t:I64 e.1
 v:0≤e.2.1∧e.2.1≤18446744073709551615
 c:I64 e.2.2.1
structure CelW (c:Cel):Prop where
 n:I64 c.1
 f:EvW c.2.1
 l:EvW c.2.2.1
 w:WdOk c.2.2.2.1
 r:I64 c.2.2.2.2.1
 g:I64 c.2.2.2.2.2.1
 s:I64 c.2.2.2.2.2.2
theorem EvW.of {e:Ev} (h:EvOk e):EvW e:=by
 obtain ⟨a,b,c,d,f,g,_⟩:=h;exact ⟨by unfold I64;omega,⟨c,d⟩,by unfold I64;omega⟩
theorem CelW.ofN {c:Cel} (h:CellN c):CelW c:=by
 have:=h.small;have:=h.n1;have:=h.f.t0;have:=h.f.t1;have:=h.l.t0;have:=h.l.t1;have:=h.r;have:=h.g;have:=h.rg;have:=h.s0;have:=h.s1;exact ⟨by unfold I64;omega,.of h.f,.of h.l,h.w,by unfold I64;omega,by unfold I64;omega,by unfold I64;omega⟩
theorem celW_z0:CelW z0:=⟨by simp[I64,z0],⟨by simp[I64,z0,e0],by simp[z0,e0],by simp[I64,z0,e0]⟩,⟨by simp[I64,z0,e0],by simp[z0,e0],by simp[I64,z0,e0]⟩,⟨by simp[z0],by simp[z0]⟩,by simp[I64,z0],by simp[I64,z0],by simp[I64,z0]⟩
theorem CelW.of {c:Cel} (h:w0m c):CelW c:=by
 rcases h with rfl | h
 ·exact celW_z0
 ·exact .ofN h
end Go.Proofs.Ytmcgmijdnfcfgaa
namespace Go.Proofs.Ytmcgmijdnfcfgaa
open Go.Flat
theorem wst (n:Nat) (b s:List UInt8) (hl:b.length+s.length≤100000000000000):b0g (n+1) b s=some ((s.length:Int),false,b++s):=by
 rw[g0s,d0z,tfd,if_pos (by omega)]
end Go.Proofs.Ytmcgmijdnfcfgaa
namespace Go.Proofs.Ytmcgmijdnfcfgaa
open Go.Flat Go.Plim
set_option linter.unusedVariables false
set_option linter.unusedSimpArgs false
theorem rpb_loop (n m:Nat) (hm:m≤100000):∀(f k:Nat),1≤k→k≤m→m-k≤f →
  b0z (n+1) (f+1) ((m:Int),(m:Int),List.replicate k (0:UInt8),())=some (.inl (List.replicate m 0,())):=by
 intro f;induction f with
 | zero =>
  intro k h1 h2 h3;obtain rfl:k=m:=by omega
  rw[g0r,c0r,obs];dsimp only;rw[List.length_replicate,tfd,if_neg (by omega)]
 | succ f ih =>
  intro k h1 h2 h3;rw[g0r,c0r,obs];dsimp only;rw[List.length_replicate,tfd];by_cases hk:k=m
  ·subst hk;rw[if_neg (by omega)]
  ·rw[if_pos (by omega),c0r,obs];dsimp only;rw[c0r,obs];dsimp only;rw[e0n,obs];dsimp only;rw[List.length_replicate,w64 (by omega) (by omega)];have e:(if (m:Int)<(if (k:Int)<(m:Int)-(k:Int) then (k:Int) else (m:Int)-(k:Int)) then (m:Int) else (if (k:Int)<(m:Int)-(k:Int) then (k:Int) else (m:Int)-(k:Int)))=((min k (m-k):Nat):Int):=by
    split<;>split<;>omega
   rw[e,Int.toNat_natCast];have c1:(decide ((0:Int)≤((min k (m-k):Nat):Int))&&decide (((min k (m-k):Nat):Int)≤((k:Nat):Int)))=true:=by
    rw[Bool.and_eq_true,decide_eq_true_eq,decide_eq_true_eq];omega
   have e2:List.drop 0 (List.take (min k (m-k)) (List.replicate k (0:UInt8)))=List.replicate (min k (m-k)) 0:=by
    rw[List.drop_zero,List.take_replicate];congr 1;omega
   rw[c1,tft,e2,wst n _ _ (by simp;omega),obs];dsimp only;rw[List.replicate_append_replicate];exact ih (k+min k (m-k)) (by omega) (by omega) (by omega)
theorem rep_val (n c:Nat) (hc:c≤8192):strings_Repeat (n+4) [0] (c:Int)=some (List.replicate c 0):=by
 rw[j0j,tfd];by_cases h0:(c:Int)=0
 ·obtain rfl:c=0:=by omega
  rw[if_pos h0];rfl
 rw[if_neg h0,tfd];by_cases h1:(c:Int)=1
 ·obtain rfl:c=1:=by omega
  rw[if_pos h1];rfl
 rw[if_neg h1,tfd,if_neg (by omega),wu64 (x:=(c:Int)) (by omega) (by omega),l0i,mul64 (n+1) 1 (c:Int) (by omega) (by omega)];have e2:(1:Int)*(c:Int) / 18446744073709551616=0:=by omega
 have e3:(1:Int)*(c:Int) % 18446744073709551616=(c:Int):=by omega
 rw[e2,e3,obs,obs];dsimp only;rw[tfd,if_neg (by omega),tfd,if_neg (by omega),w64 (x:=(c:Int)) (by omega) (by omega)];have hg:c0e (n+3) [] (c:Int)=some []:=by
  rw[k0m,b1v];rw[show (decide (([]:List UInt8).length=0)&&(decide ((0:Int)≤(c:Int))&&decide ((c:Int)≤70368744177664)))=true by
   rw[Bool.and_eq_true,Bool.and_eq_true,decide_eq_true_eq,decide_eq_true_eq,decide_eq_true_eq]
   exact ⟨rfl,by omega,by omega⟩,tft]
 rw[tfd,if_neg (by omega),hg,obs,wst (n+2) [] _ (by simp),obs];dsimp only;have:=rpb_loop (n+2) c (by omega) (a0b-1) 1 (Nat.le_refl _) (by omega) (by unfold a0b;omega);rw[show a0b-1+1=a0b by unfold a0b;omega] at this
 change a0c (b0z (n+3) a0b ((c:Int),(c:Int),List.replicate 1 (0:UInt8),())) _=_
 rw[this,obs,c0f];dsimp only;rw[e0n,obs]
end Go.Proofs.Ytmcgmijdnfcfgaa
namespace Go.Proofs.Ytmcgmijdnfcfgaa
open Go.Flat
theorem pow_le (k:Nat) (hk:k≤7):(256:Int)^k≤72057594037927936:=by
 match k,hk with
 | 0,_ | 1,_ | 2,_ | 3,_ | 4,_ | 5,_ | 6,_ | 7,_=>decide
theorem two_pow8 (k:Nat):(2:Int)^(8*k)=256^k:=by rw[Int.pow_mul];rfl
theorem g1s (n:Nat) (x:Int):∀(k f:Nat) (w:List Int),k≤8→k<f→w.length+k≤1000000 →
  c0z n f (w,x,8*((k:Int)-1),())=some (.inl (w++beI k x,())):=by
 intro k;induction k with
 | zero =>
  intro f w _ hf _;obtain ⟨f,rfl⟩:∃g,f=g+1:=⟨f-1,by omega⟩;rw[f0b];simp[tfd,beI]
 | succ k ih =>
  intro f w hk hf hl;obtain ⟨f,rfl⟩:∃g,f=g+1:=⟨f-1,by omega⟩;rw[f0b];have h1:(0:Int)≤8*(((k+1:Nat):Int)-1):=by omega
  have h2:¬(8*(((k+1:Nat):Int)-1)<(0:Int)):=by omega
  have h3:(w.length+1)*1≤140737488355328:=by omega
  simp only[tfd,if_pos h1,if_neg h2,if_pos h3];have e1:IntKind.wrap .i64 (8*(((k+1:Nat):Int)-1)-8)=8*((k:Int)-1):=by rw[w64 (by omega) (by omega)];omega
  have e2:IntKind.wrap .u8 (shrI .u64 x (8*(((k+1:Nat):Int)-1)))=x / 256^k % 256:=by
   rw[a1n];congr 1;have:min (8*(((k+1:Nat):Int)-1)).toNat IntKind.u64.bits=8*k:=by
    have:(8*(((k+1:Nat):Int)-1)).toNat=8*k:=by omega
    rw[this];show min (8*k) 64=8*k;omega
   simp only[shrI,this,two_pow8];exact Int.fdiv_eq_ediv_of_nonneg _ (Int.le_of_lt (Int.pow_pos (by decide)))
  rw[e1,e2,ih f _ (by omega) (by omega) (by simp;omega)];simp[beI]
theorem l0q (n:Nat) (w:List Int) (k:Nat) (width x:Int) (hw:width=k) (hk:1≤k) (hk':k≤8) (hl:w.length+k≤1000000) :
  d0a (n+1) w width x=some (w++beI k x):=by
 subst hw;rw[m0m];have h1:¬((k:Int)<1):=by omega
 have h2:¬((8:Int)<k):=by omega
 have e:IntKind.wrap .i64 (8*IntKind.wrap .i64 ((k:Int)-1))=8*((k:Int)-1):=by
  rw[w64 (x:=(k:Int)-1) (by omega) (by omega),w64 (by omega) (by omega)]
 simp only[tfd,if_neg h1,if_neg h2,e];rw[g1s n x k a0b w hk' (by unfold a0b;omega) hl];rfl
theorem or_shl (v b:Int) (hv:0≤v) (hv':v<72057594037927936) (hb:0≤b) (hb':b≤255):orI .u64 (shlI .u64 v 8) (IntKind.wrap .u64 b)=v*256+b:=by
 obtain ⟨a,rfl⟩:=Int.eq_ofNat_of_zero_le hv;obtain ⟨c,rfl⟩:=Int.eq_ofNat_of_zero_le hb;have e1:shlI .u64 (a:Int) 8=((a*256:Nat):Int):=by
  show IntKind.wrap .u64 ((a:Int)*2^(min 8 64))=_;have:(2:Int)^(min 8 64)=256:=by decide
  rw[this,wu64 (by omega) (by omega)];omega
 rw[e1,wu64 (by omega) (by omega)];unfold orI;have e2:(BitVec.ofInt IntKind.u64.bits ((a*256:Nat):Int) ||| BitVec.ofInt IntKind.u64.bits (c:Int)).toNat=a*256+c:=by
  show (BitVec.ofInt 64 ((a*256:Nat):Int) ||| BitVec.ofInt 64 (c:Int)).toNat=_;rw[BitVec.toNat_or,BitVec.ofInt_natCast,BitVec.ofInt_natCast,BitVec.toNat_ofNat,BitVec.toNat_ofNat,Nat.mod_eq_of_lt (by omega),Nat.mod_eq_of_lt (by omega)];have:=Nat.two_pow_add_eq_or_of_lt (i:=8) (b:=c) (by omega) a;rw[Nat.mul_comm a 256];exact this.symm
 rw[e2,wu64 (by omega) (by omega)];omega
theorem w0u (l:List Int) (i:Nat) (h:i<l.length):valI (l.take (i+1))=valI (l.take i)*256+l[i]:=by
 rw[List.take_succ_eq_append_getElem h,valI,List.foldl_append];rfl
theorem i1f (n:Nat) (r:List UInt8×Bool) (l:List Int) (hl:l.length≤8) (hr:∀x∈l,0≤x∧x≤255):∀(m i f:Nat),m+i=l.length→m<f →
  b0o n f (r,valI (l.take i),l,(l.length:Int),(i:Int),())=some (.inl (r,valI l,())):=by
 intro m;induction m with
 | zero =>
  intro i f hi hf;obtain ⟨f,rfl⟩:∃g,f=g+1:=⟨f-1,by omega⟩;rw[f0c];have h1:¬((i:Int)<(l.length:Int)):=by omega
  simp only[tfd,if_neg h1];rw[List.take_of_length_le (by omega)]
 | succ m ih =>
  intro i f hi hf;obtain ⟨f,rfl⟩:∃g,f=g+1:=⟨f-1,by omega⟩;rw[f0c];have hlt:i<l.length:=by omega
  have h1:(i:Int)<(l.length:Int):=by omega
  have e1:at? l (i:Int)=some l[i]:=by simp[at?,hlt]
  have hb:=hr l[i] (List.getElem_mem hlt);have hv:=s0b (l:=l.take i) fun x hx=>hr x (List.mem_of_mem_take hx)
  rw[List.length_take_of_le (by omega)] at hv;have hp:=pow_le i (by omega);have e2:IntKind.wrap .i64 ((i:Int)+1)=((i+1:Nat):Int):=by rw[w64 (by omega) (by omega)];omega
  simp only[tfd,if_pos h1,e1,obs,e2];rw[or_shl _ _ hv.1 (by omega) hb.1 hb.2,←w0u l i hlt];exact ih (i+1) f (by omega) (by omega)
def rd (st:List UInt8×Bool) (k:Nat):Int×(List UInt8×Bool):=if st.2=true∨st.1.length<k then (0,([],true)) else (valI (f0d (st.1.take k)),(st.1.drop k,false))
theorem l0x (n:Nat) (st:List UInt8×Bool) (k:Nat) (width:Int) (hw:width=k) (hk:1≤k) (hk':k≤8):d0b (n+3) st width=some (rd st k):=by
 subst hw;rw[m0n,i0t];simp only[n0n];have h1:¬((k:Int)<1):=by omega
 have h2:¬((8:Int)<k):=by omega
 have h3:¬((k:Int)<0):=by omega
 have e0:(k:Int).toNat=k:=by omega
 have fin:∀(s:List UInt8) (q:List UInt8×Bool),s.length≤8 →
   (a0c (b0o (n+2) a0b (q,(0,(s.map fun y=>((y.toNat:Nat):Int)),(((s.map fun y=>((y.toNat:Nat):Int)).length:Nat):Int),0,()))) fun r5=>f0v (fun y6=>some (y6.2.1,y6.1)) (fun z7=>some z7) r5)=some (valI (f0d s),q):=by
  intro s q hs;have:=i1f (n+2) q (f0d s) (by rw[l0a];exact hs) (m0o s) s.length 0 a0b (by rw[l0a];omega) (by unfold a0b;omega);simp only[List.take_zero] at this;have hv0:valI []=0:=rfl;rw[hv0] at this;show a0c (b0o (n+2) a0b (q,0,f0d s,((f0d s).length:Int),((0:Nat):Int),())) _=_;rw[this];rfl
 simp only[tfd,if_neg h1,if_neg h2,if_neg h3];obtain ⟨s,b⟩:=st;cases b with
 | true =>
  simp only[tft,obs];have:=fin [] ([],true) (by simp);simp only[List.map_nil] at this;rw[show rd (s,true) k=(0,([],true)) by simp[rd]];exact this
 | false =>
  simp only[tff];by_cases hlt:s.length<k
  ·have h4:(s.length:Int)<k:=by omega
   rw[if_pos h4];simp only[obs];have:=fin [] ([],true) (by simp);simp only[List.map_nil] at this;rw[show rd (s,false) k=(0,([],true)) by simp[rd,hlt]];exact this
  ·have h4:¬((s.length:Int)<k):=by omega
   have h5:(0:Int)≤k:=by omega
   have h6:(k:Int)≤(s.length:Int):=by omega
   have h7:k≤s.length:=by omega
   simp only[if_neg h4,h1g,tfd,if_pos h5,if_pos h6,e0,if_pos h7,obs];rw[show rd (s,false) k=(valI (f0d (s.take k)),(s.drop k,false)) by simp[rd,hlt]];rw[List.drop_zero,List.take_length];exact fin (s.take k) (s.drop k,false) (by simp;omega)
abbrev Conf:=Int×((Int×(Int×Int))×((Int×(Int×Int))×(Int×Int)))
def prt (n e:Int):Int:=(n+e-1) / e
def plc (c:Conf):Int:=1+prt c.1 16+prt c.2.2.1.1 4+prt c.2.2.1.2.1 4+prt c.2.2.1.2.2 4
structure Rng (c:Conf):Prop where
 raw:1≤c.1∧c.1≤4096
 cap:1≤c.2.2.2.1∧c.2.2.2.1≤65536
 log:1≤c.2.2.2.2∧c.2.2.2.2≤8192
 w0:1≤c.2.1.1∧c.2.1.1≤1099511627776
 w1:1≤c.2.1.2.1∧c.2.1.2.1≤1099511627776
 w2:1≤c.2.1.2.2∧c.2.1.2.2≤1099511627776
 n0:1≤c.2.2.1.1∧c.2.2.1.1≤4096
 n1:1≤c.2.2.1.2.1∧c.2.2.1.2.1≤4096
 n2:1≤c.2.2.1.2.2∧c.2.2.1.2.2≤4096
structure OkC (c:Conf):Prop where
 rng:Rng c
 m1:c.2.1.2.1 % c.2.1.1=0
 d1:c.2.1.2.1 / c.2.1.1≤c.2.2.1.1
 m2:c.2.1.2.2 % c.2.1.2.1=0
 d2:c.2.1.2.2 / c.2.1.2.1≤c.2.2.1.2.1
 pl:plc c<c.2.2.2.2
theorem l0z (n:Nat) (x e:Int) (he:1≤e) (he':e≤1000) (hx:0≤x) (hx':x≤1000000000):g0d (n+1) x e=some (prt x e):=by
 rw[y0d];have h1:¬(e=0):=by omega
 simp only[tfd,if_neg h1];rw[w64 (x:=x+e) (by omega) (by omega),w64 (x:=x+e-1) (by omega) (by omega),h1o (by omega)];have h2:0≤(x+e-1) / e:=Int.ediv_nonneg (by omega) (by omega);have h3:(x+e-1) / e≤x+e-1:=Int.ediv_le_self _ (by omega);rw[w64 (by omega) (by omega)];rfl
theorem f0f {x e:Int} (he:1≤e) (hx:0≤x):0≤prt x e∧prt x e≤x:=by
 unfold prt;refine ⟨Int.ediv_nonneg (by omega) (by omega),?_⟩;have:x+e-1<(x+1)*e:=by
  have:=Int.mul_le_mul_of_nonneg_left he (show 0≤x by omega);rw[Int.add_mul];omega
 have:=Int.ediv_lt_of_lt_mul (by omega) this;omega
theorem o0s {c:Conf} (h:Rng c):1≤plc c∧plc c≤20000:=by
 have a:=f0f (x:=c.1) (e:=16) (by omega) (by have:=h.raw;omega);have b:=f0f (x:=c.2.2.1.1) (e:=4) (by omega) (by have:=h.n0;omega);have d:=f0f (x:=c.2.2.1.2.1) (e:=4) (by omega) (by have:=h.n1;omega);have f:=f0f (x:=c.2.2.1.2.2) (e:=4) (by omega) (by have:=h.n2;omega);have:=h.raw;have:=h.n0;have:=h.n1;have:=h.n2;unfold plc;omega
theorem s0v (n:Nat) {c:Conf} (h:Rng c):g0c (n+2) c=some (plc c):=by
 have h0:=h.raw;have h1:=h.n0;have h2:=h.n1;have h3:=h.n2;rw[y0c,l0z n _ 16 (by omega) (by omega) (by omega) (by omega),l0z n _ 4 (by omega) (by omega) (by omega) (by omega),l0z n _ 4 (by omega) (by omega) (by omega) (by omega),l0z n _ 4 (by omega) (by omega) (by omega) (by omega)];simp only[obs];have a:=f0f (x:=c.1) (e:=16) (by omega) (by omega);have b:=f0f (x:=c.2.2.1.1) (e:=4) (by omega) (by omega);have d:=f0f (x:=c.2.2.1.2.1) (e:=4) (by omega) (by omega);have f:=f0f (x:=c.2.2.1.2.2) (e:=4) (by omega) (by omega)
 rw[w64 (x:=1+_) (by omega) (by omega),w64 (x:=1+_+_) (by omega) (by omega),w64 (x:=1+_+_+_) (by omega) (by omega),w64 (by omega) (by omega)];rfl
theorem in_int (n:Nat) (x a b:Int):e0b (n+1) x a b=some (decide (a≤x∧x≤b)):=by
 rw[u0r];by_cases h1:a≤x<;>by_cases h2:x≤b<;>simp[h1,h2]
theorem d1n (n:Nat) (x a b:Int):f0j (n+1) x a b=some (decide (a≤x∧x≤b)):=by
 rw[r0l];by_cases h1:a≤x<;>by_cases h2:x≤b<;>simp[h1,h2]
theorem quo_w {a b:Int} (ha:1≤a∧a≤1099511627776) (hb:1≤b):IntKind.wrap .i64 (Int.tdiv a b)=a / b:=by
 rw[h1o (by omega)];have h2:0≤a / b:=Int.ediv_nonneg (by omega) (by omega);have h3:a / b≤a:=Int.ediv_le_self _ (by omega);rw[w64 (by omega) (by omega)]
theorem r0v (n:Nat) {c:Conf} (h:OkC c):g0f (n+3) c=some 0:=by
 obtain ⟨hr,m1,d1,m2,d2,pl⟩:=h;have hp:=s0v n hr;obtain ⟨raw,cap,log,w0,w1,w2,n0,n1,n2⟩:=hr;rw[p0i];simp only[in_int,d1n,obs,tfd,if_pos raw,if_pos cap,if_pos log,if_pos w0,if_pos w1,if_pos w2,if_pos n0,if_pos n1,if_pos n2];have z0:¬(c.2.1.1=0):=by omega
 have z1:¬(c.2.1.2.1=0):=by omega
 rw[quo_w w1 w0.1,quo_w w2 w1.1,w0r (a:=c.2.1.2.1) (by omega),w0r (a:=c.2.1.2.2) (by omega)];have l:¬(c.2.2.2.2≤plc c):=by omega
 simp only[if_neg z0,if_neg z1,if_pos m1,if_pos d1,if_pos m2,if_pos d2,tfn,tfd,hp,obs,if_neg l]
theorem check_no (n:Nat) {c:Conf} (h:¬OkC c):g0f (n+3) c=some 2:=by
 rw[p0i];simp only[in_int,d1n,obs,tfd,tfn];by_cases raw:1≤c.1∧c.1≤4096
 case neg=>rw[if_neg raw]
 rw[if_pos raw];by_cases cap:1≤c.2.2.2.1∧c.2.2.2.1≤65536
 case neg=>rw[if_neg cap]
 rw[if_pos cap];by_cases log:1≤c.2.2.2.2∧c.2.2.2.2≤8192
 case neg=>rw[if_neg log]
 rw[if_pos log];by_cases w0:1≤c.2.1.1∧c.2.1.1≤1099511627776
 case neg=>rw[if_neg w0]
 rw[if_pos w0];by_cases n0:1≤c.2.2.1.1∧c.2.2.1.1≤4096
 case neg=>rw[if_neg n0]
 rw[if_pos n0];by_cases w1:1≤c.2.1.2.1∧c.2.1.2.1≤1099511627776
 case neg=>rw[if_neg w1]
 rw[if_pos w1];by_cases n1:1≤c.2.2.1.2.1∧c.2.2.1.2.1≤4096
 case neg=>rw[if_neg n1]
 rw[if_pos n1];by_cases w2:1≤c.2.1.2.2∧c.2.1.2.2≤1099511627776
 case neg=>rw[if_neg w2]
 rw[if_pos w2];by_cases n2:1≤c.2.2.1.2.2∧c.2.2.1.2.2≤4096
 case neg=>rw[if_neg n2,if_neg n2]
 rw[if_pos n2];have hr:Rng c:=⟨raw,cap,log,w0,w1,w2,n0,n1,n2⟩;have hp:=s0v n hr;have z0:¬(c.2.1.1=0):=by omega
 have z1:¬(c.2.1.2.1=0):=by omega
 rw[quo_w w1 w0.1,quo_w w2 w1.1,w0r (a:=c.2.1.2.1) (by omega),w0r (a:=c.2.1.2.2) (by omega)];rw[if_neg z0,if_neg z0];by_cases m1:c.2.1.2.1 % c.2.1.1=0
 case neg=>rw[if_neg m1]
 rw[if_pos m1];by_cases d1:c.2.1.2.1 / c.2.1.1≤c.2.2.1.1
 case neg=>rw[if_neg d1,if_neg d1]
 rw[if_pos d1,if_neg z1,if_neg z1];by_cases m2:c.2.1.2.2 % c.2.1.2.1=0
 case neg=>rw[if_neg m2]
 rw[if_pos m2];by_cases d2:c.2.1.2.2 / c.2.1.2.1≤c.2.2.1.2.1
 case neg=>rw[if_neg d2,if_neg d2]
 rw[if_pos d2,if_pos d2,hp];simp only[obs];by_cases pl:c.2.2.2.2≤plc c
 ·rw[if_pos pl]
 ·exact absurd ⟨hr,m1,d1,m2,d2,by omega⟩ h
theorem rd_of (k:Nat) (v:Int) (t:List UInt8):rd (toB (beI k v)++t,false) k=(v % 256^k,(t,false)):=by
 have hl:(toB (beI k v)).length=k:=by rw[f0s,d0j]
 unfold rd;rw[if_neg (by simp[hl])];have h1:(toB (beI k v)++t).take k=toB (beI k v):=by rw[List.take_append_of_le_length (by omega),List.take_of_length_le (by omega)]
 have h2:(toB (beI k v)++t).drop k=t:=by rw[List.drop_append_of_le_length (by omega),List.drop_of_length_le (by omega)];rfl
 rw[h1,h2,g1i (l1a v k),val_be]
theorem rd_good {st:List UInt8×Bool} {k:Nat} (h:(rd st k).2.2=false):st.2=false∧st.1=toB (beI k (rd st k).1)++(rd st k).2.1∧0≤(rd st k).1∧(rd st k).1<256^k:=by
 unfold rd at h ⊢;split at h
 ·cases h
 ·rename_i hn;rw[if_neg hn];simp only[not_or,Nat.not_lt,Bool.not_eq_true] at hn;have hl:(f0d (st.1.take k)).length=k:=by rw[l0a,List.length_take];omega
  have hv:=s0b (m0o (st.1.take k));rw[hl] at hv;refine ⟨hn.1,?_,hv⟩;dsimp only;rw[k1z (m0o _) hl,e1j,List.take_append_drop]
theorem rd_range (st:List UInt8×Bool) (k:Nat):0≤(rd st k).1∧(rd st k).1<256^k:=by
 cases h:(rd st k).2.2 with
 | false=>exact (rd_good h).2.2
 | true =>
  unfold rd at h ⊢;split
  ·exact ⟨by simp,Int.pow_pos (by decide)⟩
  ·rename_i hn;rw[if_neg hn] at h;cases h
def q0 (s:List UInt8):=rd (s,false) 4
def q1 (s:List UInt8):=rd (q0 s).2 8
def q2 (s:List UInt8):=rd (q1 s).2 8
def q3 (s:List UInt8):=rd (q2 s).2 8
def q4 (s:List UInt8):=rd (q3 s).2 4
def q5 (s:List UInt8):=rd (q4 s).2 4
def q6 (s:List UInt8):=rd (q5 s).2 4
def q7 (s:List UInt8):=rd (q6 s).2 4
def q8 (s:List UInt8):=rd (q7 s).2 4
def q9 (s:List UInt8):=rd (q8 s).2 8
structure Full (s:List UInt8):Prop where
 z:(q9 s).1=0
 good:(q9 s).2.2=false
 left:(q9 s).2.1=[]
def idxC (c:Conf):Int:=prt c.2.2.2.2 120
def hom (c:Conf):Int:=1+idxC c+c.2.2.2.2
def siz (c:Conf):Int:=hom c+1+c.2.2.2.1*plc c
theorem idx_range {c:Conf} (h:Rng c):0≤idxC c∧idxC c≤8192:=by
 have:=f0f (x:=c.2.2.2.2) (e:=120) (by omega) (by have:=h.log;omega);have:=h.log;unfold idxC;omega
theorem siz_wrap {c:Conf} (h:OkC c):IntKind.wrap .i64 (IntKind.wrap .i64 (hom c+1)+IntKind.wrap .i64 (c.2.2.2.1*plc c))=siz c∧0≤siz c∧siz c≤2000000000:=by
 have hl:=h.rng.log;have hi:=idx_range h.rng;have hp:=o0s h.rng;have hcap:=h.rng.cap;have h1:0≤c.2.2.2.1*plc c:=Int.mul_nonneg (by omega) (by omega);have h2:c.2.2.2.1*plc c≤65536*plc c:=Int.mul_le_mul_of_nonneg_right (by omega) (by omega);have hh:hom c=1+idxC c+c.2.2.2.2:=rfl;rw[w64 (x:=hom c+1) (by omega) (by omega),w64 (x:=c.2.2.2.1*plc c) (by omega) (by omega),w64 (by omega) (by omega)];have hs:siz c=hom c+1+c.2.2.2.1*plc c:=rfl;omega
def sizR (c:Conf):Int×Int:=if 16777216<siz c then (0,1) else (siz c,0)
end Go.Proofs.Ytmcgmijdnfcfgaa
namespace Go.Proofs.Ytmcgmijdnfcfgaa
open Go.Flat
set_option linter.unusedVariables false
set_option linter.unusedSimpArgs false
theorem l1l (n:Nat) {c:Conf} (h:OkC c):q0j (n+4) c=some (plc c):=by
 rw[y0e,r0v n h,s0v (n+1) h.rng];simp only[obs,tfd,tfn];rw[if_pos trivial]
theorem m0g (n:Nat) {c:Conf} (h:OkC c):g0e (n+4) c=some (idxC c):=by
 have hl:=h.rng.log;rw[y0f,r0v n h];simp only[obs,tfd,tfn];rw[if_pos trivial,l0z (n+2) _ 120 (by omega) (by omega) (by omega) (by omega)];simp only[obs];rfl
theorem k0u (n:Nat) {c:Conf} (h:OkC c):f0k (n+5) c=some (hom c):=by
 have hl:=h.rng.log;have hi:=idx_range h.rng;rw[a1a,r0v (n+1) h,m0g n h];simp only[obs,tfd,tfn];rw[if_pos trivial,w64 (x:=1+idxC c) (by omega) (by omega),w64 (by omega) (by omega)];rfl
theorem r0p (n:Nat) {c:Conf} (h:OkC c):e0c (n+6) c=some (sizR c):=by
 obtain ⟨e,_⟩:=siz_wrap h;rw[r0c,r0v (n+2) h,k0u n h,l1l (n+1) h];simp only[obs,tfd,tfn,e];rw[if_pos trivial];unfold sizR;by_cases hs:16777216<siz c
 ·rw[if_pos hs,if_pos hs]
 ·rw[if_neg hs,if_neg hs]
theorem c1s (n:Nat) {c:Conf} (h:¬OkC c):e0c (n+6) c=some (0,2):=by
 rw[r0c,check_no (n+2) h];simp only[obs,tfd,tfn];rw[if_neg (by decide)]
structure ROk (m k:Nat) (d:Dsk):Prop where
 len:d.1.length=m
 sec:∀s∈d.1,s.length=512
 pen:d.2.1.length≤k
 fit:∀z∈d.2.1,FitC d.1.length z
 arm0:0≤d.2.2.1
 arm1:d.2.2.1≤9223372036854775807
theorem ROk.ok {m k:Nat} {d:Dsk} (h:ROk m k d) (hm:m≤16777216) (hk:k≤1000000):DkOk d :=
 ⟨by rw[h.len];exact hm,by have:=h.pen;omega,h.fit⟩
theorem ROk.step {m k:Nat} {d:Dsk} (h:ROk m k d):ROk m k (stepD d).2:=by
 obtain ⟨e1,e2⟩:=m0s d;have ha:0≤(stepD d).2.2.2.1∧(stepD d).2.2.2.1≤9223372036854775807:=by
  have h1:=h.arm0;have h2:=h.arm1;unfold stepD;split
  ·exact ⟨h1,h2⟩
  split
  ·exact ⟨by show (0:Int)≤0;omega,by show (0:Int)≤_;omega⟩
  split
  ·exact ⟨by show 0≤d.2.2.1-1;omega,by show d.2.2.1-1≤_;omega⟩
  ·exact ⟨h1,h2⟩
 exact ⟨by rw[e1];exact h.len,by rw[e1];exact h.sec,by rw[e2];exact h.pen,by rw[e1,e2];exact h.fit,ha.1,ha.2⟩
theorem ROk.mono {m k k':Nat} {d:Dsk} (h:ROk m k d) (hk:k≤k'):ROk m k' d:=⟨h.len,h.sec,Nat.le_trans h.pen hk,h.fit,h.arm0,h.arm1⟩
theorem ROk.write {m k:Nat} {d:Dsk} (h:ROk m k d) (i:Int) (s:Sec):ROk m (k+1) (o0i d i s).2:=by
 unfold o0i;by_cases h1:0≤i∧i<(d.1.length:Int)∧s.length=512
 ·rw[if_pos h1];by_cases h2:(stepD d).1=0
  ·rw[if_pos h2];have hs:=h.step;refine ⟨hs.len,hs.sec,?_,?_,hs.arm0,hs.arm1⟩
   ·have:=hs.pen;simp;omega
   ·intro z hz;rcases List.mem_append.1 hz with hz | hz
    ·exact hs.fit z hz
    ·obtain rfl:=List.mem_singleton.1 hz;show FitC (stepD d).2.1.length (i,s);rw[(m0s d).1];exact h1
  ·rw[if_neg h2];exact h.step.mono (by omega)
 ·rw[if_neg h1];exact h.mono (by omega)
theorem p0t {l:List Chg}:∀ {S:List Sec},(∀s∈S,s.length=512)→(∀z∈l,z.2.length=512)→∀s∈a0x S l,s.length=512:=by
 induction l with
 | nil=>intro S h _;exact h
 | cons z l ih =>
  intro S h hl;simp only[a0x,List.foldl_cons] at ih ⊢;refine ih (fun s hs => ?_) (fun y hy=>hl y (List.mem_cons_of_mem _ hy));rcases List.mem_or_eq_of_mem_set hs with q | q
  ·exact h s q
  ·rw[q];exact hl z List.mem_cons_self
theorem ROk.keep {m k:Nat} {d:Dsk} (h:ROk m k d) (f:Int→Bool):ROk m 0 (keepD d f).2 :=
 ⟨by show (a0x d.1 _).length=m;rw[c0g];exact h.len,p0t h.sec (fun z hz=>(h.fit z (t0h _ _ hz)).2.2),Nat.le_refl _,fun z hz=>(by cases hz),h.arm0,h.arm1⟩
theorem ROk.sync {m k:Nat} {d:Dsk} (h:ROk m k d):ROk m k (e1n d).2:=by
 unfold e1n;split
 ·exact (h.step.keep _).mono (Nat.zero_le _)
 ·exact h.step
theorem ROk.up {m k:Nat} {d:Dsk} (h:ROk m k d) (l:List Bool):ROk m 0 (upD d l).2:=by
 have hz:ROk m k ((d.1,d.2.1,0,false):Dsk):=⟨h.len,h.sec,h.pen,h.fit,Int.le_refl _,by show (0:Int)≤_;omega⟩;exact hz.keep _
def armD (d:Dsk) (a:Int):Dsk:=(d.1,(d.2.1,((if a<(0:Int) then (0:Int) else a),d.2.2.2)))
theorem ROk.arm {m k:Nat} {d:Dsk} (h:ROk m k d) (a:Int) (ha:a≤9223372036854775807):ROk m k (armD d a):=by
 refine ⟨h.len,h.sec,h.pen,h.fit,?_,?_⟩
 ·show 0≤(if a<(0:Int) then (0:Int) else a);split<;>omega
 ·show (if a<(0:Int) then (0:Int) else a)≤_;split<;>omega
theorem o0w (m:Nat):ROk m 0 (newD m):=⟨List.length_replicate,fun s hs=>by
  have:=List.eq_of_mem_replicate (show s∈List.replicate m zsec from hs)
  rw[this];exact List.length_replicate,Nat.le_refl _,fun z hz=>(by cases hz),Int.le_refl _,(by show (0:Int)≤9223372036854775807;decide)⟩
def wrs:Dsk→List Chg→Int×Dsk
 | d,[]=>e1n d
 | d,z::r=>if (o0i d z.1 z.2).1=0 then wrs (o0i d z.1 z.2).2 r else o0i d z.1 z.2
def wss:Dsk→List (List Chg)→Int×Dsk
 | d,[]=>(0,d)
 | d,l::r=>if (wrs d l).1=0 then wss (wrs d l).2 r else wrs d l
theorem ROk.wrs:∀(l:List Chg) {m k:Nat} {d:Dsk},ROk m k d→ROk m (k+l.length) (wrs d l).2
 | [],m,k,d,h=>by simpa [Go.Proofs.Ytmcgmijdnfcfgaa.wrs] using h.sync
 | z::r,m,k,d,h=>by
  unfold Go.Proofs.Ytmcgmijdnfcfgaa.wrs;split
  ·have:=ROk.wrs r (h.write z.1 z.2);exact this.mono (by simp only[List.length_cons];omega)
  ·exact (h.write z.1 z.2).mono (by simp only[List.length_cons];omega)
def sumL (l:List (List Chg)):Nat:=(l.map List.length).sum
theorem ROk.wss:∀(l:List (List Chg)) {m k:Nat} {d:Dsk},ROk m k d→ROk m (k+sumL l) (wss d l).2
 | [],m,k,d,h=>by simpa [Go.Proofs.Ytmcgmijdnfcfgaa.wss,sumL] using h
 | a::r,m,k,d,h=>by
  unfold Go.Proofs.Ytmcgmijdnfcfgaa.wss;split
  ·have:=ROk.wss r (ROk.wrs a h);exact this.mono (by simp only[sumL,List.map_cons,List.sum_cons];omega)
  ·exact (ROk.wrs a h).mono (by simp only[sumL,List.map_cons,List.sum_cons];omega)
theorem step_loop (n m:Nat) {G:Type} (hm:m≤16777216) (g:b0a×(Int×Int)) (l:List Chg) (hl:l.length≤100000):∀(rest pre:List Chg) (f k:Nat) (d:Dsk) (i:Int),l=pre++rest→i=pre.length→ROk m k d→k+rest.length≤1000000 →
  a0c (e0t (n+2) (f+rest.length+1) ((d,g),(l,((l.length:Int),(i,()))))) (fun r0=>f0v (fun y1=>a0c (g0p (n+2) y1.1.1) fun r2=>some (r2.1,(r2.2,y1.1.2))) (fun z3=>some z3) r0)=some ((wrs d rest).1,((wrs d rest).2,g)):=by
 intro rest;induction rest with
 | nil =>
  intro pre f k d i h hi hd hk;rw[i0i];have h1:¬(i<(l.length:Int)):=by have:=congrArg List.length h;simp at this;omega
  simp only[tfd,if_neg h1,obs,c0f];rw[sync_val n d (hd.ok hm (by omega)) hd.arm1,obs];rfl
 | cons z rest ih =>
  intro pre f k d i h hi hd hk;have hlen:=congrArg List.length h;simp at hlen hk;rw[show f+(z::rest).length+1=(f+rest.length+1)+1 by simp;omega,i0i];have h1:i<(l.length:Int):=by omega
  simp only[tfd,if_pos h1];rw[g0b h hi,obs,g1t n d z.1 z.2 hd.arm1 (by have:=hd.pen;omega),obs];unfold wrs;by_cases hw:(o0i d z.1 z.2).1=0
  ·simp only[tfn,tfd];rw[if_pos hw,if_pos hw,w64 (x:=i+1) (by omega) (by omega)];exact ih (pre++[z]) f (k+1) _ (i+1) (by rw[h];simp) (by simp;omega) (hd.write z.1 z.2) (by omega)
  ·simp only[tfn,tfd];rw[if_neg hw,if_neg hw];rfl
theorem h1q (n m k:Nat) (hm:m≤16777216) (g:b0a×(Int×Int)) (l:List Chg) (d:Dsk) (hd:ROk m k d) (hk:k+l.length≤1000000) (hl:l.length≤100000):k0p (n+3) (d,g) l=some ((wrs d l).1,((wrs d l).2,g)):=by
 rw[r0g];have hfu:(a0b-l.length-1)+l.length+1=a0b:=by unfold a0b;omega
 have:=step_loop n m (G:=Unit) hm g l hl l [] (a0b-l.length-1) k d 0 rfl rfl hd hk;rw[hfu] at this;exact this
theorem e1o (n m:Nat) (hm:m≤16777216) (g:b0a×(Int×Int)) (l:List (List Chg)) (hl:l.length≤100000) (hb:∀a∈l,a.length≤100000):∀(rest pre:List (List Chg)) (f k:Nat) (d:Dsk) (i:Int),l=pre++rest→i=pre.length→ROk m k d→k+sumL rest≤1000000 →
  a0c (e0i (n+3) (f+rest.length+1) ((d,g),(l,((l.length:Int),(i,()))))) (fun r0=>f0v (fun y1=>some ((0:Int),y1.1)) (fun z2=>some z2) r0)=some ((wss d rest).1,((wss d rest).2,g)):=by
 intro rest;induction rest with
 | nil =>
  intro pre f k d i h hi hd hk;rw[h0m];have h1:¬(i<(l.length:Int)):=by have:=congrArg List.length h;simp at this;omega
  simp only[tfd,if_neg h1,obs,c0f];rfl
 | cons z rest ih =>
  intro pre f k d i h hi hd hk;have hlen:=congrArg List.length h;simp[sumL] at hlen hk;rw[show f+(z::rest).length+1=(f+rest.length+1)+1 by simp;omega,h0m];have h1:i<(l.length:Int):=by omega
  have hz:=hb z (by rw[h];simp);simp only[tfd,if_pos h1];rw[g0b h hi,obs,h1q n m k hm g z d hd (by omega) hz,obs];unfold wss;by_cases hw:(wrs d z).1=0
  ·simp only[tfn,tfd];rw[if_pos hw,if_pos hw,w64 (x:=i+1) (by omega) (by omega)];exact ih (pre++[z]) f (k+z.length) _ (i+1) (by rw[h];simp) (by simp;omega) (ROk.wrs z hd) (by simp[sumL];omega)
  ·simp only[tfn,tfd];rw[if_neg hw,if_neg hw];rfl
theorem s0f (n m k:Nat) (hm:m≤16777216) (g:b0a×(Int×Int)) (l:List (List Chg)) (d:Dsk) (hd:ROk m k d) (hk:k+sumL l≤1000000) (hl:l.length≤100000) (hb:∀a∈l,a.length≤100000):d0t (n+4) (d,g) l=some ((wss d l).1,((wss d l).2,g)):=by
 rw[p0r];have hfu:(a0b-l.length-1)+l.length+1=a0b:=by unfold a0b;omega
 have:=e1o n m hm g l hl hb l [] (a0b-l.length-1) k d 0 rfl rfl hd hk;rw[hfu] at this;exact this
def zpad (s:List UInt8):Sec:=s++List.replicate (512-s.length) 0
theorem n0t {s:List UInt8} (h:s.length≤512):(zpad s).length=512:=by simp[zpad];omega
theorem i1k (n:Nat) (s:List UInt8) (h:s.length≤512):r0r (n+5) s=some (zpad s):=by
 rw[a1y,w64 (by omega) (by omega)];have e:(512:Int)-(s.length:Int)=((512-s.length:Nat):Int):=by omega
 rw[e,rep_val n (512-s.length) (by omega),obs,tfd,if_pos (by simp;omega)];rfl
def ptrB (num many:Int):List UInt8:=([114,101,100,111]++toB (beI 8 num))++toB (beI 4 many)
def ptrS (num many:Int):Sec:=zpad (ptrB num many)
def ptrC (num many:Int):Chg:=(0,ptrS num many)
theorem s0u (num many:Int):(ptrB num many).length=16:=by simp[ptrB,f0s,d0j]
theorem i0m (num many:Int):(ptrS num many).length=512:=n0t (by rw[s0u];omega)
theorem i0n (n:Nat) (num many:Int) (h0:0≤many) (h1:many≤9223372036854775807):d0y (n+6) num many=some (ptrC num many):=by
 rw[s0m,o0d];simp only[tfd];rw[if_pos (by simp),obs,l0q (n+4) _ 8 8 num rfl (by omega) (by omega) (by simp),obs,
  wu64 h0 (by omega),l0q (n+4) _ 4 4 many rfl (by omega) (by omega) (by simp[d0j]),obs,i0s,obs]
 have e:List.map (fun y0=>UInt8.ofNat (Int.toNat y0)) ((([]:List Int)++List.map (fun y0=>((UInt8.toNat y0:Nat):Int)) ([114,101,100,111]:List UInt8))++beI 8 num++beI 4 many)=ptrB num many:=by
  show toB _=_;rw[p0o,p0o];rfl
 simp only[];rw[e,i1k n _ (by rw[s0u];omega),obs];rfl
def ptrN (s:Sec):Int:=valI (f0d ((s.drop 4).take 8))
def ptrM (s:Sec):Int:=valI (f0d ((s.drop 12).take 4))
def a0w (d:Dsk):Int×(Int×Int) :=
 if (c0i d 0).2=0 then (if ptrS (ptrN (c0i d 0).1) (ptrM (c0i d 0).1)=(c0i d 0).1 then (ptrN (c0i d 0).1,(ptrM (c0i d 0).1,0)) else (0,(0,4))) else (0,(0,(c0i d 0).2))
theorem s0r {m k:Nat} {d:Dsk} (h:ROk m k d) {i:Int} (h0:(c0i d i).2=0):(c0i d i).1.length=512:=by
 unfold c0i at h0 ⊢;split
 ·rename_i hd;rw[if_pos hd] at h0;cases h0
 rename_i hd;rw[if_neg hd] at h0;split
 ·rename_i hi;cases hf:d.2.1.reverse.find? (fun z=>decide (z.1=i)) with
  | some z=>exact (h.fit z (by have:=List.mem_of_find?_eq_some hf;simpa using this)).2.2
  | none =>
   obtain ⟨v,hv⟩:∃v,d.1[i.toNat]? = some v:=⟨_,List.getElem?_eq_getElem (by omega)⟩;show (d.1[i.toNat]?.getD []).length=512;rw[hv];exact h.sec v (List.mem_of_getElem? hv)
 ·rename_i hi;rw[if_neg hi] at h0;cases h0
theorem valI4 (l:List UInt8) (h:l.length≤4):0≤valI (f0d l)∧valI (f0d l)<4294967296:=by
 have h1:=rd_range (l,false) l.length;unfold rd at h1;rw[if_neg (by simp)] at h1;simp only[List.take_length] at h1;refine ⟨h1.1,Int.lt_of_lt_of_le h1.2 ?_⟩;have key:∀k:Nat,k≤4→(256:Int)^k≤4294967296:=by
  intro k hk
  match k,hk with
  | 0,_ | 1,_ | 2,_ | 3,_ | 4,_=>decide
 exact key _ h
theorem i0v (n:Nat) {m k:Nat} {d:Dsk} (h:ROk m k d):c0h (n+7) d=some ((a0w d).1,((a0w d).2.1,((a0w d).2.2,d))):=by
 rw[s0q,o0p,obs];unfold a0w;simp only[tfn,tfd];by_cases h0:(c0i d 0).2=0
 ·rw[if_pos h0,if_pos h0];have hs:=s0r h h0;rw[p0k,obs,i0t];generalize (c0i d 0).1=s at hs ⊢;have e4:¬((s.length:Int)<4):=by omega
  have e5:((4:Int)≤(s.length:Int)):=by omega
  have e6:(4:Nat)≤s.length:=by omega
  simp only[tff,tfd];rw[if_neg (by decide),if_neg e4];simp only[h1g,tfd];rw[if_pos (by decide),if_pos e5,if_pos (by decide),if_pos (show Int.toNat 4≤s.length from e6),obs];simp only[List.take_length];rw[show (4:Int).toNat=4 from rfl,l0x (n+3) (s.drop 4,false) 8 8 rfl (by omega) (by omega),obs];have r1:rd (s.drop 4,false) 8=(ptrN s,(s.drop 12,false)):=by
   unfold rd ptrN;rw[if_neg (by simp;omega),List.drop_drop]
  rw[r1,l0x (n+3) (s.drop 12,false) 4 4 rfl (by omega) (by omega),obs];have r2:rd (s.drop 12,false) 4=(ptrM s,(s.drop 16,false)):=by
   unfold rd ptrM;rw[if_neg (by simp;omega),List.drop_drop]
  rw[r2];have hM:0≤ptrM s∧ptrM s<4294967296:=valI4 ((s.drop 12).take 4) (by simp;omega);simp only[];rw[w64 (x:=ptrM s) (by omega) (by omega),i0n n _ _ hM.1 (by omega),obs];by_cases hp:ptrS (ptrN s) (ptrM s)=s
  ·rw[if_pos hp];have:((ptrC (ptrN s) (ptrM s)).2==s)=true:=by simp[ptrC,hp]
   rw[this,tft]
  ·rw[if_neg hp];have:((ptrC (ptrN s) (ptrM s)).2==s)=false:=by simp[ptrC,hp]
   rw[this,tff]
 ·rw[if_neg h0,if_neg h0]
theorem u0q (n:Nat) {f_:(Chg×Unit)→Option Bool} {p:Chg→Bool} (l:List Chg) (hf:∀x∈l,f_ (x,())=some (p x)) (hl:l.length≤100000):∀(rest pre:List Chg) (f:Nat) (i:Int),l=pre++rest→i=pre.length →
  ∃r:Int,a0c (c0t n (f+rest.length+1) (l,(f_,((l.length:Int),(i,()))))) (fun r0=>f0v (fun y1=>some ((-1):Int)) (fun z2=>some z2) r0)=some r∧decide (0≤r)=rest.any p:=by
 intro rest;induction rest with
 | nil =>
  intro pre f i h hi;rw[e0p];have h1:¬(i<(l.length:Int)):=by have:=congrArg List.length h;simp at this;omega
  simp only[tfd,if_neg h1,obs,c0f];exact ⟨-1,rfl,rfl⟩
 | cons z rest ih =>
  intro pre f i h hi;have hlen:=congrArg List.length h;simp at hlen;rw[show f+(z::rest).length+1=(f+rest.length+1)+1 by simp;omega,e0p];have h1:i<(l.length:Int):=by omega
  simp only[tfd,if_pos h1];rw[g0b h hi,obs,hf z (by rw[h];simp),obs];cases hp:p z with
  | true =>
   simp only[tft,obs,y0l];exact ⟨i,rfl,by simp[hp];omega⟩
  | false =>
   simp only[tff];rw[w64 (x:=i+1) (by omega) (by omega)];obtain ⟨r,h1,h2⟩:=ih (pre++[z]) f (i+1) (by rw[h];simp) (by simp;omega);exact ⟨r,h1,by rw[h2];simp[hp]⟩
theorem y0b (n:Nat) {f_:(Chg×Unit)→Option Bool} {p:Chg→Bool} (l:List Chg) (hf:∀x∈l,f_ (x,())=some (p x)) (hl:l.length≤100000):d0v (n+2) l f_=some (l.any p):=by
 rw[j0l,l0n];have hfu:(a0b-l.length-1)+l.length+1=a0b:=by unfold a0b;omega
 obtain ⟨r,h1,h2⟩:=u0q n l hf hl l [] (a0b-l.length-1) 0 rfl rfl;rw[hfu] at h1;rw[h1,obs,h2]
theorem u0p (n:Nat) {f_:(Sec×Unit)→Option Bool} {p:Sec→Bool} (l:List Sec) (hf:∀x∈l,f_ (x,())=some (p x)) (hl:l.length≤100000):∀(rest pre:List Sec) (f:Nat) (i:Int),l=pre++rest→i=pre.length →
  ∃r:Int,a0c (c0s n (f+rest.length+1) (l,(f_,((l.length:Int),(i,()))))) (fun r0=>f0v (fun y1=>some ((-1):Int)) (fun z2=>some z2) r0)=some r∧decide (0≤r)=rest.any p:=by
 intro rest;induction rest with
 | nil =>
  intro pre f i h hi;rw[e0o];have h1:¬(i<(l.length:Int)):=by have:=congrArg List.length h;simp at this;omega
  simp only[tfd,if_neg h1,obs,c0f];exact ⟨-1,rfl,rfl⟩
 | cons z rest ih =>
  intro pre f i h hi;have hlen:=congrArg List.length h;simp at hlen;rw[show f+(z::rest).length+1=(f+rest.length+1)+1 by simp;omega,e0o];have h1:i<(l.length:Int):=by omega
  simp only[tfd,if_pos h1];rw[g0b h hi,obs,hf z (by rw[h];simp),obs];cases hp:p z with
  | true =>
   simp only[tft,obs,y0l];exact ⟨i,rfl,by simp[hp];omega⟩
  | false =>
   simp only[tff];rw[w64 (x:=i+1) (by omega) (by omega)];obtain ⟨r,h1,h2⟩:=ih (pre++[z]) f (i+1) (by rw[h];simp) (by simp;omega);exact ⟨r,h1,by rw[h2];simp[hp]⟩
theorem y0a (n:Nat) {f_:(Sec×Unit)→Option Bool} {p:Sec→Bool} (l:List Sec) (hf:∀x∈l,f_ (x,())=some (p x)) (hl:l.length≤100000):d0u (n+2) l f_=some (l.any p):=by
 rw[j0k,l0m];have hfu:(a0b-l.length-1)+l.length+1=a0b:=by unfold a0b;omega
 obtain ⟨r,h1,h2⟩:=u0p n l hf hl l [] (a0b-l.length-1) 0 rfl rfl;rw[hfu] at h1;rw[h1,obs,h2]
def mayC (h m:Int) (x:Chg):Bool:=decide (h≤x.1∧x.1<m∧x.2.length=512)
theorem i1y (n:Nat) (g:a0n) (x:Chg):j0a (n+2) g x=some (mayC g.2.2.1 (g.1.1.length:Int) x):=by
 rw[s0o,b0c,obs];simp only[tfd];unfold mayC;by_cases h1:g.2.2.1≤x.1
 ·rw[if_pos h1];by_cases h2:x.1<(g.1.1.length:Int)
  ·rw[if_pos h2];congr 1;apply decide_eq_decide.2;constructor
   ·intro h;exact ⟨h1,h2,by omega⟩
   ·intro h;have:=h.2.2;omega
  ·rw[if_neg h2];simp[h2]
 ·rw[if_neg h1];simp[h1]
def txtF:Int→List Chg→List Chg
 | _,[]=>[]
 | i,z::r=>(i,z.2)::txtF (i+1) r
theorem k0l:∀(l:List Chg) (i:Int),(txtF i l).length=l.length
 | [],_=>rfl
 | z::r,i=>by simp[txtF,k0l r]
theorem e1l (n:Nat) (g:a0n) (hg0:0≤g.2.2.2) (hg1:g.2.2.2≤100000) (L:Nat) (hL:L≤100000):∀(rest pre:List Chg) (f:Nat) (i:Int),(pre++rest).length=L→i=pre.length →
  e0h n (f+rest.length+1) (g,(pre++rest,((L:Int),(i,()))))=some (.inl (g,(pre++txtF (g.2.2.2+i) rest,()))):=by
 intro rest;induction rest with
 | nil =>
  intro pre f i h hi;rw[h0h];simp at h;have h1:¬(i<(L:Int)):=by omega
  simp only[tfd,if_neg h1];rfl
 | cons z rest ih =>
  intro pre f i h hi;simp at h;rw[show f+(z::rest).length+1=(f+rest.length+1)+1 by simp;omega,h0h];have h1:i<(L:Int):=by omega
  simp only[tfd,if_pos h1];have hm:pre++z::rest=pre++z::rest:=rfl;rw[g0b hm hi,obs,x0m hm hi,obs,w64 (x:=g.2.2.2+i) (by omega) (by omega),w64 (x:=i+1) (by omega) (by omega)];have e:(pre++z::rest).set i.toNat (g.2.2.2+i,z.2)=(pre++[(g.2.2.2+i,z.2)])++rest:=by
   have:i.toNat=pre.length:=by omega
   rw[this];simp
  rw[e,ih (pre++[(g.2.2.2+i,z.2)]) f (i+1) (by simp;omega) (by simp;omega)];rw[show g.2.2.2+(i+1)=g.2.2.2+i+1 by omega];simp[txtF]
theorem h1m (n:Nat) (g:a0n) (hg0:0≤g.2.2.2) (hg1:g.2.2.2≤100000) (l:List Chg) (hl:l.length≤100000):j0n (n+2) g l=some (txtF g.2.2.2 l,g):=by
 rw[p0q,o0k];have h1:((0+l.length)*24≤140737488355328):=by omega
 have e1:(tif (decide (l.length=0)) (both (some []) (tif (decide ((0+l.length)*24≤140737488355328)) (some ([]++l)) none)) (tif (decide ((0+l.length)*24≤140737488355328)) (some ([]++l)) none))=some l:=by
  by_cases h0:l.length=0
  ·have:l=[]:=List.eq_nil_of_length_eq_zero h0;subst this;simp
  ·simp only[tfd,if_neg h0,if_pos h1];simp
 rw[e1,obs];have hfu:(a0b-l.length-1)+l.length+1=a0b:=by unfold a0b;omega
 have:=e1l (n+1) g hg0 hg1 l.length hl l [] (a0b-l.length-1) 0 rfl rfl;rw[hfu] at this;rw[show ([]:List Chg)++l=l from rfl] at this;rw[this,obs,c0f];simp
def b4s (l:List Chg):List UInt8:=l.flatMap fun z=>toB (beI 4 z.1)
theorem k0d:∀l:List Chg,(b4s l).length=4*l.length
 | []=>rfl
 | z::r=>by
  have:=k0d r;simp only[b4s,List.flatMap_cons,List.length_append,f0s,d0j,List.length_cons] at this ⊢;omega
def idx1 (l:List Chg):Chg:=(1,zpad (b4s l))
theorem f1q (n:Nat) (g:a0n) (out:List Chg) (l:List Chg) (hl:l.length≤100000) (hz:∀z∈l,0≤z.1∧z.1≤18446744073709551615):∀(rest pre:List Chg) (f:Nat) (w:List Int) (i:Int),l=pre++rest→i=pre.length→w.length≤4*pre.length →
  ∃w',e0k (n+1) (f+rest.length+1) (g,(out,(w,(l,((l.length:Int),(i,()))))))=some (.inl (g,(out,(w',()))))∧toB w'=toB w++b4s rest∧w'.length=w.length+4*rest.length:=by
 intro rest;induction rest with
 | nil =>
  intro pre f w i h hi hw;rw[h0o];have h1:¬(i<(l.length:Int)):=by have:=congrArg List.length h;simp at this;omega
  simp only[tfd,if_neg h1];exact ⟨w,rfl,by simp[b4s],by simp⟩
 | cons z rest ih =>
  intro pre f w i h hi hw;have hlen:=congrArg List.length h;simp at hlen;rw[show f+(z::rest).length+1=(f+rest.length+1)+1 by simp;omega,h0o];have h1:i<(l.length:Int):=by omega
  have hzz:=hz z (by rw[h];simp);simp only[tfd,if_pos h1];rw[g0b h hi,obs,wu64 hzz.1 hzz.2,l0q n w 4 4 z.1 rfl (by omega) (by omega) (by omega),obs,w64 (x:=i+1) (by omega) (by omega)];obtain ⟨w',k1,k2,k3⟩:=ih (pre++[z]) f (w++beI 4 z.1) (i+1) (by rw[h];simp) (by simp;omega) (by simp[d0j];omega);refine ⟨w',k1,?_,by rw[k3];simp[d0j];omega⟩;rw[k2,p0o];simp[b4s]
theorem j1p (n:Nat) (g:a0n) (l:List Chg) (h1:1≤l.length) (hl:l.length≤120) (hz:∀z∈l,0≤z.1∧z.1≤18446744073709551615):j0o (n+6) g l=some ([idx1 l],g):=by
 rw[p0s,o0l];have hc:q0x l (120:Int)=some [(l,())]:=by
  unfold q0x;have e:(decide ((1:Int)≤120)&&decide ((l.length:Int)+120≤4611686018427387904))=true:=by
   rw[Bool.and_eq_true,decide_eq_true_eq,decide_eq_true_eq];omega
  rw[e,tft];have key:∀l:List Chg,1≤l.length→l.length≤120→i0u l.length (120:Int).toNat l=[l]:=by
   intro l h1 hl;cases l with
   | nil=>exact absurd h1 (Nat.not_succ_le_zero 0)
   | cons x t =>
    have e120:(120:Int).toNat=120:=rfl;rw[e120,List.length_cons,a1d];have:(x::t).drop 120=[]:=List.drop_eq_nil_of_le hl;rw[this,c1l,List.take_of_length_le hl]
  have:=key l h1 hl;rw[this];rfl
 rw[hc,obs,l0o];have hfu:(a0b-l.length-1)+l.length+1=a0b:=by unfold a0b;omega
 obtain ⟨w',k1,k2,k3⟩:=f1q (n+4) g [] l (by omega) hz l [] (a0b-l.length-1) [] 0 rfl rfl (by simp);rw[hfu] at k1;simp only[];rw[k1,obs,c0f,i0s,obs];simp only[];have e2:List.map (fun y0=>UInt8.ofNat (Int.toNat y0)) w'=b4s l:=by
  show toB w'=_;rw[k2];rfl
 rw[e2,i1k n (b4s l) (by rw[k0d];omega),obs,tfd,if_pos (by simp),obs,l0w,obs];rfl
def fitB (c:Conf) (d:Dsk):Prop:=OkC c∧siz c=(d.1.length:Int)∧siz c≤16777216
theorem r0o (n:Nat) {c:Conf} {d:Dsk} (h:fitB c d):e0c (n+6) c=some (siz c,0):=by
 rw[r0p n h.1];unfold sizR;rw[if_neg (by have:=h.2.2;omega)]
theorem m0t (n:Nat) {c:Conf} {d:Dsk} (h:¬fitB c d) (hd:d.1.length≤16777216):∃r,e0c (n+6) c=some r∧(r.2≠0∨r.1≠(d.1.length:Int)):=by
 by_cases hc:OkC c
 ·refine ⟨_,r0p n hc,?_⟩;unfold sizR;split
  ·exact .inl (by decide)
  ·rename_i h1;refine .inr fun e=>h ⟨hc,e,by omega⟩
 ·exact ⟨_,c1s n hc,.inl (by decide)⟩
theorem q0c {c:Conf} {d:Dsk} (h:fitB c d) (hd:d.1.length≤120):c.2.2.2.2≤118∧1≤c.2.2.2.2∧idxC c=1∧hom c=2+c.2.2.2.2∧hom c<(d.1.length:Int):=by
 have h1:=h.1.rng;have h2:=h1.log;have h3:=idx_range h1;have h4:=h.2.1;have h5:=o0s h1;have h6:=h1.cap;have h7:0<c.2.2.2.1*plc c:=Int.mul_pos (by omega) (by omega);unfold siz at h4;have h8:c.2.2.2.2≤118:=by unfold hom at h4;omega
 have h9:idxC c=1:=by
  unfold idxC prt;omega
 refine ⟨h8,by omega,h9,by unfold hom;omega,by omega⟩
def secN (x:Sec) (i:Nat):Int:=valI (f0d ((x.drop (4*i)).take 4))
theorem w0z {d:Dsk} (h:d.2.2.2=false) {i:Int} (h0:0≤i) (h1:i<(d.1.length:Int)):(c0i d i).2=0:=by
 unfold c0i;rw[if_neg (by simp[h]),if_pos ⟨h0,h1⟩]
def oneD (h:Int) (d:Dsk) (i:Nat):Option Chg :=
 let k:=secN (c0i d 1).1 i
 if h≤k∧k<(d.1.length:Int) then some (k,(c0i d (2+i)).1) else none
theorem one_val (n:Nat) {m k:Nat} {d:Dsk} (h:ROk m k d) (g:b0a×(Int×Int)) (hup:d.2.2.2=false) (hg:g.2.2=2) (i:Nat) (hi:i<118) (hm:(i:Int)+2<(d.1.length:Int)) :
  l0v (n+7) (d,g) (i:Int)=some ((match oneD g.2.1 d i with | some z=>(z,(0,(d,g))) | none=>((0,[]),(4,(d,g))))):=by
 rw[s0n];simp only[];have e1:IntKind.wrap .i64 ((1:Int)+IntKind.wrap .i64 (Int.tdiv (i:Int) 120))=1:=by
  have:Int.tdiv (i:Int) 120=0:=by
   rw[Int.tdiv_eq_ediv_of_nonneg (by omega)];omega
  rw[this];decide
 have e2:IntKind.wrap .i64 ((4:Int)*Int.tmod (i:Int) 120)=((4*i:Nat):Int):=by
  have:Int.tmod (i:Int) 120=(i:Int):=by
   rw[Int.tmod_eq_emod_of_nonneg (by omega)];omega
  rw[this,w64 (by omega) (by omega)];push_cast;rfl
 have e3:IntKind.wrap .i64 (g.2.2+(i:Int))=2+(i:Int):=by rw[hg,w64 (by omega) (by omega)]
 rw[e1,e2,e3,o0p,obs];simp only[];rw[o0p,obs];have r1:=w0z hup (i:=1) (by omega) (by omega);have r2:=w0z hup (i:=2+(i:Int)) (by omega) (by omega);have s1:=s0r h r1;have s2:=s0r h r2;simp only[r1,r2,decide_true,Bool.not_true,tff];simp only[tfd];rw[if_pos (by omega),if_pos (by rw[s1];omega)];rw[p0k,obs,l0x (n+3) _ 4 4 rfl (by omega) (by omega),obs];have hrd:rd (List.drop ((4*i:Nat):Int).toNat (List.take (c0i d 1).1.length (c0i d 1).1),false) 4=(secN (c0i d 1).1 i,((c0i d 1).1.drop (4*i+4),false)):=by
  rw[List.take_length,Int.toNat_natCast];unfold rd secN;rw[if_neg (by simp[s1];omega),List.drop_drop]
 rw[hrd];have hv:0≤secN (c0i d 1).1 i∧secN (c0i d 1).1 i<4294967296:=valI4 (((c0i d 1).1.drop (4*i)).take 4) (by simp;omega);have hw:IntKind.wrap .i64 (secN (c0i d 1).1 i)=secN (c0i d 1).1 i:=w64 (by omega) (by omega);simp only[];rw[hw,i1y,obs];unfold oneD mayC;simp only[];by_cases hk:g.2.1≤secN (c0i d 1).1 i∧secN (c0i d 1).1 i<(d.1.length:Int)
 ·rw[if_pos hk];have:decide (g.2.1≤secN (c0i d 1).1 i∧secN (c0i d 1).1 i<(d.1.length:Int)∧(c0i d (2+(i:Int))).1.length=512)=true:=by
   rw[decide_eq_true_eq];exact ⟨hk.1,hk.2,s2⟩
  rw[this];simp[f0t]
 ·rw[if_neg hk];have:decide (g.2.1≤secN (c0i d 1).1 i∧secN (c0i d 1).1 i<(d.1.length:Int)∧(c0i d (2+(i:Int))).1.length=512)=false:=by
   rw[decide_eq_false_iff_not];exact fun q=>hk ⟨q.1,q.2.1⟩
  rw[this];simp[f0t]
def m0h (d:Dsk) (i:Int) (r:Nat):List Sec:=(List.range r).map fun (j:Nat)=>(c0i d (i+(j:Int))).1
theorem f1s (d:Dsk) (i:Int) (r:Nat):m0h d i (r+1)=(c0i d i).1::m0h d (i+1) r:=by
 unfold m0h;rw[List.range_succ_eq_map,List.map_cons,List.map_map];congr 1
 ·simp
 ·apply List.map_congr_left;intro j _;show (c0i d (i+((j+1:Nat):Int))).1=_;congr 2
  push_cast;omega
theorem j1r (n:Nat) {d:Dsk} (hup:d.2.2.2=false) (hd:d.1.length≤100000) (g:Unit×(b0a×(Int×Int))):∀(r f:Nat) (out:List Sec) (i:Int),i+(r:Int)=(d.1.length:Int)→0≤i→out.length+r≤100000 →
  j0b (n+1) (f+r+1) (d,(g,(out,(i,()))))=some (.inl (d,(out++m0h d i r,()))):=by
 intro r;induction r with
 | zero =>
  intro f out i h h0 ho;rw[i0k,b0c,obs];rw[tfd,if_neg (by omega)];simp[m0h]
 | succ r ih =>
  intro f out i h h0 ho;rw[show f+(r+1)+1=(f+r+1)+1 by omega,i0k,b0c,obs,tfd,if_pos (by omega),o0p,obs];have r1:=w0z hup (i:=i) h0 (by omega);simp only[r1,decide_true,Bool.not_true,tff];rw[tfd,if_pos (by omega),w64 (x:=i+1) (by omega) (by omega),ih f _ (i+1) (by omega) (by omega) (by simp;omega),f1s];simp
theorem e1e (n:Nat) {m k:Nat} {d:Dsk} (h:ROk m k d) (hm:m≤120) (c:Conf):b0u (n+8) d c=some (open Classical in if fitB c d then (if d.2.2.2=true then ([],(14,d)) else (m0h d (hom c) (d.1.length-(hom c).toNat),(0,d))) else ([],(2,d))):=by
 have hl:=h.len;rw[y0o];by_cases hf:fitB c d
 ·obtain ⟨q1,q2,q3,q4,q5⟩:=q0c hf (by omega);rw[if_pos hf,r0o n hf,obs,b0c,obs];simp only[tfn,tfd];rw[if_pos trivial,if_pos hf.2.1,k0u (n+1) hf.1,obs,m0g (n+2) hf.1,obs];cases hd:d.2.2.2 with
  | true =>
   rw[if_pos rfl];have hfu:a0b=(a0b-1)+1:=by unfold a0b;omega
   rw[hfu,i0k,b0c,obs,tfd,if_pos q5,o0p,obs];have r1:c0i d (hom c)=([],14):=by unfold c0i;rw[if_pos hd]
   rw[r1];rfl
  | false =>
   rw[if_neg (by decide)];have hfu:(a0b-(d.1.length-(hom c).toNat)-1)+(d.1.length-(hom c).toNat)+1=a0b:=by unfold a0b;omega
   have:=j1r (n+6) hd (by omega) ((),(c,(hom c,IntKind.wrap .i64 (1+idxC c)))) (d.1.length-(hom c).toNat) (a0b-(d.1.length-(hom c).toNat)-1) [] (hom c) (by omega) (by omega) (by simp;omega);rw[hfu] at this;rw[this,obs,c0f];rfl
 ·rw[if_neg hf];obtain ⟨r,e1,e2⟩:=m0t n hf (by omega);rw[e1,obs];simp only[tfn,tfd];by_cases h0:r.2=0
  ·rw[if_pos h0,b0c,obs,if_neg (e2.resolve_left (fun q=>q h0))]
  ·rw[if_neg h0]
def secC:Int→List Sec→List Chg
 | _,[]=>[]
 | i,s::r=>(i,s)::secC (i+1) r
theorem n0w:∀(l:List Sec) (i:Int),(secC i l).length=l.length
 | [],_=>rfl
 | s::r,i=>by simp[secC,n0w r]
theorem b1x (n:Nat) (d:Dsk) (g:Unit×(b0a×(Int×Int))) (h0:0≤g.2.2.1) (h1:g.2.2.1≤100000) (l:List Sec) (hl:l.length≤100000):∀(rest pre:List Sec) (f:Nat) (out:List Chg) (i:Int),l=pre++rest→i=pre.length→out.length=pre.length →
  g0j n (f+rest.length+1) (d,(g,(out,(l,((l.length:Int),(i,()))))))=some (.inl (d,(((),g.2),(out++secC (g.2.2.1+i) rest,())))):=by
 intro rest;induction rest generalizing g with
 | nil =>
  intro pre f out i h hi ho;rw[j0t];have h1:¬(i<(l.length:Int)):=by have:=congrArg List.length h;simp at this;omega
  simp only[tfd,if_neg h1];simp[secC]
 | cons z rest ih =>
  intro pre f out i h hi ho;have hlen:=congrArg List.length h;simp at hlen;rw[show f+(z::rest).length+1=(f+rest.length+1)+1 by simp;omega,j0t];have h2:i<(l.length:Int):=by omega
  simp only[tfd,if_pos h2];rw[g0b h hi,obs,if_pos (by omega),w64 (x:=g.2.2.1+i) (by omega) (by omega),w64 (x:=i+1) (by omega) (by omega)];rw[ih ((),g.2) h0 h1 (pre++[z]) f (out++[(g.2.2.1+i,z)]) (i+1) (by rw[h];simp) (by simp;omega) (by simp;omega)];simp only[];rw[show g.2.2.1+(i+1)=g.2.2.1+i+1 by omega];simp[secC]
def formatD (c:Conf) (d:Dsk) (home:List Sec):Int×Dsk:=wss d [(secC (hom c) home).drop 1,ptrC 1 0::(secC (hom c) home).take 1]
theorem w0l (n:Nat) {m k:Nat} {d:Dsk} (h:ROk m k d) (hm:m≤120) (hk:k≤900000) (c:Conf) (home:List Sec) (hl:home.length≤100000):i0l (n+9) d c home=some (open Classical in if fitB c d then (if (home.length:Int)=(d.1.length:Int)-hom c∧∀s∈home,s.length=512 then formatD c d home else (1,d)) else (2,d)):=by
 have hlen:=h.len;rw[u0e];by_cases hf:fitB c d
 ·obtain ⟨q1,q2,q3,q4,q5⟩:=q0c hf (by omega);rw[if_pos hf,r0o (n+1) hf,obs,b0c,obs];simp only[tfn,tfd];rw[if_pos trivial,if_pos hf.2.1,k0u (n+2) hf.1,obs,m0g (n+3) hf.1,obs,b0c,obs,w64 (x:=(d.1.length:Int)-hom c) (by omega) (by omega)];by_cases h1:(home.length:Int)=(d.1.length:Int)-hom c
  ·rw[if_pos h1,y0a (n+6) (p:=fun s => !(decide ((s.length:Int)=512))) home (fun x _=>by simp only[];rw[r0h]) (by omega),obs];by_cases h2:∀s∈home,s.length=512
   ·rw[if_pos ⟨h1,h2⟩];have ha:(home.any fun s => !(decide ((s.length:Int)=512)))=false:=by
     rw[List.any_eq_false];intro s hs;have:=h2 s hs;simp;omega
    rw[ha,tff];have hfu:(a0b-home.length-1)+home.length+1=a0b:=by unfold a0b;omega
    have:=b1x (n+8) d ((),(c,(hom c,IntKind.wrap .i64 (1+idxC c)))) (by show (0:Int)≤hom c;omega) (by show hom c≤(100000:Int);omega) home hl home [] (a0b-home.length-1) [] 0 rfl rfl rfl;rw[hfu] at this;rw[this,obs,c0f];simp only[List.nil_append];rw[show hom c+(0:Int)=hom c by omega];have hsl:=n0w home (hom c);have hpos:1≤(secC (hom c) home).length:=by omega
    rw[if_pos hpos,i0n (n+2) 1 0 (by decide) (by decide),obs];generalize hG:secC (hom c) home=G at hsl hpos
    match G,hpos with
    | z::t,_ =>
     have e1:at? (z::t) (0:Int)=some z:=rfl;rw[e1,obs,show (z::t)[0]? = some z from rfl,obs];have e2:List.take ((z::t).length-1) (List.drop 1 (z::t))=t:=by simp
     rw[e2,s0f (n+4) m k (by omega) _ _ d h (by simp[sumL] at hsl ⊢;omega) (by simp) (by
      intro a ha;simp only[List.mem_cons,List.not_mem_nil,or_false] at ha;simp at hsl;rcases ha with rfl | rfl
      ·omega
      ·simp),obs]
     unfold formatD;rw[hG];simp
   ·rw[if_neg (fun q=>h2 q.2)];have ha:(home.any fun s => !(decide ((s.length:Int)=512)))=true:=by
     rw[List.any_eq_true];apply Classical.byContradiction;intro hno;refine h2 fun s hs => ?_
     apply Classical.byContradiction;intro hne;exact hno ⟨s,hs,by simp;omega⟩
    rw[ha,tft]
  ·rw[if_neg h1,if_neg (fun q=>h1 q.1)]
 ·rw[if_neg hf];obtain ⟨r,e1,e2⟩:=m0t (n+1) hf (by omega);rw[e1,obs];simp only[tfn,tfd];by_cases h0:r.2=0
  ·rw[if_pos h0,b0c,obs,if_neg (e2.resolve_left (fun q=>q h0))]
  ·rw[if_neg h0]
def recF (h:Int) (d:Dsk):Nat→Nat→Option (List Chg)
 | 0,_=>some []
 | r+1,i=>(oneD h d i).bind fun z=>(recF h d r (i+1)).map (z :: ·)
theorem y0q (n:Nat) {m k:Nat} {d:Dsk} (h:ROk m k d) (hup:d.2.2.2=false) (g:Unit×(b0a×(Int×Int))) (hg:g.2.2.2=2) (num many:Int) (hmany:many≤118) (hm:many+2≤(d.1.length:Int)):∀(r f:Nat) (l:List Chg) (i:Nat),(i:Int)+(r:Int)=many→l.length+r≤100000 →
  e0u (n+7) (f+r+1) (d,(g,(num,(many,(l,(many,((i:Int),())))))))=some (match recF g.2.2.1 d r i with | some l' => .inl (d,(((),g.2),(num,(many,(l++l',()))))) | none => .inr (0,(4,d))):=by
 intro r;induction r generalizing g with
 | zero =>
  intro f l i hi hl;rw[i0j,tfd,if_neg (by omega)];simp[recF]
 | succ r ih =>
  intro f l i hi hl;rw[show f+(r+1)+1=(f+r+1)+1 by omega,i0j,tfd,if_pos (by omega),one_val n h g.2 hup hg i (by omega) (by omega),obs];unfold recF;cases ho:oneD g.2.2.1 d i with
  | none =>
   simp only[Option.bind_none];rfl
  | some z =>
   simp only[Option.bind_some,decide_true,Bool.not_true,tff,tfd];rw[if_pos (by omega),w64 (x:=(i:Int)+1) (by omega) (by omega)];have:=ih ((),g.2) hg f (l++[z]) (i+1) (by push_cast;omega) (by simp;omega);rw[show ((i+1:Nat):Int)=(i:Int)+1 by push_cast;rfl] at this;refine this.trans ?_;simp only[];cases recF g.2.2.1 d r (i+1) with
   | none=>rfl
   | some l'=>simp
theorem n0x (h:Int) (d:Dsk):∀(r i:Nat) (l:List Chg),recF h d r i=some l→l.length=r
 | 0,i,l,e=>by simp[recF] at e;rw[e];rfl
 | r+1,i,l,e=>by
  simp only[recF] at e;obtain ⟨z,_,e⟩:=Option.bind_eq_some_iff.1 e;obtain ⟨l',h1,rfl⟩:=Option.map_eq_some_iff.1 e;simp[n0x h d r (i+1) l' h1]
theorem s0s {d:Dsk} {i:Int} (h:(c0i d i).2=0):d.2.2.2=false:=by
 unfold c0i at h;cases hd:d.2.2.2 with
 | false=>rfl
 | true=>rw[if_pos hd] at h;cases h
theorem b1b {d:Dsk} (h:(a0w d).2.2=0):d.2.2.2=false:=by
 unfold a0w at h;split at h
 ·rename_i h0;exact s0s h0
 ·exact s0s h
theorem o0r {d:Dsk}:0≤(a0w d).2.1∧(a0w d).2.1<4294967296:=by
 unfold a0w;split
 ·split
  ·exact valI4 _ (by simp;omega)
  ·exact ⟨Int.le_refl _,by show (0:Int)<4294967296;decide⟩
 ·exact ⟨Int.le_refl _,by show (0:Int)<4294967296;decide⟩
def recoverD (c:Conf) (d:Dsk):Int×(Int×Dsk) :=
 if (a0w d).2.2=0 then
  if (a0w d).2.1=0 then (0,(0,d)) else
  if c.2.2.2.2<(a0w d).2.1 then (0,(4,d)) else
  match recF (hom c) d (a0w d).2.1.toNat 0 with
  | none=>(0,(4,d))
  | some l=>if (wss d [l,[ptrC (a0w d).1 0]]).1=0 then ((a0w d).2.1,(0,(wss d [l,[ptrC (a0w d).1 0]]).2)) else (0,wss d [l,[ptrC (a0w d).1 0]])
 else (0,((a0w d).2.2,d))
theorem l0d (n:Nat) {m k:Nat} {d:Dsk} (h:ROk m k d) (hm:m≤120) (hk:k≤900000) (c:Conf):e0x (n+9) d c=some (open Classical in if fitB c d then recoverD c d else (0,(2,d))):=by
 have hlen:=h.len;rw[s0p];by_cases hf:fitB c d
 ·obtain ⟨q1,q2,q3,q4,q5⟩:=q0c hf (by omega);rw[if_pos hf,r0o (n+1) hf,obs,b0c,obs];simp only[tfn,tfd];rw[if_pos trivial,if_pos hf.2.1,k0u (n+2) hf.1,obs,m0g (n+3) hf.1,obs,i0v (n+1) h,obs];unfold recoverD;have hpm:=o0r (d:=d);by_cases h0:(a0w d).2.2=0
  ·have hup:=b1b h0;rw[if_pos h0,if_pos h0];by_cases h1:(a0w d).2.1=0
   ·rw[if_pos h1,if_pos h1]
   rw[if_neg h1,if_neg h1];by_cases h2:c.2.2.2.2<(a0w d).2.1
   ·rw[if_pos h2,if_pos h2]
   rw[if_neg h2,if_neg h2];have e2:IntKind.wrap .i64 (1+idxC c)=2:=by rw[q3];decide
   rw[e2];have hfu:(a0b-(a0w d).2.1.toNat-1)+(a0w d).2.1.toNat+1=a0b:=by unfold a0b;omega
   have:=y0q (n+1) h hup ((),(c,(hom c,2))) rfl (a0w d).1 (a0w d).2.1 (by omega) (by omega) (a0w d).2.1.toNat (a0b-(a0w d).2.1.toNat-1) [] 0 (by omega) (by simp;omega);rw[hfu] at this;rw[show (0:Int)=((0:Nat):Int) from rfl] at this ⊢;rw[this,obs];simp only[];cases hr:recF (hom c) d (a0w d).2.1.toNat 0 with
   | none=>rfl
   | some l =>
    simp only[c0f,List.nil_append];have hll:=n0x _ _ _ _ _ hr;rw[show ((0:Nat):Int)=0 from rfl,i0n (n+2) (a0w d).1 0 (by decide) (by decide),obs,s0f (n+4) m k (by omega) _ _ d h (by simp[sumL];omega) (by simp) (by
     intro a ha;simp only[List.mem_cons,List.not_mem_nil,or_false] at ha;rcases ha with rfl | rfl
     ·omega
     ·simp),obs]
    simp only[tfn,tfd];by_cases hw:(wss d [l,[ptrC (a0w d).1 0]]).1=0
    ·rw[if_pos hw,if_pos hw]
    ·rw[if_neg hw,if_neg hw]
  ·rw[if_neg h0,if_neg h0]
 ·rw[if_neg hf];obtain ⟨r,e1,e2⟩:=m0t (n+1) hf (by omega);rw[e1,obs];simp only[tfn,tfd];by_cases h0:r.2=0
  ·rw[if_pos h0,b0c,obs,if_neg (e2.resolve_left (fun q=>q h0))]
  ·rw[if_neg h0]
def l0l (x:Int):Int:=IntKind.wrap .u64 (x+1)
def comL (num:Int) (l:List Chg):List (List Chg):=[txtF 2 l++[idx1 l],[ptrC (l0l num) l.length],l,[ptrC (l0l num) 0]]
def commitD (c:Conf) (d:Dsk) (l:List Chg):Int×Dsk :=
 if c.2.2.2.2<(l.length:Int) then (1,d) else
 if l.all (mayC (hom c) (d.1.length:Int))=true then
  if (a0w d).2.2=0 then
   if 0<(a0w d).2.1 then (7,d) else
   if l.length=0 then (0,d) else wss d (comL (a0w d).1 l)
  else ((a0w d).2.2,d)
 else (1,d)
theorem d1x (num:Int) (l:List Chg):sumL (comL num l)=2*l.length+3:=by
 simp[sumL,comL,k0l];omega
theorem k0i (n:Nat) {m k:Nat} {d:Dsk} (h:ROk m k d) (hm:m≤120) (hk:k≤900000) (c:Conf) (l:List Chg):b0l (n+9) d c l=some (open Classical in if fitB c d then commitD c d l else (2,d)):=by
 have hlen:=h.len;rw[u0f];by_cases hf:fitB c d
 ·obtain ⟨q1,q2,q3,q4,q5⟩:=q0c hf (by omega);rw[if_pos hf,r0o (n+1) hf,obs,b0c,obs];simp only[tfn,tfd];rw[if_pos trivial,if_pos hf.2.1,k0u (n+2) hf.1,obs,m0g (n+3) hf.1,obs];unfold commitD;by_cases h1:c.2.2.2.2<(l.length:Int)
  ·rw[if_pos h1,if_pos h1]
  rw[if_neg h1,if_neg h1];have e2:IntKind.wrap .i64 (1+idxC c)=2:=by rw[q3];decide
  rw[e2,y0b (n+6) (p:=fun x => !(mayC (hom c) (d.1.length:Int) x)) l (fun x _=>by simp only[];rw[r0i,i1y,obs]) (by omega),obs];have ha:(l.any fun x => !(mayC (hom c) (d.1.length:Int) x)) = !(l.all (mayC (hom c) (d.1.length:Int))):=by
   simp[List.all_eq_not_any_not]
  rw[ha];cases hal:l.all (mayC (hom c) (d.1.length:Int)) with
  | false =>
   rw[if_neg (by decide)];rfl
  | true =>
   rw[if_pos rfl];simp only[Bool.not_true,tff];rw[i0v (n+1) h,obs];simp only[];by_cases h0:(a0w d).2.2=0
   ·rw[if_pos h0,if_pos h0];by_cases hp:0<(a0w d).2.1
    ·rw[if_pos hp,if_pos hp]
    rw[if_neg hp,if_neg hp];by_cases hz:l.length=0
    ·rw[if_pos (by omega),if_pos hz]
    rw[if_neg (by omega),if_neg hz];have hl2:l.length≤118:=by omega
    have hmay:∀z∈l,0≤z.1∧z.1≤18446744073709551615:=by
     intro z hz;have:=List.all_eq_true.1 hal z hz;unfold mayC at this;rw[decide_eq_true_eq] at this;omega
    rw[h1m (n+6) _ (by show (0:Int)≤2;decide) (by show (2:Int)≤100000;decide) l (by omega),obs];simp only[];rw[j1p (n+2) _ l (by omega) (by omega) hmay,obs];simp only[];have hs:=d1x (a0w d).1 l;rw[if_pos (by rw[k0l];simp;omega),i0n (n+2) _ _ (by omega) (by omega),obs,i0n (n+2) _ 0 (by decide) (by decide),obs];have hst:=s0f (n+4) m k (by omega) (c,(hom c,2)) (comL (a0w d).1 l) d h (by omega) (by simp[comL]) (by
      intro a ha;simp only[comL,List.mem_cons,List.not_mem_nil,or_false] at ha;rcases ha with rfl | rfl | rfl | rfl
      ·simp[k0l];omega
      ·simp
      ·omega
      ·simp)
    change a0c (d0t (n+4+4) (d,(c,(hom c,2))) (comL (a0w d).1 l)) _=_
    rw[hst,obs]
   ·rw[if_neg h0,if_neg h0]
 ·rw[if_neg hf];obtain ⟨r,e1,e2⟩:=m0t (n+1) hf (by omega);rw[e1,obs];simp only[tfn,tfd];by_cases h0:r.2=0
  ·rw[if_pos h0,b0c,obs,if_neg (e2.resolve_left (fun q=>q h0))]
  ·rw[if_neg h0]
theorem t0g {k:Int→Bool}:∀(l:List Chg) (i:Int),(i0w k i l).Sublist l
 | [],_=>List.Sublist.refl _
 | z::r,i=>by
  unfold i0w;split
  ·exact (t0g r _).cons_cons z
  ·exact (t0g r _).cons z
theorem g1q {S:List Sec} (l:List Chg) (hl:∀z∈l,FitC S.length z):∀(P:List Chg) (a:Int),0≤a →
  (∃a',0≤a'∧(a=0→a'=0)∧wrs (S,(P,(a,false))) l=(0,(a0x S (P++l),([],(a',false)))))∨(a≠0∧∃P',P' <+: l∧wrs (S,(P,(a,false))) l=(14,(S,(P++P',(0,true))))):=by
 have hst:∀(P:List Chg) (a:Int),0≤a→(∃a',0≤a'∧(a=0→a'=0)∧stepD (S,(P,(a,false)))=(0,(S,(P,(a',false)))))∨(a≠0∧stepD (S,(P,(a,false)))=(14,(S,(P,(0,true))))):=by
  intro P a ha;unfold stepD;simp only[];rw[if_neg (by decide)];by_cases h1:a=1
  ·rw[if_pos h1];exact .inr ⟨by omega,rfl⟩
  rw[if_neg h1];by_cases h2:1<a
  ·rw[if_pos h2];exact .inl ⟨a-1,by omega,by omega,rfl⟩
  ·rw[if_neg h2];exact .inl ⟨a,ha,fun h=>h,rfl⟩
 induction l with
 | nil =>
  intro P a ha;unfold wrs e1n;rcases hst P a ha with ⟨a',h1,h2,h3⟩ | ⟨h1,h2⟩
  ·rw[h3,if_pos rfl];refine .inl ⟨a',h1,h2,?_⟩;simp[keepD,j1m]
  ·rw[h2,if_neg (show ¬((14:Int)=0) by decide)];exact .inr ⟨h1,[],List.nil_prefix,by simp⟩
 | cons z r ih =>
  intro P a ha;have hz:=hl z List.mem_cons_self;unfold wrs o0i;rw[if_pos (show 0≤z.1∧z.1<(((S,(P,(a,false))):Dsk).1.length:Int)∧z.2.length=512 from hz)];rcases hst P a ha with ⟨a',h1,h2,h3⟩ | ⟨h1,h2⟩
  ·rw[h3,if_pos rfl];simp only[if_true];rcases ih (fun y hy=>hl y (List.mem_cons_of_mem _ hy)) (P++[(z.1,z.2)]) a' h1 with ⟨a2,q1,q2,q3⟩ | ⟨q1,P',q2,q3⟩
   ·refine .inl ⟨a2,q1,fun h=>q2 (h2 h),?_⟩;rw[q3];simp
   ·refine .inr ⟨fun h=>q1 (h2 h),z::P',by simpa using q2,?_⟩;rw[q3];simp
  ·rw[h2];rw[if_neg (show ¬((14:Int)=0) by decide)];simp only[];rw[if_neg (show ¬((14:Int)=0) by decide)];exact .inr ⟨h1,[],List.nil_prefix,by simp⟩
theorem m0w (S:List Sec):a0x S []=S:=rfl
theorem s0a (L:List (List Chg)):∀ {S:List Sec} (a:Int),(∀l∈L,∀z∈l,FitC S.length z)→0≤a →
  (∃a',0≤a'∧(a=0→a'=0)∧wss (S,([],(a,false))) L=(0,(a0x S L.flatten,([],(a',false))))) ∨
  (a≠0∧∃done cur rest P',L=done++cur::rest∧P' <+: cur∧wss (S,([],(a,false))) L=(14,(a0x S done.flatten,(P',(0,true))))):=by
 induction L with
 | nil=>intro S a hl ha;exact .inl ⟨a,ha,fun h=>h,rfl⟩
 | cons l r ih =>
  intro S a hl ha;unfold wss;rcases g1q l (hl l List.mem_cons_self) [] a ha with ⟨a',h1,h2,h3⟩ | ⟨h1,P',h2,h3⟩
  ·rw[h3,if_pos rfl];simp only[List.nil_append];rcases ih (S:=a0x S l) a' (fun y hy z hz=>by rw[c0g];exact hl y (List.mem_cons_of_mem _ hy) z hz) h1 with ⟨a2,q1,q2,q3⟩ | ⟨q1,done,cur,rest,P',q2,q3,q4⟩
   ·refine .inl ⟨a2,q1,fun h=>q2 (h2 h),?_⟩;rw[q3,List.flatten_cons,b0m]
   ·refine .inr ⟨fun h=>q1 (h2 h),l::done,cur,rest,P',by rw[q2];rfl,q3,?_⟩;rw[q4,List.flatten_cons,b0m]
  ·rw[h3];rw[if_neg (show ¬((14:Int)=0) by decide)];exact .inr ⟨h1,[],l,r,P',rfl,h2,by simp[m0w]⟩
theorem e0q {l:List Chg}:∀ {S:List Sec} {j:Nat},(∀z∈l,z.1.toNat≠j)→(a0x S l)[j]? = S[j]? := by
 induction l with
 | nil=>intro S j _;rfl
 | cons z r ih =>
  intro S j h;have h1:=ih (S:=S.set z.1.toNat z.2) (j:=j) (fun y hy=>h y (List.mem_cons_of_mem _ hy));simp only[a0x,List.foldl_cons] at h1 ⊢;rw[h1,List.getElem?_set_ne (h z List.mem_cons_self)]
theorem v0l {l:List Chg}:∀ {S T:List Sec} {j:Nat},S.length=T.length→((∃z∈l,z.1.toNat=j)∨S[j]? = T[j]?)→(a0x S l)[j]? = (a0x T l)[j]? := by
 induction l with
 | nil =>
  intro S T j _ h;rcases h with ⟨z,hz,_⟩ | h
  ·cases hz
  ·exact h
 | cons z r ih =>
  intro S T j hl h;have h1:=ih (S:=S.set z.1.toNat z.2) (T:=T.set z.1.toNat z.2) (j:=j) (by simp[hl]);simp only[a0x,List.foldl_cons] at h1 ⊢;refine h1 ?_;by_cases hz:z.1.toNat=j
  ·right;subst hz;rw[List.getElem?_set,List.getElem?_set,hl,if_pos rfl,if_pos rfl]
  ·rcases h with ⟨y,hy,e⟩ | h
   ·rcases List.mem_cons.1 hy with rfl | hy
    ·exact absurd e hz
    ·exact .inl ⟨y,hy,e⟩
   ·right;rw[List.getElem?_set_ne hz,List.getElem?_set_ne hz,h]
theorem r0n:∀ {l:List Chg} {i:Int} {z:Chg},z∈txtF i l→i≤z.1∧z.1<i+l.length∧(∃y∈l,z.2=y.2)
 | [],i,z,h=>by cases h
 | y::r,i,z,h=>by
  rcases List.mem_cons.1 h with rfl | h
  ·exact ⟨Int.le_refl _,by simp;omega,y,List.mem_cons_self,rfl⟩
  ·obtain ⟨h1,h2,x,hx,h3⟩:=r0n h;exact ⟨by omega,by simp;omega,x,List.mem_cons_of_mem _ hx,h3⟩
theorem v0k:∀(l:List Chg) (a:Nat) (S:List Sec),a+l.length≤S.length→∀i (h:i<l.length),(a0x S (txtF (a:Int) l))[a+i]? = some (l[i]).2
 | [],a,S,_,i,h=>absurd h (Nat.not_lt_zero _)
 | z::r,a,S,hS,i,h=>by
  simp only[List.length_cons] at hS h;simp only[txtF,a0x,List.foldl_cons,Int.toNat_natCast];cases i with
  | zero =>
   have h1:=e0q (l:=txtF ((a:Int)+1) r) (S:=S.set a z.2) (j:=a) (fun y hy=>by have:=(r0n hy).1;omega);simp only[a0x] at h1;rw[show a+0=a from rfl,h1,List.getElem?_set_self (by omega)];rfl
  | succ i =>
   have h1:=v0k r (a+1) (S.set a z.2) (by simp;omega) i (by omega);simp only[a0x] at h1;rw[show ((a+1:Nat):Int)=(a:Int)+1 by push_cast;rfl] at h1;rw[show a+(i+1)=a+1+i by omega,h1];rfl
theorem x0c (num k:Int) (h0:0≤num) (h1:num<18446744073709551616) (h2:0≤k) (h3:k<4294967296):ptrN (ptrS num k)=num∧ptrM (ptrS num k)=k:=by
 obtain ⟨Z,hZ⟩:∃Z,ptrS num k=ptrB num k++Z:=⟨_,rfl⟩;have e1:(ptrS num k).drop 4=toB (beI 8 num)++(toB (beI 4 k)++Z):=by
  rw[hZ];unfold ptrB;simp
 have e2:(ptrS num k).drop 12=toB (beI 4 k)++Z:=by
  have:(ptrS num k).drop 12=((ptrS num k).drop 4).drop 8:=by rw[List.drop_drop]
  rw[this,e1,List.drop_left' (by rw[f0s,d0j])]
 have r1:=rd_of 8 num (toB (beI 4 k)++Z);have r2:=rd_of 4 k Z;unfold rd at r1 r2;rw[if_neg (by simp[f0s,d0j])] at r1 r2;have q1:=congrArg Prod.fst r1;have q2:=congrArg Prod.fst r2;simp only[] at q1 q2;constructor
 ·unfold ptrN;rw[e1,q1];have e:(256:Int)^8=18446744073709551616:=by decide
  rw[e];omega
 ·unfold ptrM;rw[e2,q2];have e:(256:Int)^4=4294967296:=by decide
  rw[e];omega
theorem m0u {S:List Sec} {a:Int} {i:Nat} {s:Sec} (h:S[i]? = some s):c0i (S,([],(a,false))) (i:Int)=(s,0):=by
 have hi:=(List.getElem?_eq_some_iff.1 h).1;unfold c0i;simp only[];rw[if_neg (by decide),if_pos ⟨by omega,by omega⟩];simp only[List.reverse_nil,List.find?_nil,Int.toNat_natCast,h,Option.getD_some]
theorem f0g {S:List Sec} {a num k:Int} (h:S[0]? = some (ptrS num k)) (h0:0≤num) (h1:num<18446744073709551616) (h2:0≤k) (h3:k<4294967296):a0w (S,([],(a,false)))=(num,(k,0)):=by
 have hr:c0i (S,([],(a,false))) 0=(ptrS num k,0):=m0u (i:=0) h;obtain ⟨e1,e2⟩:=x0c num k h0 h1 h2 h3;unfold a0w;rw[hr];simp only[];rw[if_pos trivial,e1,e2,if_pos rfl]
theorem b4s_at (l:List Chg):∀(i:Nat) (h:i<l.length),∃t,(b4s l).drop (4*i)=toB (beI 4 (l[i]).1)++t:=by
 induction l with
 | nil=>intro i h;exact absurd h (Nat.not_lt_zero _)
 | cons z r ih =>
  intro i h;have e:b4s (z::r)=toB (beI 4 z.1)++b4s r:=rfl;cases i with
  | zero=>exact ⟨b4s r,by rw[e];rfl⟩
  | succ i =>
   obtain ⟨t,ht⟩:=ih i (by simpa using h);refine ⟨t,?_⟩;rw[e,show 4*(i+1)=4+4*i by omega,←List.drop_drop,List.drop_left' (by rw[f0s,d0j])];exact ht
theorem h1y (l:List Chg) (i:Nat) (h:i<l.length) (h0:0≤(l[i]).1) (h1:(l[i]).1<4294967296):secN (zpad (b4s l)) i=(l[i]).1:=by
 obtain ⟨t,ht⟩:=b4s_at l i h;have hb:=k0d l;obtain ⟨Z,hZ⟩:∃Z,zpad (b4s l)=b4s l++Z:=⟨_,rfl⟩;have e:(zpad (b4s l)).drop (4*i)=toB (beI 4 (l[i]).1)++(t++Z):=by
  rw[hZ];rw[List.drop_append_of_le_length (by omega),ht,List.append_assoc]
 have r1:=rd_of 4 (l[i]).1 (t++Z);unfold rd at r1;rw[if_neg (by simp[f0s,d0j])] at r1;have q1:=congrArg Prod.fst r1;simp only[] at q1;unfold secN;rw[e,q1];have e:(256:Int)^4=4294967296:=by decide
 rw[e];omega
structure Gv (c:Conf) (m:Nat) (l:List Chg) (F:List Sec):Prop where
 ok:OkC c
 siz:siz c=(m:Int)
 m120:m≤120
 flen:F.length=m
 may:∀z∈l,hom c≤z.1∧z.1<(m:Int)∧z.2.length=512
 log:(l.length:Int)≤c.2.2.2.2
structure Sok (m:Nat) (S:List Sec):Prop where
 len:S.length=m
 sec:∀s∈S,s.length=512
structure IdleS (c:Conf) (m:Nat) (S:List Sec) (num:Int) (G:List Sec):Prop where
 sok:Sok m S
 n0:0≤num
 n1:num<18446744073709551616
 ptr:S[0]? = some (ptrS num 0)
 at_:∀j:Nat,hom c≤(j:Int)→S[j]? = G[j]?
structure CommS (c:Conf) (m:Nat) (l:List Chg) (F:List Sec) (S:List Sec) (num:Int):Prop where
 sok:Sok m S
 n0:0≤num
 n1:num<18446744073709551616
 pos:l≠[]
 ptr:S[0]? = some (ptrS num l.length)
 idx:S[1]? = some (zpad (b4s l))
 txt:∀i (h:i<l.length),S[2+i]? = some (l[i]).2
 at_:∀j:Nat,hom c≤(j:Int)→(∃z∈l,z.1.toNat=j)∨S[j]? = F[j]?
def a1m (c:Conf) (m:Nat) (l:List Chg) (F:List Sec) (S:List Sec):Prop:=∃num,IdleS c m S num F∨CommS c m l F S num∨IdleS c m S num (a0x F l)
variable {c:Conf} {m:Nat} {l:List Chg} {F S:List Sec} {num a:Int}
theorem Gv.fit (g:Gv c m l F) (hS:Sok m S) (x:List Chg×(Int×Bool)):fitB c (S,x):=⟨g.ok,by rw[g.siz];show (m:Int)=(S.length:Int);rw[hS.len],by rw[g.siz];have:=g.m120;omega⟩
theorem Gv.hom (g:Gv c m l F) (hS:Sok m S):c.2.2.2.2≤118∧1≤c.2.2.2.2∧idxC c=1∧Go.Proofs.Ytmcgmijdnfcfgaa.hom c=2+c.2.2.2.2∧Go.Proofs.Ytmcgmijdnfcfgaa.hom c<(m:Int):=by
 have:=q0c (g.fit hS ([],(0,false))) (by show S.length≤120;rw[hS.len];exact g.m120);rw[show ((S,(([]:List Chg),((0:Int),false))):Dsk).1.length=m from hS.len] at this;exact this
theorem Sok.put {Q:List Chg} (h:Sok m S) (hQ:∀z∈Q,z.2.length=512):Sok m (a0x S Q):=⟨by rw[c0g];exact h.len,p0t h.sec hQ⟩
theorem IdleS.log {G:List Sec} {Q:List Chg} (h:IdleS c m S num G) (hQ:∀z∈Q,1≤z.1∧z.1<Go.Proofs.Ytmcgmijdnfcfgaa.hom c∧z.2.length=512):IdleS c m (a0x S Q) num G :=
 ⟨h.sok.put fun z hz=>(hQ z hz).2.2,h.n0,h.n1,by rw[e0q fun z hz=>by have:=hQ z hz;omega];exact h.ptr,fun j hj=>by rw[e0q fun z hz=>by have:=hQ z hz;omega];exact h.at_ j hj⟩
theorem CommS.home (g:Gv c m l F) {Q:List Chg} (h:CommS c m l F S num) (hQ:∀z∈Q,z∈l):CommS c m l F (a0x S Q) num:=by
 obtain ⟨q1,q2,q3,q4,q5⟩:=g.hom h.sok;have hz:∀z∈Q,Go.Proofs.Ytmcgmijdnfcfgaa.hom c≤z.1∧z.1<(m:Int)∧z.2.length=512:=fun z hz=>g.may z (hQ z hz)
 have hl:=g.log;refine ⟨h.sok.put fun z hz'=>(hz z hz').2.2,h.n0,h.n1,h.pos,?_,?_,fun i hi => ?_,fun j hj => ?_⟩
 ·rw[e0q fun z hz'=>by have:=hz z hz';omega];exact h.ptr
 ·rw[e0q fun z hz'=>by have:=hz z hz';omega];exact h.idx
 ·rw[e0q fun z hz'=>by have:=hz z hz';omega];exact h.txt i hi
 ·rcases h.at_ j hj with q | q
  ·exact .inl q
  ·by_cases hit:∃z∈Q,z.1.toNat=j
   ·obtain ⟨z,hz1,hz2⟩:=hit;exact .inl ⟨z,hQ z hz1,hz2⟩
   ·right;rw[e0q fun z hz' e=>hit ⟨z,hz',e⟩];exact q
theorem CommS.all (g:Gv c m l F) (h:CommS c m l F S num):IdleS c m (a0x (a0x S l) [ptrC num 0]) num (a0x F l):=by
 obtain ⟨q1,q2,q3,q4,q5⟩:=g.hom h.sok;have h1:=h.home g (Q:=l) fun z hz=>hz
 have e:∀T:List Sec,a0x T [ptrC num 0]=T.set 0 (ptrS num 0):=fun T=>rfl
 refine ⟨h1.sok.put fun z hz=>by simp at hz;rw[hz];exact i0m _ _,h.n0,h.n1,?_,fun j hj => ?_⟩
 ·rw[e,List.getElem?_set_self (by rw[h1.sok.len];omega)]
 ·rw[e,List.getElem?_set_ne (by omega)];exact v0l (by rw[h.sok.len,g.flen]) (h.at_ j hj)
theorem IdleS.commit (g:Gv c m l F) (hp:l≠[]) (h:IdleS c m S num F) (n2:Int) (h0:0≤n2) (h1:n2<18446744073709551616):CommS c m l F (a0x (a0x S (txtF 2 l++[idx1 l])) [ptrC n2 l.length]) n2:=by
 obtain ⟨q1,q2,q3,q4,q5⟩:=g.hom h.sok;have hl:=g.log;have hw:∀z∈txtF 2 l++[idx1 l],1≤z.1∧z.1<Go.Proofs.Ytmcgmijdnfcfgaa.hom c∧z.2.length=512:=by
  intro z hz;rcases List.mem_append.1 hz with hz | hz
  ·obtain ⟨k1,k2,y,k3,k4⟩:=r0n hz;exact ⟨by omega,by omega,by rw[k4];exact (g.may y k3).2.2⟩
  ·obtain rfl:=List.mem_singleton.1 hz;exact ⟨Int.le_refl _,by show (1:Int)<_;omega,n0t (by rw[k0d];omega)⟩
 have h1':=h.log hw;have e:∀T:List Sec,a0x T [ptrC n2 l.length]=T.set 0 (ptrS n2 l.length):=fun T=>rfl
 have eI:∀T:List Sec,a0x T [idx1 l]=T.set 1 (zpad (b4s l)):=fun T=>rfl
 refine ⟨h1'.sok.put fun z hz=>by simp at hz;rw[hz];exact i0m _ _,h0,h1,hp,?_,?_,fun i hi => ?_,fun j hj => ?_⟩
 ·rw[e,List.getElem?_set_self (by rw[h1'.sok.len];omega)]
 ·rw[e,List.getElem?_set_ne (by omega),b0m,eI,List.getElem?_set_self (by rw[c0g,h.sok.len];omega)]
 ·rw[e,List.getElem?_set_ne (by omega),b0m,eI,List.getElem?_set_ne (by omega)];exact v0k l 2 S (by rw[h.sok.len];omega) i hi
 ·right;rw[e,List.getElem?_set_ne (by omega)];exact h1'.at_ j hj
theorem y0r (g:Gv c m l F) (h:CommS c m l F S num):∀(r i:Nat),i+r=l.length→recF (Go.Proofs.Ytmcgmijdnfcfgaa.hom c) (S,([],(a,false))) r i=some (l.drop i)
 | 0,i,e=>by
  rw[List.drop_of_length_le (by omega)];rfl
 | r+1,i,e=>by
  have hi:i<l.length:=by omega
  have hm:=g.may _ (List.getElem_mem hi);have m120:=g.m120;unfold recF oneD;have r1:c0i (S,([],(a,false))) 1=(zpad (b4s l),0):=m0u (i:=1) h.idx;have r2:c0i (S,([],(a,false))) (2+(i:Int))=((l[i]).2,0):=by
   have:=m0u (a:=a) (h.txt i hi);rw[show ((2+i:Nat):Int)=2+(i:Int) by push_cast;rfl] at this;exact this
  rw[r1,r2];simp only[];have hh:0≤Go.Proofs.Ytmcgmijdnfcfgaa.hom c:=by
   obtain ⟨q1,q2,q3,q4,q5⟩:=g.hom h.sok;omega
  rw[h1y l i hi (by omega) (by omega),if_pos ⟨hm.1,by rw[h.sok.len];exact hm.2.1⟩,Option.bind_some,y0r g h r (i+1) (by omega)];rw[Option.map_some,List.drop_eq_getElem_cons hi]
def Fell (c:Conf) (m:Nat) (l:List Chg) (F:List Sec) (d:Dsk):Prop:=∃S P,d=(S,(P,(0,true)))∧∀Q,Q.Sublist P→a1m c m l F (a0x S Q)
theorem a1r {x:Chg} {Q:List Chg} (h:Q.Sublist [x]):Q=[]∨Q=[x]:=by
 cases h with
 | cons _ h=>exact .inl (List.sublist_nil.1 h)
 | cons_cons _ h=>exact .inr (by rw[List.sublist_nil.1 h])
theorem fits_all (g:Gv c m l F) (hS:Sok m S):(∀z∈l,FitC S.length z)∧∀k,FitC S.length (ptrC num k):=by
 obtain ⟨q1,q2,q3,q4,q5⟩:=g.hom hS;refine ⟨fun z hz => ?_,fun k=>⟨Int.le_refl _,by show (0:Int)<(S.length:Int);rw[hS.len];omega,i0m _ _⟩⟩;have:=g.may z hz;exact ⟨by omega,by rw[hS.len];exact this.2.1,this.2.2⟩
theorem k0q (g:Gv c m l F) (ha:0≤a) (h:a1m c m l F S) :
  ((recoverD c (S,([],(a,false)))).2.1=0∧∃S' a',0≤a'∧(a=0→a'=0)∧(recoverD c (S,([],(a,false)))).2.2=(S',([],(a',false)))∧(((∃num,IdleS c m S num F)∧S'=S)∨∃num,IdleS c m S' num (a0x F l))) ∨
  (a≠0∧(recoverD c (S,([],(a,false)))).2.1=14∧(¬ ∃num,IdleS c m S num (a0x F l))∧Fell c m l F (recoverD c (S,([],(a,false)))).2.2):=by
 obtain ⟨num,h⟩:=h;have idle:∀G,IdleS c m S num G→recoverD c (S,([],(a,false)))=(0,(0,(S,([],(a,false))))):=by
  intro G h;unfold recoverD;rw[f0g h.ptr h.n0 h.n1 (by decide) (by decide)];simp only[];rw[if_pos trivial,if_pos trivial]
 rcases h with h | h | h
 ·rw[idle F h];exact .inl ⟨rfl,S,a,ha,fun h=>h,rfl,.inl ⟨⟨num,h⟩,rfl⟩⟩
 ·obtain ⟨q1,q2,q3,q4,q5⟩:=g.hom h.sok;have hl:=g.log;have hlp:0<l.length:=List.length_pos_iff.2 h.pos;have hp:=f0g (a:=a) h.ptr h.n0 h.n1 (by omega) (by omega);have hr:=y0r (a:=a) g h l.length 0 (by omega);have hv:recoverD c (S,([],(a,false)))=(if (wss (S,([],(a,false))) [l,[ptrC num 0]]).1=0 then ((l.length:Int),(0,(wss (S,([],(a,false))) [l,[ptrC num 0]]).2)) else (0,wss (S,([],(a,false))) [l,[ptrC num 0]])):=by
   unfold recoverD;rw[hp];simp only[];rw[if_pos trivial,if_neg (by omega),if_neg (by omega),Int.toNat_natCast,hr];simp only[List.drop_zero]
  obtain ⟨f1,f2⟩:=fits_all (num:=num) g h.sok;rcases s0a [l,[ptrC num 0]] (S:=S) a (by
   intro x hx z hz;simp only[List.mem_cons,List.not_mem_nil,or_false] at hx;rcases hx with rfl | rfl
   ·exact f1 z hz
   ·obtain rfl:=List.mem_singleton.1 hz;exact f2 0) ha with ⟨a',k1,k2,k3⟩ | ⟨k1,done,cur,rest,P',k2,k3,k4⟩
  ·rw[hv,k3,if_pos rfl];refine .inl ⟨rfl,_,a',k1,k2,rfl,.inr ⟨num,?_⟩⟩;have:=h.all g
   simpa [b0m] using this
  ·rw[hv,k4,if_neg (show ¬((14:Int)=0) by decide)];refine .inr ⟨k1,rfl,?_,_,P',rfl,fun Q hQ => ?_⟩
   ·rintro ⟨n2,hn⟩;have e1:=h.ptr;rw[hn.ptr] at e1;injection e1 with e1;have b1:=x0c n2 0 hn.n0 hn.n1 (by decide) (by decide);have b2:=x0c num (l.length:Int) h.n0 h.n1 (by omega) (by omega);rw[e1] at b1;have:=b1.2.symm.trans b2.2;omega
   ·have hQc:Q.Sublist cur:=hQ.trans k3.sublist
    match done,k2 with
    | [],k2 =>
     simp only[List.nil_append,List.cons.injEq] at k2;obtain ⟨rfl,_⟩:=k2;exact ⟨num,.inr (.inl (h.home g fun z hz=>hQc.subset hz))⟩
    | [x],k2 =>
     simp only[List.cons_append,List.nil_append,List.cons.injEq] at k2;obtain ⟨rfl,rfl,_⟩:=k2;rcases a1r hQc with rfl | rfl
     ·exact ⟨num,.inr (.inl (by simpa [m0w] using h.home g fun z hz=>hz))⟩
     ·exact ⟨num,.inr (.inr (by simpa using h.all g))⟩
    | x::y::r,k2 =>
     have:=congrArg List.length k2;simp at this
 ·rw[idle _ h];exact .inl ⟨rfl,S,a,ha,fun h=>h,rfl,.inr ⟨num,h⟩⟩
theorem c1k (g:Gv c m l F) (hp:l≠[]) (ha:0≤a) (h:IdleS c m S num F) :
  ((commitD c (S,([],(a,false))) l).1=0∧∃S' a' n2,0≤a'∧(a=0→a'=0)∧(commitD c (S,([],(a,false))) l).2=(S',([],(a',false)))∧IdleS c m S' n2 (a0x F l)) ∨
  (a≠0∧(commitD c (S,([],(a,false))) l).1≠0∧Fell c m l F (commitD c (S,([],(a,false))) l).2):=by
 obtain ⟨q1,q2,q3,q4,q5⟩:=g.hom h.sok;have hl:=g.log;have hlp:0<l.length:=List.length_pos_iff.2 hp;have hs:0≤l0l num∧l0l num<18446744073709551616:=by
  have e:l0l num=(num+1) % 18446744073709551616:=rfl;rw[e];omega
 have hv:commitD c (S,([],(a,false))) l=wss (S,([],(a,false))) (comL num l):=by
  unfold commitD;rw[f0g h.ptr h.n0 h.n1 (by decide) (by decide)];simp only[];rw[if_neg (by omega),if_pos (by
   rw[List.all_eq_true];intro z hz;have:=g.may z hz;unfold mayC;rw[decide_eq_true_eq,h.sok.len]
   exact this),if_pos trivial,if_neg (by decide),if_neg (by omega)]
 obtain ⟨f1,f2⟩:=fits_all (num:=l0l num) g h.sok;have hw:∀z∈txtF 2 l++[idx1 l],1≤z.1∧z.1<Go.Proofs.Ytmcgmijdnfcfgaa.hom c∧z.2.length=512:=by
  intro z hz;rcases List.mem_append.1 hz with hz | hz
  ·obtain ⟨k1,k2,y,k3,k4⟩:=r0n hz;exact ⟨by omega,by omega,by rw[k4];exact (g.may y k3).2.2⟩
  ·obtain rfl:=List.mem_singleton.1 hz;exact ⟨Int.le_refl _,by show (1:Int)<_;omega,n0t (by rw[k0d];omega)⟩
 have hcm:=h.commit g hp (l0l num) hs.1 hs.2;rw[hv];rcases s0a (comL num l) (S:=S) a (by
  intro x hx z hz;simp only[comL,List.mem_cons,List.not_mem_nil,or_false] at hx;rcases hx with rfl | rfl | rfl | rfl
  ·have:=hw z hz;exact ⟨by omega,by rw[h.sok.len];omega,this.2.2⟩
  ·obtain rfl:=List.mem_singleton.1 hz;exact f2 _
  ·exact f1 z hz
  ·obtain rfl:=List.mem_singleton.1 hz;exact f2 _) ha with ⟨a',k1,k2,k3⟩ | ⟨k1,done,cur,rest,P',k2,k3,k4⟩
 ·rw[k3];refine .inl ⟨rfl,_,a',l0l num,k1,k2,rfl,?_⟩;have:=hcm.all g;have e:(comL num l).flatten=(txtF 2 l++[idx1 l])++([ptrC (l0l num) l.length]++(l++[ptrC (l0l num) 0])):=by simp[comL]
  rw[e,b0m,b0m,b0m];exact this
 ·rw[k4];refine .inr ⟨k1,(show (14:Int)≠0 by decide),_,P',rfl,fun Q hQ => ?_⟩;have hQc:Q.Sublist cur:=hQ.trans k3.sublist;unfold comL at k2
  match done,k2 with
  | [],k2 =>
   simp only[List.nil_append,List.cons.injEq] at k2;obtain ⟨rfl,_⟩:=k2;exact ⟨num,.inl (h.log fun z hz=>hw z (hQc.subset hz))⟩
  | [x],k2 =>
   simp only[List.cons_append,List.nil_append,List.cons.injEq] at k2;obtain ⟨rfl,rfl,_⟩:=k2;rcases a1r hQc with rfl | rfl
   ·exact ⟨num,.inl (by simpa [m0w] using h.log hw)⟩
   ·exact ⟨l0l num,.inr (.inl (by simpa using hcm))⟩
  | [x,y],k2 =>
   simp only[List.cons_append,List.nil_append,List.cons.injEq] at k2;obtain ⟨rfl,rfl,rfl,_⟩:=k2;refine ⟨l0l num,.inr (.inl ?_)⟩;have:=hcm.home g fun z hz=>hQc.subset hz
   have e:[txtF 2 l++[idx1 l],[ptrC (l0l num) (l.length:Int)]].flatten=(txtF 2 l++[idx1 l])++[ptrC (l0l num) l.length]:=by simp
   rw[e,b0m];exact this
  | [x,y,z],k2 =>
   simp only[List.cons_append,List.nil_append,List.cons.injEq] at k2;obtain ⟨rfl,rfl,rfl,rfl,_⟩:=k2;have e:[txtF 2 l++[idx1 l],[ptrC (l0l num) (l.length:Int)],l].flatten=(txtF 2 l++[idx1 l])++([ptrC (l0l num) l.length]++l):=by simp
   rw[e,b0m,b0m];rcases a1r hQc with rfl | rfl
   ·exact ⟨l0l num,.inr (.inl (by simpa [m0w] using hcm.home g fun z hz=>hz))⟩
   ·exact ⟨l0l num,.inr (.inr (hcm.all g))⟩
  | x::y::z::w::r,k2 =>
   have:=congrArg List.length k2;simp at this
theorem n0k (g:Gv c m l F) (ha:0≤a) (h:IdleS c m S num F) :
  ((commitD c (S,([],(a,false))) l).1=0∧∃S' a' n2,0≤a'∧(a=0→a'=0)∧(commitD c (S,([],(a,false))) l).2=(S',([],(a',false)))∧IdleS c m S' n2 (a0x F l)) ∨
  (a≠0∧(commitD c (S,([],(a,false))) l).1≠0∧Fell c m l F (commitD c (S,([],(a,false))) l).2):=by
 by_cases hp:l=[]
 ·subst hp;have hl:=g.log;have hv:commitD c (S,([],(a,false))) []=(0,(S,([],(a,false)))):=by
   unfold commitD;rw[f0g h.ptr h.n0 h.n1 (by decide) (by decide)];simp only[];rw[if_neg (by omega),if_pos (by rfl),if_pos trivial,if_neg (by decide),if_pos (show ([]:List Chg).length=0 from rfl)]
  rw[hv];exact .inl ⟨rfl,S,a,num,ha,fun h=>h,rfl,h⟩
 ·exact c1k g hp ha h
theorem y0s (hl:F.length=m) (j:Nat):(a0x (a0x F l) l)[j]? = (a0x F l)[j]? := by
 refine v0l (by rw[c0g]) ?_;by_cases hit:∃z∈l,z.1.toNat=j
 ·exact .inl hit
 ·exact .inr (e0q fun z hz e=>hit ⟨z,hz,e⟩)
theorem a1b (g:Gv c m l F) (h:IdleS c m S num (a0x F l)):(commitD c (S,([],(0,false))) l).1=0∧∃S' n2,(commitD c (S,([],(0,false))) l).2=(S',([],(0,false)))∧IdleS c m S' n2 (a0x F l):=by
 have g':Gv c m l (a0x F l):=⟨g.ok,g.siz,g.m120,by rw[c0g];exact g.flen,g.may,g.log⟩;rcases n0k g' (Int.le_refl 0) h with ⟨h1,S',a',n2,h2,h3,h4,h5⟩ | ⟨h1,_⟩
 ·refine ⟨h1,S',n2,by rw[h4,h3 rfl],h5.sok,h5.n0,h5.n1,h5.ptr,fun j hj => ?_⟩;rw[h5.at_ j hj,y0s g.flen]
 ·exact absurd rfl h1
end Go.Proofs.Ytmcgmijdnfcfgaa

set_option maxRecDepth 100000
namespace Go.Proofs.Ytmcgmijdnfcfgaa
open Go.Flat
theorem e1m (n:Nat) (c:Int):g0l (n+1) c=some (List.replicate 512 (UInt8.ofNat (Int.toNat c))):=by kernel_rfl
end Go.Proofs.Ytmcgmijdnfcfgaa
namespace Go.Proofs.Ytmcgmijdnfcfgaa
open Go.Flat
set_option linter.unusedVariables false
set_option linter.unusedSimpArgs false
abbrev m0q:=Int×Int
def tx26 (c:Int):Sec:=List.replicate 512 (UInt8.ofNat (Int.toNat c))
theorem s0c (c:Int):(tx26 c).length=512:=List.length_replicate
theorem u0u (n:Nat) (c:Int):g0l (n+1) c=some (tx26 c):=e1m n c
def chgs (l:List m0q):List Chg:=l.map fun p=>(p.1,tx26 p.2)
theorem a1e (n:Nat) (l:List m0q) (hl:l.length≤100000):∀(rest pre:List m0q) (f:Nat) (out:List Chg) (i:Int),l=pre++rest→i=pre.length→out.length≤pre.length →
  g0m (n+1) (f+rest.length+1) (out,(l,((l.length:Int),(i,()))))=some (.inl (out++chgs rest,())):=by
 intro rest;induction rest with
 | nil =>
  intro pre f out i h hi ho;rw[j0y];have h1:¬(i<(l.length:Int)):=by have:=congrArg List.length h;simp at this;omega
  simp only[tfd,if_neg h1];simp[chgs]
 | cons z rest ih =>
  intro pre f out i h hi ho;have hlen:=congrArg List.length h;simp at hlen;rw[show f+(z::rest).length+1=(f+rest.length+1)+1 by simp;omega,j0y];have h1:i<(l.length:Int):=by omega
  simp only[tfd,if_pos h1];rw[g0b h hi,obs,u0u,obs,if_pos (by omega),w64 (x:=i+1) (by omega) (by omega),ih (pre++[z]) f _ (i+1) (by rw[h];simp) (by simp;omega) (by simp;omega)];simp[chgs]
theorem k0y (n:Nat) (l:List m0q) (hl:l.length≤100000):b0x (n+2) l=some (chgs l):=by
 rw[u0i];have hfu:(a0b-l.length-1)+l.length+1=a0b:=by unfold a0b;omega
 have:=a1e n l hl l [] (a0b-l.length-1) [] 0 rfl rfl (by simp);rw[hfu] at this;rw[this,obs,c0f];simp
def homs (b:Int):Nat→Nat→List Sec
 | 0,_=>[]
 | r+1,i=>tx26 (IntKind.wrap .u8 (b+IntKind.wrap .u8 (i:Int)))::homs b r (i+1)
theorem i0q (b:Int):∀(r i:Nat),(homs b r i).length=r
 | 0,_=>rfl
 | r+1,i=>by simp[homs,i0q b r]
theorem x0o (b:Int):∀(r i:Nat),∀s∈homs b r i,s.length=512
 | 0,_,s,h=>by cases h
 | r+1,i,s,h=>by
  rcases List.mem_cons.1 h with rfl | h
  ·exact s0c _
  ·exact x0o b r (i+1) s h
theorem f1r (n:Nat) (b:Int) (m:Nat) (hm:m≤100000):∀(r f i:Nat) (out:List Sec),i+r=m→out.length≤i →
  j0d (n+1) (f+r+1) (b,(out,((m:Int),((i:Int),()))))=some (.inl (out++homs b r i,())):=by
 intro r;induction r with
 | zero =>
  intro f i out h ho;rw[m0f,tfd,if_neg (by omega)];simp[homs]
 | succ r ih =>
  intro f i out h ho;rw[show f+(r+1)+1=(f+r+1)+1 by omega,m0f,tfd,if_pos (by omega),u0u,obs,tfd,if_pos (by omega),w64 (x:=(i:Int)+1) (by omega) (by omega)];have:=ih f (i+1) (out++[tx26 (IntKind.wrap .u8 (b+IntKind.wrap .u8 (i:Int)))]) (by omega) (by simp;omega);rw[show ((i+1:Nat):Int)=(i:Int)+1 by push_cast;rfl] at this;exact this.trans (by simp[homs])
def homN (c:Conf):Nat:=(siz c-hom c).toNat
theorem d1o (n:Nat) {c:Conf} (hc:OkC c) (hs:siz c≤120) (b:Int):j0x (n+7) c b=some (homs b (homN c) 0):=by
 have h1:=hc.rng;have h2:=o0s h1;have h3:=h1.cap;have h4:=idx_range h1;have h5:=h1.log;have h7:0<c.2.2.2.1*plc c:=Int.mul_pos (by omega) (by omega);have h8:0<siz c-hom c:=by unfold siz;omega
 have h9:0≤hom c:=by unfold hom;omega
 rw[z0n,r0p n hc,obs];unfold sizR;rw[if_neg (by omega)];simp only[tfn,tfd];rw[if_pos trivial,k0u (n+1) hc,obs,w64 (x:=siz c-hom c) (by omega) (by omega)];have e:siz c-hom c=((homN c:Nat):Int):=by unfold homN;omega
 have hfu:(a0b-homN c-1)+homN c+1=a0b:=by have:homN c≤120:=(by unfold homN;omega);unfold a0b;omega
 have:=f1r (n+5) b (homN c) (by unfold homN;omega) (homN c) (a0b-homN c-1) 0 [] (by omega) (by simp);rw[hfu] at this;rw[e];rw[show ((0:Nat):Int)=0 from rfl] at this;rw[this,obs,c0f];simp
theorem ROk.commitD {m k:Nat} {d:Dsk} (h:ROk m k d) (c:Conf) (l:List Chg):ROk m (k+(2*l.length+3)) (commitD c d l).2:=by
 have h0:ROk m (k+(2*l.length+3)) d:=h.mono (by omega);unfold Go.Proofs.Ytmcgmijdnfcfgaa.commitD;split
 ·exact h0
 split
 ·split
  ·split
   ·exact h0
   split
   ·exact h0
   ·have:=ROk.wss (comL (a0w d).1 l) h;rw[d1x] at this;exact this
  ·exact h0
 ·exact h0
theorem ROk.recoverD {m k:Nat} {d:Dsk} (h:ROk m k d) (c:Conf) (hc:c.2.2.2.2≤118):ROk m (k+119) (recoverD c d).2.2:=by
 have h0:ROk m (k+119) d:=h.mono (by omega);unfold Go.Proofs.Ytmcgmijdnfcfgaa.recoverD;split
 ·split
  ·exact h0
  split
  ·exact h0
  rename_i hlog;split
  ·exact h0
  ·rename_i l hl;have hll:=n0x _ _ _ _ _ hl;have hpm:=o0r (d:=d);have:=ROk.wss [l,[ptrC (a0w d).1 0]] h;have hs:sumL [l,[ptrC (a0w d).1 0]]≤119:=by simp[sumL];omega
   split
   ·exact this.mono (by omega)
   ·exact this.mono (by omega)
 ·exact h0
theorem ROk.formatD {m k:Nat} {d:Dsk} (h:ROk m k d) (c:Conf) (home:List Sec):ROk m (k+(home.length+2)) (formatD c d home).2:=by
 unfold Go.Proofs.Ytmcgmijdnfcfgaa.formatD;have:=ROk.wss [(secC (hom c) home).drop 1,ptrC 1 0::(secC (hom c) home).take 1] h;have hs:=n0w home (hom c);refine this.mono ?_;simp[sumL];omega
end Go.Proofs.Ytmcgmijdnfcfgaa

set_option maxRecDepth 100000
namespace Go.Proofs.Ytmcgmijdnfcfgaa
open Go.Flat
set_option linter.unusedVariables false
set_option linter.unusedSimpArgs false
theorem lv26_eq (n:Nat)  : o0z (n+1)  =
 a0c (b1p n ) fun r0 =>
 a0c (p0e n (36:Int)) fun r1 =>
 oelim (r1.1) (
 tif ((!(decide (r1.2=(0:Int))))) (
 some false) (
 some false)) fun r2 =>
 tif ((!(decide (r1.2=(0:Int))))) (
 some false) (
 a0c (j0x n r0 (1:Int)) fun r3 =>
 a0c (i0l n r2 r0 r3) fun r4 =>
 a0c (g0l n (99:Int)) fun r5 =>
 a0c (b0l n r4.2 r0 (((12:Int),r5)::[])) fun r6 =>
 a0c (b0u n r6.2 r0) fun r7 =>
 a0c (c0h n r7.2.2) fun r8 =>
 a0c (g0l n (99:Int)) fun r9 =>
 a0c (b0l n r8.2.2.2 r0 (((3:Int),r9)::[])) fun r10 =>
 a0c (e0x n r10.2 r0) fun r11 =>
 a0c (p0e n (36:Int)) fun r12 =>
 oelim (r12.1) (
 some false) fun r13 =>
 a0c (c0h n r13) fun r14 =>
 tif ((decide (r4.1=(0:Int)))) (
 tif ((decide (r6.1=(0:Int)))) (
 tif ((decide ((((List.length r7.1):Nat):Int)=(25:Int)))) (
 a0c (at? r7.1 (0:Int)) fun r15 =>
 a0c ((r7.1)[0]?) fun r16 =>
 a0c (g0l n (1:Int)) fun r17 =>
 tif ((r16==r17)) (
 a0c (at? r7.1 (1:Int)) fun r18 =>
 a0c ((r7.1)[1]?) fun r19 =>
 a0c (g0l n (99:Int)) fun r20 =>
 tif ((r19==r20)) (
 a0c (at? r7.1 (2:Int)) fun r21 =>
 a0c ((r7.1)[2]?) fun r22 =>
 a0c (g0l n (3:Int)) fun r23 =>
 tif ((r22==r23)) (
 tif ((decide (r7.2.1=(0:Int)))) (
 tif ((decide (r8.1=(2:Int)))) (
 tif ((decide (r8.2.1=(0:Int)))) (
 tif ((decide (r8.2.2.1=(0:Int)))) (
 tif ((decide (r10.1=(1:Int)))) (
 tif ((decide (r11.1=(0:Int)))) (
 tif ((decide (r11.2.1=(0:Int)))) (
 some (decide (r14.2.2.1=(4:Int)))) (
 some false)) (
 some false)) (
 some false)) (
 some false)) (
 some false)) (
 some false)) (
 some false)) (
 some false)) (
 some false)) (
 some false)) (
 some false)) (
 some false)) (
 some false)):=by kernel_rfl
def cF:Conf:=((20:Int),(((10:Int),((20:Int),(60:Int))),(((4:Int),((5:Int),(6:Int))),((3:Int),(9:Int)))))
theorem cF_ok:OkC cF:=⟨⟨by decide,by decide,by decide,by decide,by decide,by decide,by decide,by decide,by decide⟩,by decide,by decide,by decide,by decide,by decide⟩
theorem k1s:siz cF=36:=by decide
theorem cF_hom:hom cF=11:=by decide
def p4:Int×Dsk:=formatD cF (newD 36) (homs 1 25 0)
def p6:Int×Dsk:=commitD cF p4.2 [((12:Int),tx26 99)]
def p10:Int×Dsk:=commitD cF p6.2 [((3:Int),tx26 99)]
theorem p4_ok:ROk 36 27 p4.2:=by
 have:=(o0w 36).formatD cF (homs 1 25 0);rw[i0q] at this;exact this
theorem b1e:ROk 36 32 p6.2:=p4_ok.commitD cF [((12:Int),tx26 99)]
theorem p10_ok:ROk 36 37 p10.2:=b1e.commitD cF [((3:Int),tx26 99)]
theorem a1g {d:Dsk} {k:Nat} (h:ROk 36 k d):fitB cF d:=⟨cF_ok,by rw[k1s,h.len];rfl,by rw[k1s];decide⟩
theorem k26q4:p4.1=0:=by decide +kernel
theorem k26q6:p6.1=0∧p6.2.2.2.2=false∧a0w p6.2=(2,(0,0)):=by decide +kernel
theorem f1o:(m0h p6.2 11 25)[0]? = some (tx26 1)∧(m0h p6.2 11 25)[1]? = some (tx26 99)∧(m0h p6.2 11 25)[2]? = some (tx26 3):=by decide +kernel
theorem k26q10:p10.1=1:=by decide +kernel
theorem k26q11:(recoverD cF p10.2).1=0∧(recoverD cF p10.2).2.1=0:=by decide +kernel
theorem k26q14:(a0w (newD 36)).2.2=4:=by decide +kernel
theorem z0l (n:Nat):o0z (n+10)=some true:=by
 rw[lv26_eq,show b1p (n+9)=some cF from f1m (n+8),obs,i1x (n+5),obs];rw[if_pos (by decide)];simp only[p0z,decide_true,Bool.not_true,tff];have h25:homN cF=25:=by decide
 have hh:=d1o (n+2) cF_ok (by rw[k1s];decide) 1;rw[h25] at hh;have hN:(36:Int).toNat=36:=rfl;rw[hh,obs,hN];have e4:=w0l n (o0w 36) (by decide) (by decide) cF (homs 1 25 0) (by rw[i0q];decide);rw[if_pos (a1g (o0w 36)),if_pos ⟨by rw[i0q,cF_hom];rfl,x0o 1 25 0⟩] at e4;rw[show i0l (n+9) (newD 36) cF (homs 1 25 0)=some p4 from e4,obs,u0u,obs];have e6:=k0i n p4_ok (by decide) (by decide) cF [((12:Int),tx26 99)];rw[if_pos (a1g p4_ok)] at e6;rw[show b0l (n+9) p4.2 cF [((12:Int),tx26 99)]=some p6 from e6,obs]
 have e7:=e1e (n+1) b1e (by decide) cF;rw[if_pos (a1g b1e),if_neg (by rw[k26q6.2.1];decide),cF_hom,b1e.len] at e7;rw[show b0u (n+9) p6.2 cF=some (m0h p6.2 11 25,(0,p6.2)) from e7,obs];simp only[];rw[i0v (n+2) b1e,obs];simp only[];rw[u0u,obs];have e10:=k0i n b1e (by decide) (by decide) cF [((3:Int),tx26 99)];rw[if_pos (a1g b1e)] at e10;rw[show b0l (n+9) p6.2 cF [((3:Int),tx26 99)]=some p10 from e10,obs];have e11:=l0d n p10_ok (by decide) (by decide) cF;rw[if_pos (a1g p10_ok)] at e11;rw[e11,obs,obs];simp only[p0z]
 rw[i0v (n+2) (o0w 36),obs];have hlen:(((m0h p6.2 11 25).length:Nat):Int)=25:=by simp[m0h]
 have hat:∀(i:Nat) (x:Sec),(m0h p6.2 11 25)[i]? = some x→at? (m0h p6.2 11 25) (i:Int)=some x:=by
  intro i x h;simp[at?,h]
 rw[k26q4,k26q6.1,hlen,k26q6.2.2,k26q10,k26q11.1,k26q11.2,k26q14];simp only[decide_true,tft,u0u];have a0:=hat 0 _ f1o.1;have a1:=hat 1 _ f1o.2.1;have a2:=hat 2 _ f1o.2.2;rw[show ((0:Nat):Int)=0 from rfl] at a0;rw[show ((1:Nat):Int)=1 from rfl] at a1;rw[show ((2:Nat):Int)=2 from rfl] at a2;rw[a0,obs,f1o.1,obs,obs,beq_self_eq_true,tft,a1,obs,f1o.2.1,obs,obs,beq_self_eq_true,tft,a2,obs,f1o.2.2,obs,obs,beq_self_eq_true,tft]
theorem e1r (n:Nat) (a b:List Sec) (hab:a.length=b.length) (hl:a.length≤1000000000):∀(r f i:Nat),i+r=a.length →
  f0x n (f+r+1) (a,b,(a.length:Int),(i:Int),())=some (.inl ())∨f0x n (f+r+1) (a,b,(a.length:Int),(i:Int),())=some (.inr false):=by
 intro r;induction r with
 | zero =>
  intro f i h;rw[g0k,tfd,if_neg (by omega)];exact .inl rfl
 | succ r ih =>
  intro f i h;rw[show f+(r+1)+1=(f+r+1)+1 by omega,g0k,tfd,if_pos (by omega)];obtain ⟨x,hx⟩:∃x,a[i]? = some x:=⟨_,List.getElem?_eq_getElem (by omega)⟩;obtain ⟨y,hy⟩:∃y,b[i]? = some y:=⟨_,List.getElem?_eq_getElem (by omega)⟩;have ax:at? a (i:Int)=some x:=by simp[at?,hx]
  have ay:at? b (i:Int)=some y:=by simp[at?,hy]
  rw[ax,obs,ay,obs,w64 (x:=(i:Int)+1) (by omega) (by omega)];cases hxy:x==y with
  | true =>
   simp only[Bool.not_true,tff];have:=ih f (i+1) (by omega);rw[show ((i+1:Nat):Int)=(i:Int)+1 by push_cast;rfl] at this;exact this
  | false=>exact .inr rfl
theorem y0m (n:Nat) (a b:List Sec) (hl:a.length≤1000000000):∃v,c0c (n+1) a b=some v:=by
 rw[s0t];by_cases hab:a.length=b.length
 ·simp only[tfn,tfd];rw[if_pos (by omega)];have hfu:(a0b-a.length-1)+a.length+1=a0b:=by unfold a0b;omega
  have:=e1r n a b hab hl a.length (a0b-a.length-1) 0 (by omega);rw[hfu] at this;rw[show ((0:Nat):Int)=0 from rfl] at this;rcases this with q | q
  ·rw[q];exact ⟨true,rfl⟩
  ·rw[q];exact ⟨false,rfl⟩
 ·simp only[tfn,tfd];rw[if_neg (by omega)];exact ⟨false,rfl⟩
theorem r0q:∀ {l:List Sec} {i:Int} {z:Chg},z∈secC i l→i≤z.1∧z.1<i+l.length∧z.2∈l
 | [],i,z,h=>by cases h
 | y::r,i,z,h=>by
  rcases List.mem_cons.1 h with rfl | h
  ·exact ⟨Int.le_refl _,by simp;omega,List.mem_cons_self⟩
  ·obtain ⟨h1,h2,h3⟩:=r0q h;exact ⟨by omega,by simp;omega,List.mem_cons_of_mem _ h3⟩
theorem o0q:∀(l:List Sec) (a:Nat) (S:List Sec),a+l.length≤S.length→∀i (h:i<l.length),(a0x S (secC (a:Int) l))[a+i]? = some l[i]
 | [],a,S,_,i,h=>absurd h (Nat.not_lt_zero _)
 | z::r,a,S,hS,i,h=>by
  simp only[List.length_cons] at hS h;simp only[secC,a0x,List.foldl_cons,Int.toNat_natCast];cases i with
  | zero =>
   have h1:=e0q (l:=secC ((a:Int)+1) r) (S:=S.set a z) (j:=a) (fun y hy=>by have:=(r0q hy).1;omega);simp only[a0x] at h1;rw[show a+0=a from rfl,h1,List.getElem?_set_self (by omega)];rfl
  | succ i =>
   have h1:=o0q r (a+1) (S.set a z) (by simp;omega) i (by omega);simp only[a0x] at h1;rw[show ((a+1:Nat):Int)=(a:Int)+1 by push_cast;rfl] at h1;rw[show a+(i+1)=a+1+i by omega,h1];rfl
def fmtS (c:Conf) (m:Nat) (hs:List Sec):List Sec:=a0x (List.replicate m zsec) ((secC (hom c) hs).drop 1++(ptrC 1 0::(secC (hom c) hs).take 1))
theorem f1v {c:Conf} {m:Nat} (hf:fitB c (newD m)) (hm:m≤120) {hs:List Sec} (hl:(hs.length:Int)=(m:Int)-hom c) (h512:∀s∈hs,s.length=512) :
  formatD c (newD m) hs=(0,(fmtS c m hs,([],(0,false))))∧IdleS c m (fmtS c m hs) 1 (fmtS c m hs)∧∀j:Nat,j<hs.length→(fmtS c m hs)[(hom c).toNat+j]? = hs[j]? := by
 have hlen:(newD m).1.length=m:=List.length_replicate;obtain ⟨q1,q2,q3,q4,q5⟩:=q0c hf (by rw[hlen];exact hm);rw[hlen] at q5;have hrep:(List.replicate m zsec).length=m:=List.length_replicate;have hsec:∀s∈List.replicate m zsec,s.length=512:=fun s hs=>by rw[List.eq_of_mem_replicate hs];exact List.length_replicate
 generalize hR:List.replicate m zsec=R at hrep hsec;have hfm:fmtS c m hs=a0x R ((secC (hom c) hs).drop 1++(ptrC 1 0::(secC (hom c) hs).take 1)):=by unfold fmtS;rw[hR]
 have hnew:newD m=(R,([],(0,false))):=by unfold newD;rw[hR]
 have hfit:∀z∈secC (hom c) hs,FitC R.length z:=fun z hz=>by
  obtain ⟨h1,h2,h3⟩:=r0q hz;exact ⟨by omega,by rw[hrep];omega,h512 _ h3⟩
 have h512':∀z∈(secC (hom c) hs).drop 1++(ptrC 1 0::(secC (hom c) hs).take 1),z.2.length=512:=by
  intro z hz;rcases List.mem_append.1 hz with hz | hz
  ·exact (hfit z (List.mem_of_mem_drop hz)).2.2
  ·rcases List.mem_cons.1 hz with rfl | hz
   ·exact i0m _ _
   ·exact (hfit z (List.mem_of_mem_take hz)).2.2
 refine ⟨?_,?_,?_⟩
 ·rw[hnew,hfm];unfold formatD;rcases s0a [(secC (hom c) hs).drop 1,ptrC 1 0::(secC (hom c) hs).take 1] (S:=R) 0 (by
   intro x hx z hz;simp only[List.mem_cons,List.not_mem_nil,or_false] at hx;rcases hx with rfl | rfl
   ·exact hfit z (List.mem_of_mem_drop hz)
   ·rcases List.mem_cons.1 hz with rfl | hz
    ·exact ⟨Int.le_refl _,by show (0:Int)<(R.length:Int);rw[hrep];omega,i0m _ _⟩
    ·exact hfit z (List.mem_of_mem_take hz)) (Int.le_refl 0) with ⟨a',k1,k2,k3⟩ | ⟨k1,_⟩
  ·rw[k3,k2 rfl];simp
  ·exact absurd rfl k1
 ·rw[hfm];refine ⟨⟨by rw[c0g];exact hrep,p0t hsec h512'⟩,by decide,by decide,?_,fun _ _=>rfl⟩;rw[b0m];have e:∀(T:List Sec) (x:List Chg),a0x T (ptrC 1 0::x)=a0x (T.set 0 (ptrS 1 0)) x:=fun _ _=>rfl
  rw[e,e0q fun z hz=>by have:=(r0q (List.mem_of_mem_take hz)).1;omega];exact List.getElem?_set_self (by rw[c0g,hrep];omega)
 ·intro j hj;rw[hfm,b0m];have e:∀(T:List Sec) (x:List Chg),a0x T (ptrC 1 0::x)=a0x (T.set 0 (ptrS 1 0)) x:=fun _ _=>rfl
  rw[e];have hh:(((hom c).toNat:Nat):Int)=hom c:=by omega
  cases hs with
  | nil=>exact absurd hj (Nat.not_lt_zero _)
  | cons s t =>
   simp only[List.length_cons] at hl hj;have e1:(secC (hom c) (s::t)).drop 1=secC (hom c+1) t:=rfl;have e2:(secC (hom c) (s::t)).take 1=[(hom c,s)]:=rfl;have e3:∀T:List Sec,a0x T [(hom c,s)]=T.set (hom c).toNat s:=fun _=>rfl
   rw[e1,e2,e3];cases j with
   | zero =>
    rw[show (hom c).toNat+0=(hom c).toNat from rfl,List.getElem?_set_self (by simp[c0g,hrep];omega)];rfl
   | succ j =>
    rw[List.getElem?_set_ne (by omega),List.getElem?_set_ne (by omega)];have:=o0q t ((hom c).toNat+1) R (by omega) j (by omega);rw[show (((hom c).toNat+1:Nat):Int)=hom c+1 by omega] at this;rw[show (hom c).toNat+(j+1)=(hom c).toNat+1+j by omega,this];simp only[List.getElem?_cons_succ];rw[List.getElem?_eq_getElem (by omega)]
def kz (N:Nat) (z:m0q):Nat:=(IntKind.wrap .u32 z.1 % (N:Int)).toNat
def putK (h:Int) (N:Nat) (z:m0q):m0q:=(h+(kz N z:Int),z.2)
def nowL (N:Nat) (H:List Sec) (l:List m0q):List Sec:=l.foldl (fun H z=>H.set (kz N z) (tx26 z.2)) H
theorem kz_lt {N:Nat} (hN:0<N) (z:m0q):kz N z<N:=by
 unfold kz;have h1:=Int.emod_nonneg (IntKind.wrap .u32 z.1) (show (N:Int)≠0 by omega);have h2:=Int.emod_lt_of_pos (IntKind.wrap .u32 z.1) (show (0:Int)<(N:Int) by omega);omega
theorem wu32 (x:Int):0≤IntKind.wrap .u32 x∧IntKind.wrap .u32 x<4294967296:=by
 have e:IntKind.wrap .u32 x=x % 4294967296:=rfl;rw[e];omega
theorem t0c (N:Nat):∀(l:List m0q) (H:List Sec),(nowL N H l).length=H.length
 | [],H=>rfl
 | z::r,H=>by
  have:=t0c N r (H.set (kz N z) (tx26 z.2));simp only[nowL,List.foldl_cons] at this ⊢;rw[this];simp
theorem i1v (h N:Nat) (hN:0<N):∀(l:List m0q) (F H:List Sec),F.length=h+N→H.length=N→(∀j,j<N→F[h+j]? = H[j]?)→∀j,j<N→(a0x F (chgs (l.map (putK (h:Int) N))))[h+j]? = (nowL N H l)[j]?
 | [],F,H,_,_,hr,j,hj=>hr j hj
 | z::r,F,H,hF,hH,hr,j,hj=>by
  have hk:=kz_lt hN z;have e:a0x F (chgs ((z::r).map (putK (h:Int) N)))=a0x (F.set (h+kz N z) (tx26 z.2)) (chgs (r.map (putK (h:Int) N))):=by
   show a0x (F.set ((h:Int)+(kz N z:Int)).toNat (tx26 z.2)) _=_;rw[show ((h:Int)+(kz N z:Int)).toNat=h+kz N z by omega];rfl
  have e2:nowL N H (z::r)=nowL N (H.set (kz N z) (tx26 z.2)) r:=rfl;rw[e,e2];refine i1v h N hN r _ _ (by simp[hF]) (by simp[hH]) (fun i hi => ?_) j hj;by_cases hik:i=kz N z
  ·subst hik;rw[List.getElem?_set_self (by omega),List.getElem?_set_self (by omega)]
  ·rw[List.getElem?_set_ne (by omega),List.getElem?_set_ne (by omega)];exact hr i hi
theorem mod_loop (n:Nat) {c:Conf} (hc:OkC c) (h0:0≤hom c) (h1:hom c≤120) (fails:List (Int×List Bool)) (d:Dsk) (was:List Sec) (hw:0<was.length) (hw2:was.length≤120) (L:Nat) (hL:L≤100000):∀(rest pre:List m0q) (f:Nat) (now:List Sec) (i:Int),pre.length+rest.length=L→i=pre.length→now.length=was.length →
  f0h (n+6) (f+rest.length+1) (pre++rest,(fails,(c,(d,(was,(now,((L:Int),(i,()))))))))=some (.inl (pre++rest.map (putK (hom c) was.length),(fails,(c,(d,(was,(nowL was.length now rest,()))))))):=by
 intro rest;induction rest with
 | nil =>
  intro pre f now i h hi hn;rw[j0f,tfd,if_neg (by simp at h;omega)];rfl
 | cons z rest ih =>
  intro pre f now i h hi hn;simp only[List.length_cons] at h;rw[show f+(z::rest).length+1=(f+rest.length+1)+1 by simp;omega,j0f,tfd,if_pos (by omega)];have hm:pre++z::rest=pre++z::rest:=rfl;have hti:i.toNat=pre.length:=by omega
  have ht1:(i+1).toNat=pre.length+1:=by omega
  have hlen:(pre++z::rest).length=pre.length+(rest.length+1):=by simp
  have hk:=kz_lt hw z;have hwr:=wu32 z.1;have ek:Int.tmod (IntKind.wrap .i64 (IntKind.wrap .u32 z.1)) ((was.length:Nat):Int)=((kz was.length z:Nat):Int):=by
   rw[w64 (by omega) (by omega),Int.tmod_eq_emod_of_nonneg hwr.1];unfold kz;have h1:=Int.emod_nonneg (IntKind.wrap .u32 z.1) (show ((was.length:Nat):Int)≠0 by omega);omega
  rw[g0b hm hi,obs,tfd,if_neg (by omega)];have c1:(decide ((0:Int)≤i)&&decide (i≤(((pre++z::rest).length:Nat):Int)))=true:=by
   rw[Bool.and_eq_true,decide_eq_true_eq,decide_eq_true_eq,hlen];omega
  have e1:([]:List m0q)++List.drop 0 (List.take i.toNat (pre++z::rest))=pre:=by
   rw[hti];simp
  have e2:List.drop (IntKind.wrap .i64 (i+1)).toNat (List.take (pre++z::rest).length (pre++z::rest))=rest:=by
   rw[w64 (x:=i+1) (by omega) (by omega),ht1,List.take_length];simp
  rw[c1,tft,e1,e2];have hd:(List.drop 0 (List.take i.toNat (pre++z::rest))).length≤100000:=by rw[hti];simp;omega
  rw[tfd,if_pos (by omega),k0u (n+1) hc,obs,obs,tfd,if_pos (by omega),ek,w64 (x:=i+1) (by omega) (by omega),tfd,if_pos (by omega),tfd,if_pos (by rw[ht1,hlen];omega),w64 (x:=hom c+((kz was.length z:Nat):Int)) (by omega) (by omega)];have e3:(pre++[(hom c+((kz was.length z:Nat):Int),z.2)])++rest=(pre++[putK (hom c) was.length z])++rest:=rfl;rw[e3,tfd,if_pos (by simp;omega)];have hm2:(pre++[putK (hom c) was.length z])++rest=pre++putK (hom c) was.length z::rest:=by simp
  rw[g0b hm2 hi,obs,x0m hm2 hi,obs,u0u,obs];obtain ⟨v,hv⟩:∃v,now[kz was.length z]? = some v:=⟨_,List.getElem?_eq_getElem (by omega)⟩;have ha:at? now ((kz was.length z:Nat):Int)=some v:=by simp[at?,hv]
  rw[ha,obs,Int.toNat_natCast,hv,obs];have:=ih (pre++[putK (hom c) was.length z]) f (now.set (kz was.length z) (tx26 z.2)) (i+1) (by simp;omega) (by simp;omega) (by simpa using hn);refine this.trans ?_;simp[nowL,putK]
end Go.Proofs.Ytmcgmijdnfcfgaa
namespace Go.Proofs.Ytmcgmijdnfcfgaa
open Go.Flat
set_option linter.unusedVariables false
set_option linter.unusedSimpArgs false
set_option maxRecDepth 100000
variable {c:Conf} {m:Nat} {L:List Chg} {F S:List Sec} {num a:Int}
theorem homeL_eq {G H:List Sec} {N:Nat} (h:IdleS c m S num G) (hh:0≤hom c) (hG:∀j,j<N→G[(hom c).toNat+j]? = H[j]?) (hH:H.length=N):m0h (S,([],(a,false))) (hom c) N=H:=by
 apply List.ext_getElem?;intro j;by_cases hj:j<N
 ·obtain ⟨s,hs⟩:∃s,H[j]? = some s:=⟨_,List.getElem?_eq_getElem (by omega)⟩;have h1:=h.at_ ((hom c).toNat+j) (by push_cast;omega);rw[hG j hj,hs] at h1;have h2:=m0u (a:=a) h1;rw[show (((hom c).toNat+j:Nat):Int)=hom c+(j:Int) by push_cast;omega] at h2;unfold m0h;rw[List.getElem?_map,List.getElem?_range hj,Option.map_some,h2,hs]
 ·rw[List.getElem?_eq_none (by unfold m0h;simp;omega),List.getElem?_eq_none (by omega)]
theorem tail_all (n:Nat) (g:Gv c m L F) (lp:List m0q) (hlp:chgs lp=L) (hll:lp.length≤100000) (was now:List Sec) (told:Bool) (hw:was.length=m-(hom c).toNat) (hn:now.length=m-(hom c).toNat)
  (hwas:∀j,j<m-(hom c).toNat→F[(hom c).toNat+j]? = was[j]?) (hnow:∀j,j<m-(hom c).toNat→(a0x F L)[(hom c).toNat+j]? = now[j]?) {S:List Sec} (hd:ROk m 0 (S,([],(0,false))))
  (hs:((∃num,IdleS c m S num F)∧told=false)∨∃num,IdleS c m S num (a0x F L)) :
  (a0c (b0u (n+9) (S,([],(0,false))) c) fun r15 =>
  a0c (c0c (n+9) r15.1 now) fun r16 =>
  a0c (c0c (n+9) r15.1 was) fun r17 =>
  a0c (c0h (n+9) r15.2.2) fun r18 =>
  tif ((!(decide (r15.2.1=(0:Int))))) (some false) (
  tif ((!(decide (r18.2.2.1=(0:Int))))) (some false) (
  tif ((!(decide (r18.2.1=(0:Int))))) (some false) (
  tif ((!r16)) (
  tif ((!r17)) (some false) (
  tif (told) (some false) (
  a0c (b0x (n+9) lp) fun r19 =>
  a0c (b0l (n+9) r18.2.2.2 c r19) fun r20 =>
  a0c (b0u (n+9) r20.2 c) fun r21 =>
  tif ((decide (r20.1=(0:Int)))) (
  tif ((decide (r21.2.1=(0:Int)))) (
  a0c (c0c (n+9) r21.1 now) fun r22=>some r22) (some false)) (some false)))) (
  a0c (b0x (n+9) lp) fun r23 =>
  a0c (b0l (n+9) r18.2.2.2 c r23) fun r24 =>
  a0c (b0u (n+9) r24.2 c) fun r25 =>
  tif ((decide (r24.1=(0:Int)))) (
  tif ((decide (r25.2.1=(0:Int)))) (
  a0c (c0c (n+9) r25.1 now) fun r26=>some r26) (some false)) (some false))))))=some true:=by
 have m120:=g.m120;have hsok:Sok m S:=⟨hd.len,hd.sec⟩;obtain ⟨q1,q2,q3,q4,q5⟩:=g.hom hsok;have hfit:∀ {T:List Sec} (hT:Sok m T),fitB c ((T,([],(0,false))):Dsk):=fun hT=>g.fit hT _
 have home:∀ {T G H:List Sec} {num:Int},ROk m 0 (T,([],(0,false)))→IdleS c m T num G→(∀j,j<m-(hom c).toNat→G[(hom c).toNat+j]? = H[j]?)→H.length=m-(hom c).toNat →
   b0u (n+9) (T,([],(0,false))) c=some (H,(0,(T,([],(0,false))))):=by
  intro T G H num hT hi hG hH;have:=e1e (n+1) hT m120 c;rw[if_pos (hfit hi.sok),if_neg (show ¬((T,([],(0,false))):Dsk).2.2.2=true from fun h=>by cases h)] at this;have e:((T,([],(0,false))):Dsk).1.length=m:=hi.sok.len;rw[e,homeL_eq (a:=0) hi (by omega) hG hH] at this;exact this
 have last:∀ {num:Int},(IdleS c m S num F∨IdleS c m S num (a0x F L))→(a0c (b0x (n+9) lp) fun r23 =>
  a0c (b0l (n+9) (S,([],(0,false))) c r23) fun r24 =>
  a0c (b0u (n+9) r24.2 c) fun r25 =>
  tif ((decide (r24.1=(0:Int)))) (
  tif ((decide (r25.2.1=(0:Int)))) (
  a0c (c0c (n+9) r25.1 now) fun r26=>some r26) (some false)) (some false))=some true:=by
  intro num hi;rw[k0y (n+7) lp hll,obs,hlp];have hcv:=k0i n hd m120 (by omega) c L;rw[if_pos (hfit hsok)] at hcv;have key:(commitD c (S,([],(0,false))) L).1=0∧∃S' n2,(commitD c (S,([],(0,false))) L).2=(S',([],(0,false)))∧IdleS c m S' n2 (a0x F L):=by
   rcases hi with hi | hi
   ·rcases n0k g (Int.le_refl 0) hi with ⟨h1,S',a',n2,h2,h3,h4,h5⟩ | ⟨h1,_⟩
    ·exact ⟨h1,S',n2,by rw[h4,h3 rfl],h5⟩
    ·exact absurd rfl h1
   ·exact a1b g hi
  obtain ⟨k1,S',n2,k2,k3⟩:=key;rw[hcv,obs,k1,k2];have hr':ROk m 0 (S',([],(0,false))):=⟨k3.sok.len,k3.sok.sec,Nat.le_refl _,fun z hz=>(by cases hz),Int.le_refl _,(by show (0:Int)≤9223372036854775807;decide)⟩;rw[home hr' k3 hnow hn,obs];simp only[decide_true,tft];rw[w0v (n+8) now (by omega),obs]
 have main:∀ {G H:List Sec} {num:Int},IdleS c m S num G→(∀j,j<m-(hom c).toNat→G[(hom c).toNat+j]? = H[j]?)→H.length=m-(hom c).toNat→(H=was∧told=false∨H=now)→(IdleS c m S num F∨IdleS c m S num (a0x F L)) →
  (a0c (b0u (n+9) (S,([],(0,false))) c) fun r15 =>
  a0c (c0c (n+9) r15.1 now) fun r16 =>
  a0c (c0c (n+9) r15.1 was) fun r17 =>
  a0c (c0h (n+9) r15.2.2) fun r18 =>
  tif ((!(decide (r15.2.1=(0:Int))))) (some false) (
  tif ((!(decide (r18.2.2.1=(0:Int))))) (some false) (
  tif ((!(decide (r18.2.1=(0:Int))))) (some false) (
  tif ((!r16)) (
  tif ((!r17)) (some false) (
  tif (told) (some false) (
  a0c (b0x (n+9) lp) fun r19 =>
  a0c (b0l (n+9) r18.2.2.2 c r19) fun r20 =>
  a0c (b0u (n+9) r20.2 c) fun r21 =>
  tif ((decide (r20.1=(0:Int)))) (
  tif ((decide (r21.2.1=(0:Int)))) (
  a0c (c0c (n+9) r21.1 now) fun r22=>some r22) (some false)) (some false)))) (
  a0c (b0x (n+9) lp) fun r23 =>
  a0c (b0l (n+9) r18.2.2.2 c r23) fun r24 =>
  a0c (b0u (n+9) r24.2 c) fun r25 =>
  tif ((decide (r24.1=(0:Int)))) (
  tif ((decide (r25.2.1=(0:Int)))) (
  a0c (c0c (n+9) r25.1 now) fun r26=>some r26) (some false)) (some false))))))=some true:=by
  intro G H num hi hG hH hor hidle;rw[home hd hi hG hH,obs];simp only[];obtain ⟨v1,e1⟩:=y0m (n+8) H now (by omega);obtain ⟨v2,e2⟩:=y0m (n+8) H was (by omega);rw[e1,obs,e2,obs,i0v (n+2) hd,obs,f0g hi.ptr hi.n0 hi.n1 (by decide) (by decide)];simp only[decide_true,Bool.not_true,tff];have hl:=last hidle;cases v1 with
  | true =>
   simp only[Bool.not_true,tff];exact hl
  | false =>
   simp only[Bool.not_false,tft];rcases hor with ⟨rfl,rfl⟩ | rfl
   ·rw[w0v (n+8) H (by omega)] at e2;injection e2 with e2;rw[←e2];simp only[Bool.not_true,tff];exact hl
   ·rw[w0v (n+8) H (by omega)] at e1;injection e1 with e1;cases e1
 rcases hs with ⟨⟨num,hi⟩,ht⟩ | ⟨num,hi⟩
 ·exact main hi hwas hw (.inl ⟨rfl,ht⟩) (.inl hi)
 ·exact main hi hnow hn (.inr rfl) (.inr hi)
def InvS (c:Conf) (m:Nat) (L:List Chg) (F:List Sec) (first:Bool) (S:List Sec) (told:Bool):Prop :=
 if first=true then (∃num,IdleS c m S num F)∧told=false else a1m c m L F S∧(told=true→∃num,IdleS c m S num (a0x F L))
theorem a1o (S:List Sec) (a:Int) (b:Bool) (keep:List Bool):(upD (S,([],(a,b))) keep).2=(S,([],(0,false))):=rfl
theorem g1u (S:List Sec) (P:List Chg) (keep:List Bool):(upD (S,(P,(0,true))) keep).2=(a0x S (i0w (upK keep) 0 P),([],(0,false))):=rfl
theorem f1z (n:Nat) (g:Gv c m L F) (lp:List m0q) (hlp:chgs lp=L) (hll:lp.length≤8192) (was now:List Sec) (fl:List (Int×List Bool)) (hfl:fl.length≤12) (hw:∀x∈fl,x.1≤9223372036854775807) :
  ∀(rest pre:List (Int×List Bool)) (f:Nat) (S:List Sec) (told:Bool) (i:Int),fl=pre++rest→i=pre.length→ROk m 0 (S,([],(0,false)))→InvS c m L F pre.isEmpty S told →
  ∃S' told',c0n (n+9) (f+rest.length+1) (lp,(fl,(c,((S,([],(0,false))),(was,(now,(told,(fl,((fl.length:Int),(i,()))))))))))=some (.inl (lp,(fl,(c,((S',([],(0,false))),(was,(now,(told',()))))))))∧ROk m 0 (S',([],(0,false)))∧InvS c m L F fl.isEmpty S' told':=by
 have m120:=g.m120;intro rest;induction rest with
 | nil =>
  intro pre f S told i h hi hd hinv;obtain rfl:fl=pre:=by simpa using h
  rw[j0e,tfd,if_neg (by omega)];exact ⟨S,told,rfl,hd,hinv⟩
 | cons x rest ih =>
  intro pre f S told i h hi hd hinv;have hlen:=congrArg List.length h;simp at hlen;have hx:=hw x (by rw[h];simp);rw[show f+(x::rest).length+1=(f+rest.length+1)+1 by simp;omega,j0e,tfd,if_pos (by omega),g0b h hi,obs,r0k,obs];obtain ⟨a,ha,ea⟩:∃a:Int,0≤a∧(if x.1<(0:Int) then (0:Int) else x.1)=a:=⟨_,by split<;>omega,rfl⟩;have harm:ROk m 0 (S,([],(a,false))):=by
   have:=hd.arm x.1 hx;unfold armD at this;rw[ea] at this;exact this
  have earm:(((S,(([]:List Chg),((0:Int),false))):Dsk).1,(((S,(([]:List Chg),((0:Int),false))):Dsk).2.1,((if x.1<(0:Int) then (0:Int) else x.1),((S,(([]:List Chg),((0:Int),false))):Dsk).2.2.2)))=((S,([],(a,false))):Dsk):=by rw[ea]
  rw[earm];have hsok:Sok m S:=⟨hd.len,hd.sec⟩;have hfit:fitB c ((S,([],(a,false))):Dsk):=g.fit hsok _;have next:∀(S':List Sec) (t':Bool),ROk m 0 (S',([],(0,false)))→a1m c m L F S'→(t'=true→∃num,IdleS c m S' num (a0x F L)) →
    ∃S2 t2,c0n (n+9) (f+rest.length+1) (lp,(fl,(c,((S',([],(0,false))),(was,(now,(t',(fl,((fl.length:Int),(IntKind.wrap .i64 (i+1),()))))))))))=some (.inl (lp,(fl,(c,((S2,([],(0,false))),(was,(now,(t2,()))))))))∧ROk m 0 (S2,([],(0,false)))∧InvS c m L F fl.isEmpty S2 t2:=by
   intro S' t' h1 h2 h3;rw[w64 (x:=i+1) (by omega) (by omega)];refine ih (pre++[x]) f S' t' (i+1) (by rw[h];simp) (by simp;omega) h1 ?_;have e:(pre++[x]).isEmpty=false:=by cases pre<;>rfl
   unfold InvS;rw[e,if_neg (by decide)];exact ⟨h2,h3⟩
  have upok:∀ {d':Dsk} {k:Nat},ROk m k d'→k≤1000000→∀kp,e0z (n+9) d' kp=some (upD d' kp):=fun h hk kp=>up_val (n+7) _ kp (h.ok (by omega) hk)
  have fell:∀ {d':Dsk} {k:Nat},ROk m k d'→Fell c m L F d'→∃S',(upD d' x.2).2=(S',([],(0,false)))∧ROk m 0 (S',([],(0,false)))∧a1m c m L F S':=by
   intro d' k hr hf;obtain ⟨S1,P,rfl,hq⟩:=hf;refine ⟨_,g1u S1 P x.2,?_,hq _ (t0g P 0)⟩;have:=hr.up x.2;rw[g1u] at this;exact this
  cases hpre:pre with
  | nil =>
   subst hpre;have hi0:i=0:=by simpa using hi
   unfold InvS at hinv;rw[if_pos (show ([]:List (Int×List Bool)).isEmpty=true from rfl)] at hinv;obtain ⟨⟨num,hid⟩,rfl⟩:=hinv;rw[tfd,if_pos hi0,k0y (n+7) lp (by omega),obs,hlp];have hcv:=k0i n harm m120 (by omega) c L;rw[if_pos hfit] at hcv;rw[hcv,obs];have hrc:=harm.commitD c L;have hLl:L.length≤8192:=by rw[←hlp];simpa [chgs] using hll
   rw[upok hrc (by omega),obs];rcases n0k g ha hid with ⟨h1,S',a',n2,h2,h3,h4,h5⟩ | ⟨h1,h2,h3⟩
   ·rw[h1,h4,a1o];have hr':ROk m 0 (S',([],(0,false))):=⟨h5.sok.len,h5.sok.sec,Nat.le_refl _,fun z hz=>(by cases hz),Int.le_refl _,(by show (0:Int)≤9223372036854775807;decide)⟩;exact next S' _ hr' ⟨n2,.inr (.inr h5)⟩ fun _=>⟨n2,h5⟩
   ·obtain ⟨S',k1,k2,k3⟩:=fell hrc h3;rw[k1,decide_eq_false h2];exact next S' false k2 k3 fun h=>by cases h
  | cons y t =>
   have hne:i≠0:=by rw[hi,hpre];simp;omega
   unfold InvS at hinv;rw[hpre,if_neg (by simp)] at hinv;obtain ⟨haf,htold⟩:=hinv;rw[tfd,if_neg hne];have hrv:=l0d n harm m120 (by omega) c;rw[if_pos hfit] at hrv;rw[hrv,obs];have hrr:=harm.recoverD c (g.hom hsok).1;rcases k0q g ha haf with ⟨h1,S',a',h2,h3,h4,h5⟩ | ⟨h1,h2,h3,h4⟩
   ·rw[h1];simp only[decide_true,Bool.not_true,tff];rw[h4] at hrr ⊢;rw[upok hrr (by omega),obs,a1o];have hr0:ROk m 0 (S',([],(0,false))):=by have:=hrr.up x.2;rw[a1o] at this;exact this
    refine next S' told hr0 ?_ fun ht => ?_
    ·rcases h5 with ⟨⟨num,q⟩,rfl⟩ | ⟨num,q⟩
     ·exact ⟨num,.inl q⟩
     ·exact ⟨num,.inr (.inr q)⟩
    ·rcases h5 with ⟨_,rfl⟩ | q
     ·exact htold ht
     ·exact q
   ·rw[h2];have e14:(!(decide ((14:Int)=0)))=true:=by decide
    have e15:(!(decide ((14:Int)=14)))=false:=by decide
    rw[e14,tft,e15,tff,upok hrr (by omega),obs];obtain ⟨S',k1,k2,k3⟩:=fell hrr h4;rw[k1];exact next S' told k2 k3 fun ht=>absurd (htold ht) h3
theorem y0p (n:Nat) (hlv:o0z (n+9)=some true) (c:Conf) (b:Int) (l:List m0q) (fails:List (Int×List Bool)) (hfw:Wf (.slice a0q) fails):t0f (n+10) c b l fails=some true:=by
 rw[u0j,hlv,obs];simp only[Bool.not_true,tff];have hw:∀x∈fails,x.1≤9223372036854775807:=fun x hx=>(hfw.2 x hx).1.2
 by_cases hc:OkC c
 rotate_left
 ·rw[c1s (n+3) hc,obs];rfl
 have hrng:=hc.rng;have hplc:=o0s hrng;have hcap:=hrng.cap;have hidx:=idx_range hrng;have hlog:=hrng.log;have hmul:0<c.2.2.2.1*plc c:=Int.mul_pos (by omega) (by omega);have hs1:0<siz c-hom c:=by unfold siz;omega
 have hh0:0≤hom c:=by unfold hom;omega
 rw[r0p (n+3) hc,obs];unfold sizR;by_cases hbig:16777216<siz c
 ·rw[if_pos hbig];rfl
 rw[if_neg hbig];simp only[decide_true,Bool.not_true,tff,tfd];by_cases h120:120<siz c
 ·rw[if_pos h120]
 rw[if_neg h120];by_cases hll:c.2.2.2.2<(l.length:Int)
 ·rw[if_pos hll]
 rw[if_neg hll];by_cases hfl:(12:Int)<(fails.length:Int)
 ·rw[if_pos hfl]
 rw[if_neg hfl,i1x (n+5),obs,if_pos (by omega)];simp only[p0z,decide_true,Bool.not_true,tff];obtain ⟨m,hm⟩:∃m:Nat,siz c=(m:Int):=⟨(siz c).toNat,by omega⟩;have hmt:(siz c).toNat=m:=by omega
 rw[hmt];have hfit:fitB c (newD m):=⟨hc,by rw[hm];show (m:Int)=((List.replicate m zsec).length:Int);rw[List.length_replicate],by omega⟩;obtain ⟨hs,hhs⟩:∃hs,hs=homs b (homN c) 0:=⟨_,rfl⟩;have hsl:hs.length=homN c:=by rw[hhs];exact i0q b _ _
 have hs5:∀s∈hs,s.length=512:=by rw[hhs];exact x0o b _ _
 have hN:(homN c:Int)=(m:Int)-hom c:=by unfold homN;omega
 have hho:=d1o (n+2) hc (by omega) b;rw[←hhs] at hho;rw[hho,obs,w0l n (o0w m) (by omega) (by decide) c hs (by omega),obs,if_pos hfit,if_pos ⟨by rw[hsl,hN];show _=(((List.replicate m zsec).length:Nat):Int)-_;rw[List.length_replicate],hs5⟩];obtain ⟨e1,hid,hat⟩:=f1v hfit (by omega) (hs:=hs) (by rw[hsl];exact hN) hs5;rw[e1];simp only[decide_true,Bool.not_true,tff];rw[obs,obs];have hNt:m-(hom c).toNat=homN c:=by omega
 have hN0:0<homN c:=by omega
 have hfu:(a0b-l.length-1)+l.length+1=a0b:=by unfold a0b;omega
 have hml:=mod_loop (n+3) hc hh0 (by omega) fails (fmtS c m hs,([],(0,false))) hs (by omega) (by omega) l.length (by omega) l [] (a0b-l.length-1) hs 0 (by simp) rfl rfl;rw[hfu] at hml;rw[show ([]:List m0q)++l=l from rfl] at hml;rw[hml,obs];simp only[c0f,List.nil_append];generalize hlp:l.map (putK (hom c) hs.length)=lp;have hlpl:lp.length=l.length:=by rw[←hlp];simp
 generalize hF:fmtS c m hs=F at hid hat;have hFl:F.length=m:=hid.sok.len;have g:Gv c m (chgs lp) F:=by
  refine ⟨hc,hm,by omega,hFl,fun z hz => ?_,by simp[chgs,hlpl];omega⟩;simp only[chgs,←hlp,List.mem_map] at hz;obtain ⟨p,⟨q,hq,rfl⟩,rfl⟩:=hz;have:=kz_lt (N:=hs.length) (by omega) q;exact ⟨by show hom c≤hom c+_;omega,by show hom c+((kz hs.length q:Nat):Int)<_;omega,s0c _⟩
 have hwas:∀j,j<m-(hom c).toNat→F[(hom c).toNat+j]? = hs[j]? := fun j hj=>hat j (by omega)
 have hnl:(nowL hs.length hs l).length=hs.length:=t0c _ _ _;have hnow:∀j,j<m-(hom c).toNat→(a0x F (chgs lp))[(hom c).toNat+j]? = (nowL hs.length hs l)[j]? := by
  intro j hj;have:=i1v (hom c).toNat hs.length (by omega) l F hs (by omega) rfl (fun i hi=>hat i hi) j (by omega);rw[show (((hom c).toNat:Nat):Int)=hom c by omega,hlp] at this;exact this
 have hr0:ROk m 0 (F,([],(0,false))):=⟨hid.sok.len,hid.sok.sec,Nat.le_refl _,fun z hz=>(by cases hz),Int.le_refl _,(by show (0:Int)≤9223372036854775807;decide)⟩;have hfu2:(a0b-fails.length-1)+fails.length+1=a0b:=by unfold a0b;omega
 obtain ⟨S',told',k1,k2,k3⟩:=f1z n g lp rfl (by omega) hs (nowL hs.length hs l) fails (by omega) hw fails [] (a0b-fails.length-1) F false 0 rfl rfl hr0 (by
  unfold InvS;rw[if_pos (show ([]:List (Int×List Bool)).isEmpty=true from rfl)]
  exact ⟨⟨1,hid⟩,rfl⟩)
 rw[hfu2] at k1;rw[k1,obs];simp only[c0f];have hsok':Sok m S':=⟨k2.len,k2.sec⟩;have hfit':∀ {T:List Sec},Sok m T→fitB c ((T,([],(0,false))):Dsk):=fun hT=>g.fit hT _
 have tl:=fun (told:Bool) {S:List Sec} (hd:ROk m 0 (S,([],(0,false)))) hs'=>tail_all n g lp rfl (by omega) hs (nowL hs.length hs l) told (by omega) (by omega) hwas hnow (S:=S) hd hs'
 by_cases hf0:fails.length=0
 ·have hfe:fails=[]:=List.eq_nil_of_length_eq_zero hf0;subst hfe;rw[if_pos (by simp)];unfold InvS at k3;rw[if_pos (show ([]:List (Int×List Bool)).isEmpty=true from rfl)] at k3;obtain ⟨⟨num,hid'⟩,_⟩:=k3;rw[k0y (n+7) lp (by omega),obs];have hcv:=k0i n k2 (by omega) (by omega) c (chgs lp);rw[if_pos (hfit' hsok')] at hcv;rw[hcv,obs];rcases n0k g (Int.le_refl 0) hid' with ⟨h1,S2,a',n2,h2,h3,h4,h5⟩ | ⟨h1,_⟩
  rotate_left
  ·exact absurd rfl h1
  rw[h3 rfl] at h4;rw[h1,h4];have hr2:ROk m 0 (S2,([],(0,false))):=⟨h5.sok.len,h5.sok.sec,Nat.le_refl _,fun z hz=>(by cases hz),Int.le_refl _,(by show (0:Int)≤9223372036854775807;decide)⟩;have hrv:=l0d n hr2 (by omega) (by omega) c;rw[if_pos (hfit' h5.sok)] at hrv;rw[hrv,obs];rcases k0q (a:=0) g (Int.le_refl 0) ⟨n2,.inr (.inr h5)⟩ with ⟨j1,S3,a3,j2,j3,j4,j5⟩ | ⟨j1,_⟩
  rotate_left
  ·exact absurd rfl j1
  rw[j3 rfl] at j4;rw[j1,j4];have hI3:∃num,IdleS c m S3 num (a0x F (chgs lp)):=by
   rcases j5 with ⟨_,rfl⟩ | q
   ·exact ⟨n2,h5⟩
   ·exact q
  obtain ⟨n3,h3'⟩:=hI3;have hr3:ROk m 0 (S3,([],(0,false))):=⟨h3'.sok.len,h3'.sok.sec,Nat.le_refl _,fun z hz=>(by cases hz),Int.le_refl _,(by show (0:Int)≤9223372036854775807;decide)⟩;simp only[decide_true,Bool.not_true,tff];have:=tl true hr3 (.inr ⟨n3,h3'⟩);rw[k0y (n+7) lp (by omega)] at this;simp only[tfd,tfn,tft,obs,if_true] at this ⊢;exact this
 ·rw[if_neg (by omega)];have hfe:fails.isEmpty=false:=by
   cases fails with
   | nil=>exact absurd rfl hf0
   | cons _ _=>rfl
  unfold InvS at k3;rw[hfe,if_neg (by decide)] at k3;obtain ⟨haf,htold⟩:=k3;have hrv:=l0d n k2 (by omega) (by omega) c;rw[if_pos (hfit' hsok')] at hrv;rw[hrv,obs];rcases k0q (a:=0) g (Int.le_refl 0) haf with ⟨j1,S3,a3,j2,j3,j4,j5⟩ | ⟨j1,_⟩
  rotate_left
  ·exact absurd rfl j1
  rw[j3 rfl] at j4;rw[j1,j4];have hcase:((∃num,IdleS c m S3 num F)∧told'=false)∨∃num,IdleS c m S3 num (a0x F (chgs lp)):=by
   rcases j5 with ⟨⟨num,q⟩,rfl⟩ | q
   ·cases ht:told' with
    | false=>exact .inl ⟨⟨num,q⟩,rfl⟩
    | true=>exact .inr (htold ht)
   ·exact .inr q
  have hs3:Sok m S3:=by
   rcases hcase with ⟨⟨num,q⟩,_⟩ | ⟨num,q⟩<;>exact q.sok
  have hr3:ROk m 0 (S3,([],(0,false))):=⟨hs3.len,hs3.sec,Nat.le_refl _,fun z hz=>(by cases hz),Int.le_refl _,(by show (0:Int)≤9223372036854775807;decide)⟩;simp only[decide_true,Bool.not_true,tff];have:=tl told' hr3 hcase;simp only[tfd,tfn] at this ⊢;exact this
end Go.Proofs.Ytmcgmijdnfcfgaa
