/-
 Plain proofs about the functions of this seat, part 1 of 1.
-/
import Derived.Test.YtmcgmijdnfcfgaaGreatTr
import Derived.Test.YtmcgmijdnfcfgaaGreatFlatM4
import Derived.KernelRfl
import Derived.IntWalk
import Derived.Test.YtmcgmijdnfcfgaaGreatChkP
namespace Go.Proofs.YtmcgmijdnfcfgaaGreat
open Go.Flat
set_option linter.unusedVariables false
set_option linter.unusedSimpArgs false
abbrev Sec:=List UInt8
abbrev Chg:=Int×Sec
abbrev Dsk:=List Sec×(List Chg×(Int×Bool))
theorem d0c {α:Type} {l pre rest:List α} {x:α} {i:Int} (h:l=pre++x::rest) (hi:i=pre.length):at? l i=some x:=by
 subst h hi;simp[at?]
theorem a1w {α:Type} {l pre rest:List α} {x:α} {i:Int} (h:l=pre++x::rest) (hi:i=pre.length):l[i.toNat]? = some x:=by
 subst h hi;simp
def FitC (m:Nat) (z:Chg):Prop:=0≤z.1∧z.1<m∧z.2.length=512
def p0v (S:List Sec) (l:List Chg):List Sec:=l.foldl (fun S z=>S.set z.1.toNat z.2) S
theorem a1m (l:List Chg):∀S,(p0v S l).length=S.length:=by
 induction l with
 | nil=>intro S;rfl
 | cons z l ih=>intro S;simp only[p0v,List.foldl_cons] at ih ⊢;rw[ih];simp
def e0y (k:Int→Bool):Int→List Chg→List Chg
 | _,[]=>[]
 | i,z::r=>if k i=true then z::e0y k (i+1) r else e0y k (i+1) r
theorem o1e (l:List Chg):∀i,e0y (fun _=>true) i l=l:=by
 induction l with
 | nil=>intro i;rfl
 | cons z r ih=>intro i;simp[e0y,ih]
theorem r0o {k:Int→Bool} {z:Chg}:∀(l:List Chg) (i:Int),z∈e0y k i l→z∈l
 | [],_,h=>h
 | y::r,i,h=>by
  unfold e0y at h;split at h
  ·rcases List.mem_cons.1 h with h | h
   ·exact h ▸ List.mem_cons_self
   ·exact List.mem_cons_of_mem _ (r0o r _ h)
  ·exact List.mem_cons_of_mem _ (r0o r _ h)
theorem t0u {k:Int→Bool}:∀(l:List Chg) (i:Int),(e0y k i l).length≤l.length
 | [],_=>Nat.le_refl _
 | y::r,i=>by
  unfold e0y;have:=t0u (k:=k) r (i+1);split<;>simp<;>omega
structure DkOk (d:Dsk):Prop where
 len:d.1.length≤16777216
 pen:d.2.1.length≤1000000000000
 fit:∀z∈d.2.1,FitC d.1.length z
theorem has_val (n:Nat) (d:Dsk) (i:Int):m0v (n+1) d i=some (decide (0≤i∧i<d.1.length),d):=by
 rw[u0l];simp only[tfd];by_cases h:0≤i
 ·rw[if_pos h];simp[h]
 ·rw[if_neg h];simp[h]
def stepD (d:Dsk):Int×Dsk :=
 if d.2.2.2=true then (14,d) else if d.2.2.1=1 then (14,d.1,d.2.1,0,true) else if 1<d.2.2.1 then (0,d.1,d.2.1,d.2.2.1-1,d.2.2.2) else (0,d)
theorem h1h (n:Nat) (d:Dsk) (h:d.2.2.1≤9223372036854775807):h0e (n+1) d=some (stepD d):=by
 rw[s0x];unfold stepD;simp only[b0p,decide_eq_true_eq];by_cases h1:d.2.2.2=true
 ·rw[if_pos h1,if_pos h1]
 rw[if_neg h1,if_neg h1];by_cases h2:d.2.2.1=1
 ·rw[if_pos h2,if_pos h2]
 rw[if_neg h2,if_neg h2];by_cases h3:1<d.2.2.1
 ·rw[if_pos h3,if_pos h3,w64 (by omega) (by omega)]
 ·rw[if_neg h3,if_neg h3]
def n0e (d:Dsk) (i:Int) (s:Sec):Int×Dsk :=
 if 0≤i∧i<d.1.length∧s.length=512 then
  if (stepD d).1=0 then (0,(stepD d).2.1,(stepD d).2.2.1++[(i,s)],(stepD d).2.2.2) else stepD d
 else (1,d)
theorem l0h (d:Dsk):(stepD d).2.1=d.1∧(stepD d).2.2.1=d.2.1:=by
 unfold stepD;split
 ·exact ⟨rfl,rfl⟩
 split
 ·exact ⟨rfl,rfl⟩
 split<;>exact ⟨rfl,rfl⟩
theorem b1r (n:Nat) (d:Dsk) (i:Int) (s:Sec) (h:d.2.2.1≤9223372036854775807) (hp:d.2.1.length≤1000000000000):g0b (n+2) d i s=some (n0e d i s):=by
 rw[r0u,has_val,obs];unfold n0e;by_cases h1:0≤i∧i<(d.1.length:Int)
 ·by_cases h2:s.length=512
  ·rw[if_pos ⟨h1.1,h1.2,h2⟩];have e2:decide (((s.length:Nat):Int)=512)=true:=by simp[h2]
   rw[decide_eq_true h1,e2];simp only[b0p,Bool.not_true,Bool.false_eq_true,if_false];rw[h1h n d h,obs];by_cases h3:(stepD d).1=0
   ·rw[if_pos (by simpa using h3),if_pos h3];have hl:(stepD d).2.2.1.length=d.2.1.length:=by rw[(l0h d).2]
    rw[if_pos (by simp;omega),h3]
   ·rw[if_neg (by simpa using h3),if_neg h3]
  ·rw[if_neg (fun q=>h2 q.2.2)];have e2:decide (((s.length:Nat):Int)=512)=false:=by simp;omega
   rw[decide_eq_true h1,e2];rfl
 ·rw[if_neg (fun q=>h1 ⟨q.1,q.2.1⟩),decide_eq_false h1];rfl
theorem o1c (n:Nat) {is:Int×Unit→Option Bool} {k:Int→Bool} (l:List Chg) (hl:l.length≤1000000000000):∀(rest pre:List Chg) (f:Nat) (d:Dsk) (c i:Int),(∀j:Int,0≤j→j<l.length→is (j,())=some (k j))→d.2.1=l→l=pre++rest→i=pre.length→(∀z∈rest,FitC d.1.length z)→0≤c→c≤pre.length →
  d0o n (f+rest.length+1) (d,is,c,(l.length:Int),i,())=some (.inl ((p0v d.1 (e0y k i rest),d.2),(c+(e0y k i rest).length,()))):=by
 intro rest;induction rest with
 | nil =>
  intro pre f d c i his hd h hi hf hc0 hc;rw[i0p];have h1:¬(i<(l.length:Int)):=by have:=congrArg List.length h;simp at this;omega
  simp only[tfd,if_neg h1];simp[e0y,p0v]
 | cons z rest ih =>
  intro pre f d c i his hd h hi hf hc0 hc;have hlen:=congrArg List.length h;simp at hlen;rw[show f+(z::rest).length+1=(f+rest.length+1)+1 by simp;omega,i0p];have h1:i<(l.length:Int):=by omega
  simp only[tfd,if_pos h1,hd];rw[d0c h hi,obs,a1w h hi,obs,his i (by omega) h1,obs];have hz:=hf z List.mem_cons_self;have hnext:i+1=((pre++[z]).length:Int):=by simp;omega
  rw[w64 (x:=i+1) (by omega) (by omega)];by_cases hk:k i=true
  ·rw[hk];simp only[b0p,if_true];have ha:∃v,d.1[z.1.toNat]? = some v:=⟨_,List.getElem?_eq_getElem (by have:=hz.1;have:=hz.2.1;omega)⟩;obtain ⟨v,hv⟩:=ha;have hat:at? d.1 z.1=some v:=by
    simp[at?,hz.1,hv]
   rw[hat,obs,hv,obs,w64 (x:=c+1) (by omega) (by omega)];have:=ih (pre++[z]) f (d.1.set z.1.toNat z.2,d.2) (c+1) (i+1) his hd (by rw[h];simp) hnext (fun y hy=>by simpa using hf y (List.mem_cons_of_mem _ hy)) (by omega) (by simp;omega);rw[this];have hkf:e0y k i (z::rest)=z::e0y k (i+1) rest:=by rw[e0y,if_pos hk]
   rw[hkf];have e:c+1+((e0y k (i+1) rest).length:Int)=c+((z::e0y k (i+1) rest).length:Int):=by rw[List.length_cons];push_cast;omega
   rw[e];rfl
  ·have hk':k i=false:=by simpa using hk
   rw[hk'];simp only[b0p,Bool.false_eq_true,if_false];have:=ih (pre++[z]) f d c (i+1) his hd (by rw[h];simp) hnext (fun y hy=>hf y (List.mem_cons_of_mem _ hy)) hc0 (by simp;omega);rw[this];have hkf:e0y k i (z::rest)=e0y k (i+1) rest:=by rw[e0y,if_neg hk]
   rw[hkf]
def keepD (d:Dsk) (k:Int→Bool):Int×Dsk:=(((e0y k 0 d.2.1).length:Int),p0v d.1 (e0y k 0 d.2.1),[],d.2.2)
theorem i1l (n:Nat) (d:Dsk) {is:Int×Unit→Option Bool} {k:Int→Bool} (h:DkOk d) (his:∀j:Int,0≤j→j<d.2.1.length→is (j,())=some (k j)):h0f (n+1) d is=some (keepD d k):=by
 rw[s0y];have hfu:(a0c-d.2.1.length-1)+d.2.1.length+1=a0c:=by
  have:=h.pen;unfold a0c;omega
 have:=o1c n d.2.1 h.pen d.2.1 [] (a0c-d.2.1.length-1) d 0 0 his rfl rfl rfl h.fit (Int.le_refl _) (by simp);rw[hfu] at this;rw[this,obs,b0j];simp[keepD]
def b1v (d:Dsk):Int×Dsk:=if (stepD d).1=0 then (0,(keepD (stepD d).2 fun _=>true).2) else stepD d
theorem DkOk.step {d:Dsk} (h:DkOk d):DkOk (stepD d).2:=by
 obtain ⟨e1,e2⟩:=l0h d;exact ⟨by rw[e1];exact h.len,by rw[e2];exact h.pen,by rw[e1,e2];exact h.fit⟩
theorem sync_val (n:Nat) (d:Dsk) (h:DkOk d) (ha:d.2.2.1≤9223372036854775807):h0g (n+2) d=some (b1v d):=by
 rw[t0a,h1h n d ha,obs];unfold b1v;by_cases h1:(stepD d).1=0
 ·simp only[tfd,if_pos h1];rw[i1l n (stepD d).2 (is:=fun y1=>i0c (n+1) y1.1) h.step (k:=fun _=>true) (fun j _ _=>q0i n j),obs,h1]
 ·simp only[tfd,if_neg h1]
def upK (keep:List Bool) (j:Int):Bool:=decide (j<keep.length)&&(keep[j.toNat]?.getD false)
def upD (d:Dsk) (keep:List Bool):Int×Dsk:=keepD (d.1,d.2.1,0,false) (upK keep)
theorem up_val (n:Nat) (d:Dsk) (keep:List Bool) (h:DkOk d):o0u (n+2) d keep=some (upD d keep):=by
 rw[w0p];have h':DkOk (d.1,d.2.1,(0:Int),false):=⟨h.len,h.pen,h.fit⟩;rw[i1l n (d.1,d.2.1,(0:Int),false) (is:=fun y0=>l0f (n+1) y0.1 keep) h' (k:=upK keep) (fun j h0 h1 => ?_),obs]
 ·rfl
 ·rw[s0z];unfold upK;by_cases hj:j<(keep.length:Int)
  ·obtain ⟨v,hv⟩:∃v,keep[j.toNat]? = some v:=⟨_,List.getElem?_eq_getElem (by omega)⟩;simp[tfd,hj,at?,h0,hv]
  ·simp[tfd,hj]
theorem safe_val (n:Nat) (d:Dsk) (h:DkOk d):b0s (n+2) d=some (d.1,d):=by
 rw[t0b,q0s];have h1:((0+d.1.length)*16≤140737488355328):=by have:=h.len;omega
 by_cases h0:d.1.length=0
 ·have:d.1=[]:=List.eq_nil_of_length_eq_zero h0;simp only[tfd,if_pos h0,if_pos h1];rw[this];simp
 ·simp only[tfd,if_neg h0,if_pos h1];simp
theorem f1i (n:Nat) (d:Dsk) (h:d.2.1.length≤1000000000000):b0i (n+2) d=some (d.2.1,d):=by
 rw[p0p,k0c];have h1:((0+d.2.1.length)*24≤140737488355328):=by omega
 by_cases h0:d.2.1.length=0
 ·have:d.2.1=[]:=List.eq_nil_of_length_eq_zero h0;simp only[tfd,if_pos h0,if_pos h1];rw[this];simp
 ·simp only[tfd,if_neg h0,if_pos h1];simp
end Go.Proofs.YtmcgmijdnfcfgaaGreat

set_option maxRecDepth 100000
namespace Go.Proofs.YtmcgmijdnfcfgaaGreat
open Go.Flat
theorem rep512 (n:Nat):strings_Repeat (n+3) [0] 512=some (List.replicate 512 0):=by kernel_rfl
end Go.Proofs.YtmcgmijdnfcfgaaGreat
namespace Go.Proofs.YtmcgmijdnfcfgaaGreat
open Go.Flat
set_option linter.unusedVariables false
set_option linter.unusedSimpArgs false
theorem rep_loop (n:Nat) (r:Sec) (m:Nat) (hm:m≤16777216):∀(f k:Nat),1≤k→k≤m→m-k≤f →
  d0v n (f+1) (List.replicate k r++List.replicate (m-k) [],(k:Int),())=some (.inl (List.replicate m r,())):=by
 intro f;induction f with
 | zero =>
  intro k h1 h2 h3;obtain rfl:k=m:=by omega
  rw[g0i];simp[tfd]
 | succ f ih =>
  intro k h1 h2 h3;rw[g0i];have hlen:(List.replicate k r++List.replicate (m-k) ([]:Sec)).length=m:=by simp;omega
  rw[hlen];by_cases hk:k=m
  ·subst hk;simp[tfd]
  ·have c1:((k:Int)<(m:Int)):=by omega
   have c2:((0:Int)≤(k:Int)):=by omega
   have c3:(Int.toNat (k:Int)≤m):=by simp;omega
   have c4:(decide ((0:Int)≤(k:Int))&&decide ((k:Int)≤(m:Int)))=true:=by simp;omega
   have c5:(Int.toNat (k:Int)+(m-Int.toNat (k:Int))≤m):=by simp;omega
   rw[c4];simp only[b0p,decide_eq_true_eq,if_pos c1,if_pos c2,if_pos c3,if_pos c5,if_true];have e1:List.take (Int.toNat (k:Int)-0) (List.drop 0 (List.replicate k r++List.replicate (m-k) ([]:Sec)))=List.replicate k r:=by simp
   rw[e1];have e2:List.take (m-Int.toNat (k:Int)) (List.replicate k r)=List.replicate (min (m-k) k) r:=by simp
   rw[e2];have e3:(k:Int)+((List.replicate (min (m-k) k) r).length:Int)=((k+min (m-k) k:Nat):Int):=by simp
   rw[e3,w64 (by omega) (by omega)];have e4:Go.Flat.putRow (List.replicate k r++List.replicate (m-k) ([]:Sec)) (Int.toNat (k:Int)) (List.replicate (min (m-k) k) r)=List.replicate (k+min (m-k) k) r++List.replicate (m-(k+min (m-k) k)) []:=by
    unfold Go.Flat.putRow;rw[show Int.toNat (k:Int)=k by simp,List.take_left' (by simp),List.drop_append,List.drop_of_length_le (by simp),List.replicate_append_replicate];simp;omega
   rw[e4];exact ih (k+min (m-k) k) (by omega) (by omega) (by omega)
end Go.Proofs.YtmcgmijdnfcfgaaGreat

namespace Go.Plim
set_option linter.unusedVariables false
abbrev Wd:=Int×Int
abbrev Ev:=Int×(Int×(Int×Bool))
abbrev Cel:=Int×(Ev×(Ev×(Wd×(Int×(Int×Int)))))
instance decWd:DecidableEq Wd:=inferInstanceAs (DecidableEq (Int×Int))
instance decEv:DecidableEq Ev:=inferInstanceAs (DecidableEq (Int×(Int×(Int×Bool))))
instance decCel:DecidableEq Cel := @instDecidableEqProd _ _ _ (@instDecidableEqProd _ _ decEv (@instDecidableEqProd _ _ decEv (@instDecidableEqProd _ _ decWd inferInstance)))
def wv (a:Wd):Int:=a.1*18446744073709551616+a.2
structure WdOk (a:Wd):Prop where
 hi:0≤a.1∧a.1≤18446744073709551615
 lo:0≤a.2∧a.2≤18446744073709551615
def e0:Ev:=(0,(0,(0,false)))
structure EvOk (e:Ev):Prop where
 t0:0≤e.1
 t1:e.1<35184372088832
 v0:0≤e.2.1
 v1:e.2.1≤18446744073709551615
 c0:0≤e.2.2.1
 c1:e.2.2.1≤e.1
 st:e.2.2.2=true→e.2.1=0∧e.2.2.1=0
structure DlOk (d:Int×(Int×(Int×Int))) (s:Int):Prop where
 i:0≤d.1∧d.1≤18446744073709551615
 r:0≤d.2.1
 g:0≤d.2.2.1
 rg:d.2.1+d.2.2.1≤1
 s:0≤d.2.2.2∧d.2.2.2≤s
def z0:Cel:=(0,(e0,(e0,((0,0),(0,(0,0))))))
structure CellN (c:Cel):Prop where
 n1:1≤c.1
 f:EvOk c.2.1
 l:EvOk c.2.2.1
 one:c.1=1→c.2.1=c.2.2.1
 more:1<c.1→c.2.1.1<c.2.2.1.1
 n2:c.1-1≤c.2.2.1.1-c.2.1.1
 w:WdOk c.2.2.2.1
 inc:wv c.2.2.2.1≤18446744073709551615*(c.1-1)
 r:0≤c.2.2.2.2.1
 g:0≤c.2.2.2.2.2.1
 rg:c.2.2.2.2.1+c.2.2.2.2.2.1≤c.1-1
 s0:0≤c.2.2.2.2.2.2
 s1:c.2.2.2.2.2.2≤c.2.2.1.1-c.2.1.1
def z0w (c:Cel):Prop:=c=z0∨CellN c
theorem CellN.ne {c:Cel} (h:CellN c):c≠z0:=by
 intro e;have:=h.n1;rw[e] at this;simp[z0] at this
theorem CellN.ok {c:Cel} (h:CellN c):z0w c := .inr h
theorem z0w.n {c:Cel} (h:z0w c) (hz:c≠z0):CellN c:=h.resolve_left hz
theorem z0w.count {c:Cel} (h:z0w c):(c.1=0↔c=z0)∧0≤c.1:=by
 rcases h with rfl | h
 ·exact ⟨⟨fun _=>rfl,fun _=>rfl⟩,by simp[z0]⟩
 ·have:=h.n1;exact ⟨⟨fun e=>by omega,fun e=>absurd e h.ne⟩,by omega⟩
theorem CellN.ft {c:Cel} (h:CellN c):c.2.1.1≤c.2.2.1.1:=by have:=h.n1;have:=h.n2;omega
theorem CellN.small {c:Cel} (h:CellN c):c.1≤35184372088832:=by
 have:=h.n2;have:=h.f.t0;have:=h.l.t1;omega
structure Foll (l:List Ev):Prop where
 ok:∀e∈l,EvOk e
 inc:l.Pairwise fun a b=>a.1<b.1
theorem Foll.nil:Foll []:=⟨by simp,.nil⟩
theorem Foll.sub {l m:List Ev} (h:Foll l) (s:m.Sublist l):Foll m:=⟨fun e he=>h.ok e (s.subset he),h.inc.sublist s⟩
structure Has (l:List Ev) (c:Cel):Prop where
 n:CellN c
 cnt:c.1=l.length
 first:l.head? = some c.2.1
 last:l.getLast? = some c.2.2.1
end Go.Plim

namespace Go.Proofs.YtmcgmijdnfcfgaaGreat
open Go.Flat Go.Plim
set_option linter.unusedVariables false
set_option linter.unusedSimpArgs false
theorem shr_nat (x:Int) (k:Nat) (hk:k≤64):shrI .u64 x (k:Int)=x / 2^k:=by
 unfold shrI;rw[show min (k:Int).toNat IntKind.u64.bits=k from by show min (k:Int).toNat 64=k;omega];exact Int.fdiv_eq_ediv_of_nonneg _ (Int.le_of_lt (Int.pow_pos (by decide)))
theorem and_mask (x:Int) (k:Nat) (hk:k≤63) (h:0≤x) (h':x≤18446744073709551615):andI .u64 x ((2^k-1:Nat):Int)=x % ((2^k:Nat):Int):=by
 obtain ⟨a,rfl⟩:=Int.eq_ofNat_of_zero_le h;have hp:2^k≤2^63:=Nat.pow_le_pow_right (by decide) hk;have h63:(2:Nat)^63=9223372036854775808:=by decide
 unfold andI;have e:(BitVec.ofInt IntKind.u64.bits (a:Int) &&& BitVec.ofInt IntKind.u64.bits ((2^k-1:Nat):Int)).toNat=a % 2^k:=by
  show (BitVec.ofInt 64 (a:Int) &&& BitVec.ofInt 64 ((2^k-1:Nat):Int)).toNat=_;rw[BitVec.toNat_and,BitVec.ofInt_natCast,BitVec.ofInt_natCast,BitVec.toNat_ofNat,BitVec.toNat_ofNat,Nat.mod_eq_of_lt (a:=a) (by omega),Nat.mod_eq_of_lt (a:=2^k-1) (by omega),Nat.and_two_pow_sub_one_eq_mod]
 rw[e];have:a % 2^k<2^k:=Nat.mod_lt _ (Nat.pow_pos (by decide));rw[wu64 (by omega) (by omega)];simp
theorem mul64 (n:Nat) (x y:Int) (hx:0≤x∧x≤18446744073709551615) (hy:0≤y∧y≤18446744073709551615):j0u (n+1) x y=some (x*y / 18446744073709551616,x*y % 18446744073709551616):=by
 rw[r0k];have sh:∀z:Int,shrI .u64 z (32:Int)=z / 4294967296:=fun z=>shr_nat z 32 (by decide)
 have an:∀z:Int,0≤z→z≤18446744073709551615→andI .u64 z (4294967295:Int)=z % 4294967296:=fun z h h'=>and_mask z 32 (by decide) h h'
 rw[an x hx.1 hx.2,an y hy.1 hy.2];simp only[sh];have b1:0≤x / 4294967296∧x / 4294967296≤4294967295:=by omega
 have b2:0≤y / 4294967296∧y / 4294967296≤4294967295:=by omega
 have b3:0≤x % 4294967296∧x % 4294967296≤4294967295:=by omega
 have b4:0≤y % 4294967296∧y % 4294967296≤4294967295:=by omega
 have ex:x=x / 4294967296*4294967296+x % 4294967296:=by omega
 have ey:y=y / 4294967296*4294967296+y % 4294967296:=by omega
 generalize hx1:x / 4294967296=x1 at *
 generalize hx0:x % 4294967296=x0 at *
 generalize hy1:y / 4294967296=y1 at *
 generalize hy0:y % 4294967296=y0 at *
 have bound:∀ {u v:Int},0≤u∧u≤4294967295→0≤v∧v≤4294967295→0≤u*v∧u*v≤18446744065119617025:=fun {u v} hu hv =>
  ⟨Int.mul_nonneg hu.1 hv.1,Int.le_trans (Int.mul_le_mul hu.2 hv.2 hv.1 (by decide)) (by decide)⟩
 have p11:=bound b1 b2;have p10:=bound b1 b4;have p01:=bound b3 b2;have p00:=bound b3 b4;have exy:x*y=x1*y1*18446744073709551616+(x1*y0+x0*y1)*4294967296+x0*y0:=by
  rw[ex,ey];simp only[Int.add_mul,Int.mul_add];have q1:x1*4294967296*(y1*4294967296)=x1*y1*18446744073709551616:=by
   rw[Int.mul_assoc,Int.mul_left_comm 4294967296 y1,←Int.mul_assoc];rfl
  have q2:x0*(y1*4294967296)=x0*y1*4294967296:=by rw[Int.mul_assoc]
  have q3:x1*4294967296*y0=x1*y0*4294967296:=by rw[Int.mul_assoc,Int.mul_comm 4294967296 y0,←Int.mul_assoc]
  rw[q1,q2,q3];omega
 rw[exy];generalize x1*y1=a11 at *
 generalize x1*y0=a10 at *
 generalize x0*y1=a01 at *
 generalize x0*y0=a00 at *
 rw[wu64 (x:=a00) (by omega) (by omega),wu64 (x:=a11) (by omega) (by omega),wu64 (x:=a10) (by omega) (by omega),wu64 (x:=a01) (by omega) (by omega)];rw[wu64 (x:=a10+a00 / 4294967296) (by omega) (by omega),an _ (by omega) (by omega)];rw[wu64 (x:=a11+(a10+a00 / 4294967296) / 4294967296) (by omega) (by omega),wu64 (x:=(a10+a00 / 4294967296) % 4294967296+a01) (by omega) (by omega),wu64 (by omega) (by omega)];have wm:∀z:Int,IntKind.wrap .u64 z=z % 18446744073709551616:=fun z=>IntKind.wrap_u64 z
 rw[wm];congr 2;omega
end Go.Proofs.YtmcgmijdnfcfgaaGreat
namespace Go.Proofs.YtmcgmijdnfcfgaaGreat
open Go.Flat
set_option linter.unusedVariables false
set_option linter.unusedSimpArgs false
theorem j1y (n:Nat) (r:Sec) (m:Nat) (h1:1≤m) (h2:m≤16777216):h0x (n+3) [r] (m:Int)=some (List.replicate m r):=by
 rw[q0a];have c1:¬((m:Int)<0):=by omega
 have e1:(((List.length [r]:Nat)):Int)=1:=rfl;rw[e1,wu64 (x:=1) (by omega) (by omega),wu64 (x:=(m:Int)) (by omega) (by omega),n0k,mul64 n 1 (m:Int) (by omega) (by omega)];have e2:(1:Int)*(m:Int) / 18446744073709551616=0:=by omega
 have e3:(1:Int)*(m:Int) % 18446744073709551616=(m:Int):=by omega
 rw[e2,e3,obs,obs];have c2:¬((9223372036854775807:Int)<(m:Int)):=by omega
 have e4:IntKind.wrap .i64 (m:Int)=(m:Int):=w64 (by omega) (by omega);rw[e4];have c3:(decide ((0:Int)≤(m:Int))&&(decide ((m:Int)≤(m:Int))&&decide ((m:Int)*16≤(140737488355328:Int))))=true:=by simp;omega
 rw[c3];simp only[b0p,decide_eq_true_eq,if_neg c1,if_neg c2,if_true,Int.lt_irrefl,if_false,Int.toNat_natCast,List.length_replicate];have e5:List.take m [r]=[r]:=by
  cases m with
  | zero=>omega
  | succ m=>simp
 have e6:Go.Flat.putRow (List.replicate m ([]:Sec)) 0 [r]=List.replicate 1 r++List.replicate (m-1) []:=by simp[Go.Flat.putRow]
 rw[e5,e6];have:=rep_loop (n+2) r m h2 (a0c-1) 1 (Nat.le_refl _) h1 (by unfold a0c;omega);rw[show a0c-1+1=a0c by unfold a0c;omega] at this;have e7:(((List.length [r]:Nat)):Int)=((1:Nat):Int):=rfl;rw[e7,this,obs,b0j]
def zsec:Sec:=List.replicate 512 0
def newD (m:Nat):Dsk:=(List.replicate m zsec,[],0,false)
theorem n1p (n:Nat) (c:Int):r0t (n+4) c=some (if 1≤c∧c≤16777216 then (some (newD c.toNat),0) else (none,1)):=by
 rw[g1r];by_cases h1:c<1
 ·rw[if_neg (by omega)];simp only[tfd,if_pos h1]
 by_cases h2:16777216<c
 ·rw[if_neg (by omega)];simp only[tfd,if_neg h1,if_pos h2]
 rw[if_pos (by omega)];simp only[tfd,if_neg h1,if_neg h2];have e:c=((c.toNat:Nat):Int):=by omega
 rw[rep512,obs];have:=j1y n (List.replicate 512 0) c.toNat (by omega) (by omega);rw[←e] at this;rw[this,obs];rfl
theorem b1z (n:Nat) (d:Dsk) (h:d.2.2.1≤9223372036854775807) (h0:0≤d.2.2.1):i0t (n+1) d=some ((stepD d).2,decide ((stepD d).1=0)):=by
 rw[u0g];unfold stepD;simp only[b0p,decide_eq_true_eq];by_cases h1:d.2.2.2=true
 ·rw[if_pos h1,if_pos h1];rfl
 rw[if_neg h1,if_neg h1];by_cases h2:d.2.2.1=1
 ·rw[if_pos h2,if_pos h2];rfl
 rw[if_neg h2,if_neg h2];by_cases h3:1<d.2.2.1
 ·rw[if_pos h3,if_pos (by omega),w64 (by omega) (by omega)];rfl
 ·rw[if_neg h3,if_neg (by omega)];rfl
theorem y0f (d:Dsk) (h:¬(stepD d).1=0):(stepD d).1=14:=by
 unfold stepD at h ⊢;split
 ·rfl
 split
 ·rfl
 split
 ·rename_i h1 h2 h3;rw[if_neg h1,if_neg h2,if_pos h3] at h;exact absurd rfl h
 ·rename_i h1 h2 h3;rw[if_neg h1,if_neg h2,if_neg h3] at h;exact absurd rfl h
theorem y0r (n:Nat) (d:Dsk) (i:Int) (s:Sec) (h:d.2.2.1≤9223372036854775807) (h0:0≤d.2.2.1) (hp:d.2.1.length≤1000000000000):h0b (n+2) d i s=some ((n0e d i s).2,(n0e d i s).1):=by
 rw[s0l];unfold n0e;simp only[tfd];by_cases h1:i<0
 ·rw[if_pos h1,if_neg (by omega)]
 rw[if_neg h1];by_cases h2:(d.1.length:Int)≤i
 ·rw[if_pos h2,if_neg (by omega)]
 rw[if_neg h2];by_cases h3:s.length=512
 ·have e2:decide (((s.length:Nat):Int)=512)=true:=by simp[h3]
  rw[if_pos ⟨by omega,by omega,h3⟩,e2];simp only[b0p,Bool.not_true,Bool.false_eq_true,if_false];rw[b1z n d h h0,obs];by_cases h4:(stepD d).1=0
  ·have hl:(stepD d).2.2.1.length=d.2.1.length:=by rw[(l0h d).2]
   rw[if_pos h4,h4];simp only[decide_true,Bool.not_true,Bool.false_eq_true,if_false,decide_eq_true_eq];rw[if_pos (by omega),if_pos (by simp;omega)];simp
  ·rw[if_neg h4];simp only[decide_eq_false h4,Bool.not_false,if_true];rw[←y0f d h4]
 ·have e2:decide (((s.length:Nat):Int)=512)=false:=by simp;omega
  rw[if_neg (fun q=>h3 q.2.2),e2];rfl
theorem j1t (n:Nat) (s4:Dsk) (l:List Chg) (hl:l.length≤1000000000000):∀(rest pre:List Chg) (f:Nat) (d:Dsk) (i:Int),l=pre++rest→i=pre.length→(∀z∈rest,FitC d.1.length z) →
  f0j n (f+rest.length+1) (d,s4,l,(l.length:Int),i,())=some (.inl ((p0v d.1 rest,d.2),s4,())):=by
 intro rest;induction rest with
 | nil =>
  intro pre f d i h hi hf;rw[j0o];have h1:¬(i<(l.length:Int)):=by have:=congrArg List.length h;simp at this;omega
  simp only[tfd,if_neg h1];rfl
 | cons z rest ih =>
  intro pre f d i h hi hf;have hlen:=congrArg List.length h;simp at hlen;rw[show f+(z::rest).length+1=(f+rest.length+1)+1 by simp;omega,j0o];have h1:i<(l.length:Int):=by omega
  simp only[tfd,if_pos h1];rw[d0c h hi,obs,w64 (x:=i+1) (by omega) (by omega)];have hz:=hf z List.mem_cons_self;obtain ⟨v,hv⟩:∃v,d.1[z.1.toNat]? = some v:=⟨_,List.getElem?_eq_getElem (by have:=hz.1;have:=hz.2.1;omega)⟩;have hat:at? d.1 z.1=some v:=by simp[at?,hz.1,hv]
  rw[hat,obs,hv,obs];rw[ih (pre++[z]) f (d.1.set z.1.toNat z.2,d.2) (i+1) (by rw[h];simp) (by simp;omega) (fun y hy=>by simpa using hf y (List.mem_cons_of_mem _ hy))];rfl
theorem c1b (n:Nat) (d:Dsk) (l:List Chg) (hS:d.1.length≤16777216) (hl:l.length≤1000000000000) (hf:∀z∈l,FitC d.1.length z):f0x (n+1) d l=some (p0v d.1 l,[],d.2.2):=by
 rw[u0h];simp only[tfd];by_cases h0:(0:Int)<(l.length:Int)
 ·rw[if_pos h0,if_pos (by omega)];have hfu:(a0c-l.length-1)+l.length+1=a0c:=by unfold a0c;omega
  have:=j1t n ([],[],0,false) l hl l [] (a0c-l.length-1) ([]++d.1,d.2) 0 rfl rfl (by simpa using hf);rw[hfu] at this;rw[this,obs,b0j];simp
 ·have:l=[]:=List.eq_nil_of_length_eq_zero (by omega);subst this;rw[if_neg h0,if_neg h0];rfl
theorem m1l (n:Nat) (d:Dsk) (h:DkOk d) (ha:d.2.2.1≤9223372036854775807) (h0:0≤d.2.2.1):i0u (n+2) d=some ((b1v d).2,(b1v d).1):=by
 rw[u0i,b1z n d ha h0,obs];unfold b1v;by_cases h1:(stepD d).1=0
 ·rw[if_pos h1];have hs:=h.step;simp only[decide_eq_true h1,Bool.not_true,b0p,Bool.false_eq_true,if_false];rw[c1b n _ _ hs.len hs.pen hs.fit,obs];simp[keepD,o1e]
 ·rw[if_neg h1];simp only[decide_eq_false h1,Bool.not_false,b0p,if_true];rw[←y0f d h1]
theorem rup_loop (n:Nat) (keep:List Bool) (d s4:Dsk) (l:List Chg) (hl:l.length≤1000000):∀(rest pre:List Chg) (f:Nat) (out:List Chg) (i:Int),l=pre++rest→i=pre.length→out.length≤pre.length →
  e0e n (f+rest.length+1) (keep,d,s4,out,l,(l.length:Int),i,())=some (.inl (d,s4,out++e0y (upK keep) i rest,())):=by
 intro rest;induction rest with
 | nil =>
  intro pre f out i h hi ho;rw[l0m];have h1:¬(i<(l.length:Int)):=by have:=congrArg List.length h;simp at this;omega
  simp only[tfd,if_neg h1];simp[e0y]
 | cons z rest ih =>
  intro pre f out i h hi ho;have hlen:=congrArg List.length h;simp at hlen;rw[show f+(z::rest).length+1=(f+rest.length+1)+1 by simp;omega,l0m];have h1:i<(l.length:Int):=by omega
  simp only[tfd,if_pos h1];rw[d0c h hi,obs,w64 (x:=i+1) (by omega) (by omega)];have hn:=fun (o:List Chg) (ho:o.length≤pre.length+1)=>ih (pre++[z]) f o (i+1) (by rw[h];simp) (by simp;omega) (by simp;omega)
  by_cases hk:i<(keep.length:Int)
  ·obtain ⟨v,hv⟩:∃v,keep[i.toNat]? = some v:=⟨_,List.getElem?_eq_getElem (by omega)⟩;have hi0:0≤i:=by omega
   have hat:at? keep i=some v:=by simp[at?,hi0,hv]
   have hu:upK keep i=v:=by simp[upK,hk,hv]
   rw[if_pos hk,hat,obs];cases v with
   | true =>
    have e:e0y (upK keep) i (z::rest)=z::e0y (upK keep) (i+1) rest:=by rw[e0y,if_pos hu]
    simp only[b0p,if_true];rw[if_pos (by omega),hn (out++[z]) (by simp;omega),e];simp
   | false =>
    have e:e0y (upK keep) i (z::rest)=e0y (upK keep) (i+1) rest:=by rw[e0y,if_neg (by simp[hu])]
    simp only[b0p,Bool.false_eq_true,if_false];rw[hn out (by omega),e]
  ·have hu:upK keep i=false:=by simp[upK,hk]
   rw[if_neg hk,hn out (by omega)];have:e0y (upK keep) i (z::rest)=e0y (upK keep) (i+1) rest:=by rw[e0y,if_neg (by simp[hu])]
   rw[this]
theorem rup_val (n:Nat) (d:Dsk) (keep:List Bool) (h:DkOk d) (hp:d.2.1.length≤1000000):q0d (n+2) d keep=some ((upD d keep).2,(upD d keep).1):=by
 rw[x0n];have hfu:(a0c-d.2.1.length-1)+d.2.1.length+1=a0c:=by unfold a0c;omega
 have:=rup_loop (n+1) keep d ([],[],0,false) d.2.1 hp d.2.1 [] (a0c-d.2.1.length-1) [] 0 rfl rfl (Nat.le_refl _);rw[hfu] at this;rw[this,obs,b0j];have hm:∀z∈([]:List Chg)++e0y (upK keep) 0 d.2.1,FitC d.1.length z:=fun z hz=>h.fit z (r0o _ 0 (by simpa using hz))
 have hle:=t0u (k:=upK keep) d.2.1 0;show a0d (f0x (n+1) d ([]++e0y (upK keep) 0 d.2.1)) _=_;rw[c1b n d _ h.len (by simp;omega) hm,obs];rfl
theorem z0m (i:Int) (s:Sec):∀r:List Chg,r.foldr (fun z s=>if z.1=i then z.2 else s) s=(match r.find? (fun z=>decide (z.1=i)) with | some z=>z.2 | none=>s)
 | []=>rfl
 | z::r=>by
  rw[List.foldr_cons,List.find?_cons];by_cases h:z.1=i
  ·simp[h]
  ·rw[if_neg h,z0m i s r,decide_eq_false h]
theorem j1u (n:Nat) (a:Int) (l:List Chg) (hl:l.length≤1000000):∀(rest pre:List Chg) (f:Nat) (s:Sec) (i:Int),l=pre++rest→i=pre.length →
  d0z n (f+rest.length+1) (a,s,l,(l.length:Int),i,())=some (.inl (rest.foldl (fun s z=>if z.1=a then z.2 else s) s,())):=by
 intro rest;induction rest with
 | nil =>
  intro pre f s i h hi;rw[j0p];have h1:¬(i<(l.length:Int)):=by have:=congrArg List.length h;simp at this;omega
  simp only[tfd,if_neg h1];rfl
 | cons z rest ih =>
  intro pre f s i h hi;have hlen:=congrArg List.length h;simp at hlen;rw[show f+(z::rest).length+1=(f+rest.length+1)+1 by simp;omega,j0p];have h1:i<(l.length:Int):=by omega
  simp only[tfd,if_pos h1];rw[d0c h hi,obs,w64 (x:=i+1) (by omega) (by omega),List.foldl_cons];by_cases hz:z.1=a
  ·rw[if_pos hz,if_pos hz,ih (pre++[z]) f z.2 (i+1) (by rw[h];simp) (by simp;omega)]
  ·rw[if_neg hz,if_neg hz,ih (pre++[z]) f s (i+1) (by rw[h];simp) (by simp;omega)]
def b0v (d:Dsk) (i:Int):Sec×Int :=
 if d.2.2.2=true then ([],14) else if 0≤i∧i<d.1.length then
  ((match d.2.1.reverse.find? (fun z=>decide (z.1=i)) with | some z=>z.2 | none=>d.1[i.toNat]?.getD []),0) else ([],1)
theorem r0a (n:Nat) (d:Dsk) (i:Int):d0l (n+1) d i=some ((b0v d i).1,(b0v d i).2,d):=by
 rw[t0c];unfold t0x b0v;cases d.2.2.2 with
 | true=>rfl
 | false =>
  by_cases h:0≤i∧i<(d.1.length:Int)
  ·rw[if_pos h,decide_eq_true h.1,decide_eq_true h.2];simp only[Bool.and_self,cond_true,cond_false,Bool.false_eq_true,if_false];cases d.2.1.reverse.find? (fun z=>decide (z.1=i))<;>rfl
  ·rw[if_neg h];have:(decide (0≤i)&&decide (i<(d.1.length:Int)))=false:=by simp;omega
   rw[this];rfl
theorem n0w (n:Nat) (d:Dsk) (i:Int) (hp:d.2.1.length≤1000000):e0w (n+1) d i=some (b0v d i):=by
 rw[u0j];unfold b0v;simp only[b0p,decide_eq_true_eq];by_cases h:d.2.2.2=true
 ·rw[if_pos h,if_pos h]
 rw[if_neg h,if_neg h];by_cases h1:i<0
 ·rw[if_pos h1,if_neg (by omega)]
 rw[if_neg h1];by_cases h2:(d.1.length:Int)≤i
 ·rw[if_pos h2,if_neg (by omega)]
 rw[if_neg h2,if_pos (by omega)];obtain ⟨v,hv⟩:∃v,d.1[i.toNat]? = some v:=⟨_,List.getElem?_eq_getElem (by omega)⟩;have hi0:0≤i:=by omega
 have hat:at? d.1 i=some v:=by simp[at?,hi0,hv]
 have hfu:(a0c-d.2.1.length-1)+d.2.1.length+1=a0c:=by unfold a0c;omega
 have:=j1u n i d.2.1 hp d.2.1 [] (a0c-d.2.1.length-1) v 0 rfl rfl;rw[hfu] at this;rw[hat,obs,this,obs,b0j,hv];rw[←List.foldr_reverse,z0m i v d.2.1.reverse];rfl
theorem m1i (n:Nat) (l:List Sec) (hl:l.length≤1000000000):∀(rest pre:List Sec) (f:Nat) (i:Int),l=pre++rest→i=pre.length →
  m0k n (f+rest.length+1) (l,l,(l.length:Int),i,())=some (.inl ()):=by
 intro rest;induction rest with
 | nil =>
  intro pre f i h hi;rw[p0t];have h1:¬(i<(l.length:Int)):=by have:=congrArg List.length h;simp at this;omega
  simp only[tfd,if_neg h1]
 | cons z rest ih =>
  intro pre f i h hi;have hlen:=congrArg List.length h;simp at hlen;rw[show f+(z::rest).length+1=(f+rest.length+1)+1 by simp;omega,p0t];have h1:i<(l.length:Int):=by omega
  simp only[tfd,if_pos h1];rw[d0c h hi,obs,obs,w64 (x:=i+1) (by omega) (by omega),ih (pre++[z]) f (i+1) (by rw[h];simp) (by simp;omega)];simp[b0p]
theorem h1o (n:Nat) (l:List Sec) (hl:l.length≤1000000000):c0l (n+1) l l=some true:=by
 rw[f1f];have hfu:(a0c-l.length-1)+l.length+1=a0c:=by unfold a0c;omega
 have:=m1i n l hl l [] (a0c-l.length-1) 0 rfl rfl;rw[hfu] at this;rw[this];simp[b0p]
theorem j1s (n:Nat) (l:List Chg) (hl:l.length≤1000000000):∀(rest pre:List Chg) (f:Nat) (i:Int),l=pre++rest→i=pre.length →
  e0i n (f+rest.length+1) (l,l,(l.length:Int),i,())=some (.inl ()):=by
 intro rest;induction rest with
 | nil =>
  intro pre f i h hi;rw[h0s];have h1:¬(i<(l.length:Int)):=by have:=congrArg List.length h;simp at this;omega
  simp only[tfd,if_neg h1]
 | cons z rest ih =>
  intro pre f i h hi;have hlen:=congrArg List.length h;simp at hlen;rw[show f+(z::rest).length+1=(f+rest.length+1)+1 by simp;omega,h0s];have h1:i<(l.length:Int):=by omega
  simp only[tfd,if_pos h1];rw[d0c h hi,obs,obs,w64 (x:=i+1) (by omega) (by omega),ih (pre++[z]) f (i+1) (by rw[h];simp) (by simp;omega)];simp[b0p]
theorem m1k (n:Nat) (l:List Chg) (hl:l.length≤1000000000):b0o (n+1) l l=some true:=by
 rw[r0d];have hfu:(a0c-l.length-1)+l.length+1=a0c:=by unfold a0c;omega
 have:=j1s n l hl l [] (a0c-l.length-1) 0 rfl rfl;rw[hfu] at this;rw[this];simp[b0p]
theorem m1o (n:Nat) (s2:Dsk) (z:Sec) (x:List Chg×(Int×Bool)) (m:Nat) (hm:m≤16777216):∀(r k f:Nat),k+r=m →
  l0l n (f+r+1) (s2,z,(List.replicate k z++List.replicate r [],x),(m:Int),(k:Int),())=some (.inl (s2,(List.replicate m z,x),())):=by
 intro r;induction r with
 | zero =>
  intro k f h;rw[r0c];have h1:¬((k:Int)<(m:Int)):=by omega
  simp only[tfd,if_neg h1];obtain rfl:k=m:=by omega
  simp
 | succ r ih =>
  intro k f h;rw[show f+(r+1)+1=(f+r+1)+1 by omega,r0c];have h1:((k:Int)<(m:Int)):=by omega
  simp only[tfd,if_pos h1];have hl:(List.replicate k z++List.replicate (r+1) ([]:Sec))=List.replicate k z++[]::List.replicate r []:=by rw[List.replicate_succ]
  rw[d0c hl (by simp),obs,a1w hl (by simp),obs,w64 (x:=(k:Int)+1) (by omega) (by omega)];have e:(List.replicate k z++List.replicate (r+1) ([]:Sec)).set (Int.toNat (k:Int)) z=List.replicate (k+1) z++List.replicate r []:=by
   have e1:(List.replicate k z++[]::List.replicate r ([]:Sec)).set k z=List.replicate k z++z::List.replicate r []:=by
    have:=List.set_append_right (s:=List.replicate k z) (t:=[]::List.replicate r ([]:Sec)) k z (by simp);rw[this];simp
   rw[hl,Int.toNat_natCast,e1,List.replicate_succ'];simp
  rw[e,show (k:Int)+1=((k+1:Nat):Int) by simp,ih (k+1) f (by omega)]
theorem rnew_val (n:Nat) (c:Int):a1j (n+1) c=some (if 1≤c∧c≤16777216 then (newD c.toNat,true) else (([],[],0,false),false)):=by
 rw[k1a];simp only[tfd];by_cases h1:c<1
 ·rw[if_pos h1,if_neg (by omega)]
 rw[if_neg h1];by_cases h2:16777216<c
 ·rw[if_pos h2,if_neg (by omega)]
 rw[if_neg h2,if_pos (by omega)];have hc:(decide ((0:Int)≤c)&&(decide (c≤c)&&decide (c*16≤(140737488355328:Int))))=true:=by simp;omega
 rw[hc];simp only[b0p,if_true,List.length_replicate];have hz:(List.map (fun y0=>UInt8.ofNat (Int.toNat y0)) (List.replicate 512 (0:Int)))=zsec:=List.map_replicate;have hfu:(a0c-c.toNat-1)+c.toNat+1=a0c:=by unfold a0c;omega
 have:=m1o n ([],[],0,false) zsec ([],0,false) c.toNat (by omega) c.toNat 0 (a0c-c.toNat-1) (by omega);rw[hfu] at this;rw[hz];simp only[List.replicate_zero,List.nil_append] at this;show a0d (l0l n a0c (([],[],0,false),zsec,(List.replicate c.toNat [],[],0,false),(c.toNat:Int),((0:Nat):Int),())) _=_;rw[this,obs,b0j];rfl
end Go.Proofs.YtmcgmijdnfcfgaaGreat
namespace Go.Proofs.YtmcgmijdnfcfgaaGreat
open Go.Flat Go.Plim
set_option linter.unusedVariables false
set_option linter.unusedSimpArgs false
def I64 (x:Int):Prop := -9223372036854775808≤x∧x≤9223372036854775807
structure EvW (e:Ev):Prop where
 t:I64 e.1
 v:0≤e.2.1∧e.2.1≤18446744073709551615
 c:I64 e.2.2.1
structure CelW (c:Cel):Prop where
 n:I64 c.1
 f:EvW c.2.1
 l:EvW c.2.2.1
 w:WdOk c.2.2.2.1
 r:I64 c.2.2.2.2.1
 g:I64 c.2.2.2.2.2.1
 s:I64 c.2.2.2.2.2.2
theorem EvW.of {e:Ev} (h:EvOk e):EvW e:=by
 obtain ⟨a,b,c,d,f,g,_⟩:=h;exact ⟨by unfold I64;omega,⟨c,d⟩,by unfold I64;omega⟩
theorem CelW.ofN {c:Cel} (h:CellN c):CelW c:=by
 have:=h.small;have:=h.n1;have:=h.f.t0;have:=h.f.t1;have:=h.l.t0;have:=h.l.t1;have:=h.r;have:=h.g;have:=h.rg;have:=h.s0;have:=h.s1;exact ⟨by unfold I64;omega,.of h.f,.of h.l,h.w,by unfold I64;omega,by unfold I64;omega,by unfold I64;omega⟩
theorem celW_z0:CelW z0:=⟨by simp[I64,z0],⟨by simp[I64,z0,e0],by simp[z0,e0],by simp[I64,z0,e0]⟩,⟨by simp[I64,z0,e0],by simp[z0,e0],by simp[I64,z0,e0]⟩,⟨by simp[z0],by simp[z0]⟩,by simp[I64,z0],by simp[I64,z0],by simp[I64,z0]⟩
theorem CelW.of {c:Cel} (h:z0w c):CelW c:=by
 rcases h with rfl | h
 ·exact celW_z0
 ·exact .ofN h
end Go.Proofs.YtmcgmijdnfcfgaaGreat
namespace Go.Proofs.YtmcgmijdnfcfgaaGreat
open Go.Flat
theorem wst (n:Nat) (b s:List UInt8) (hl:b.length+s.length≤100000000000000):b0h (n+1) b s=some ((s.length:Int),false,b++s):=by
 rw[h0o,e0l,tfd,if_pos (by omega)]
end Go.Proofs.YtmcgmijdnfcfgaaGreat
namespace Go.Proofs.YtmcgmijdnfcfgaaGreat
open Go.Flat Go.Plim
set_option linter.unusedVariables false
set_option linter.unusedSimpArgs false
theorem rpb_loop (n m:Nat) (hm:m≤100000):∀(f k:Nat),1≤k→k≤m→m-k≤f →
  c0k (n+1) (f+1) ((m:Int),(m:Int),List.replicate k (0:UInt8),())=some (.inl (List.replicate m 0,())):=by
 intro f;induction f with
 | zero =>
  intro k h1 h2 h3;obtain rfl:k=m:=by omega
  rw[h0m,c0x,obs];dsimp only;rw[List.length_replicate,tfd,if_neg (by omega)]
 | succ f ih =>
  intro k h1 h2 h3;rw[h0m,c0x,obs];dsimp only;rw[List.length_replicate,tfd];by_cases hk:k=m
  ·subst hk;rw[if_neg (by omega)]
  ·rw[if_pos (by omega),c0x,obs];dsimp only;rw[c0x,obs];dsimp only;rw[f0c,obs];dsimp only;rw[List.length_replicate,w64 (by omega) (by omega)];have e:(if (m:Int)<(if (k:Int)<(m:Int)-(k:Int) then (k:Int) else (m:Int)-(k:Int)) then (m:Int) else (if (k:Int)<(m:Int)-(k:Int) then (k:Int) else (m:Int)-(k:Int)))=((min k (m-k):Nat):Int):=by
    split<;>split<;>omega
   rw[e,Int.toNat_natCast];have c1:(decide ((0:Int)≤((min k (m-k):Nat):Int))&&decide (((min k (m-k):Nat):Int)≤((k:Nat):Int)))=true:=by
    rw[Bool.and_eq_true,decide_eq_true_eq,decide_eq_true_eq];omega
   have e2:List.drop 0 (List.take (min k (m-k)) (List.replicate k (0:UInt8)))=List.replicate (min k (m-k)) 0:=by
    rw[List.drop_zero,List.take_replicate];congr 1;omega
   rw[c1,tft,e2,wst n _ _ (by simp;omega),obs];dsimp only;rw[List.replicate_append_replicate];exact ih (k+min k (m-k)) (by omega) (by omega) (by omega)
theorem rep_val (n c:Nat) (hc:c≤8192):strings_Repeat (n+4) [0] (c:Int)=some (List.replicate c 0):=by
 rw[k0v,tfd];by_cases h0:(c:Int)=0
 ·obtain rfl:c=0:=by omega
  rw[if_pos h0];rfl
 rw[if_neg h0,tfd];by_cases h1:(c:Int)=1
 ·obtain rfl:c=1:=by omega
  rw[if_pos h1];rfl
 rw[if_neg h1,tfd,if_neg (by omega),wu64 (x:=(c:Int)) (by omega) (by omega),n0k,mul64 (n+1) 1 (c:Int) (by omega) (by omega)];have e2:(1:Int)*(c:Int) / 18446744073709551616=0:=by omega
 have e3:(1:Int)*(c:Int) % 18446744073709551616=(c:Int):=by omega
 rw[e2,e3,obs,obs];dsimp only;rw[tfd,if_neg (by omega),tfd,if_neg (by omega),w64 (x:=(c:Int)) (by omega) (by omega)];have hg:c0o (n+3) [] (c:Int)=some []:=by
  rw[m0d,g1c];rw[show (decide (([]:List UInt8).length=0)&&(decide ((0:Int)≤(c:Int))&&decide ((c:Int)≤70368744177664)))=true by
   rw[Bool.and_eq_true,Bool.and_eq_true,decide_eq_true_eq,decide_eq_true_eq,decide_eq_true_eq]
   exact ⟨rfl,by omega,by omega⟩,tft]
 rw[tfd,if_neg (by omega),hg,obs,wst (n+2) [] _ (by simp),obs];dsimp only;have:=rpb_loop (n+2) c (by omega) (a0c-1) 1 (Nat.le_refl _) (by omega) (by unfold a0c;omega);rw[show a0c-1+1=a0c by unfold a0c;omega] at this
 change a0d (c0k (n+3) a0c ((c:Int),(c:Int),List.replicate 1 (0:UInt8),())) _=_
 rw[this,obs,b0j];dsimp only;rw[f0c,obs]
end Go.Proofs.YtmcgmijdnfcfgaaGreat
namespace Go.Proofs.YtmcgmijdnfcfgaaGreat
open Go.Flat
theorem pow_le (k:Nat) (hk:k≤7):(256:Int)^k≤72057594037927936:=by
 match k,hk with
 | 0,_ | 1,_ | 2,_ | 3,_ | 4,_ | 5,_ | 6,_ | 7,_=>decide
theorem two_pow8 (k:Nat):(2:Int)^(8*k)=256^k:=by rw[Int.pow_mul];rfl
theorem l1r (n:Nat) (x:Int):∀(k f:Nat) (w:List Int),k≤8→k<f→w.length+k≤1000000 →
  d0g n f (w,x,8*((k:Int)-1),())=some (.inl (w++beI k x,())):=by
 intro k;induction k with
 | zero =>
  intro f w _ hf _;obtain ⟨f,rfl⟩:∃g,f=g+1:=⟨f-1,by omega⟩;rw[f0r];simp[tfd,beI]
 | succ k ih =>
  intro f w hk hf hl;obtain ⟨f,rfl⟩:∃g,f=g+1:=⟨f-1,by omega⟩;rw[f0r];have h1:(0:Int)≤8*(((k+1:Nat):Int)-1):=by omega
  have h2:¬(8*(((k+1:Nat):Int)-1)<(0:Int)):=by omega
  have h3:(w.length+1)*1≤140737488355328:=by omega
  simp only[tfd,if_pos h1,if_neg h2,if_pos h3];have e1:IntKind.wrap .i64 (8*(((k+1:Nat):Int)-1)-8)=8*((k:Int)-1):=by rw[w64 (by omega) (by omega)];omega
  have e2:IntKind.wrap .u8 (shrI .u64 x (8*(((k+1:Nat):Int)-1)))=x / 256^k % 256:=by
   rw[e1k];congr 1;have:min (8*(((k+1:Nat):Int)-1)).toNat IntKind.u64.bits=8*k:=by
    have:(8*(((k+1:Nat):Int)-1)).toNat=8*k:=by omega
    rw[this];show min (8*k) 64=8*k;omega
   simp only[shrI,this,two_pow8];exact Int.fdiv_eq_ediv_of_nonneg _ (Int.le_of_lt (Int.pow_pos (by decide)))
  rw[e1,e2,ih f _ (by omega) (by omega) (by simp;omega)];simp[beI]
theorem n0s (n:Nat) (w:List Int) (k:Nat) (width x:Int) (hw:width=k) (hk:1≤k) (hk':k≤8) (hl:w.length+k≤1000000) :
  d0h (n+1) w width x=some (w++beI k x):=by
 subst hw;rw[o0v];have h1:¬((k:Int)<1):=by omega
 have h2:¬((8:Int)<k):=by omega
 have e:IntKind.wrap .i64 (8*IntKind.wrap .i64 ((k:Int)-1))=8*((k:Int)-1):=by
  rw[w64 (x:=(k:Int)-1) (by omega) (by omega),w64 (by omega) (by omega)]
 simp only[tfd,if_neg h1,if_neg h2,e];rw[l1r n x k a0c w hk' (by unfold a0c;omega) hl];rfl
theorem set_rep (m:Nat) (v:Int) (t:List Int):(List.replicate (m+1) (0:Int)++t).set m v=List.replicate m 0++v::t:=by
 rw[List.replicate_succ',List.append_assoc,List.set_append];simp
theorem r03_l5 (n:Nat) (x:Int) (hx:0≤x) (hx':x≤18446744073709551615) (k:Nat) (hk:k≤8):∀(m i f:Nat),m+i=k→m<f →
  k0n n f ((k:Int),x / 256^i,List.replicate m 0++beI i x,(k:Int),(i:Int),())=some (.inl (beI k x,())):=by
 intro m;induction m with
 | zero =>
  intro i f hi hf;obtain ⟨f,rfl⟩:∃g,f=g+1:=⟨f-1,by omega⟩;rw[o0g];have h1:¬((i:Int)<(k:Int)):=by omega
  have:i=k:=by omega
  subst this;simp
 | succ m ih =>
  intro i f hi hf;obtain ⟨f,rfl⟩:∃g,f=g+1:=⟨f-1,by omega⟩;rw[o0g];have h1:(i:Int)<(k:Int):=by omega
  have e1:IntKind.wrap .i64 (IntKind.wrap .i64 ((k:Int)-1)-(i:Int))=(m:Int):=by
   rw[w64 (x:=(k:Int)-1) (by omega) (by omega),w64 (by omega) (by omega)];omega
  have hp:(0:Int)<256^i:=Int.pow_pos (by decide);have hq:0≤x / 256^i:=Int.ediv_nonneg hx (Int.le_of_lt hp);have hq':x / 256^i≤x:=Int.ediv_le_self _ hx;have e2:IntKind.wrap .u64 (Int.tdiv (x / 256^i) 256)=x / 256^(i+1):=by
   rw[e1o hq,wu64 (by omega) (by omega),Int.pow_succ,Int.ediv_ediv_of_nonneg (Int.le_of_lt hp)]
  have e3:IntKind.wrap .u8 (Int.tmod (x / 256^i) 256)=x / 256^i % 256:=by
   rw[m0c hq,wu8 (by omega) (by omega)]
  have e4:at? (List.replicate (m+1) (0:Int)++beI i x) (m:Int)=some 0:=by
   simp[at?,List.getElem?_append]
  have e5:(List.replicate (m+1) (0:Int)++beI i x)[(m:Int).toNat]? = some 0:=by
   simp[List.getElem?_append]
  have e6:IntKind.wrap .i64 ((i:Int)+1)=((i+1:Nat):Int):=by rw[w64 (by omega) (by omega)];omega
  simp only[tfd,if_pos h1,e1,e2,e3,e4,e5,e6,obs];have e7:(List.replicate (m+1) (0:Int)++beI i x).set (m:Int).toNat (x / 256^i % 256)=List.replicate m 0++beI (i+1) x:=by
   rw[show (m:Int).toNat=m by omega,set_rep];rfl
  rw[e7];exact ih (i+1) f (by omega) (by omega)
theorem v0w (n:Nat) (k:Nat) (width x:Int) (hw:width=k) (hk:1≤k) (hk':k≤8) (hx:0≤x) (hx':x≤18446744073709551615):o0h (n+1) width x=some (toB (beI k x)):=by
 subst hw;rw[c1m];have h1:¬((k:Int)<1):=by omega
 have h2:¬((8:Int)<k):=by omega
 have h3:(0:Int)≤k:=by omega
 have h4:(k:Int)*1≤140737488355328:=by omega
 have e1:(k:Int).toNat=k:=by omega
 have:=r03_l5 n x hx hx' k hk' k 0 a0c (by omega) (by unfold a0c;omega);simp only[Int.pow_zero,Int.ediv_one,beI,List.append_nil,Int.natCast_zero] at this;simp only[tfd,if_neg h1,if_neg h2,a1b,if_pos h3,if_pos (Int.le_refl (k:Int)),if_pos h4,e1,List.length_replicate];rw[show ((0:Int))=((0:Nat):Int) from rfl] at this ⊢;rw[this];rfl
theorem or_shl (v b:Int) (hv:0≤v) (hv':v<72057594037927936) (hb:0≤b) (hb':b≤255):orI .u64 (shlI .u64 v 8) (IntKind.wrap .u64 b)=v*256+b:=by
 obtain ⟨a,rfl⟩:=Int.eq_ofNat_of_zero_le hv;obtain ⟨c,rfl⟩:=Int.eq_ofNat_of_zero_le hb;have e1:shlI .u64 (a:Int) 8=((a*256:Nat):Int):=by
  show IntKind.wrap .u64 ((a:Int)*2^(min 8 64))=_;have:(2:Int)^(min 8 64)=256:=by decide
  rw[this,wu64 (by omega) (by omega)];omega
 rw[e1,wu64 (by omega) (by omega)];unfold orI;have e2:(BitVec.ofInt IntKind.u64.bits ((a*256:Nat):Int) ||| BitVec.ofInt IntKind.u64.bits (c:Int)).toNat=a*256+c:=by
  show (BitVec.ofInt 64 ((a*256:Nat):Int) ||| BitVec.ofInt 64 (c:Int)).toNat=_;rw[BitVec.toNat_or,BitVec.ofInt_natCast,BitVec.ofInt_natCast,BitVec.toNat_ofNat,BitVec.toNat_ofNat,Nat.mod_eq_of_lt (by omega),Nat.mod_eq_of_lt (by omega)];have:=Nat.two_pow_add_eq_or_of_lt (i:=8) (b:=c) (by omega) a;rw[Nat.mul_comm a 256];exact this.symm
 rw[e2,wu64 (by omega) (by omega)];omega
theorem q0r (l:List Int) (i:Nat) (h:i<l.length):valI (l.take (i+1))=valI (l.take i)*256+l[i]:=by
 rw[List.take_succ_eq_append_getElem h,valI,List.foldl_append];rfl
theorem m1r (n:Nat) (r:List UInt8×Bool) (l:List Int) (hl:l.length≤8) (hr:∀x∈l,0≤x∧x≤255):∀(m i f:Nat),m+i=l.length→m<f →
  b0w n f (r,valI (l.take i),l,(l.length:Int),(i:Int),())=some (.inl (r,valI l,())):=by
 intro m;induction m with
 | zero =>
  intro i f hi hf;obtain ⟨f,rfl⟩:∃g,f=g+1:=⟨f-1,by omega⟩;rw[f0s];have h1:¬((i:Int)<(l.length:Int)):=by omega
  simp only[tfd,if_neg h1];rw[List.take_of_length_le (by omega)]
 | succ m ih =>
  intro i f hi hf;obtain ⟨f,rfl⟩:∃g,f=g+1:=⟨f-1,by omega⟩;rw[f0s];have hlt:i<l.length:=by omega
  have h1:(i:Int)<(l.length:Int):=by omega
  have e1:at? l (i:Int)=some l[i]:=by simp[at?,hlt]
  have hb:=hr l[i] (List.getElem_mem hlt);have hv:=q0p (l:=l.take i) fun x hx=>hr x (List.mem_of_mem_take hx)
  rw[List.length_take_of_le (by omega)] at hv;have hp:=pow_le i (by omega);have e2:IntKind.wrap .i64 ((i:Int)+1)=((i+1:Nat):Int):=by rw[w64 (by omega) (by omega)];omega
  simp only[tfd,if_pos h1,e1,obs,e2];rw[or_shl _ _ hv.1 (by omega) hb.1 hb.2,←q0r l i hlt];exact ih (i+1) f (by omega) (by omega)
theorem a1k (n:Nat) (r q:List UInt8×Bool) (s:List UInt8) (hl:s.length≤8):∀(m i f:Nat),m+i=s.length→m<f →
  c0h n f (r,q,s,valI ((c0t s).take i),(i:Int),())=some (.inl (r,q,valI (c0t s),())):=by
 intro m;induction m with
 | zero =>
  intro i f hi hf;obtain ⟨f,rfl⟩:∃g,f=g+1:=⟨f-1,by omega⟩;rw[g0j];have h1:¬((i:Int)<(s.length:Int)):=by omega
  simp only[tfd,if_neg h1];rw[List.take_of_length_le (by rw[g0f];omega)]
 | succ m ih =>
  intro i f hi hf;obtain ⟨f,rfl⟩:∃g,f=g+1:=⟨f-1,by omega⟩;rw[g0j];have hlt:i<s.length:=by omega
  have h1:(i:Int)<(s.length:Int):=by omega
  have e1:at? s (i:Int)=some s[i]:=by simp[at?,hlt]
  have hlt':i<(c0t s).length:=by rw[g0f];exact hlt
  have hb:(c0t s)[i]=(s[i].toNat:Int):=by simp[c0t]
  have hb':=h0w s _ (List.getElem_mem hlt');rw[hb] at hb';have hv:=q0p (l:=(c0t s).take i) fun x hx=>h0w s x (List.mem_of_mem_take hx)
  rw[List.length_take_of_le (by omega)] at hv;have hp:=pow_le i (by omega);have e2:IntKind.wrap .i64 ((i:Int)+1)=((i+1:Nat):Int):=by rw[w64 (by omega) (by omega)];omega
  simp only[tfd,if_pos h1,e1,obs,e2];rw[wu64 (x:=256*_) (by omega) (by omega),wu64 (x:=((s[i].toNat:Nat):Int)) (by omega) (by omega),wu64 (by omega) (by omega)];have:=q0r (c0t s) i hlt';rw[hb] at this;rw[show 256*valI ((c0t s).take i)+(s[i].toNat:Int)=valI ((c0t s).take (i+1)) by rw[this];omega];exact ih (i+1) f (by omega) (by omega)
def rd (st:List UInt8×Bool) (k:Nat):Int×(List UInt8×Bool):=if st.2=true∨st.1.length<k then (0,([],true)) else (valI (c0t (st.1.take k)),(st.1.drop k,false))
theorem o0a (n:Nat) (st:List UInt8×Bool) (k:Nat) (width:Int) (hw:width=k) (hk:1≤k) (hk':k≤8):d0i (n+3) st width=some (rd st k):=by
 subst hw;rw[o0w,j0y];simp only[p0q];have h1:¬((k:Int)<1):=by omega
 have h2:¬((8:Int)<k):=by omega
 have h3:¬((k:Int)<0):=by omega
 have e0:(k:Int).toNat=k:=by omega
 have fin:∀(s:List UInt8) (q:List UInt8×Bool),s.length≤8 →
   (a0d (b0w (n+2) a0c (q,(0,(s.map fun y=>((y.toNat:Nat):Int)),(((s.map fun y=>((y.toNat:Nat):Int)).length:Nat):Int),0,()))) fun r5=>d0b (fun y6=>some (y6.2.1,y6.1)) (fun z7=>some z7) r5)=some (valI (c0t s),q):=by
  intro s q hs;have:=m1r (n+2) q (c0t s) (by rw[g0f];exact hs) (h0w s) s.length 0 a0c (by rw[g0f];omega) (by unfold a0c;omega);simp only[List.take_zero] at this;have hv0:valI []=0:=rfl;rw[hv0] at this;show a0d (b0w (n+2) a0c (q,0,c0t s,((c0t s).length:Int),((0:Nat):Int),())) _=_;rw[this];rfl
 simp only[tfd,if_neg h1,if_neg h2,if_neg h3];obtain ⟨s,b⟩:=st;cases b with
 | true =>
  simp only[tft,obs];have:=fin [] ([],true) (by simp);simp only[List.map_nil] at this;rw[show rd (s,true) k=(0,([],true)) by simp[rd]];exact this
 | false =>
  simp only[tff,obs];by_cases hlt:s.length<k
  ·have h4:(s.length:Int)<k:=by omega
   rw[if_pos h4];simp only[obs];have:=fin [] ([],true) (by simp);simp only[List.map_nil] at this;rw[show rd (s,false) k=(0,([],true)) by simp[rd,hlt]];exact this
  ·have h4:¬((s.length:Int)<k):=by omega
   have h5:(0:Int)≤k:=by omega
   have h6:(k:Int)≤(s.length:Int):=by omega
   have h7:k≤s.length:=by omega
   simp only[if_neg h4,a1b,tfd,if_pos h5,if_pos h6,e0,if_pos h7,obs];rw[show rd (s,false) k=(valI (c0t (s.take k)),(s.drop k,false)) by simp[rd,hlt]];rw[List.drop_zero,List.take_length];exact fin (s.take k) (s.drop k,false) (by simp;omega)
theorem h0y (n:Nat) (st:List UInt8×Bool) (k:Nat) (width:Int) (hw:width=k) (hk:1≤k) (hk':k≤8):e0a (n+2) st width=some ((rd st k).2,(rd st k).1):=by
 subst hw;rw[q0e,s0m];have h1:¬((k:Int)<1):=by omega
 have h2:¬((8:Int)<k):=by omega
 have h3:¬((k:Int)<0):=by omega
 have e0:(k:Int).toNat=k:=by omega
 have fin:∀(s:List UInt8) (q:List UInt8×Bool),s.length≤8 →
   (a0d (c0h (n+1) a0c (q,([],false),s,0,0,())) fun r1=>d0b (fun y2=>some (y2.1,y2.2.2.1)) (fun z3=>some z3) r1)=some (q,valI (c0t s)):=by
  intro s q hs;have:=a1k (n+1) q ([],false) s hs s.length 0 a0c (by omega) (by unfold a0c;omega);simp only[List.take_zero] at this;have hv0:valI []=0:=rfl;rw[hv0] at this;show a0d (c0h (n+1) a0c (q,([],false),s,0,((0:Nat):Int),())) _=_;rw[this];rfl
 simp only[tfd,if_neg h1,if_neg h2,if_neg h3];obtain ⟨s,b⟩:=st;cases b with
 | true =>
  simp only[tft,obs];rw[show rd (s,true) k=(0,([],true)) by simp[rd]];exact fin [] ([],true) (by simp)
 | false =>
  simp only[tff];by_cases hlt:s.length<k
  ·have h4:(s.length:Int)<k:=by omega
   rw[if_pos h4];simp only[obs];rw[show rd (s,false) k=(0,([],true)) by simp[rd,hlt]];exact fin [] ([],true) (by simp)
  ·have h4:¬((s.length:Int)<k):=by omega
   have h5:(0:Int)≤k:=by omega
   have h6:(k:Int)≤(s.length:Int):=by omega
   have h7:k≤s.length:=by omega
   simp only[if_neg h4,a1b,tfd,if_pos h5,if_pos h6,e0,if_pos h7,obs];rw[show rd (s,false) k=(valI (c0t (s.take k)),(s.drop k,false)) by simp[rd,hlt]];rw[List.drop_zero,List.take_length];exact fin (s.take k) (s.drop k,false) (by simp;omega)
abbrev Conf:=Int×((Int×(Int×Int))×((Int×(Int×Int))×(Int×Int)))
def prt (n e:Int):Int:=(n+e-1) / e
def plc (c:Conf):Int:=1+prt c.1 16+prt c.2.2.1.1 4+prt c.2.2.1.2.1 4+prt c.2.2.1.2.2 4
structure Rng (c:Conf):Prop where
 raw:1≤c.1∧c.1≤4096
 cap:1≤c.2.2.2.1∧c.2.2.2.1≤65536
 log:1≤c.2.2.2.2∧c.2.2.2.2≤8192
 w0:1≤c.2.1.1∧c.2.1.1≤1099511627776
 w1:1≤c.2.1.2.1∧c.2.1.2.1≤1099511627776
 w2:1≤c.2.1.2.2∧c.2.1.2.2≤1099511627776
 n0:1≤c.2.2.1.1∧c.2.2.1.1≤4096
 n1:1≤c.2.2.1.2.1∧c.2.2.1.2.1≤4096
 n2:1≤c.2.2.1.2.2∧c.2.2.1.2.2≤4096
structure OkC (c:Conf):Prop where
 rng:Rng c
 m1:c.2.1.2.1 % c.2.1.1=0
 d1:c.2.1.2.1 / c.2.1.1≤c.2.2.1.1
 m2:c.2.1.2.2 % c.2.1.2.1=0
 d2:c.2.1.2.2 / c.2.1.2.1≤c.2.2.1.2.1
 pl:plc c<c.2.2.2.2
theorem l0n (n:Nat) (x e:Int) (he:1≤e) (he':e≤1000) (hx:0≤x) (hx':x≤1000000000):g0t (n+1) x e=some (prt x e):=by
 rw[b1m];have h1:¬(e=0):=by omega
 simp only[tfd,if_neg h1];rw[w64 (x:=x+e) (by omega) (by omega),w64 (x:=x+e-1) (by omega) (by omega),e1o (by omega)];have h2:0≤(x+e-1) / e:=Int.ediv_nonneg (by omega) (by omega);have h3:(x+e-1) / e≤x+e-1:=Int.ediv_le_self _ (by omega);rw[w64 (by omega) (by omega)];rfl
theorem prt_step (x e:Int) (he:1≤e):prt x e=1+prt (x-e) e:=by
 unfold prt;rw[show x+e-1=(x-e+e-1)+1*e by omega,Int.add_mul_ediv_right _ _ (by omega)];omega
theorem h1y (x e:Int) (h1 : -e<x) (hx:x≤0):prt x e=0:=Int.ediv_eq_zero_of_lt (by omega) (by omega)
theorem x0o (n:Nat) (e:Int) (he:1≤e) (he':e≤1000):∀(m f:Nat) (x k:Int),x≤m → -e<x→m<f→0≤k→k+m≤1000000000→m≤1000000000→k0l n f (x,e,k,())=some (.inl (k+prt x e,())):=by
 intro m;induction m with
 | zero =>
  intro f x k hx hx' hf hk hkm hm;obtain ⟨f,rfl⟩:∃g,f=g+1:=⟨f-1,by omega⟩;rw[o0e];have h1:¬((0:Int)<x):=by omega
  simp only[tfd,if_neg h1];rw[h1y x e hx' (by omega),Int.add_zero]
 | succ m ih =>
  intro f x k hx hx' hf hk hkm hm;obtain ⟨f,rfl⟩:∃g,f=g+1:=⟨f-1,by omega⟩;rw[o0e];by_cases h1:(0:Int)<x
  ·simp only[tfd,if_pos h1];rw[w64 (x:=x-e) (by omega) (by omega),w64 (x:=k+1) (by omega) (by omega),ih f (x-e) (k+1) (by omega) (by omega) (by omega) (by omega) (by omega) (by omega),prt_step x e he];congr 3;omega
  ·simp only[tfd,if_neg h1];rw[h1y x e hx' (by omega),Int.add_zero]
theorem f0y (n:Nat) (x e:Int) (he:1≤e) (he':e≤1000) (hx:0≤x) (hx':x≤100000000):j0q (n+1) x e=some (prt x e):=by
 rw[c1i,x0o n e he he' x.toNat a0c x 0 (by omega) (by omega) (by unfold a0c;omega) (by omega) (by omega) (by omega)];simp
theorem d0n {x e:Int} (he:1≤e) (hx:0≤x):0≤prt x e∧prt x e≤x:=by
 unfold prt;refine ⟨Int.ediv_nonneg (by omega) (by omega),?_⟩;have:x+e-1<(x+1)*e:=by
  have:=Int.mul_le_mul_of_nonneg_left he (show 0≤x by omega);rw[Int.add_mul];omega
 have:=Int.ediv_lt_of_lt_mul (by omega) this;omega
theorem v0z {c:Conf} (h:Rng c):1≤plc c∧plc c≤20000:=by
 have a:=d0n (x:=c.1) (e:=16) (by omega) (by have:=h.raw;omega);have b:=d0n (x:=c.2.2.1.1) (e:=4) (by omega) (by have:=h.n0;omega);have d:=d0n (x:=c.2.2.1.2.1) (e:=4) (by omega) (by have:=h.n1;omega);have f:=d0n (x:=c.2.2.1.2.2) (e:=4) (by omega) (by have:=h.n2;omega);have:=h.raw;have:=h.n0;have:=h.n1;have:=h.n2;unfold plc;omega
theorem r0f (n:Nat) {c:Conf} (h:Rng c):g0s (n+2) c=some (plc c):=by
 have h0:=h.raw;have h1:=h.n0;have h2:=h.n1;have h3:=h.n2;rw[b1l,l0n n _ 16 (by omega) (by omega) (by omega) (by omega),l0n n _ 4 (by omega) (by omega) (by omega) (by omega),l0n n _ 4 (by omega) (by omega) (by omega) (by omega),l0n n _ 4 (by omega) (by omega) (by omega) (by omega)];simp only[obs];have a:=d0n (x:=c.1) (e:=16) (by omega) (by omega);have b:=d0n (x:=c.2.2.1.1) (e:=4) (by omega) (by omega);have d:=d0n (x:=c.2.2.1.2.1) (e:=4) (by omega) (by omega);have f:=d0n (x:=c.2.2.1.2.2) (e:=4) (by omega) (by omega)
 rw[w64 (x:=1+_) (by omega) (by omega),w64 (x:=1+_+_) (by omega) (by omega),w64 (x:=1+_+_+_) (by omega) (by omega),w64 (by omega) (by omega)];rfl
theorem m0l (n:Nat) {c:Conf} (h:Rng c):r0e (n+2) c=some (plc c):=by
 have h0:=h.raw;have h1:=h.n0;have h2:=h.n1;have h3:=h.n2;rw[c1h,f0y n _ 16 (by omega) (by omega) (by omega) (by omega),f0y n _ 4 (by omega) (by omega) (by omega) (by omega),f0y n _ 4 (by omega) (by omega) (by omega) (by omega),f0y n _ 4 (by omega) (by omega) (by omega) (by omega)];simp only[obs];have a:=d0n (x:=c.1) (e:=16) (by omega) (by omega);have b:=d0n (x:=c.2.2.1.1) (e:=4) (by omega) (by omega);have d:=d0n (x:=c.2.2.1.2.1) (e:=4) (by omega) (by omega);have f:=d0n (x:=c.2.2.1.2.2) (e:=4) (by omega) (by omega)
 rw[w64 (x:=1+_) (by omega) (by omega),w64 (x:=1+_+_) (by omega) (by omega),w64 (x:=1+_+_+_) (by omega) (by omega),w64 (by omega) (by omega)];rfl
theorem in_int (n:Nat) (x a b:Int):e0n (n+1) x a b=some (decide (a≤x∧x≤b)):=by
 rw[x0z];by_cases h1:a≤x<;>by_cases h2:x≤b<;>simp[h1,h2]
theorem i1o (n:Nat) (x a b:Int):g0c (n+1) x a b=some (decide (a≤x∧x≤b)):=by
 rw[u0n];by_cases h1:a≤x<;>by_cases h2:x≤b<;>simp[h1,h2]
theorem c1n {a b:Int} (ha:1≤a∧a≤1099511627776) (hb:1≤b):IntKind.wrap .i64 (Int.tdiv a b)=a / b:=by
 rw[e1o (by omega)];have h2:0≤a / b:=Int.ediv_nonneg (by omega) (by omega);have h3:a / b≤a:=Int.ediv_le_self _ (by omega);rw[w64 (by omega) (by omega)]
theorem k0s (n:Nat) {c:Conf} (h:OkC c):g0u (n+3) c=some 0:=by
 obtain ⟨hr,m1,d1,m2,d2,pl⟩:=h;have hp:=r0f n hr;obtain ⟨raw,cap,log,w0,w1,w2,n0,n1,n2⟩:=hr;rw[r0z];simp only[in_int,i1o,obs,tfd,if_pos raw,if_pos cap,if_pos log,if_pos w0,if_pos w1,if_pos w2,if_pos n0,if_pos n1,if_pos n2];have z0:¬(c.2.1.1=0):=by omega
 have z1:¬(c.2.1.2.1=0):=by omega
 rw[c1n w1 w0.1,c1n w2 w1.1,m0c (a:=c.2.1.2.1) (by omega),m0c (a:=c.2.1.2.2) (by omega)];have l:¬(c.2.2.2.2≤plc c):=by omega
 simp only[if_neg z0,if_neg z1,if_pos m1,if_pos d1,if_pos m2,if_pos d2,tfn,tfd,hp,obs,if_neg l]
theorem i1z (n:Nat) {c:Conf} (h:¬OkC c):g0u (n+3) c=some 2:=by
 rw[r0z];simp only[in_int,i1o,obs,tfd,tfn];by_cases raw:1≤c.1∧c.1≤4096
 case neg=>rw[if_neg raw]
 rw[if_pos raw];by_cases cap:1≤c.2.2.2.1∧c.2.2.2.1≤65536
 case neg=>rw[if_neg cap]
 rw[if_pos cap];by_cases log:1≤c.2.2.2.2∧c.2.2.2.2≤8192
 case neg=>rw[if_neg log]
 rw[if_pos log];by_cases w0:1≤c.2.1.1∧c.2.1.1≤1099511627776
 case neg=>rw[if_neg w0]
 rw[if_pos w0];by_cases n0:1≤c.2.2.1.1∧c.2.2.1.1≤4096
 case neg=>rw[if_neg n0]
 rw[if_pos n0];by_cases w1:1≤c.2.1.2.1∧c.2.1.2.1≤1099511627776
 case neg=>rw[if_neg w1]
 rw[if_pos w1];by_cases n1:1≤c.2.2.1.2.1∧c.2.2.1.2.1≤4096
 case neg=>rw[if_neg n1]
 rw[if_pos n1];by_cases w2:1≤c.2.1.2.2∧c.2.1.2.2≤1099511627776
 case neg=>rw[if_neg w2]
 rw[if_pos w2];by_cases n2:1≤c.2.2.1.2.2∧c.2.2.1.2.2≤4096
 case neg=>rw[if_neg n2,if_neg n2]
 rw[if_pos n2];have hr:Rng c:=⟨raw,cap,log,w0,w1,w2,n0,n1,n2⟩;have hp:=r0f n hr;have z0:¬(c.2.1.1=0):=by omega
 have z1:¬(c.2.1.2.1=0):=by omega
 rw[c1n w1 w0.1,c1n w2 w1.1,m0c (a:=c.2.1.2.1) (by omega),m0c (a:=c.2.1.2.2) (by omega)];rw[if_neg z0,if_neg z0];by_cases m1:c.2.1.2.1 % c.2.1.1=0
 case neg=>rw[if_neg m1]
 rw[if_pos m1];by_cases d1:c.2.1.2.1 / c.2.1.1≤c.2.2.1.1
 case neg=>rw[if_neg d1,if_neg d1]
 rw[if_pos d1,if_neg z1,if_neg z1];by_cases m2:c.2.1.2.2 % c.2.1.2.1=0
 case neg=>rw[if_neg m2]
 rw[if_pos m2];by_cases d2:c.2.1.2.2 / c.2.1.2.1≤c.2.2.1.2.1
 case neg=>rw[if_neg d2,if_neg d2]
 rw[if_pos d2,if_pos d2,hp];simp only[obs];by_cases pl:c.2.2.2.2≤plc c
 ·rw[if_pos pl]
 ·exact absurd ⟨hr,m1,d1,m2,d2,by omega⟩ h
theorem k0m (n:Nat) {c:Conf} (h:OkC c):j0r (n+3) c=some 0:=by
 obtain ⟨hr,m1,d1,m2,d2,pl⟩:=h;have hp:=m0l n hr;obtain ⟨raw,cap,log,w0,w1,w2,n0,n1,n2⟩:=hr;rw[t0q];rw[c1n w1 w0.1,c1n w2 w1.1,m0c (a:=c.2.1.2.1) (by omega),m0c (a:=c.2.1.2.2) (by omega)];have l:¬(c.2.2.2.2≤plc c):=by omega
 simp only[tfd,tfn,hp,obs];rw[if_neg (by omega),if_neg (by omega),if_neg (by omega),if_neg (by omega),if_neg (by omega),if_neg (by omega),if_neg (by omega),if_neg (by omega),if_neg (by omega),if_neg (by omega),if_neg (by omega),if_neg (by omega),if_neg (by omega),if_neg (by omega),if_neg (by omega)];rw[if_pos m1,if_neg (by omega),if_neg (by omega),if_neg (by omega),if_neg (by omega),if_neg (by omega),if_neg (by omega),if_neg (by omega)];rw[if_pos m2,if_neg (by omega),if_neg (by omega),if_neg l]
theorem c1j (n:Nat) {c:Conf} (h:¬OkC c):j0r (n+3) c=some 2:=by
 rw[t0q];simp only[tfd,tfn];by_cases raw:1≤c.1∧c.1≤4096
 case neg =>
  by_cases z:c.1<1
  ·rw[if_pos z]
  ·rw[if_neg z,if_pos (by omega)]
 rw[if_neg (by omega),if_neg (by omega)];by_cases cap:1≤c.2.2.2.1∧c.2.2.2.1≤65536
 case neg =>
  by_cases z:c.2.2.2.1<1
  ·rw[if_pos z]
  ·rw[if_neg z,if_pos (by omega)]
 rw[if_neg (by omega),if_neg (by omega)];by_cases log:1≤c.2.2.2.2∧c.2.2.2.2≤8192
 case neg =>
  by_cases z:c.2.2.2.2<1
  ·rw[if_pos z]
  ·rw[if_neg z,if_pos (by omega)]
 rw[if_neg (by omega),if_neg (by omega)];by_cases w0:1≤c.2.1.1∧c.2.1.1≤1099511627776
 case neg =>
  by_cases z:c.2.1.1<1
  ·rw[if_pos z]
  ·rw[if_neg z,if_pos (by omega)]
 rw[if_neg (by omega),if_neg (by omega)];by_cases n0:1≤c.2.2.1.1∧c.2.2.1.1≤4096
 case neg =>
  by_cases z:c.2.2.1.1<1
  ·rw[if_pos z]
  ·rw[if_neg z,if_pos (by omega)]
 rw[if_neg (by omega),if_neg (by omega)];by_cases w1:1≤c.2.1.2.1∧c.2.1.2.1≤1099511627776
 case neg =>
  by_cases z:c.2.1.2.1<1
  ·rw[if_pos z]
  ·rw[if_neg z,if_pos (by omega)]
 rw[if_neg (by omega),if_neg (by omega)];by_cases n1:1≤c.2.2.1.2.1∧c.2.2.1.2.1≤4096
 case neg =>
  by_cases z:c.2.2.1.2.1<1
  ·rw[if_pos z]
  ·rw[if_neg z,if_pos (by omega)]
 rw[if_neg (by omega),if_neg (by omega),if_neg (by omega)];rw[m0c (a:=c.2.1.2.1) (by omega),c1n w1 w0.1];by_cases m1:c.2.1.2.1 % c.2.1.1=0
 case neg=>rw[if_neg m1]
 rw[if_pos m1,if_neg (by omega)];by_cases d1:c.2.1.2.1 / c.2.1.1≤c.2.2.1.1
 case neg=>rw[if_pos (by omega)]
 rw[if_neg (by omega)];by_cases w2:1≤c.2.1.2.2∧c.2.1.2.2≤1099511627776
 case neg =>
  by_cases z:c.2.1.2.2<1
  ·rw[if_pos z]
  ·rw[if_neg z,if_pos (by omega)]
 rw[if_neg (by omega),if_neg (by omega)];by_cases n2:1≤c.2.2.1.2.2∧c.2.2.1.2.2≤4096
 case neg =>
  by_cases z:c.2.2.1.2.2<1
  ·rw[if_pos z]
  ·rw[if_neg z,if_pos (by omega)]
 rw[if_neg (by omega),if_neg (by omega),if_neg (by omega)];rw[m0c (a:=c.2.1.2.2) (by omega),c1n w2 w1.1];by_cases m2:c.2.1.2.2 % c.2.1.2.1=0
 case neg=>rw[if_neg m2]
 rw[if_pos m2,if_neg (by omega)];by_cases d2:c.2.1.2.2 / c.2.1.2.1≤c.2.2.1.2.1
 case neg=>rw[if_pos (by omega)]
 rw[if_neg (by omega)];have hr:Rng c:=⟨raw,cap,log,w0,w1,w2,n0,n1,n2⟩;rw[m0l n hr];simp only[obs];by_cases pl:c.2.2.2.2≤plc c
 ·rw[if_pos pl]
 ·exact absurd ⟨hr,m1,d1,m2,d2,by omega⟩ h
theorem rd_good {st:List UInt8×Bool} {k:Nat} (h:(rd st k).2.2=false):st.2=false∧st.1=toB (beI k (rd st k).1)++(rd st k).2.1∧0≤(rd st k).1∧(rd st k).1<256^k:=by
 unfold rd at h ⊢;split at h
 ·cases h
 ·rename_i hn;rw[if_neg hn];simp only[not_or,Nat.not_lt,Bool.not_eq_true] at hn;have hl:(c0t (st.1.take k)).length=k:=by rw[g0f,List.length_take];omega
  have hv:=q0p (h0w (st.1.take k));rw[hl] at hv;refine ⟨hn.1,?_,hv⟩;dsimp only;rw[p1r (h0w _) hl,j1l,List.take_append_drop]
theorem h1q (st:List UInt8×Bool) (k:Nat):0≤(rd st k).1∧(rd st k).1<256^k:=by
 cases h:(rd st k).2.2 with
 | false=>exact (rd_good h).2.2
 | true =>
  unfold rd at h ⊢;split
  ·exact ⟨by simp,Int.pow_pos (by decide)⟩
  ·rename_i hn;rw[if_neg hn] at h;cases h
def q0 (s:List UInt8):=rd (s,false) 4
def q1 (s:List UInt8):=rd (q0 s).2 8
def q2 (s:List UInt8):=rd (q1 s).2 8
def q3 (s:List UInt8):=rd (q2 s).2 8
def q4 (s:List UInt8):=rd (q3 s).2 4
def q5 (s:List UInt8):=rd (q4 s).2 4
def q6 (s:List UInt8):=rd (q5 s).2 4
def q7 (s:List UInt8):=rd (q6 s).2 4
def q8 (s:List UInt8):=rd (q7 s).2 4
def q9 (s:List UInt8):=rd (q8 s).2 8
structure Full (s:List UInt8):Prop where
 z:(q9 s).1=0
 good:(q9 s).2.2=false
 left:(q9 s).2.1=[]
def idxC (c:Conf):Int:=prt c.2.2.2.2 120
def hom (c:Conf):Int:=1+idxC c+c.2.2.2.2
def siz (c:Conf):Int:=hom c+1+c.2.2.2.1*plc c
theorem idx_range {c:Conf} (h:Rng c):0≤idxC c∧idxC c≤8192:=by
 have:=d0n (x:=c.2.2.2.2) (e:=120) (by omega) (by have:=h.log;omega);have:=h.log;unfold idxC;omega
theorem u0w (n:Nat) {c:Conf} (h:OkC c):f0q (n+4) c=some (idxC c)∧o0f (n+4) c=some (idxC c):=by
 have hl:=h.rng.log;rw[r0y,c1l,k0s n h,k0m n h];simp only[obs,tfd,tfn];rw[if_pos trivial,if_pos trivial,l0n (n+2) _ 120 (by omega) (by omega) (by omega) (by omega),f0y (n+2) _ 120 (by omega) (by omega) (by omega) (by omega)];simp only[obs];exact ⟨rfl,rfl⟩
theorem s0v (n:Nat) {c:Conf} (h:OkC c):g0d (n+5) c=some (hom c)∧m0m (n+5) c=some (hom c):=by
 have hl:=h.rng.log;have hi:=idx_range h.rng;rw[t0z,f1g,k0s (n+1) h,k0m (n+1) h,(u0w n h).1,(u0w n h).2];simp only[obs,tfd,tfn];rw[if_pos trivial,w64 (x:=1+idxC c) (by omega) (by omega),w64 (by omega) (by omega)];exact ⟨rfl,rfl⟩
theorem j1f (n:Nat) {c:Conf} (h:OkC c):p0l (n+4) c=some (plc c)∧v0v (n+4) c=some (plc c):=by
 rw[r0x,c1k,k0s n h,k0m n h,r0f (n+1) h.rng,m0l (n+1) h.rng];simp only[obs,tfd,tfn];rw[if_pos trivial];exact ⟨rfl,rfl⟩
theorem h1j {c:Conf} (h:OkC c):IntKind.wrap .i64 (IntKind.wrap .i64 (hom c+1)+IntKind.wrap .i64 (c.2.2.2.1*plc c))=siz c∧0≤siz c∧siz c≤2000000000:=by
 have hl:=h.rng.log;have hi:=idx_range h.rng;have hp:=v0z h.rng;have hcap:=h.rng.cap;have h1:0≤c.2.2.2.1*plc c:=Int.mul_nonneg (by omega) (by omega);have h2:c.2.2.2.1*plc c≤65536*plc c:=Int.mul_le_mul_of_nonneg_right (by omega) (by omega);have hh:hom c=1+idxC c+c.2.2.2.2:=rfl;rw[w64 (x:=hom c+1) (by omega) (by omega),w64 (x:=c.2.2.2.1*plc c) (by omega) (by omega),w64 (by omega) (by omega)];have hs:siz c=hom c+1+c.2.2.2.1*plc c:=rfl;omega
def sizR (c:Conf):Int×Int:=if 16777216<siz c then (0,1) else (siz c,0)
theorem m1f (n:Nat) {c:Conf} (h:OkC c):c0j (n+6) c=some (sizR c)∧u0s (n+6) c=some (sizR c):=by
 obtain ⟨e,_⟩:=h1j h;rw[k0q,v0u,k0s (n+2) h,k0m (n+2) h,(s0v n h).1,(s0v n h).2,(j1f (n+1) h).1,(j1f (n+1) h).2];simp only[obs,tfd,tfn,e];rw[if_pos trivial,if_pos trivial];unfold sizR;by_cases hs:16777216<siz c
 ·rw[if_pos hs,if_pos hs];exact ⟨rfl,rfl⟩
 ·rw[if_neg hs,if_neg hs];exact ⟨rfl,rfl⟩
theorem size_no (n:Nat) {c:Conf} (h:¬OkC c):c0j (n+6) c=some (0,2)∧u0s (n+6) c=some (0,2):=by
 rw[k0q,v0u,i1z (n+2) h,c1j (n+2) h];simp only[obs,tfd,tfn];rw[if_neg (by decide),if_neg (by decide)];exact ⟨rfl,rfl⟩
end Go.Proofs.YtmcgmijdnfcfgaaGreat
namespace Go.Proofs.YtmcgmijdnfcfgaaGreat
open Go.Flat
set_option linter.unusedVariables false
set_option linter.unusedSimpArgs false
theorem q1c (n:Nat) {c:Conf} (h:OkC c):p0l (n+4) c=some (plc c):=by
 rw[r0x,k0s n h,r0f (n+1) h.rng];simp only[obs,tfd,tfn];rw[if_pos trivial]
theorem o0p (n:Nat) {c:Conf} (h:OkC c):f0q (n+4) c=some (idxC c):=by
 have hl:=h.rng.log;rw[r0y,k0s n h];simp only[obs,tfd,tfn];rw[if_pos trivial,l0n (n+2) _ 120 (by omega) (by omega) (by omega) (by omega)];simp only[obs];rfl
theorem p0g (n:Nat) {c:Conf} (h:OkC c):g0d (n+5) c=some (hom c):=by
 have hl:=h.rng.log;have hi:=idx_range h.rng;rw[t0z,k0s (n+1) h,o0p n h];simp only[obs,tfd,tfn];rw[if_pos trivial,w64 (x:=1+idxC c) (by omega) (by omega),w64 (by omega) (by omega)];rfl
theorem k0d (n:Nat) {c:Conf} (h:OkC c):c0j (n+6) c=some (sizR c):=by
 obtain ⟨e,_⟩:=h1j h;rw[k0q,k0s (n+2) h,p0g n h,q1c (n+1) h];simp only[obs,tfd,tfn,e];rw[if_pos trivial];unfold sizR;by_cases hs:16777216<siz c
 ·rw[if_pos hs,if_pos hs]
 ·rw[if_neg hs,if_neg hs]
theorem q0u (n:Nat) {c:Conf} (h:¬OkC c):c0j (n+6) c=some (0,2):=by
 rw[k0q,i1z (n+2) h];simp only[obs,tfd,tfn];rw[if_neg (by decide)]
structure ROk (m k:Nat) (d:Dsk):Prop where
 len:d.1.length=m
 sec:∀s∈d.1,s.length=512
 pen:d.2.1.length≤k
 fit:∀z∈d.2.1,FitC d.1.length z
 arm0:0≤d.2.2.1
 arm1:d.2.2.1≤9223372036854775807
theorem ROk.ok {m k:Nat} {d:Dsk} (h:ROk m k d) (hm:m≤16777216) (hk:k≤1000000):DkOk d :=
 ⟨by rw[h.len];exact hm,by have:=h.pen;omega,h.fit⟩
theorem ROk.step {m k:Nat} {d:Dsk} (h:ROk m k d):ROk m k (stepD d).2:=by
 obtain ⟨e1,e2⟩:=l0h d;have ha:0≤(stepD d).2.2.2.1∧(stepD d).2.2.2.1≤9223372036854775807:=by
  have h1:=h.arm0;have h2:=h.arm1;unfold stepD;split
  ·exact ⟨h1,h2⟩
  split
  ·exact ⟨by show (0:Int)≤0;omega,by show (0:Int)≤_;omega⟩
  split
  ·exact ⟨by show 0≤d.2.2.1-1;omega,by show d.2.2.1-1≤_;omega⟩
  ·exact ⟨h1,h2⟩
 exact ⟨by rw[e1];exact h.len,by rw[e1];exact h.sec,by rw[e2];exact h.pen,by rw[e1,e2];exact h.fit,ha.1,ha.2⟩
theorem ROk.mono {m k k':Nat} {d:Dsk} (h:ROk m k d) (hk:k≤k'):ROk m k' d:=⟨h.len,h.sec,Nat.le_trans h.pen hk,h.fit,h.arm0,h.arm1⟩
theorem ROk.write {m k:Nat} {d:Dsk} (h:ROk m k d) (i:Int) (s:Sec):ROk m (k+1) (n0e d i s).2:=by
 unfold n0e;by_cases h1:0≤i∧i<(d.1.length:Int)∧s.length=512
 ·rw[if_pos h1];by_cases h2:(stepD d).1=0
  ·rw[if_pos h2];have hs:=h.step;refine ⟨hs.len,hs.sec,?_,?_,hs.arm0,hs.arm1⟩
   ·have:=hs.pen;simp;omega
   ·intro z hz;rcases List.mem_append.1 hz with hz | hz
    ·exact hs.fit z hz
    ·obtain rfl:=List.mem_singleton.1 hz;show FitC (stepD d).2.1.length (i,s);rw[(l0h d).1];exact h1
  ·rw[if_neg h2];exact h.step.mono (by omega)
 ·rw[if_neg h1];exact h.mono (by omega)
theorem k1c {l:List Chg}:∀ {S:List Sec},(∀s∈S,s.length=512)→(∀z∈l,z.2.length=512)→∀s∈p0v S l,s.length=512:=by
 induction l with
 | nil=>intro S h _;exact h
 | cons z l ih =>
  intro S h hl;simp only[p0v,List.foldl_cons] at ih ⊢;refine ih (fun s hs => ?_) (fun y hy=>hl y (List.mem_cons_of_mem _ hy));rcases List.mem_or_eq_of_mem_set hs with q | q
  ·exact h s q
  ·rw[q];exact hl z List.mem_cons_self
theorem ROk.keep {m k:Nat} {d:Dsk} (h:ROk m k d) (f:Int→Bool):ROk m 0 (keepD d f).2 :=
 ⟨by show (p0v d.1 _).length=m;rw[a1m];exact h.len,k1c h.sec (fun z hz=>(h.fit z (r0o _ _ hz)).2.2),Nat.le_refl _,fun z hz=>(by cases hz),h.arm0,h.arm1⟩
theorem ROk.sync {m k:Nat} {d:Dsk} (h:ROk m k d):ROk m k (b1v d).2:=by
 unfold b1v;split
 ·exact (h.step.keep _).mono (Nat.zero_le _)
 ·exact h.step
theorem ROk.up {m k:Nat} {d:Dsk} (h:ROk m k d) (l:List Bool):ROk m 0 (upD d l).2:=by
 have hz:ROk m k ((d.1,d.2.1,0,false):Dsk):=⟨h.len,h.sec,h.pen,h.fit,Int.le_refl _,by show (0:Int)≤_;omega⟩;exact hz.keep _
def armD (d:Dsk) (a:Int):Dsk:=(d.1,(d.2.1,((if a<(0:Int) then (0:Int) else a),d.2.2.2)))
theorem ROk.arm {m k:Nat} {d:Dsk} (h:ROk m k d) (a:Int) (ha:a≤9223372036854775807):ROk m k (armD d a):=by
 refine ⟨h.len,h.sec,h.pen,h.fit,?_,?_⟩
 ·show 0≤(if a<(0:Int) then (0:Int) else a);split<;>omega
 ·show (if a<(0:Int) then (0:Int) else a)≤_;split<;>omega
theorem r0j (m:Nat):ROk m 0 (newD m):=⟨List.length_replicate,fun s hs=>by
  have:=List.eq_of_mem_replicate (show s∈List.replicate m zsec from hs)
  rw[this];exact List.length_replicate,Nat.le_refl _,fun z hz=>(by cases hz),Int.le_refl _,(by show (0:Int)≤9223372036854775807;decide)⟩
def wrs:Dsk→List Chg→Int×Dsk
 | d,[]=>b1v d
 | d,z::r=>if (n0e d z.1 z.2).1=0 then wrs (n0e d z.1 z.2).2 r else n0e d z.1 z.2
def wss:Dsk→List (List Chg)→Int×Dsk
 | d,[]=>(0,d)
 | d,l::r=>if (wrs d l).1=0 then wss (wrs d l).2 r else wrs d l
theorem ROk.wrs:∀(l:List Chg) {m k:Nat} {d:Dsk},ROk m k d→ROk m (k+l.length) (wrs d l).2
 | [],m,k,d,h=>by simpa [Go.Proofs.YtmcgmijdnfcfgaaGreat.wrs] using h.sync
 | z::r,m,k,d,h=>by
  unfold Go.Proofs.YtmcgmijdnfcfgaaGreat.wrs;split
  ·have:=ROk.wrs r (h.write z.1 z.2);exact this.mono (by simp only[List.length_cons];omega)
  ·exact (h.write z.1 z.2).mono (by simp only[List.length_cons];omega)
def sumL (l:List (List Chg)):Nat:=(l.map List.length).sum
theorem ROk.wss:∀(l:List (List Chg)) {m k:Nat} {d:Dsk},ROk m k d→ROk m (k+sumL l) (wss d l).2
 | [],m,k,d,h=>by simpa [Go.Proofs.YtmcgmijdnfcfgaaGreat.wss,sumL] using h
 | a::r,m,k,d,h=>by
  unfold Go.Proofs.YtmcgmijdnfcfgaaGreat.wss;split
  ·have:=ROk.wss r (ROk.wrs a h);exact this.mono (by simp only[sumL,List.map_cons,List.sum_cons];omega)
  ·exact (ROk.wrs a h).mono (by simp only[sumL,List.map_cons,List.sum_cons];omega)
theorem step_loop (n m:Nat) {G:Type} (hm:m≤16777216) (g:a0p×(Int×Int)) (l:List Chg) (hl:l.length≤100000):∀(rest pre:List Chg) (f k:Nat) (d:Dsk) (i:Int),l=pre++rest→i=pre.length→ROk m k d→k+rest.length≤1000000 →
  a0d (f0h (n+2) (f+rest.length+1) ((d,g),(l,((l.length:Int),(i,()))))) (fun r0=>d0b (fun y1=>a0d (h0g (n+2) y1.1.1) fun r2=>some (r2.1,(r2.2,y1.1.2))) (fun z3=>some z3) r0)=some ((wrs d rest).1,((wrs d rest).2,g)):=by
 intro rest;induction rest with
 | nil =>
  intro pre f k d i h hi hd hk;rw[j0j];have h1:¬(i<(l.length:Int)):=by have:=congrArg List.length h;simp at this;omega
  simp only[tfd,if_neg h1,obs,b0j];rw[sync_val n d (hd.ok hm (by omega)) hd.arm1,obs];rfl
 | cons z rest ih =>
  intro pre f k d i h hi hd hk;have hlen:=congrArg List.length h;simp at hlen hk;rw[show f+(z::rest).length+1=(f+rest.length+1)+1 by simp;omega,j0j];have h1:i<(l.length:Int):=by omega
  simp only[tfd,if_pos h1];rw[d0c h hi,obs,b1r n d z.1 z.2 hd.arm1 (by have:=hd.pen;omega),obs];unfold wrs;by_cases hw:(n0e d z.1 z.2).1=0
  ·simp only[tfn,tfd];rw[if_pos hw,if_pos hw,w64 (x:=i+1) (by omega) (by omega)];exact ih (pre++[z]) f (k+1) _ (i+1) (by rw[h];simp) (by simp;omega) (hd.write z.1 z.2) (by omega)
  ·simp only[tfn,tfd];rw[if_neg hw,if_neg hw];rfl
theorem m1d (n m k:Nat) (hm:m≤16777216) (g:a0p×(Int×Int)) (l:List Chg) (d:Dsk) (hd:ROk m k d) (hk:k+l.length≤1000000) (hl:l.length≤100000):m0g (n+3) (d,g) l=some ((wrs d l).1,((wrs d l).2,g)):=by
 rw[u0d];have hfu:(a0c-l.length-1)+l.length+1=a0c:=by unfold a0c;omega
 have:=step_loop n m (G:=Unit) hm g l hl l [] (a0c-l.length-1) k d 0 rfl rfl hd hk;rw[hfu] at this;exact this
theorem j1p (n m:Nat) (hm:m≤16777216) (g:a0p×(Int×Int)) (l:List (List Chg)) (hl:l.length≤100000) (hb:∀a∈l,a.length≤100000):∀(rest pre:List (List Chg)) (f k:Nat) (d:Dsk) (i:Int),l=pre++rest→i=pre.length→ROk m k d→k+sumL rest≤1000000 →
  a0d (e0t (n+3) (f+rest.length+1) ((d,g),(l,((l.length:Int),(i,()))))) (fun r0=>d0b (fun y1=>some ((0:Int),y1.1)) (fun z2=>some z2) r0)=some ((wss d rest).1,((wss d rest).2,g)):=by
 intro rest;induction rest with
 | nil =>
  intro pre f k d i h hi hd hk;rw[i0k];have h1:¬(i<(l.length:Int)):=by have:=congrArg List.length h;simp at this;omega
  simp only[tfd,if_neg h1,obs,b0j];rfl
 | cons z rest ih =>
  intro pre f k d i h hi hd hk;have hlen:=congrArg List.length h;simp[sumL] at hlen hk;rw[show f+(z::rest).length+1=(f+rest.length+1)+1 by simp;omega,i0k];have h1:i<(l.length:Int):=by omega
  have hz:=hb z (by rw[h];simp);simp only[tfd,if_pos h1];rw[d0c h hi,obs,m1d n m k hm g z d hd (by omega) hz,obs];unfold wss;by_cases hw:(wrs d z).1=0
  ·simp only[tfn,tfd];rw[if_pos hw,if_pos hw,w64 (x:=i+1) (by omega) (by omega)];exact ih (pre++[z]) f (k+z.length) _ (i+1) (by rw[h];simp) (by simp;omega) (ROk.wrs z hd) (by simp[sumL];omega)
  ·simp only[tfn,tfd];rw[if_neg hw,if_neg hw];rfl
theorem v0d (n m k:Nat) (hm:m≤16777216) (g:a0p×(Int×Int)) (l:List (List Chg)) (d:Dsk) (hd:ROk m k d) (hk:k+sumL l≤1000000) (hl:l.length≤100000) (hb:∀a∈l,a.length≤100000):e0c (n+4) (d,g) l=some ((wss d l).1,((wss d l).2,g)):=by
 rw[s0h];have hfu:(a0c-l.length-1)+l.length+1=a0c:=by unfold a0c;omega
 have:=j1p n m hm g l hl hb l [] (a0c-l.length-1) k d 0 rfl rfl hd hk;rw[hfu] at this;exact this
def zpad (s:List UInt8):Sec:=s++List.replicate (512-s.length) 0
theorem m1y (n:Nat) (s:List UInt8) (h:s.length≤512):u0r (n+5) s=some (zpad s):=by
 rw[e1y,w64 (by omega) (by omega)];have e:(512:Int)-(s.length:Int)=((512-s.length:Nat):Int):=by omega
 rw[e,rep_val n (512-s.length) (by omega),obs,tfd,if_pos (by simp;omega)];rfl
def ptrB (num many:Int):List UInt8:=([114,101,100,111]++toB (beI 8 num))++toB (beI 4 many)
def ptrS (num many:Int):Sec:=zpad (ptrB num many)
def ptrC (num many:Int):Chg:=(0,ptrS num many)
theorem v0x (num many:Int):(ptrB num many).length=16:=by simp[ptrB,l0g,f0t]
theorem j0s (n:Nat) (num many:Int) (h0:0≤many) (h1:many≤9223372036854775807):e0k (n+6) num many=some (ptrC num many):=by
 rw[v0l,q0j];simp only[tfd];rw[if_pos (by simp),obs,n0s (n+4) _ 8 8 num rfl (by omega) (by omega) (by simp),obs,
  wu64 h0 (by omega),n0s (n+4) _ 4 4 many rfl (by omega) (by omega) (by simp[f0t]),obs,j0x,obs]
 have e:List.map (fun y0=>UInt8.ofNat (Int.toNat y0)) ((([]:List Int)++List.map (fun y0=>((UInt8.toNat y0:Nat):Int)) ([114,101,100,111]:List UInt8))++beI 8 num++beI 4 many)=ptrB num many:=by
  show toB _=_;rw[s0e,s0e];rfl
 simp only[];rw[e,m1y n _ (by rw[v0x];omega),obs];rfl
def ptrN (s:Sec):Int:=valI (c0t ((s.drop 4).take 8))
def ptrM (s:Sec):Int:=valI (c0t ((s.drop 12).take 4))
def a0m (d:Dsk):Int×(Int×Int) :=
 if (b0v d 0).2=0 then (if ptrS (ptrN (b0v d 0).1) (ptrM (b0v d 0).1)=(b0v d 0).1 then (ptrN (b0v d 0).1,(ptrM (b0v d 0).1,0)) else (0,(0,4))) else (0,(0,(b0v d 0).2))
theorem o0b {m k:Nat} {d:Dsk} (h:ROk m k d) {i:Int} (h0:(b0v d i).2=0):(b0v d i).1.length=512:=by
 unfold b0v at h0 ⊢;split
 ·rename_i hd;rw[if_pos hd] at h0;cases h0
 rename_i hd;rw[if_neg hd] at h0;split
 ·rename_i hi;cases hf:d.2.1.reverse.find? (fun z=>decide (z.1=i)) with
  | some z=>exact (h.fit z (by have:=List.mem_of_find?_eq_some hf;simpa using this)).2.2
  | none =>
   obtain ⟨v,hv⟩:∃v,d.1[i.toNat]? = some v:=⟨_,List.getElem?_eq_getElem (by omega)⟩;show (d.1[i.toNat]?.getD []).length=512;rw[hv];exact h.sec v (List.mem_of_getElem? hv)
 ·rename_i hi;rw[if_neg hi] at h0;cases h0
theorem l1s (l:List UInt8) (h:l.length≤4):0≤valI (c0t l)∧valI (c0t l)<4294967296:=by
 have h1:=h1q (l,false) l.length;unfold rd at h1;rw[if_neg (by simp)] at h1;simp only[List.take_length] at h1;refine ⟨h1.1,Int.lt_of_lt_of_le h1.2 ?_⟩;have key:∀k:Nat,k≤4→(256:Int)^k≤4294967296:=by
  intro k hk
  match k,hk with
  | 0,_ | 1,_ | 2,_ | 3,_ | 4,_=>decide
 exact key _ h
theorem k0a (n:Nat) {m k:Nat} {d:Dsk} (h:ROk m k d):b0r (n+7) d=some ((a0m d).1,((a0m d).2.1,((a0m d).2.2,d))):=by
 rw[v0p,r0a,obs];unfold a0m;simp only[tfn,tfd];by_cases h0:(b0v d 0).2=0
 ·rw[if_pos h0,if_pos h0];have hs:=o0b h h0;rw[s0b,obs,j0y];generalize (b0v d 0).1=s at hs ⊢;have e4:¬((s.length:Int)<4):=by omega
  have e5:((4:Int)≤(s.length:Int)):=by omega
  have e6:(4:Nat)≤s.length:=by omega
  simp only[tff,tfd];rw[if_neg (by decide),if_neg e4];simp only[a1b,tfd];rw[if_pos (by decide),if_pos e5,if_pos (by decide),if_pos (show Int.toNat 4≤s.length from e6),obs];simp only[List.take_length];rw[show (4:Int).toNat=4 from rfl,o0a (n+3) (s.drop 4,false) 8 8 rfl (by omega) (by omega),obs];have r1:rd (s.drop 4,false) 8=(ptrN s,(s.drop 12,false)):=by
   unfold rd ptrN;rw[if_neg (by simp;omega),List.drop_drop]
  rw[r1,o0a (n+3) (s.drop 12,false) 4 4 rfl (by omega) (by omega),obs];have r2:rd (s.drop 12,false) 4=(ptrM s,(s.drop 16,false)):=by
   unfold rd ptrM;rw[if_neg (by simp;omega),List.drop_drop]
  rw[r2];have hM:0≤ptrM s∧ptrM s<4294967296:=l1s ((s.drop 12).take 4) (by simp;omega);simp only[];rw[w64 (x:=ptrM s) (by omega) (by omega),j0s n _ _ hM.1 (by omega),obs];by_cases hp:ptrS (ptrN s) (ptrM s)=s
  ·rw[if_pos hp];have:((ptrC (ptrN s) (ptrM s)).2==s)=true:=by simp[ptrC,hp]
   rw[this,tft]
  ·rw[if_neg hp];have:((ptrC (ptrN s) (ptrM s)).2==s)=false:=by simp[ptrC,hp]
   rw[this,tff]
 ·rw[if_neg h0,if_neg h0]
theorem x0y (n:Nat) {f_:(Chg×Unit)→Option Bool} {p:Chg→Bool} (l:List Chg) (hf:∀x∈l,f_ (x,())=some (p x)) (hl:l.length≤100000):∀(rest pre:List Chg) (f:Nat) (i:Int),l=pre++rest→i=pre.length →
  ∃r:Int,a0d (c0z n (f+rest.length+1) (l,(f_,((l.length:Int),(i,()))))) (fun r0=>d0b (fun y1=>some ((-1):Int)) (fun z2=>some z2) r0)=some r∧decide (0≤r)=rest.any p:=by
 intro rest;induction rest with
 | nil =>
  intro pre f i h hi;rw[f0e];have h1:¬(i<(l.length:Int)):=by have:=congrArg List.length h;simp at this;omega
  simp only[tfd,if_neg h1,obs,b0j];exact ⟨-1,rfl,rfl⟩
 | cons z rest ih =>
  intro pre f i h hi;have hlen:=congrArg List.length h;simp at hlen;rw[show f+(z::rest).length+1=(f+rest.length+1)+1 by simp;omega,f0e];have h1:i<(l.length:Int):=by omega
  simp only[tfd,if_pos h1];rw[d0c h hi,obs,hf z (by rw[h];simp),obs];cases hp:p z with
  | true =>
   simp only[tft,obs,b1x];exact ⟨i,rfl,by simp[hp];omega⟩
  | false =>
   simp only[tff];rw[w64 (x:=i+1) (by omega) (by omega)];obtain ⟨r,h1,h2⟩:=ih (pre++[z]) f (i+1) (by rw[h];simp) (by simp;omega);exact ⟨r,h1,by rw[h2];simp[hp]⟩
theorem b1k (n:Nat) {f_:(Chg×Unit)→Option Bool} {p:Chg→Bool} (l:List Chg) (hf:∀x∈l,f_ (x,())=some (p x)) (hl:l.length≤100000):e0g (n+2) l f_=some (l.any p):=by
 rw[k0x,n0o];have hfu:(a0c-l.length-1)+l.length+1=a0c:=by unfold a0c;omega
 obtain ⟨r,h1,h2⟩:=x0y n l hf hl l [] (a0c-l.length-1) 0 rfl rfl;rw[hfu] at h1;rw[h1,obs,h2]
theorem x0x (n:Nat) {f_:(Sec×Unit)→Option Bool} {p:Sec→Bool} (l:List Sec) (hf:∀x∈l,f_ (x,())=some (p x)) (hl:l.length≤100000):∀(rest pre:List Sec) (f:Nat) (i:Int),l=pre++rest→i=pre.length →
  ∃r:Int,a0d (c0y n (f+rest.length+1) (l,(f_,((l.length:Int),(i,()))))) (fun r0=>d0b (fun y1=>some ((-1):Int)) (fun z2=>some z2) r0)=some r∧decide (0≤r)=rest.any p:=by
 intro rest;induction rest with
 | nil =>
  intro pre f i h hi;rw[f0d];have h1:¬(i<(l.length:Int)):=by have:=congrArg List.length h;simp at this;omega
  simp only[tfd,if_neg h1,obs,b0j];exact ⟨-1,rfl,rfl⟩
 | cons z rest ih =>
  intro pre f i h hi;have hlen:=congrArg List.length h;simp at hlen;rw[show f+(z::rest).length+1=(f+rest.length+1)+1 by simp;omega,f0d];have h1:i<(l.length:Int):=by omega
  simp only[tfd,if_pos h1];rw[d0c h hi,obs,hf z (by rw[h];simp),obs];cases hp:p z with
  | true =>
   simp only[tft,obs,b1x];exact ⟨i,rfl,by simp[hp];omega⟩
  | false =>
   simp only[tff];rw[w64 (x:=i+1) (by omega) (by omega)];obtain ⟨r,h1,h2⟩:=ih (pre++[z]) f (i+1) (by rw[h];simp) (by simp;omega);exact ⟨r,h1,by rw[h2];simp[hp]⟩
theorem b1j (n:Nat) {f_:(Sec×Unit)→Option Bool} {p:Sec→Bool} (l:List Sec) (hf:∀x∈l,f_ (x,())=some (p x)) (hl:l.length≤100000):e0f (n+2) l f_=some (l.any p):=by
 rw[k0w,n0n];have hfu:(a0c-l.length-1)+l.length+1=a0c:=by unfold a0c;omega
 obtain ⟨r,h1,h2⟩:=x0x n l hf hl l [] (a0c-l.length-1) 0 rfl rfl;rw[hfu] at h1;rw[h1,obs,h2]
def mayC (h m:Int) (x:Chg):Bool:=decide (h≤x.1∧x.1<m∧x.2.length=512)
theorem n1q (n:Nat) (g:a0r) (x:Chg):k0g (n+2) g x=some (mayC g.2.2.1 (g.1.1.length:Int) x):=by
 rw[v0n,b0d,obs];simp only[tfd];unfold mayC;by_cases h1:g.2.2.1≤x.1
 ·rw[if_pos h1];by_cases h2:x.1<(g.1.1.length:Int)
  ·rw[if_pos h2];congr 1;apply decide_eq_decide.2;constructor
   ·intro h;exact ⟨h1,h2,by omega⟩
   ·intro h;have:=h.2.2;omega
  ·rw[if_neg h2];simp[h2]
 ·rw[if_neg h1];simp[h1]
def txtF:Int→List Chg→List Chg
 | _,[]=>[]
 | i,z::r=>(i,z.2)::txtF (i+1) r
theorem f0k:∀(l:List Chg) (i:Int),(txtF i l).length=l.length
 | [],_=>rfl
 | z::r,i=>by simp[txtF,f0k r]
theorem j1n (n:Nat) (g:a0r) (hg0:0≤g.2.2.2) (hg1:g.2.2.2≤100000) (L:Nat) (hL:L≤100000):∀(rest pre:List Chg) (f:Nat) (i:Int),(pre++rest).length=L→i=pre.length →
  e0s n (f+rest.length+1) (g,(pre++rest,((L:Int),(i,()))))=some (.inl (g,(pre++txtF (g.2.2.2+i) rest,()))):=by
 intro rest;induction rest with
 | nil =>
  intro pre f i h hi;rw[i0j];simp at h;have h1:¬(i<(L:Int)):=by omega
  simp only[tfd,if_neg h1];rfl
 | cons z rest ih =>
  intro pre f i h hi;simp at h;rw[show f+(z::rest).length+1=(f+rest.length+1)+1 by simp;omega,i0j];have h1:i<(L:Int):=by omega
  simp only[tfd,if_pos h1];have hm:pre++z::rest=pre++z::rest:=rfl;rw[d0c hm hi,obs,a1w hm hi,obs,w64 (x:=g.2.2.2+i) (by omega) (by omega),w64 (x:=i+1) (by omega) (by omega)];have e:(pre++z::rest).set i.toNat (g.2.2.2+i,z.2)=(pre++[(g.2.2.2+i,z.2)])++rest:=by
   have:i.toNat=pre.length:=by omega
   rw[this];simp
  rw[e,ih (pre++[(g.2.2.2+i,z.2)]) f (i+1) (by simp;omega) (by simp;omega)];rw[show g.2.2.2+(i+1)=g.2.2.2+i+1 by omega];simp[txtF]
theorem m1b (n:Nat) (g:a0r) (hg0:0≤g.2.2.2) (hg1:g.2.2.2≤100000) (l:List Chg) (hl:l.length≤100000):k0z (n+2) g l=some (txtF g.2.2.2 l,g):=by
 rw[s0g,k0c];have h1:((0+l.length)*24≤140737488355328):=by omega
 have e1:(tif (decide (l.length=0)) (both (some []) (tif (decide ((0+l.length)*24≤140737488355328)) (some ([]++l)) none)) (tif (decide ((0+l.length)*24≤140737488355328)) (some ([]++l)) none))=some l:=by
  by_cases h0:l.length=0
  ·have:l=[]:=List.eq_nil_of_length_eq_zero h0;subst this;simp
  ·simp only[tfd,if_neg h0,if_pos h1];simp
 rw[e1,obs];have hfu:(a0c-l.length-1)+l.length+1=a0c:=by unfold a0c;omega
 have:=j1n (n+1) g hg0 hg1 l.length hl l [] (a0c-l.length-1) 0 rfl rfl;rw[hfu] at this;rw[show ([]:List Chg)++l=l from rfl] at this;rw[this,obs,b0j];simp
def b4s (l:List Chg):List UInt8:=l.flatMap fun z=>toB (beI 4 z.1)
theorem p0n:∀l:List Chg,(b4s l).length=4*l.length
 | []=>rfl
 | z::r=>by
  have:=p0n r;simp only[b4s,List.flatMap_cons,List.length_append,l0g,f0t,List.length_cons] at this ⊢;omega
def idx1 (l:List Chg):Chg:=(1,zpad (b4s l))
theorem k1x (n:Nat) (g:a0r) (out:List Chg) (l:List Chg) (hl:l.length≤100000) (hz:∀z∈l,0≤z.1∧z.1≤18446744073709551615):∀(rest pre:List Chg) (f:Nat) (w:List Int) (i:Int),l=pre++rest→i=pre.length→w.length≤4*pre.length →
  ∃w',e0v (n+1) (f+rest.length+1) (g,(out,(w,(l,((l.length:Int),(i,()))))))=some (.inl (g,(out,(w',()))))∧toB w'=toB w++b4s rest∧w'.length=w.length+4*rest.length:=by
 intro rest;induction rest with
 | nil =>
  intro pre f w i h hi hw;rw[i0l];have h1:¬(i<(l.length:Int)):=by have:=congrArg List.length h;simp at this;omega
  simp only[tfd,if_neg h1];exact ⟨w,rfl,by simp[b4s],by simp⟩
 | cons z rest ih =>
  intro pre f w i h hi hw;have hlen:=congrArg List.length h;simp at hlen;rw[show f+(z::rest).length+1=(f+rest.length+1)+1 by simp;omega,i0l];have h1:i<(l.length:Int):=by omega
  have hzz:=hz z (by rw[h];simp);simp only[tfd,if_pos h1];rw[d0c h hi,obs,wu64 hzz.1 hzz.2,n0s n w 4 4 z.1 rfl (by omega) (by omega) (by omega),obs,w64 (x:=i+1) (by omega) (by omega)];obtain ⟨w',k1,k2,k3⟩:=ih (pre++[z]) f (w++beI 4 z.1) (i+1) (by rw[h];simp) (by simp;omega) (by simp[f0t];omega);refine ⟨w',k1,?_,by rw[k3];simp[f0t];omega⟩;rw[k2,s0e];simp[b4s]
theorem o1h (n:Nat) (g:a0r) (l:List Chg) (h1:1≤l.length) (hl:l.length≤120) (hz:∀z∈l,0≤z.1∧z.1≤18446744073709551615):l0a (n+6) g l=some ([idx1 l],g):=by
 rw[s0i,q0t];have hc:t0v l (120:Int)=some [(l,())]:=by
  unfold t0v;have e:(decide ((1:Int)≤120)&&decide ((l.length:Int)+120≤4611686018427387904))=true:=by
   rw[Bool.and_eq_true,decide_eq_true_eq,decide_eq_true_eq];omega
  rw[e,tft];have key:∀l:List Chg,1≤l.length→l.length≤120→j0z l.length (120:Int).toNat l=[l]:=by
   intro l h1 hl;cases l with
   | nil=>exact absurd h1 (Nat.not_succ_le_zero 0)
   | cons x t =>
    have e120:(120:Int).toNat=120:=rfl;rw[e120,List.length_cons,e1b];have:(x::t).drop 120=[]:=List.drop_eq_nil_of_le hl;rw[this,g1s,List.take_of_length_le hl]
  have:=key l h1 hl;rw[this];rfl
 rw[hc,obs,n0p];have hfu:(a0c-l.length-1)+l.length+1=a0c:=by unfold a0c;omega
 obtain ⟨w',k1,k2,k3⟩:=k1x (n+4) g [] l (by omega) hz l [] (a0c-l.length-1) [] 0 rfl rfl (by simp);rw[hfu] at k1;simp only[];rw[k1,obs,b0j,j0x,obs];simp only[];have e2:List.map (fun y0=>UInt8.ofNat (Int.toNat y0)) w'=b4s l:=by
  show toB w'=_;rw[k2];rfl
 rw[e2,m1y n (b4s l) (by rw[p0n];omega),obs,tfd,if_pos (by simp),obs,n0z,obs];rfl
def fitB (c:Conf) (d:Dsk):Prop:=OkC c∧siz c=(d.1.length:Int)∧siz c≤16777216
theorem u0p (n:Nat) {c:Conf} {d:Dsk} (h:fitB c d):c0j (n+6) c=some (siz c,0):=by
 rw[k0d n h.1];unfold sizR;rw[if_neg (by have:=h.2.2;omega)]
theorem o0z (n:Nat) {c:Conf} {d:Dsk} (h:¬fitB c d) (hd:d.1.length≤16777216):∃r,c0j (n+6) c=some r∧(r.2≠0∨r.1≠(d.1.length:Int)):=by
 by_cases hc:OkC c
 ·refine ⟨_,k0d n hc,?_⟩;unfold sizR;split
  ·exact .inl (by decide)
  ·rename_i h1;refine .inr fun e=>h ⟨hc,e,by omega⟩
 ·exact ⟨_,q0u n hc,.inl (by decide)⟩
theorem m0s {c:Conf} {d:Dsk} (h:fitB c d) (hd:d.1.length≤120):c.2.2.2.2≤118∧1≤c.2.2.2.2∧idxC c=1∧hom c=2+c.2.2.2.2∧hom c<(d.1.length:Int):=by
 have h1:=h.1.rng;have h2:=h1.log;have h3:=idx_range h1;have h4:=h.2.1;have h5:=v0z h1;have h6:=h1.cap;have h7:0<c.2.2.2.1*plc c:=Int.mul_pos (by omega) (by omega);unfold siz at h4;have h8:c.2.2.2.2≤118:=by unfold hom at h4;omega
 have h9:idxC c=1:=by
  unfold idxC prt;omega
 refine ⟨h8,by omega,h9,by unfold hom;omega,by omega⟩
def secN (x:Sec) (i:Nat):Int:=valI (c0t ((x.drop (4*i)).take 4))
theorem r0b {d:Dsk} (h:d.2.2.2=false) {i:Int} (h0:0≤i) (h1:i<(d.1.length:Int)):(b0v d i).2=0:=by
 unfold b0v;rw[if_neg (by simp[h]),if_pos ⟨h0,h1⟩]
def oneD (h:Int) (d:Dsk) (i:Nat):Option Chg :=
 let k:=secN (b0v d 1).1 i
 if h≤k∧k<(d.1.length:Int) then some (k,(b0v d (2+i)).1) else none
theorem one_val (n:Nat) {m k:Nat} {d:Dsk} (h:ROk m k d) (g:a0p×(Int×Int)) (hup:d.2.2.2=false) (hg:g.2.2=2) (i:Nat) (hi:i<118) (hm:(i:Int)+2<(d.1.length:Int)) :
  n0y (n+7) (d,g) (i:Int)=some ((match oneD g.2.1 d i with | some z=>(z,(0,(d,g))) | none=>((0,[]),(4,(d,g))))):=by
 rw[v0m];simp only[];have e1:IntKind.wrap .i64 ((1:Int)+IntKind.wrap .i64 (Int.tdiv (i:Int) 120))=1:=by
  have:Int.tdiv (i:Int) 120=0:=by
   rw[Int.tdiv_eq_ediv_of_nonneg (by omega)];omega
  rw[this];decide
 have e2:IntKind.wrap .i64 ((4:Int)*Int.tmod (i:Int) 120)=((4*i:Nat):Int):=by
  have:Int.tmod (i:Int) 120=(i:Int):=by
   rw[Int.tmod_eq_emod_of_nonneg (by omega)];omega
  rw[this,w64 (by omega) (by omega)];push_cast;rfl
 have e3:IntKind.wrap .i64 (g.2.2+(i:Int))=2+(i:Int):=by rw[hg,w64 (by omega) (by omega)]
 rw[e1,e2,e3,r0a,obs];simp only[];rw[r0a,obs];have r1:=r0b hup (i:=1) (by omega) (by omega);have r2:=r0b hup (i:=2+(i:Int)) (by omega) (by omega);have s1:=o0b h r1;have s2:=o0b h r2;simp only[r1,r2,decide_true,Bool.not_true,tff];simp only[tfd];rw[if_pos (by omega),if_pos (by rw[s1];omega)];rw[s0b,obs,o0a (n+3) _ 4 4 rfl (by omega) (by omega),obs];have hrd:rd (List.drop ((4*i:Nat):Int).toNat (List.take (b0v d 1).1.length (b0v d 1).1),false) 4=(secN (b0v d 1).1 i,((b0v d 1).1.drop (4*i+4),false)):=by
  rw[List.take_length,Int.toNat_natCast];unfold rd secN;rw[if_neg (by simp[s1];omega),List.drop_drop]
 rw[hrd];have hv:0≤secN (b0v d 1).1 i∧secN (b0v d 1).1 i<4294967296:=l1s (((b0v d 1).1.drop (4*i)).take 4) (by simp;omega);have hw:IntKind.wrap .i64 (secN (b0v d 1).1 i)=secN (b0v d 1).1 i:=w64 (by omega) (by omega);simp only[];rw[hw,n1q,obs];unfold oneD mayC;simp only[];by_cases hk:g.2.1≤secN (b0v d 1).1 i∧secN (b0v d 1).1 i<(d.1.length:Int)
 ·rw[if_pos hk];have:decide (g.2.1≤secN (b0v d 1).1 i∧secN (b0v d 1).1 i<(d.1.length:Int)∧(b0v d (2+(i:Int))).1.length=512)=true:=by
   rw[decide_eq_true_eq];exact ⟨hk.1,hk.2,s2⟩
  rw[this];simp[b0p]
 ·rw[if_neg hk];have:decide (g.2.1≤secN (b0v d 1).1 i∧secN (b0v d 1).1 i<(d.1.length:Int)∧(b0v d (2+(i:Int))).1.length=512)=false:=by
   rw[decide_eq_false_iff_not];exact fun q=>hk ⟨q.1,q.2.1⟩
  rw[this];simp[b0p]
def n0r (d:Dsk) (i:Int) (r:Nat):List Sec:=(List.range r).map fun (j:Nat)=>(b0v d (i+(j:Int))).1
theorem z0i (d:Dsk) (i:Int) (r:Nat):n0r d i (r+1)=(b0v d i).1::n0r d (i+1) r:=by
 unfold n0r;rw[List.range_succ_eq_map,List.map_cons,List.map_map];congr 1
 ·simp
 ·apply List.map_congr_left;intro j _;show (b0v d (i+((j+1:Nat):Int))).1=_;congr 2
  push_cast;omega
theorem o1j (n:Nat) {d:Dsk} (hup:d.2.2.2=false) (hd:d.1.length≤100000) (g:Unit×(a0p×(Int×Int))):∀(r f:Nat) (out:List Sec) (i:Int),i+(r:Int)=(d.1.length:Int)→0≤i→out.length+r≤100000 →
  k0i (n+1) (f+r+1) (d,(g,(out,(i,()))))=some (.inl (d,(out++n0r d i r,()))):=by
 intro r;induction r with
 | zero =>
  intro f out i h h0 ho;rw[j0l,b0d,obs];rw[tfd,if_neg (by omega)];simp[n0r]
 | succ r ih =>
  intro f out i h h0 ho;rw[show f+(r+1)+1=(f+r+1)+1 by omega,j0l,b0d,obs,tfd,if_pos (by omega),r0a,obs];have r1:=r0b hup (i:=i) h0 (by omega);simp only[r1,decide_true,Bool.not_true,tff];rw[tfd,if_pos (by omega),w64 (x:=i+1) (by omega) (by omega),ih f _ (i+1) (by omega) (by omega) (by simp;omega),z0i];simp
theorem j1g (n:Nat) {m k:Nat} {d:Dsk} (h:ROk m k d) (hm:m≤120) (c:Conf):d0y (n+8) d c=some (open Classical in if fitB c d then (if d.2.2.2=true then ([],(14,d)) else (n0r d (hom c) (d.1.length-(hom c).toNat),(0,d))) else ([],(2,d))):=by
 have hl:=h.len;rw[c1d];by_cases hf:fitB c d
 ·obtain ⟨q1,q2,q3,q4,q5⟩:=m0s hf (by omega);rw[if_pos hf,u0p n hf,obs,b0d,obs];simp only[tfn,tfd];rw[if_pos trivial,if_pos hf.2.1,p0g (n+1) hf.1,obs,o0p (n+2) hf.1,obs];cases hd:d.2.2.2 with
  | true =>
   rw[if_pos rfl];have hfu:a0c=(a0c-1)+1:=by unfold a0c;omega
   rw[hfu,j0l,b0d,obs,tfd,if_pos q5,r0a,obs];have r1:b0v d (hom c)=([],14):=by unfold b0v;rw[if_pos hd]
   rw[r1];rfl
  | false =>
   rw[if_neg (by decide)];have hfu:(a0c-(d.1.length-(hom c).toNat)-1)+(d.1.length-(hom c).toNat)+1=a0c:=by unfold a0c;omega
   have:=o1j (n+6) hd (by omega) ((),(c,(hom c,IntKind.wrap .i64 (1+idxC c)))) (d.1.length-(hom c).toNat) (a0c-(d.1.length-(hom c).toNat)-1) [] (hom c) (by omega) (by omega) (by simp;omega);rw[hfu] at this;rw[this,obs,b0j];rfl
 ·rw[if_neg hf];obtain ⟨r,e1,e2⟩:=o0z n hf (by omega);rw[e1,obs];simp only[tfn,tfd];by_cases h0:r.2=0
  ·rw[if_pos h0,b0d,obs,if_neg (e2.resolve_left (fun q=>q h0))]
  ·rw[if_neg h0]
def secC:Int→List Sec→List Chg
 | _,[]=>[]
 | i,s::r=>(i,s)::secC (i+1) r
theorem j0g:∀(l:List Sec) (i:Int),(secC i l).length=l.length
 | [],_=>rfl
 | s::r,i=>by simp[secC,j0g r]
theorem g1e (n:Nat) (d:Dsk) (g:Unit×(a0p×(Int×Int))) (h0:0≤g.2.2.1) (h1:g.2.2.1≤100000) (l:List Sec) (hl:l.length≤100000):∀(rest pre:List Sec) (f:Nat) (out:List Chg) (i:Int),l=pre++rest→i=pre.length→out.length=pre.length →
  g0y n (f+rest.length+1) (d,(g,(out,(l,((l.length:Int),(i,()))))))=some (.inl (d,(((),g.2),(out++secC (g.2.2.1+i) rest,())))):=by
 intro rest;induction rest generalizing g with
 | nil =>
  intro pre f out i h hi ho;rw[l0i];have h1:¬(i<(l.length:Int)):=by have:=congrArg List.length h;simp at this;omega
  simp only[tfd,if_neg h1];simp[secC]
 | cons z rest ih =>
  intro pre f out i h hi ho;have hlen:=congrArg List.length h;simp at hlen;rw[show f+(z::rest).length+1=(f+rest.length+1)+1 by simp;omega,l0i];have h2:i<(l.length:Int):=by omega
  simp only[tfd,if_pos h2];rw[d0c h hi,obs,if_pos (by omega),w64 (x:=g.2.2.1+i) (by omega) (by omega),w64 (x:=i+1) (by omega) (by omega)];rw[ih ((),g.2) h0 h1 (pre++[z]) f (out++[(g.2.2.1+i,z)]) (i+1) (by rw[h];simp) (by simp;omega) (by simp;omega)];simp only[];rw[show g.2.2.1+(i+1)=g.2.2.1+i+1 by omega];simp[secC]
def formatD (c:Conf) (d:Dsk) (home:List Sec):Int×Dsk:=wss d [(secC (hom c) home).drop 1,ptrC 1 0::(secC (hom c) home).take 1]
theorem z0v (n:Nat) {m k:Nat} {d:Dsk} (h:ROk m k d) (hm:m≤120) (hk:k≤900000) (c:Conf) (home:List Sec) (hl:home.length≤100000):j0m (n+9) d c home=some (open Classical in if fitB c d then (if (home.length:Int)=(d.1.length:Int)-hom c∧∀s∈home,s.length=512 then formatD c d home else (1,d)) else (2,d)):=by
 have hlen:=h.len;rw[x0h];by_cases hf:fitB c d
 ·obtain ⟨q1,q2,q3,q4,q5⟩:=m0s hf (by omega);rw[if_pos hf,u0p (n+1) hf,obs,b0d,obs];simp only[tfn,tfd];rw[if_pos trivial,if_pos hf.2.1,p0g (n+2) hf.1,obs,o0p (n+3) hf.1,obs,b0d,obs,w64 (x:=(d.1.length:Int)-hom c) (by omega) (by omega)];by_cases h1:(home.length:Int)=(d.1.length:Int)-hom c
  ·rw[if_pos h1,b1j (n+6) (p:=fun s => !(decide ((s.length:Int)=512))) home (fun x _=>by simp only[];rw[u0e]) (by omega),obs];by_cases h2:∀s∈home,s.length=512
   ·rw[if_pos ⟨h1,h2⟩];have ha:(home.any fun s => !(decide ((s.length:Int)=512)))=false:=by
     rw[List.any_eq_false];intro s hs;have:=h2 s hs;simp;omega
    rw[ha,tff];have hfu:(a0c-home.length-1)+home.length+1=a0c:=by unfold a0c;omega
    have:=g1e (n+8) d ((),(c,(hom c,IntKind.wrap .i64 (1+idxC c)))) (by show (0:Int)≤hom c;omega) (by show hom c≤(100000:Int);omega) home hl home [] (a0c-home.length-1) [] 0 rfl rfl rfl;rw[hfu] at this;rw[this,obs,b0j];simp only[List.nil_append];rw[show hom c+(0:Int)=hom c by omega];have hsl:=j0g home (hom c);have hpos:1≤(secC (hom c) home).length:=by omega
    rw[if_pos hpos,j0s (n+2) 1 0 (by decide) (by decide),obs];generalize hG:secC (hom c) home=G at hsl hpos
    match G,hpos with
    | z::t,_ =>
     have e1:at? (z::t) (0:Int)=some z:=rfl;rw[e1,obs,show (z::t)[0]? = some z from rfl,obs];have e2:List.take ((z::t).length-1) (List.drop 1 (z::t))=t:=by simp
     rw[e2,v0d (n+4) m k (by omega) _ _ d h (by simp[sumL] at hsl ⊢;omega) (by simp) (by
      intro a ha;simp only[List.mem_cons,List.not_mem_nil,or_false] at ha;simp at hsl;rcases ha with rfl | rfl
      ·omega
      ·simp),obs]
     unfold formatD;rw[hG];simp
   ·rw[if_neg (fun q=>h2 q.2)];have ha:(home.any fun s => !(decide ((s.length:Int)=512)))=true:=by
     rw[List.any_eq_true];apply Classical.byContradiction;intro hno;refine h2 fun s hs => ?_
     apply Classical.byContradiction;intro hne;exact hno ⟨s,hs,by simp;omega⟩
    rw[ha,tft]
  ·rw[if_neg h1,if_neg (fun q=>h1 q.1)]
 ·rw[if_neg hf];obtain ⟨r,e1,e2⟩:=o0z (n+1) hf (by omega);rw[e1,obs];simp only[tfn,tfd];by_cases h0:r.2=0
  ·rw[if_pos h0,b0d,obs,if_neg (e2.resolve_left (fun q=>q h0))]
  ·rw[if_neg h0]
def recF (h:Int) (d:Dsk):Nat→Nat→Option (List Chg)
 | 0,_=>some []
 | r+1,i=>(oneD h d i).bind fun z=>(recF h d r (i+1)).map (z :: ·)
theorem c1e (n:Nat) {m k:Nat} {d:Dsk} (h:ROk m k d) (hup:d.2.2.2=false) (g:Unit×(a0p×(Int×Int))) (hg:g.2.2.2=2) (num many:Int) (hmany:many≤118) (hm:many+2≤(d.1.length:Int)):∀(r f:Nat) (l:List Chg) (i:Nat),(i:Int)+(r:Int)=many→l.length+r≤100000 →
  f0i (n+7) (f+r+1) (d,(g,(num,(many,(l,(many,((i:Int),())))))))=some (match recF g.2.2.1 d r i with | some l' => .inl (d,(((),g.2),(num,(many,(l++l',()))))) | none => .inr (0,(4,d))):=by
 intro r;induction r generalizing g with
 | zero =>
  intro f l i hi hl;rw[j0k,tfd,if_neg (by omega)];simp[recF]
 | succ r ih =>
  intro f l i hi hl;rw[show f+(r+1)+1=(f+r+1)+1 by omega,j0k,tfd,if_pos (by omega),one_val n h g.2 hup hg i (by omega) (by omega),obs];unfold recF;cases ho:oneD g.2.2.1 d i with
  | none =>
   simp only[Option.bind_none];rfl
  | some z =>
   simp only[Option.bind_some,decide_true,Bool.not_true,tff,tfd];rw[if_pos (by omega),w64 (x:=(i:Int)+1) (by omega) (by omega)];have:=ih ((),g.2) hg f (l++[z]) (i+1) (by push_cast;omega) (by simp;omega);rw[show ((i+1:Nat):Int)=(i:Int)+1 by push_cast;rfl] at this;refine this.trans ?_;simp only[];cases recF g.2.2.1 d r (i+1) with
   | none=>rfl
   | some l'=>simp
theorem m0h (h:Int) (d:Dsk):∀(r i:Nat) (l:List Chg),recF h d r i=some l→l.length=r
 | 0,i,l,e=>by simp[recF] at e;rw[e];rfl
 | r+1,i,l,e=>by
  simp only[recF] at e;obtain ⟨z,_,e⟩:=Option.bind_eq_some_iff.1 e;obtain ⟨l',h1,rfl⟩:=Option.map_eq_some_iff.1 e;simp[m0h h d r (i+1) l' h1]
theorem v0q {d:Dsk} {i:Int} (h:(b0v d i).2=0):d.2.2.2=false:=by
 unfold b0v at h;cases hd:d.2.2.2 with
 | false=>rfl
 | true=>rw[if_pos hd] at h;cases h
theorem v0y {d:Dsk} (h:(a0m d).2.2=0):d.2.2.2=false:=by
 unfold a0m at h;split at h
 ·rename_i h0;exact v0q h0
 ·exact v0q h
theorem m0n {d:Dsk}:0≤(a0m d).2.1∧(a0m d).2.1<4294967296:=by
 unfold a0m;split
 ·split
  ·exact l1s _ (by simp;omega)
  ·exact ⟨Int.le_refl _,by show (0:Int)<4294967296;decide⟩
 ·exact ⟨Int.le_refl _,by show (0:Int)<4294967296;decide⟩
def recoverD (c:Conf) (d:Dsk):Int×(Int×Dsk) :=
 if (a0m d).2.2=0 then
  if (a0m d).2.1=0 then (0,(0,d)) else
  if c.2.2.2.2<(a0m d).2.1 then (0,(4,d)) else
  match recF (hom c) d (a0m d).2.1.toNat 0 with
  | none=>(0,(4,d))
  | some l=>if (wss d [l,[ptrC (a0m d).1 0]]).1=0 then ((a0m d).2.1,(0,(wss d [l,[ptrC (a0m d).1 0]]).2)) else (0,wss d [l,[ptrC (a0m d).1 0]])
 else (0,((a0m d).2.2,d))
theorem x0e (n:Nat) {m k:Nat} {d:Dsk} (h:ROk m k d) (hm:m≤120) (hk:k≤900000) (c:Conf):k0h (n+9) d c=some (open Classical in if fitB c d then recoverD c d else (0,(2,d))):=by
 have hlen:=h.len;rw[v0o];by_cases hf:fitB c d
 ·obtain ⟨q1,q2,q3,q4,q5⟩:=m0s hf (by omega);rw[if_pos hf,u0p (n+1) hf,obs,b0d,obs];simp only[tfn,tfd];rw[if_pos trivial,if_pos hf.2.1,p0g (n+2) hf.1,obs,o0p (n+3) hf.1,obs,k0a (n+1) h,obs];unfold recoverD;have hpm:=m0n (d:=d);by_cases h0:(a0m d).2.2=0
  ·have hup:=v0y h0;rw[if_pos h0,if_pos h0];by_cases h1:(a0m d).2.1=0
   ·rw[if_pos h1,if_pos h1]
   rw[if_neg h1,if_neg h1];by_cases h2:c.2.2.2.2<(a0m d).2.1
   ·rw[if_pos h2,if_pos h2]
   rw[if_neg h2,if_neg h2];have e2:IntKind.wrap .i64 (1+idxC c)=2:=by rw[q3];decide
   rw[e2];have hfu:(a0c-(a0m d).2.1.toNat-1)+(a0m d).2.1.toNat+1=a0c:=by unfold a0c;omega
   have:=c1e (n+1) h hup ((),(c,(hom c,2))) rfl (a0m d).1 (a0m d).2.1 (by omega) (by omega) (a0m d).2.1.toNat (a0c-(a0m d).2.1.toNat-1) [] 0 (by omega) (by simp;omega);rw[hfu] at this;rw[show (0:Int)=((0:Nat):Int) from rfl] at this ⊢;rw[this,obs];simp only[];cases hr:recF (hom c) d (a0m d).2.1.toNat 0 with
   | none=>rfl
   | some l =>
    simp only[b0j,List.nil_append];have hll:=m0h _ _ _ _ _ hr;rw[show ((0:Nat):Int)=0 from rfl,j0s (n+2) (a0m d).1 0 (by decide) (by decide),obs,v0d (n+4) m k (by omega) _ _ d h (by simp[sumL];omega) (by simp) (by
     intro a ha;simp only[List.mem_cons,List.not_mem_nil,or_false] at ha;rcases ha with rfl | rfl
     ·omega
     ·simp),obs]
    simp only[tfn,tfd];by_cases hw:(wss d [l,[ptrC (a0m d).1 0]]).1=0
    ·rw[if_pos hw,if_pos hw]
    ·rw[if_neg hw,if_neg hw]
  ·rw[if_neg h0,if_neg h0]
 ·rw[if_neg hf];obtain ⟨r,e1,e2⟩:=o0z (n+1) hf (by omega);rw[e1,obs];simp only[tfn,tfd];by_cases h0:r.2=0
  ·rw[if_pos h0,b0d,obs,if_neg (e2.resolve_left (fun q=>q h0))]
  ·rw[if_neg h0]
def j1o (x:Int):Int:=IntKind.wrap .u64 (x+1)
def comL (num:Int) (l:List Chg):List (List Chg):=[txtF 2 l++[idx1 l],[ptrC (j1o num) l.length],l,[ptrC (j1o num) 0]]
def commitD (c:Conf) (d:Dsk) (l:List Chg):Int×Dsk :=
 if c.2.2.2.2<(l.length:Int) then (1,d) else
 if l.all (mayC (hom c) (d.1.length:Int))=true then
  if (a0m d).2.2=0 then
   if 0<(a0m d).2.1 then (7,d) else
   if l.length=0 then (0,d) else wss d (comL (a0m d).1 l)
  else ((a0m d).2.2,d)
 else (1,d)
theorem b1n (num:Int) (l:List Chg):sumL (comL num l)=2*l.length+3:=by
 simp[sumL,comL,f0k];omega
theorem t0i (n:Nat) {m k:Nat} {d:Dsk} (h:ROk m k d) (hm:m≤120) (hk:k≤900000) (c:Conf) (l:List Chg):f0l (n+9) d c l=some (open Classical in if fitB c d then commitD c d l else (2,d)):=by
 have hlen:=h.len;rw[x0i];by_cases hf:fitB c d
 ·obtain ⟨q1,q2,q3,q4,q5⟩:=m0s hf (by omega);rw[if_pos hf,u0p (n+1) hf,obs,b0d,obs];simp only[tfn,tfd];rw[if_pos trivial,if_pos hf.2.1,p0g (n+2) hf.1,obs,o0p (n+3) hf.1,obs];unfold commitD;by_cases h1:c.2.2.2.2<(l.length:Int)
  ·rw[if_pos h1,if_pos h1]
  rw[if_neg h1,if_neg h1];have e2:IntKind.wrap .i64 (1+idxC c)=2:=by rw[q3];decide
  rw[e2,b1k (n+6) (p:=fun x => !(mayC (hom c) (d.1.length:Int) x)) l (fun x _=>by simp only[];rw[u0f,n1q,obs]) (by omega),obs];have ha:(l.any fun x => !(mayC (hom c) (d.1.length:Int) x)) = !(l.all (mayC (hom c) (d.1.length:Int))):=by
   simp[List.all_eq_not_any_not]
  rw[ha];cases hal:l.all (mayC (hom c) (d.1.length:Int)) with
  | false =>
   rw[if_neg (by decide)];rfl
  | true =>
   rw[if_pos rfl];simp only[Bool.not_true,tff];rw[k0a (n+1) h,obs];simp only[];by_cases h0:(a0m d).2.2=0
   ·rw[if_pos h0,if_pos h0];by_cases hp:0<(a0m d).2.1
    ·rw[if_pos hp,if_pos hp]
    rw[if_neg hp,if_neg hp];by_cases hz:l.length=0
    ·rw[if_pos (by omega),if_pos hz]
    rw[if_neg (by omega),if_neg hz];have hl2:l.length≤118:=by omega
    have hmay:∀z∈l,0≤z.1∧z.1≤18446744073709551615:=by
     intro z hz;have:=List.all_eq_true.1 hal z hz;unfold mayC at this;rw[decide_eq_true_eq] at this;omega
    rw[m1b (n+6) _ (by show (0:Int)≤2;decide) (by show (2:Int)≤100000;decide) l (by omega),obs];simp only[];rw[o1h (n+2) _ l (by omega) (by omega) hmay,obs];simp only[];have hs:=b1n (a0m d).1 l;rw[if_pos (by rw[f0k];simp;omega),j0s (n+2) _ _ (by omega) (by omega),obs,j0s (n+2) _ 0 (by decide) (by decide),obs];have hst:=v0d (n+4) m k (by omega) (c,(hom c,2)) (comL (a0m d).1 l) d h (by omega) (by simp[comL]) (by
      intro a ha;simp only[comL,List.mem_cons,List.not_mem_nil,or_false] at ha;rcases ha with rfl | rfl | rfl | rfl
      ·simp[f0k];omega
      ·simp
      ·omega
      ·simp)
    change a0d (e0c (n+4+4) (d,(c,(hom c,2))) (comL (a0m d).1 l)) _=_
    rw[hst,obs]
   ·rw[if_neg h0,if_neg h0]
 ·rw[if_neg hf];obtain ⟨r,e1,e2⟩:=o0z (n+1) hf (by omega);rw[e1,obs];simp only[tfn,tfd];by_cases h0:r.2=0
  ·rw[if_pos h0,b0d,obs,if_neg (e2.resolve_left (fun q=>q h0))]
  ·rw[if_neg h0]
def zd:Dsk:=([],([],(0,false)))
theorem e1u (n m:Nat) (hm:m≤16777216) (l:List Chg) (hl:l.length≤100000):∀(rest pre:List Chg) (f k:Nat) (d:Dsk) (i:Int),l=pre++rest→i=pre.length→ROk m k d→k+rest.length≤1000000 →
  a0d (k0j (n+2) (f+rest.length+1) (d,(zd,(l,((l.length:Int),(i,())))))) (fun r0=>d0b (fun y1=>a0d (i0u (n+2) y1.1) fun r2=>some r2) (fun z3=>some z3) r0)=some ((wrs d rest).2,(wrs d rest).1):=by
 intro rest;induction rest with
 | nil =>
  intro pre f k d i h hi hd hk;rw[o0d];have h1:¬(i<(l.length:Int)):=by have:=congrArg List.length h;simp at this;omega
  simp only[tfd,if_neg h1,obs,b0j];rw[m1l n d (hd.ok hm (by omega)) hd.arm1 hd.arm0,obs];rfl
 | cons z rest ih =>
  intro pre f k d i h hi hd hk;have hlen:=congrArg List.length h;simp at hlen hk;rw[show f+(z::rest).length+1=(f+rest.length+1)+1 by simp;omega,o0d];have h1:i<(l.length:Int):=by omega
  simp only[tfd,if_pos h1];rw[d0c h hi,obs,y0r n d z.1 z.2 hd.arm1 hd.arm0 (by have:=hd.pen;omega),obs];unfold wrs;by_cases hw:(n0e d z.1 z.2).1=0
  ·simp only[tfn,tfd];rw[if_pos hw,if_pos hw,w64 (x:=i+1) (by omega) (by omega)];exact ih (pre++[z]) f (k+1) _ (i+1) (by rw[h];simp) (by simp;omega) (hd.write z.1 z.2) (by omega)
  ·simp only[tfn,tfd];rw[if_neg hw,if_neg hw];rfl
theorem v0j (n m k:Nat) (hm:m≤16777216) (l:List Chg) (d:Dsk) (hd:ROk m k d) (hk:k+l.length≤1000000) (hl:l.length≤100000):j0n (n+3) d l=some ((wrs d l).2,(wrs d l).1):=by
 rw[c1g];have hfu:(a0c-l.length-1)+l.length+1=a0c:=by unfold a0c;omega
 have:=e1u n m hm l hl l [] (a0c-l.length-1) k d 0 rfl rfl hd hk;rw[hfu] at this;exact this
theorem h1p (n:Nat) (s:List UInt8) (h:s.length≤512):v0r (n+1) s=some (zpad s):=by
 rw[j1z,tfd];by_cases h1:(512:Int)≤(s.length:Int)
 ·rw[if_pos h1];have:512-s.length=0:=by omega
  unfold zpad;rw[this];simp
 ·rw[if_neg h1,w64 (by omega) (by omega)];have c1:(decide ((0:Int)≤(512:Int)-(s.length:Int))&&(decide ((512:Int)-(s.length:Int)≤(512:Int)-(s.length:Int))&&decide (((512:Int)-(s.length:Int))*1≤140737488355328)))=true:=by
   rw[Bool.and_eq_true,Bool.and_eq_true,decide_eq_true_eq,decide_eq_true_eq,decide_eq_true_eq];omega
  rw[c1,tft];have e:((512:Int)-(s.length:Int)).toNat=512-s.length:=by omega
  have e2:List.map (fun y0=>UInt8.ofNat (Int.toNat y0)) (List.replicate ((512:Int)-(s.length:Int)).toNat (0:Int))=List.replicate (512-s.length) 0:=by
   rw[e,List.map_replicate];rfl
  rw[e2,tfd,if_pos (by simp;omega)];rfl
theorem h0p (n:Nat) (num many:Int) (hn:0≤num∧num≤18446744073709551615) (h0:0≤many) (h1:many≤9223372036854775807):f0m (n+2) num many=some (ptrC num many):=by
 rw[x0k,v0w n 8 8 num rfl (by omega) (by omega) hn.1 hn.2,obs,wu64 h0 (by omega),v0w n 4 4 many rfl (by omega) (by omega) h0 (by omega)];simp only[tfd];rw[if_pos (by simp[l0g,f0t]),obs,if_pos (by simp[l0g,f0t])];have e:((114:UInt8)::(101:UInt8)::(100:UInt8)::(111:UInt8)::[])++toB (beI 8 num)++toB (beI 4 many)=ptrB num many:=rfl;rw[e,h1p n _ (by rw[v0x];omega),obs];rfl
theorem valI8 (l:List UInt8) (h:l.length≤8):0≤valI (c0t l)∧valI (c0t l)≤18446744073709551615:=by
 have h1:=h1q (l,false) l.length;unfold rd at h1;rw[if_neg (by simp)] at h1;simp only[List.take_length] at h1;have key:∀k:Nat,k≤8→(256:Int)^k≤18446744073709551616:=by
  intro k hk
  match k,hk with
  | 0,_ | 1,_ | 2,_ | 3,_ | 4,_ | 5,_ | 6,_ | 7,_ | 8,_=>decide
 have:=key _ h;exact ⟨h1.1,by omega⟩
theorem o0c (n:Nat) {m k:Nat} {d:Dsk} (h:ROk m k d) (hk:k≤1000000):c0n (n+3) d=some (a0m d):=by
 have hp:=h.pen;rw[x0m,n0w (n+1) d 0 (by omega),obs];unfold a0m;simp only[tfn,tfd];by_cases h0:(b0v d 0).2=0
 ·rw[if_pos h0,if_pos h0];have hs:=o0b h h0;generalize (b0v d 0).1=s at hs ⊢;rw[if_pos (by omega),List.take_length,h0y n (s.drop 4,false) 8 8 rfl (by omega) (by omega),obs];have r1:rd (s.drop 4,false) 8=(ptrN s,(s.drop 12,false)):=by
   unfold rd ptrN;rw[if_neg (by simp;omega),List.drop_drop]
  rw[r1,h0y n (s.drop 12,false) 4 4 rfl (by omega) (by omega),obs];have r2:rd (s.drop 12,false) 4=(ptrM s,(s.drop 16,false)):=by
   unfold rd ptrM;rw[if_neg (by simp;omega),List.drop_drop]
  rw[r2];have hM:0≤ptrM s∧ptrM s<4294967296:=l1s ((s.drop 12).take 4) (by simp;omega);have hN:0≤ptrN s∧ptrN s≤18446744073709551615:=valI8 ((s.drop 4).take 8) (by simp;omega);simp only[];rw[w64 (x:=ptrM s) (by omega) (by omega),h0p n _ _ hN hM.1 (by omega),obs];by_cases hp:ptrS (ptrN s) (ptrM s)=s
  ·rw[if_pos hp];have:((ptrC (ptrN s) (ptrM s)).2==s)=true:=by simp[ptrC,hp]
   rw[this,tft]
  ·rw[if_neg hp];have:((ptrC (ptrN s) (ptrM s)).2==s)=false:=by simp[ptrC,hp]
   rw[this,tff]
 ·rw[if_neg h0,if_neg h0]
theorem q0w (n:Nat) {c:Conf} {d:Dsk} (h:fitB c d):m0i (n+7) d c=some true:=by
 have:=(m1f n h.1).2;rw[v0s,this,obs];unfold sizR;rw[if_neg (by have:=h.2.2;omega),tfd,if_pos rfl];simp[h.2.1]
theorem u0q (n:Nat) {c:Conf} {d:Dsk} (h:¬fitB c d) (hd:d.1.length≤16777216):m0i (n+7) d c=some false:=by
 rw[v0s];by_cases hc:OkC c
 ·rw[(m1f n hc).2,obs];unfold sizR;by_cases h1:16777216<siz c
  ·rw[if_pos h1,tfd,if_neg (by decide)]
  ·rw[if_neg h1,tfd,if_pos rfl];congr 1;rw[decide_eq_false_iff_not];exact fun e=>h ⟨hc,e,by omega⟩
 ·rw[(size_no n hc).2,obs,tfd,if_neg (by decide)]
theorem j1w (n:Nat) {d:Dsk} (hup:d.2.2.2=false) (hd:d.1.length≤100000) (hp:d.2.1.length≤1000000):∀(r f:Nat) (out:List Sec) (i:Int),i+(r:Int)=(d.1.length:Int)→0≤i→out.length+r≤100000 →
  m0j (n+1) (f+r+1) (d,(out,(i,())))=some (.inl (out++n0r d i r,())):=by
 intro r;induction r with
 | zero =>
  intro f out i h h0 ho;rw[l0b,tfd,if_neg (by omega)];simp[n0r]
 | succ r ih =>
  intro f out i h h0 ho;rw[show f+(r+1)+1=(f+r+1)+1 by omega,l0b,tfd,if_pos (by omega),n0w n d i hp,obs];have r1:=r0b hup (i:=i) h0 (by omega);simp only[r1,decide_true,Bool.not_true,tff];rw[tfd,if_pos (by omega),w64 (x:=i+1) (by omega) (by omega),ih f _ (i+1) (by omega) (by omega) (by simp;omega),z0i];simp
theorem m1s (n:Nat) {m k:Nat} {d:Dsk} (h:ROk m k d) (hm:m≤120) (hk:k≤1000000) (c:Conf):g0z (n+8) d c=some (open Classical in if fitB c d then (if d.2.2.2=true then ([],14) else (n0r d (hom c) (d.1.length-(hom c).toNat),0)) else ([],2)):=by
 have hl:=h.len;have hp:=h.pen;rw[f1e];by_cases hf:fitB c d
 ·obtain ⟨q1,q2,q3,q4,q5⟩:=m0s hf (by omega);rw[if_pos hf,q0w n hf,obs];simp only[Bool.not_true,tff];rw[(s0v (n+2) hf.1).2,obs];cases hd:d.2.2.2 with
  | true =>
   rw[if_pos rfl];have hfu:a0c=(a0c-1)+1:=by unfold a0c;omega
   rw[hfu,l0b,tfd,if_pos q5,n0w (n+6) d _ (by omega),obs];have r1:b0v d (hom c)=([],14):=by unfold b0v;rw[if_pos hd]
   rw[r1];rfl
  | false =>
   rw[if_neg (by decide)];have hfu:(a0c-(d.1.length-(hom c).toNat)-1)+(d.1.length-(hom c).toNat)+1=a0c:=by unfold a0c;omega
   have:=j1w (n+6) hd (by omega) (by omega) (d.1.length-(hom c).toNat) (a0c-(d.1.length-(hom c).toNat)-1) [] (hom c) (by omega) (by omega) (by simp;omega);rw[hfu] at this;rw[this,obs,b0j];rfl
 ·rw[if_neg hf,u0q n hf (by omega),obs];rfl
theorem c1c (n:Nat) (d:Dsk) (at_:Int) (h0:0≤at_) (h1:at_≤100000) (l:List Sec) (hl:l.length≤100000):∀(rest pre:List Sec) (f:Nat) (out:List Chg) (i:Int),l=pre++rest→i=pre.length→out.length≤pre.length →
  f0w n (f+rest.length+1) (l,(d,(zd,(at_,(out,(l,((l.length:Int),(i,()))))))))=some (if ∀s∈rest,s.length=512 then .inl (l,(d,(zd,(at_,(out++(if i=0 then (secC (at_+i) rest).drop 1 else secC (at_+i) rest),()))))) else .inr (d,1)):=by
 intro rest;induction rest with
 | nil =>
  intro pre f out i h hi ho;rw[n0h];have h1:¬(i<(l.length:Int)):=by have:=congrArg List.length h;simp at this;omega
  simp only[tfd,if_neg h1];simp[secC]
 | cons z rest ih =>
  intro pre f out i h hi ho;have hlen:=congrArg List.length h;simp at hlen;rw[show f+(z::rest).length+1=(f+rest.length+1)+1 by simp;omega,n0h];have h2:i<(l.length:Int):=by omega
  simp only[tfn,tfd,if_pos h2];rw[d0c h hi,obs];by_cases hz:z.length=512
  ·rw[if_pos (by omega),w64 (x:=i+1) (by omega) (by omega)];have hall:(∀s∈z::rest,s.length=512)↔∀s∈rest,s.length=512:=by simp[hz]
   by_cases hi0:(0:Int)<i
   ·rw[if_pos hi0,if_pos (by omega),w64 (x:=at_+i) (by omega) (by omega),ih (pre++[z]) f (out++[(at_+i,z)]) (i+1) (by rw[h];simp) (by simp;omega) (by simp;omega)];congr 1;by_cases hr:∀s∈rest,s.length=512
    ·rw[if_pos hr,if_pos (hall.2 hr),if_neg (by omega),if_neg (by omega),show at_+(i+1)=at_+i+1 by omega];simp[secC]
    ·rw[if_neg hr,if_neg (fun q=>hr (hall.1 q))]
   ·rw[if_neg hi0,ih (pre++[z]) f out (i+1) (by rw[h];simp) (by simp;omega) (by simp;omega)];congr 1;by_cases hr:∀s∈rest,s.length=512
    ·rw[if_pos hr,if_pos (hall.2 hr),if_neg (by omega),if_pos (by omega),show at_+(i+1)=at_+i+1 by omega];simp[secC]
    ·rw[if_neg hr,if_neg (fun q=>hr (hall.1 q))]
  ·rw[if_neg (by omega),if_neg (fun q=>hz (q z (by simp)))]
theorem f1c (n:Nat) {m k:Nat} {d:Dsk} (h:ROk m k d) (hm:m≤120) (hk:k≤900000) (c:Conf) (home:List Sec) (hl:home.length≤100000):s0j (n+9) d c home=some (open Classical in if fitB c d then (if (home.length:Int)=(d.1.length:Int)-hom c∧∀s∈home,s.length=512 then ((formatD c d home).2,(formatD c d home).1) else (d,1)) else (d,2)):=by
 have hlen:=h.len;rw[a1h];by_cases hf:fitB c d
 ·obtain ⟨q1,q2,q3,q4,q5⟩:=m0s hf (by omega);rw[if_pos hf,q0w (n+1) hf,obs];simp only[Bool.not_true,tff];rw[(s0v (n+3) hf.1).2,obs,w64 (x:=(d.1.length:Int)-hom c) (by omega) (by omega)];simp only[tfn,tfd];by_cases h1:(home.length:Int)=(d.1.length:Int)-hom c
  ·rw[if_pos h1];have hfu:(a0c-home.length-1)+home.length+1=a0c:=by unfold a0c;omega
   have:=c1c (n+8) d (hom c) (by omega) (by omega) home hl home [] (a0c-home.length-1) [] 0 rfl rfl (by simp);rw[hfu] at this;rw[show (zd:Dsk)=([],([],((0:Int),false))) from rfl] at this;rw[this,obs];by_cases h2:∀s∈home,s.length=512
   ·rw[if_pos h2,if_pos (show (home.length:Int)=(d.1.length:Int)-hom c∧∀s∈home,s.length=512 from ⟨h1,h2⟩)];simp only[b0j,List.nil_append];rw[if_pos trivial,show hom c+(0:Int)=hom c by omega];have hsl:=j0g home (hom c);obtain ⟨s,t,rfl⟩:∃s t,home=s::t:=by
     cases home with
     | nil=>simp only[List.length_nil] at h1;omega
     | cons s t=>exact ⟨s,t,rfl⟩
    simp only[List.length_cons] at hl;have ht120:t.length≤120:=by rw[List.length_cons] at h1;omega
    have e1:(secC (hom c) (s::t)).drop 1=secC (hom c+1) t:=rfl;have e2:(secC (hom c) (s::t)).take 1=[(hom c,s)]:=rfl;have hst:=j0g t (hom c+1);rw[e1,v0j (n+5) m k (by omega) _ d h (by omega) (by omega),obs];unfold formatD;rw[e1,e2];unfold wss;by_cases hw:(wrs d (secC (hom c+1) t)).1=0
    ·rw[if_pos hw,if_pos hw,h0p (n+6) 1 0 (by decide) (by decide) (by decide),obs];rw[show at? (s::t) (0:Int)=some s from rfl,obs,v0j (n+5) m (k+(secC (hom c+1) t).length) (by omega) _ _ (ROk.wrs _ h) (by simp;omega) (by simp),obs];unfold wss;by_cases hw2:(wrs (wrs d (secC (hom c+1) t)).2 [ptrC 1 0,(hom c,s)]).1=0
     ·rw[if_pos hw2];unfold wss;rw[hw2]
     ·rw[if_neg hw2]
    ·rw[if_neg hw,if_neg hw]
   ·rw[if_neg h2,if_neg (fun q=>h2 q.2)];rfl
  ·rw[if_neg h1,if_neg (fun q=>h1 q.1)]
 ·rw[if_neg hf,u0q (n+1) hf (by omega),obs];rfl
theorem m1p (n:Nat) {c:Conf} {d:Dsk} (hf:fitB c d) (l:List Chg) (hl:l.length≤100000):∀(rest pre:List Chg) (f:Nat) (i:Int),l=pre++rest→i=pre.length →
  i0s (n+5) (f+rest.length+1) (l,(d,(c,(zd,(l,((l.length:Int),(i,())))))))=some (if rest.all (mayC (hom c) (d.1.length:Int))=true then .inl (l,(d,(c,(zd,())))) else .inr (d,1)):=by
 intro rest;induction rest with
 | nil =>
  intro pre f i h hi;rw[n0i];have h1:¬(i<(l.length:Int)):=by have:=congrArg List.length h;simp at this;omega
  simp only[tfd,if_neg h1];simp
 | cons z rest ih =>
  intro pre f i h hi;have hlen:=congrArg List.length h;simp at hlen;rw[show f+(z::rest).length+1=(f+rest.length+1)+1 by simp;omega,n0i];have h2:i<(l.length:Int):=by omega
  simp only[tfn,tfd,if_pos h2];rw[d0c h hi,obs,(s0v n hf.1).2,obs];have no:mayC (hom c) (d.1.length:Int) z=false→¬((z::rest).all (mayC (hom c) (d.1.length:Int))=true):=fun e=>by simp[e]
  by_cases k1:z.1<hom c
  ·rw[if_pos k1,if_neg (no (by unfold mayC;rw[decide_eq_false_iff_not];omega))]
  rw[if_neg k1];by_cases k2:(d.1.length:Int)≤z.1
  ·rw[if_pos k2,if_neg (no (by unfold mayC;rw[decide_eq_false_iff_not];omega))]
  rw[if_neg k2];by_cases k3:z.2.length=512
  ·rw[if_pos (by omega),w64 (x:=i+1) (by omega) (by omega),ih (pre++[z]) f (i+1) (by rw[h];simp) (by simp;omega)];have e:mayC (hom c) (d.1.length:Int) z=true:=by unfold mayC;rw[decide_eq_true_eq];omega
   rw[List.all_cons,e,Bool.true_and]
  ·rw[if_neg (by omega),if_neg (no (by unfold mayC;rw[decide_eq_false_iff_not];omega))]
theorem b1s (z:Chg):∀(l:List Chg) (i:Int),txtF i (l++[z])=txtF i l++[(i+(l.length:Int),z.2)]
 | [],i=>by simp[txtF]
 | y::r,i=>by
  simp only[List.cons_append,txtF,b1s z r (i+1)];congr 3;simp;omega
theorem b4s_snoc (z:Chg) (l:List Chg):b4s (l++[z])=b4s l++toB (beI 4 z.1):=by simp[b4s]
theorem e1z (n:Nat) (d:Dsk) (num:Int) (l:List Chg) (hl:l.length≤118) (hz:∀z∈l,0≤z.1∧z.1≤18446744073709551615):∀(rest pre:List Chg) (f:Nat) (i:Int),l=pre++rest→i=pre.length →
  e0d (n+1) (f+rest.length+1) (l,(d,(zd,(num,(2,(txtF 2 pre,((if rest=[] then [idx1 l] else []),((if rest=[] then [] else b4s pre),(l,((l.length:Int),(i,())))))))))))=some (.inl (l,(d,(zd,(num,(txtF 2 l,([idx1 l],()))))))):=by
 intro rest;induction rest with
 | nil =>
  intro pre f i h hi;rw[l0k];have h1:¬(i<(l.length:Int)):=by have:=congrArg List.length h;simp at this;omega
  simp only[tfd,if_neg h1];have:l=pre:=by simpa using h
  rw[this];simp
 | cons z rest ih =>
  intro pre f i h hi;have hlen:=congrArg List.length h;simp at hlen;rw[show f+(z::rest).length+1=(f+rest.length+1)+1 by simp;omega,l0k];have h2:i<(l.length:Int):=by omega
  have hzz:=hz z (by rw[h];simp);rw[if_neg (by simp),if_neg (by simp)];simp only[tfd,if_pos h2];have hb:=p0n pre;rw[d0c h hi,obs,if_pos (by rw[f0k];omega),wu64 hzz.1 hzz.2,v0w n 4 4 z.1 rfl (by omega) (by omega) hzz.1 hzz.2,obs,if_pos (by rw[hb,l0g,f0t];omega)];have em:Int.tmod i 120=i:=by rw[Int.tmod_eq_emod_of_nonneg (by omega)];omega
  have ed:Int.tdiv i 120=0:=by rw[Int.tdiv_eq_ediv_of_nonneg (by omega)];omega
  rw[em,ed,if_neg (by omega),w64 (x:=(l.length:Int)-1) (by omega) (by omega),w64 (x:=(2:Int)+i) (by omega) (by omega),w64 (x:=i+1) (by omega) (by omega)];have et:txtF 2 pre++[((2:Int)+i,z.2)]=txtF 2 (pre++[z]):=by rw[b1s,hi]
  have eb:b4s pre++toB (beI 4 z.1)=b4s (pre++[z]):=(b4s_snoc z pre).symm;have hnext:=ih (pre++[z]) f (i+1) (by rw[h];simp) (by simp;omega);cases rest with
  | nil =>
   rw[if_pos (by simp at hlen;omega),eb,h1p n _ (by rw[p0n];simp at hlen ⊢;omega),obs];simp only[List.length_nil];rw[if_pos (by omega),et];have e1:IntKind.wrap .i64 ((1:Int)+IntKind.wrap .i64 0)=1:=by decide
   rw[e1];have ei:([]:List Chg)++[((1:Int),zpad (b4s (pre++[z])))]=[idx1 l]:=by rw[h];rfl
   rw[ei];rw[if_pos rfl,if_pos rfl] at hnext;exact hnext
  | cons y t =>
   rw[if_neg (by simp at hlen;omega),eb,et];rw[if_neg (by simp),if_neg (by simp)] at hnext;exact hnext
theorem e1v (n m:Nat) (hm:m≤16777216) (l:List (List Chg)) (hl:l.length≤100000) (hb:∀a∈l,a.length≤100000):∀(rest pre:List (List Chg)) (f k:Nat) (d:Dsk) (i:Int),l=pre++rest→i=pre.length→ROk m k d→k+sumL rest≤1000000 →
  a0d (h0a (n+3) (f+rest.length+1) (d,(zd,(l,((l.length:Int),(i,())))))) (fun r9=>d0b (fun y10=>some (y10.1,(0:Int))) (fun z11=>some z11) r9)=some ((wss d rest).2,(wss d rest).1):=by
 intro rest;induction rest with
 | nil =>
  intro pre f k d i h hi hd hk;rw[l0j];have h1:¬(i<(l.length:Int)):=by have:=congrArg List.length h;simp at this;omega
  simp only[tfd,if_neg h1,obs,b0j];rfl
 | cons z rest ih =>
  intro pre f k d i h hi hd hk;have hlen:=congrArg List.length h;simp[sumL] at hlen hk;rw[show f+(z::rest).length+1=(f+rest.length+1)+1 by simp;omega,l0j];have h1:i<(l.length:Int):=by omega
  have hz:=hb z (by rw[h];simp);simp only[tfd,if_pos h1];rw[d0c h hi,obs,v0j n m k hm z d hd (by omega) hz,obs];unfold wss;by_cases hw:(wrs d z).1=0
  ·simp only[tfn,tfd];rw[if_pos hw,if_pos hw,w64 (x:=i+1) (by omega) (by omega)];exact ih (pre++[z]) f (k+z.length) _ (i+1) (by rw[h];simp) (by simp;omega) (ROk.wrs z hd) (by simp[sumL];omega)
  ·simp only[tfn,tfd];rw[if_neg hw,if_neg hw];rfl
theorem c1o {d:Dsk}:0≤(a0m d).1∧(a0m d).1≤18446744073709551615:=by
 unfold a0m;split
 ·split
  ·exact valI8 _ (by simp;omega)
  ·exact ⟨Int.le_refl _,by show (0:Int)≤18446744073709551615;decide⟩
 ·exact ⟨Int.le_refl _,by show (0:Int)≤18446744073709551615;decide⟩
theorem e1p (x:Int):0≤j1o x∧j1o x≤18446744073709551615:=by
 unfold j1o;have e:IntKind.wrap .u64 (x+1)=(x+1) % 18446744073709551616:=rfl;rw[e];omega
theorem f1d (n:Nat) {m k:Nat} {d:Dsk} (h:ROk m k d) (hm:m≤120) (hk:k≤900000) (c:Conf) (l:List Chg):s0k (n+9) d c l=some (open Classical in if fitB c d then ((commitD c d l).2,(commitD c d l).1) else (d,2)):=by
 have hlen:=h.len;rw[a1i];by_cases hf:fitB c d
 ·obtain ⟨q1,q2,q3,q4,q5⟩:=m0s hf (by omega);rw[if_pos hf,q0w (n+1) hf,obs];simp only[tfn,tft,tff,tfd];unfold commitD;by_cases h1:c.2.2.2.2<(l.length:Int)
  ·rw[if_pos h1,if_pos h1]
  rw[if_neg h1,if_neg h1];have hfu:(a0c-l.length-1)+l.length+1=a0c:=by unfold a0c;omega
  have hmay:=m1p (n+3) hf l (by omega) l [] (a0c-l.length-1) 0 rfl rfl;rw[hfu] at hmay;rw[show (zd:Dsk)=([],([],((0:Int),false))) from rfl] at hmay;rw[hmay,obs];cases hal:l.all (mayC (hom c) (d.1.length:Int)) with
  | false =>
   rw[if_neg (by decide),if_neg (by decide)];rfl
  | true =>
   rw[if_pos rfl,if_pos rfl];simp only[b0j];rw[o0c (n+5) h (by omega),obs];by_cases h0:(a0m d).2.2=0
   ·rw[if_pos h0,if_pos h0];by_cases hp:0<(a0m d).2.1
    ·rw[if_pos hp,if_pos hp]
    rw[if_neg hp,if_neg hp];by_cases hz:l.length=0
    ·rw[if_pos (by omega),if_pos hz]
    rw[if_neg (by omega),if_neg hz];have hl2:l.length≤118:=by omega
    have hmay:∀z∈l,0≤z.1∧z.1≤18446744073709551615:=by
     intro z hz;have:=List.all_eq_true.1 hal z hz;unfold mayC at this;rw[decide_eq_true_eq] at this;omega
    have e2:IntKind.wrap .i64 (1+idxC c)=2:=by rw[q3];decide
    rw[(u0w (n+4) hf.1).2,obs,e2];have hb:=e1z (n+7) d (a0m d).1 l hl2 hmay l [] (a0c-l.length-1) 0 rfl rfl;rw[hfu] at hb;have hne:l≠[]:=fun e=>hz (by rw[e];rfl)
    rw[if_neg hne,if_neg hne] at hb;rw[show (zd:Dsk)=([],([],((0:Int),false))) from rfl] at hb;rw[show txtF 2 []=([]:List Chg) from rfl,show b4s []=([]:List UInt8) from rfl] at hb;rw[hb,obs];simp only[b0j];have hs:=b1n (a0m d).1 l;have hsn:=e1p (a0m d).1;rw[show IntKind.wrap .u64 ((a0m d).1+1)=j1o (a0m d).1 from rfl];rw[if_pos (by rw[f0k];simp;omega),h0p (n+6) _ _ hsn (by omega) (by omega),obs,h0p (n+6) _ 0 hsn (by decide) (by decide),obs];have hst:=e1v (n+5) m (by omega) (comL (a0m d).1 l) (by simp[comL]) (by
      intro a ha;simp only[comL,List.mem_cons,List.not_mem_nil,or_false] at ha;rcases ha with rfl | rfl | rfl | rfl
      ·simp[f0k];omega
      ·simp
      ·omega
      ·simp) (comL (a0m d).1 l) [] (a0c-4-1) k d 0 rfl rfl h (by omega)
    have hfu4:(a0c-4-1)+(comL (a0m d).1 l).length+1=a0c:=by
     show (a0c-4-1)+4+1=a0c;unfold a0c;omega
    rw[hfu4] at hst;exact hst
   ·rw[if_neg h0,if_neg h0]
 ·rw[if_neg hf,u0q (n+1) hf (by omega),obs];rfl
theorem a1e (n:Nat) {m k:Nat} {d:Dsk} (h:ROk m k d) (hk:k≤1000000) {c:Conf} (hf:fitB c d) (hidx:idxC c=1) (hup:d.2.2.2=false) (num many:Int) (hmany:many≤118) (hm:many+2≤(d.1.length:Int)):∀(r f:Nat) (l:List Chg) (i:Nat),(i:Int)+(r:Int)=many→l.length+r≤100000 →
  f0v (n+7) (f+r+1) (d,(c,(zd,(num,(many,(l,((i:Int),())))))))=some (match recF (hom c) d r i with | some l' => .inl (d,(zd,(num,(many,(l++l',()))))) | none => .inr (d,(0,4))):=by
 have hpen:=h.pen;intro r;induction r with
 | zero =>
  intro f l i hi hl;rw[k0k,tfd,if_neg (by omega)];simp[recF]
 | succ r ih =>
  intro f l i hi hl;rw[show f+(r+1)+1=(f+r+1)+1 by omega,k0k,tfd,if_pos (by omega)];have e1:IntKind.wrap .i64 ((1:Int)+IntKind.wrap .i64 (Int.tdiv (i:Int) 120))=1:=by
   have:Int.tdiv (i:Int) 120=0:=by
    rw[Int.tdiv_eq_ediv_of_nonneg (by omega)];omega
   rw[this];decide
  have e2:IntKind.wrap .i64 ((4:Int)*Int.tmod (i:Int) 120)=((4*i:Nat):Int):=by
   have:Int.tmod (i:Int) 120=(i:Int):=by
    rw[Int.tmod_eq_emod_of_nonneg (by omega)];omega
   rw[this,w64 (by omega) (by omega)];push_cast;rfl
  rw[e1,e2,n0w (n+6) d 1 (by omega),obs,(u0w (n+3) hf.1).2,obs,hidx];have e3:IntKind.wrap .i64 (IntKind.wrap .i64 ((1:Int)+1)+(i:Int))=2+(i:Int):=by
   rw[w64 (x:=(1:Int)+1) (by decide) (by decide),w64 (by omega) (by omega)];omega
  rw[e3,n0w (n+6) d _ (by omega),obs];have r1:=r0b hup (i:=1) (by omega) (by omega);have s1:=o0b h r1;simp only[tfd];rw[if_pos (by omega),if_pos (by rw[s1];omega),h0y (n+5) _ 4 4 rfl (by omega) (by omega),obs];have hrd:rd (List.drop ((4*i:Nat):Int).toNat (List.take (b0v d 1).1.length (b0v d 1).1),false) 4=(secN (b0v d 1).1 i,((b0v d 1).1.drop (4*i+4),false)):=by
   rw[List.take_length,Int.toNat_natCast];unfold rd secN;rw[if_neg (by simp[s1];omega),List.drop_drop]
  rw[hrd];have hv:0≤secN (b0v d 1).1 i∧secN (b0v d 1).1 i<4294967296:=l1s (((b0v d 1).1.drop (4*i)).take 4) (by simp;omega);have hw:IntKind.wrap .i64 (secN (b0v d 1).1 i)=secN (b0v d 1).1 i:=w64 (by omega) (by omega);simp only[];rw[hw,(s0v (n+2) hf.1).2,obs];unfold recF oneD;simp only[];by_cases k1:secN (b0v d 1).1 i<hom c
  ·rw[if_pos k1,if_neg (by omega)];rfl
  rw[if_neg k1];by_cases k2:(d.1.length:Int)≤secN (b0v d 1).1 i
  ·rw[if_pos k2,if_neg (by omega)];rfl
  rw[if_neg k2,if_pos (by omega),if_pos (by omega),w64 (x:=(i:Int)+1) (by omega) (by omega)];have:=ih f (l++[(secN (b0v d 1).1 i,(b0v d (2+(i:Int))).1)]) (i+1) (by push_cast;omega) (by simp;omega);rw[show ((i+1:Nat):Int)=(i:Int)+1 by push_cast;rfl] at this;refine this.trans ?_;simp only[Option.bind_some];cases recF (hom c) d r (i+1) with
  | none=>rfl
  | some l'=>simp
theorem c1f (n:Nat) {m k:Nat} {d:Dsk} (h:ROk m k d) (hm:m≤120) (hk:k≤900000) (c:Conf):q0c (n+9) d c=some (open Classical in if fitB c d then ((recoverD c d).2.2,((recoverD c d).1,(recoverD c d).2.1)) else (d,(0,2))):=by
 have hlen:=h.len;rw[x0l];by_cases hf:fitB c d
 ·obtain ⟨q1,q2,q3,q4,q5⟩:=m0s hf (by omega);rw[if_pos hf,q0w (n+1) hf,obs];simp only[tfn,tft,tff,tfd];rw[o0c (n+5) h (by omega),obs];unfold recoverD;have hpm:=m0n (d:=d);have hpn:=c1o (d:=d);by_cases h0:(a0m d).2.2=0
  ·have hup:=v0y h0;rw[if_pos h0,if_pos h0];by_cases h1:(a0m d).2.1=0
   ·rw[if_pos h1,if_pos h1]
   rw[if_neg h1,if_neg h1];by_cases h2:c.2.2.2.2<(a0m d).2.1
   ·rw[if_pos h2,if_pos h2]
   rw[if_neg h2,if_neg h2];have hfu:(a0c-(a0m d).2.1.toNat-1)+(a0m d).2.1.toNat+1=a0c:=by unfold a0c;omega
   have:=a1e (n+1) h (by omega) hf q3 hup (a0m d).1 (a0m d).2.1 (by omega) (by omega) (a0m d).2.1.toNat (a0c-(a0m d).2.1.toNat-1) [] 0 (by omega) (by simp;omega);rw[hfu] at this;rw[show (zd:Dsk)=([],([],((0:Int),false))) from rfl] at this;rw[show (((0:Nat)):Int)=0 from rfl] at this;rw[this,obs];cases hr:recF (hom c) d (a0m d).2.1.toNat 0 with
   | none=>rfl
   | some l =>
    simp only[b0j,List.nil_append];have hll:=m0h _ _ _ _ _ hr;rw[v0j (n+5) m k (by omega) l d h (by omega) (by omega),obs];unfold wss;by_cases hw:(wrs d l).1=0
    ·rw[if_pos hw];simp only[];rw[if_pos hw,h0p (n+6) _ 0 hpn (by decide) (by decide),obs,v0j (n+5) m (k+l.length) (by omega) _ _ (ROk.wrs l h) (by simp;omega) (by simp),obs];unfold wss;by_cases hw2:(wrs (wrs d l).2 [ptrC (a0m d).1 0]).1=0
     ·rw[if_pos hw2];simp only[];rw[if_pos hw2];unfold wss;rw[if_pos rfl]
     ·rw[if_neg hw2];simp only[];rw[if_neg hw2,if_neg hw2]
    ·rw[if_neg hw];simp only[];rw[if_neg hw,if_neg hw]
  ·rw[if_neg h0,if_neg h0]
 ·rw[if_neg hf,u0q (n+1) hf (by omega),obs];rfl
end Go.Proofs.YtmcgmijdnfcfgaaGreat

set_option maxRecDepth 100000
namespace Go.Proofs.YtmcgmijdnfcfgaaGreat
open Go.Flat
theorem y0c (n:Nat) (c:Int):f0z (n+1) c=some (List.replicate 512 (UInt8.ofNat (Int.toNat c))):=by kernel_rfl
end Go.Proofs.YtmcgmijdnfcfgaaGreat
namespace Go.Proofs.YtmcgmijdnfcfgaaGreat
open Go.Flat
set_option linter.unusedVariables false
set_option linter.unusedSimpArgs false
abbrev g1y:=Int×Int
def tx26 (c:Int):Sec:=List.replicate 512 (UInt8.ofNat (Int.toNat c))
theorem e1l (c:Int):(tx26 c).length=512:=List.length_replicate
theorem b1u (n:Nat) (c:Int):f0z (n+1) c=some (tx26 c):=y0c n c
def chgs (l:List g1y):List Chg:=l.map fun p=>(p.1,tx26 p.2)
theorem e1c (n:Nat) (l:List g1y) (hl:l.length≤100000):∀(rest pre:List g1y) (f:Nat) (out:List Chg) (i:Int),l=pre++rest→i=pre.length→out.length≤pre.length →
  h0d (n+1) (f+rest.length+1) (out,(l,((l.length:Int),(i,()))))=some (.inl (out++chgs rest,())):=by
 intro rest;induction rest with
 | nil =>
  intro pre f out i h hi ho;rw[l0r];have h1:¬(i<(l.length:Int)):=by have:=congrArg List.length h;simp at this;omega
  simp only[tfd,if_neg h1];simp[chgs]
 | cons z rest ih =>
  intro pre f out i h hi ho;have hlen:=congrArg List.length h;simp at hlen;rw[show f+(z::rest).length+1=(f+rest.length+1)+1 by simp;omega,l0r];have h1:i<(l.length:Int):=by omega
  simp only[tfd,if_pos h1];rw[d0c h hi,obs,b1u,obs,if_pos (by omega),w64 (x:=i+1) (by omega) (by omega),ih (pre++[z]) f _ (i+1) (by rw[h];simp) (by simp;omega) (by simp;omega)];simp[chgs]
theorem g1t (n:Nat) (l:List g1y) (hl:l.length≤100000):m0r (n+2) l=some (chgs l):=by
 rw[x0r];have hfu:(a0c-l.length-1)+l.length+1=a0c:=by unfold a0c;omega
 have:=e1c n l hl l [] (a0c-l.length-1) [] 0 rfl rfl (by simp);rw[hfu] at this;rw[this,obs,b0j];simp
def homs (b:Int):Nat→Nat→List Sec
 | 0,_=>[]
 | r+1,i=>tx26 (IntKind.wrap .u8 (b+IntKind.wrap .u8 (i:Int)))::homs b r (i+1)
theorem j0w (b:Int):∀(r i:Nat),(homs b r i).length=r
 | 0,_=>rfl
 | r+1,i=>by simp[homs,j0w b r]
theorem i1p (b:Int):∀(r i:Nat),∀s∈homs b r i,s.length=512
 | 0,_,s,h=>by cases h
 | r+1,i,s,h=>by
  rcases List.mem_cons.1 h with rfl | h
  ·exact e1l _
  ·exact i1p b r (i+1) s h
theorem k1y (n:Nat) (b:Int) (m:Nat) (hm:m≤100000):∀(r f i:Nat) (out:List Sec),i+r=m→out.length≤i →
  k0p (n+1) (f+r+1) (b,(out,((m:Int),((i:Int),()))))=some (.inl (out++homs b r i,())):=by
 intro r;induction r with
 | zero =>
  intro f i out h ho;rw[o0o,tfd,if_neg (by omega)];simp[homs]
 | succ r ih =>
  intro f i out h ho;rw[show f+(r+1)+1=(f+r+1)+1 by omega,o0o,tfd,if_pos (by omega),b1u,obs,tfd,if_pos (by omega),w64 (x:=(i:Int)+1) (by omega) (by omega)];have:=ih f (i+1) (out++[tx26 (IntKind.wrap .u8 (b+IntKind.wrap .u8 (i:Int)))]) (by omega) (by simp;omega);rw[show ((i+1:Nat):Int)=(i:Int)+1 by push_cast;rfl] at this;exact this.trans (by simp[homs])
def homN (c:Conf):Nat:=(siz c-hom c).toNat
theorem i1q (n:Nat) {c:Conf} (hc:OkC c) (hs:siz c≤120) (b:Int):j0v (n+7) c b=some (homs b (homN c) 0):=by
 have h1:=hc.rng;have h2:=v0z h1;have h3:=h1.cap;have h4:=idx_range h1;have h5:=h1.log;have h7:0<c.2.2.2.1*plc c:=Int.mul_pos (by omega) (by omega);have h8:0<siz c-hom c:=by unfold siz;omega
 have h9:0≤hom c:=by unfold hom;omega
 rw[t0t,k0d n hc,obs];unfold sizR;rw[if_neg (by omega)];simp only[tfn,tfd];rw[if_pos trivial,p0g (n+1) hc,obs,w64 (x:=siz c-hom c) (by omega) (by omega)];have e:siz c-hom c=((homN c:Nat):Int):=by unfold homN;omega
 have hfu:(a0c-homN c-1)+homN c+1=a0c:=by have:homN c≤120:=(by unfold homN;omega);unfold a0c;omega
 have:=k1y (n+5) b (homN c) (by unfold homN;omega) (homN c) (a0c-homN c-1) 0 [] (by omega) (by simp);rw[hfu] at this;rw[e];rw[show ((0:Nat):Int)=0 from rfl] at this;rw[this,obs,b0j];simp
theorem homes_no (n:Nat) {c:Conf} (h:¬(OkC c∧siz c≤16777216)) (b:Int):j0v (n+7) c b=some []:=by
 rw[t0t];by_cases hc:OkC c
 ·rw[k0d n hc,obs];unfold sizR;rw[if_pos (by have:¬siz c≤16777216:=fun q=>h ⟨hc,q⟩;omega)];simp only[tfn,tfd];rw[if_neg (by decide)]
 ·rw[q0u n hc,obs];simp only[tfn,tfd];rw[if_neg (by decide)]
theorem ROk.commitD {m k:Nat} {d:Dsk} (h:ROk m k d) (c:Conf) (l:List Chg):ROk m (k+(2*l.length+3)) (commitD c d l).2:=by
 have h0:ROk m (k+(2*l.length+3)) d:=h.mono (by omega);unfold Go.Proofs.YtmcgmijdnfcfgaaGreat.commitD;split
 ·exact h0
 split
 ·split
  ·split
   ·exact h0
   split
   ·exact h0
   ·have:=ROk.wss (comL (a0m d).1 l) h;rw[b1n] at this;exact this
  ·exact h0
 ·exact h0
theorem ROk.recoverD {m k:Nat} {d:Dsk} (h:ROk m k d) (c:Conf) (hc:c.2.2.2.2≤118):ROk m (k+119) (recoverD c d).2.2:=by
 have h0:ROk m (k+119) d:=h.mono (by omega);unfold Go.Proofs.YtmcgmijdnfcfgaaGreat.recoverD;split
 ·split
  ·exact h0
  split
  ·exact h0
  rename_i hlog;split
  ·exact h0
  ·rename_i l hl;have hll:=m0h _ _ _ _ _ hl;have hpm:=m0n (d:=d);have:=ROk.wss [l,[ptrC (a0m d).1 0]] h;have hs:sumL [l,[ptrC (a0m d).1 0]]≤119:=by simp[sumL];omega
   split
   ·exact this.mono (by omega)
   ·exact this.mono (by omega)
 ·exact h0
theorem ROk.formatD {m k:Nat} {d:Dsk} (h:ROk m k d) (c:Conf) (home:List Sec):ROk m (k+(home.length+2)) (formatD c d home).2:=by
 unfold Go.Proofs.YtmcgmijdnfcfgaaGreat.formatD;have:=ROk.wss [(secC (hom c) home).drop 1,ptrC 1 0::(secC (hom c) home).take 1] h;have hs:=j0g home (hom c);refine this.mono ?_;simp[sumL];omega
end Go.Proofs.YtmcgmijdnfcfgaaGreat

set_option maxRecDepth 100000
namespace Go.Proofs.YtmcgmijdnfcfgaaGreat
open Go.Flat
set_option linter.unusedVariables false
set_option linter.unusedSimpArgs false
theorem lv26_eq (n:Nat)  : r0m (n+1)  =
 a0d (f1w n ) fun r0 =>
 a0d (r0t n (36:Int)) fun r1 =>
 n1n (r1.1) (
 tif ((!(decide (r1.2=(0:Int))))) (
 some false) (
 some false)) fun r2 =>
 tif ((!(decide (r1.2=(0:Int))))) (
 some false) (
 a0d (j0v n r0 (1:Int)) fun r3 =>
 a0d (j0m n r2 r0 r3) fun r4 =>
 a0d (f0z n (99:Int)) fun r5 =>
 a0d (f0l n r4.2 r0 (((12:Int),r5)::[])) fun r6 =>
 a0d (d0y n r6.2 r0) fun r7 =>
 a0d (b0r n r7.2.2) fun r8 =>
 a0d (f0z n (99:Int)) fun r9 =>
 a0d (f0l n r8.2.2.2 r0 (((3:Int),r9)::[])) fun r10 =>
 a0d (k0h n r10.2 r0) fun r11 =>
 a0d (r0t n (36:Int)) fun r12 =>
 n1n (r12.1) (
 some false) fun r13 =>
 a0d (b0r n r13) fun r14 =>
 tif ((decide (r4.1=(0:Int)))) (
 tif ((decide (r6.1=(0:Int)))) (
 tif ((decide ((((List.length r7.1):Nat):Int)=(25:Int)))) (
 a0d (at? r7.1 (0:Int)) fun r15 =>
 a0d ((r7.1)[0]?) fun r16 =>
 a0d (f0z n (1:Int)) fun r17 =>
 tif ((r16==r17)) (
 a0d (at? r7.1 (1:Int)) fun r18 =>
 a0d ((r7.1)[1]?) fun r19 =>
 a0d (f0z n (99:Int)) fun r20 =>
 tif ((r19==r20)) (
 a0d (at? r7.1 (2:Int)) fun r21 =>
 a0d ((r7.1)[2]?) fun r22 =>
 a0d (f0z n (3:Int)) fun r23 =>
 tif ((r22==r23)) (
 tif ((decide (r7.2.1=(0:Int)))) (
 tif ((decide (r8.1=(2:Int)))) (
 tif ((decide (r8.2.1=(0:Int)))) (
 tif ((decide (r8.2.2.1=(0:Int)))) (
 tif ((decide (r10.1=(1:Int)))) (
 tif ((decide (r11.1=(0:Int)))) (
 tif ((decide (r11.2.1=(0:Int)))) (
 some (decide (r14.2.2.1=(4:Int)))) (
 some false)) (
 some false)) (
 some false)) (
 some false)) (
 some false)) (
 some false)) (
 some false)) (
 some false)) (
 some false)) (
 some false)) (
 some false)) (
 some false)) (
 some false)):=by kernel_rfl
def cF:Conf:=((20:Int),(((10:Int),((20:Int),(60:Int))),(((4:Int),((5:Int),(6:Int))),((3:Int),(9:Int)))))
theorem cF_ok:OkC cF:=⟨⟨by decide,by decide,by decide,by decide,by decide,by decide,by decide,by decide,by decide⟩,by decide,by decide,by decide,by decide,by decide⟩
theorem p1k:siz cF=36:=by decide
theorem cF_hom:hom cF=11:=by decide
def p4:Int×Dsk:=formatD cF (newD 36) (homs 1 25 0)
def p6:Int×Dsk:=commitD cF p4.2 [((12:Int),tx26 99)]
def p10:Int×Dsk:=commitD cF p6.2 [((3:Int),tx26 99)]
theorem p4_ok:ROk 36 27 p4.2:=by
 have:=(r0j 36).formatD cF (homs 1 25 0);rw[j0w] at this;exact this
theorem f1l:ROk 36 32 p6.2:=p4_ok.commitD cF [((12:Int),tx26 99)]
theorem p10_ok:ROk 36 37 p10.2:=f1l.commitD cF [((3:Int),tx26 99)]
theorem e1e {d:Dsk} {k:Nat} (h:ROk 36 k d):fitB cF d:=⟨cF_ok,by rw[p1k,h.len];rfl,by rw[p1k];decide⟩
theorem k26q4:p4.1=0:=by decide +kernel
theorem k26q6:p6.1=0∧p6.2.2.2.2=false∧a0m p6.2=(2,(0,0)):=by decide +kernel
theorem k1v:(n0r p6.2 11 25)[0]? = some (tx26 1)∧(n0r p6.2 11 25)[1]? = some (tx26 99)∧(n0r p6.2 11 25)[2]? = some (tx26 3):=by decide +kernel
theorem k26q10:p10.1=1:=by decide +kernel
theorem k26q11:(recoverD cF p10.2).1=0∧(recoverD cF p10.2).2.1=0:=by decide +kernel
theorem k26q14:(a0m (newD 36)).2.2=4:=by decide +kernel
theorem d1j (n:Nat):r0m (n+10)=some true:=by
 rw[lv26_eq,show f1w (n+9)=some cF from k1t (n+8),obs,n1p (n+5),obs];rw[if_pos (by decide)];simp only[s0s,decide_true,Bool.not_true,tff];have h25:homN cF=25:=by decide
 have hh:=i1q (n+2) cF_ok (by rw[p1k];decide) 1;rw[h25] at hh;have hN:(36:Int).toNat=36:=rfl;rw[hh,obs,hN];have e4:=z0v n (r0j 36) (by decide) (by decide) cF (homs 1 25 0) (by rw[j0w];decide);rw[if_pos (e1e (r0j 36)),if_pos ⟨by rw[j0w,cF_hom];rfl,i1p 1 25 0⟩] at e4;rw[show j0m (n+9) (newD 36) cF (homs 1 25 0)=some p4 from e4,obs,b1u,obs];have e6:=t0i n p4_ok (by decide) (by decide) cF [((12:Int),tx26 99)];rw[if_pos (e1e p4_ok)] at e6;rw[show f0l (n+9) p4.2 cF [((12:Int),tx26 99)]=some p6 from e6,obs]
 have e7:=j1g (n+1) f1l (by decide) cF;rw[if_pos (e1e f1l),if_neg (by rw[k26q6.2.1];decide),cF_hom,f1l.len] at e7;rw[show d0y (n+9) p6.2 cF=some (n0r p6.2 11 25,(0,p6.2)) from e7,obs];simp only[];rw[k0a (n+2) f1l,obs];simp only[];rw[b1u,obs];have e10:=t0i n f1l (by decide) (by decide) cF [((3:Int),tx26 99)];rw[if_pos (e1e f1l)] at e10;rw[show f0l (n+9) p6.2 cF [((3:Int),tx26 99)]=some p10 from e10,obs];have e11:=x0e n p10_ok (by decide) (by decide) cF;rw[if_pos (e1e p10_ok)] at e11;rw[e11,obs,obs];simp only[s0s]
 rw[k0a (n+2) (r0j 36),obs];have hlen:(((n0r p6.2 11 25).length:Nat):Int)=25:=by simp[n0r]
 have hat:∀(i:Nat) (x:Sec),(n0r p6.2 11 25)[i]? = some x→at? (n0r p6.2 11 25) (i:Int)=some x:=by
  intro i x h;simp[at?,h]
 rw[k26q4,k26q6.1,hlen,k26q6.2.2,k26q10,k26q11.1,k26q11.2,k26q14];simp only[decide_true,tft,b1u];have a0:=hat 0 _ k1v.1;have a1:=hat 1 _ k1v.2.1;have a2:=hat 2 _ k1v.2.2;rw[show ((0:Nat):Int)=0 from rfl] at a0;rw[show ((1:Nat):Int)=1 from rfl] at a1;rw[show ((2:Nat):Int)=2 from rfl] at a2;rw[a0,obs,k1v.1,obs,obs,beq_self_eq_true,tft,a1,obs,k1v.2.1,obs,obs,beq_self_eq_true,tft,a2,obs,k1v.2.2,obs,obs,beq_self_eq_true,tft]
end Go.Proofs.YtmcgmijdnfcfgaaGreat
namespace Go.Proofs.YtmcgmijdnfcfgaaGreat
open Go.Flat
set_option linter.unusedVariables false
set_option linter.unusedSimpArgs false
set_option maxRecDepth 100000
theorem tail26 (n m k:Nat) (c:Conf) (d:Dsk) (h:ROk m k d) (hm:m≤120) (hk:k≤900000) (K:Dsk→Option (Unit ⊕ Bool)) :
  (a0d (b0r (n+9) d) fun r78 =>
  a0d (c0n (n+9) d) fun r79 =>
  a0d (d0y (n+9) r78.2.2.2 c) fun r80 =>
  a0d (g0z (n+9) d c) fun r81 =>
  tif ((!(decide (r78.1=r79.1)))) (some (.inr false)) (
  tif ((!(decide (r78.2.1=r79.2.1)))) (some (.inr false)) (
  tif ((!(decide (r78.2.2.1=r79.2.2)))) (some (.inr false)) (
  a0d (c0l (n+9) r80.1 r81.1) fun r82 =>
  tif ((!r82)) (some (.inr false)) (
  tif ((!(decide (r80.2.1=r81.2)))) (some (.inr false)) (
  a0d (c0d (n+9) r80.2.2) fun r83 =>
  tif ((!(r83.1==d.2.2.2))) (some (.inr false)) (
  a0d (b0s (n+9) r83.2) fun r84 =>
  a0d (c0l (n+9) r84.1 d.1) fun r85 =>
  tif ((!r85)) (some (.inr false)) (
  a0d (b0i (n+9) r84.2) fun r86 =>
  a0d (b0o (n+9) r86.1 d.2.1) fun r87 =>
  tif ((!r87)) (some (.inr false)) (K r86.2)))))))))=K d:=by
 have hl:=h.len;have hp:=h.pen;rw[k0a (n+2) h,obs,o0c (n+6) h (by omega),obs];simp only[decide_true,Bool.not_true,tff];rw[j1g (n+1) h hm c,obs,m1s (n+1) h hm (by omega) c,obs];have fin:∀(L:List Sec) (e:Int),L.length≤1000000→(
  a0d (c0l (n+9) L L) fun r82 =>
  tif ((!r82)) (some (.inr false)) (
  tif ((!(decide (e=e)))) (some (.inr false)) (
  a0d (c0d (n+9) d) fun r83 =>
  tif ((!(r83.1==d.2.2.2))) (some (.inr false)) (
  a0d (b0s (n+9) r83.2) fun r84 =>
  a0d (c0l (n+9) r84.1 d.1) fun r85 =>
  tif ((!r85)) (some (.inr false)) (
  a0d (b0i (n+9) r84.2) fun r86 =>
  a0d (b0o (n+9) r86.1 d.2.1) fun r87 =>
  tif ((!r87)) (some (.inr false)) (K r86.2))))))=K d:=by
  intro L e hL;rw[h1o (n+8) L (by omega),obs];simp only[decide_true,Bool.not_true,tff];rw[t0d,obs];have t3:(!(d.2.2.2==d.2.2.2))=false:=by simp
  simp only[t3,tff];rw[safe_val (n+7) d (h.ok (by omega) (by omega)),obs];simp only[];rw[h1o (n+8) d.1 (by omega),obs];simp only[Bool.not_true,tff];rw[f1i (n+7) d (by omega),obs];simp only[];rw[m1k (n+8) d.2.1 (by omega),obs];simp only[Bool.not_true,tff]
 by_cases hf:fitB c d
 ·rw[if_pos hf,if_pos hf];by_cases hd:d.2.2.2=true
  ·rw[if_pos hd,if_pos hd];exact fin [] 14 (by simp)
  ·rw[if_neg hd,if_neg hd];exact fin _ 0 (by simp[n0r];omega)
 ·rw[if_neg hf,if_neg hf];exact fin [] 2 (by simp)
abbrev Act26:=Int×(List g1y×(Int×List Bool))
theorem m1t (n m:Nat) (hm:m≤120) (c:Conf) (la:List Act26) (s70 s71:Int) (l:List g1y) (hl:l.length≤1000):∀(rest pre:List g1y) (f k:Nat) (d:Dsk) (x:Int) (i:Int),l=pre++rest→i=pre.length→ROk m k d→k+rest.length≤900000 →
  ∃d' x',ROk m (k+rest.length) d'∧e0x (n+3) (f+rest.length+1) (c,(d,(d,(x,(x,((0:Int),((0:Int),(la,(s70,(s71,(l,((l.length:Int),(i,())))))))))))))=some (.inl (c,(d',(d',(x',(x',((0:Int),((0:Int),(la,(s70,(s71,()))))))))))):=by
 intro rest;induction rest with
 | nil =>
  intro pre f k d x i h hi hd hk;rw[i0m];have h1:¬(i<(l.length:Int)):=by have:=congrArg List.length h;simp at this;omega
  simp only[tfd,if_neg h1];exact ⟨d,x,by simpa using hd,rfl⟩
 | cons z rest ih =>
  intro pre f k d x i h hi hd hk;have hlen:=congrArg List.length h;simp at hlen hk;rw[show f+(z::rest).length+1=(f+rest.length+1)+1 by simp;omega,i0m];have h1:i<(l.length:Int):=by omega
  simp only[tfd,if_pos h1];have hpen:=hd.pen;rw[d0c h hi,obs,y0c,obs,y0r (n+1) d z.1 _ hd.arm1 hd.arm0 (by omega),obs,obs,b1r (n+1) d z.1 _ hd.arm1 (by omega),obs,w64 (x:=i+1) (by omega) (by omega)];obtain ⟨d',x',q1,q2⟩:=ih (pre++[z]) f (k+1) _ _ (i+1) (by rw[h];simp) (by simp;omega) (hd.write z.1 _) (by omega);exact ⟨d',x',q1.mono (by simp;omega),q2⟩
theorem c1p (n m:Nat) (hm:m≤120) (c:Conf) (hsm:∀r,c0j (n+6) c=some r→r.2=0→r.1≤120) (l:List Act26) (hl:l.length≤30) (hw:∀x∈l,x.2.2.1≤9223372036854775807) :
  ∀(rest pre:List Act26) (f:Nat) (d:Dsk) (i:Int),l=pre++rest→i=pre.length→ROk m (pre.length*1000) d →
  a0y (n+9) (f+rest.length+1) (c,(d,(d,(l,((l.length:Int),(i,()))))))=some (.inl ())∨a0y (n+9) (f+rest.length+1) (c,(d,(d,(l,((l.length:Int),(i,()))))))=some (.inr true):=by
 intro rest;induction rest with
 | nil =>
  intro pre f d i h hi hd;left;rw[i0n];have h1:¬(i<(l.length:Int)):=by have:=congrArg List.length h;simp at this;omega
  simp only[tfd,if_neg h1]
 | cons x rest ih =>
  intro pre f d i h hi hd;have hlen:=congrArg List.length h;simp at hlen;have h1:i<(l.length:Int):=by omega
  have hx:=hw x (by rw[h];simp);have hdl:=hd.len;have hstep:∀d1:Dsk,ROk m (pre.length*1000+1000) d1→a0y (n+9) (f+rest.length+1) (c,(d1,(d1,(l,((l.length:Int),((IntKind.wrap .i64 (i+1)),()))))))=some (.inl ())∨a0y (n+9) (f+rest.length+1) (c,(d1,(d1,(l,((l.length:Int),((IntKind.wrap .i64 (i+1)),()))))))=some (.inr true):=by
   intro d1 h1;rw[w64 (x:=i+1) (by omega) (by omega)];exact ih (pre++[x]) f d1 (i+1) (by rw[h];simp) (by simp;omega) (by
    have e:(pre++[x]).length*1000=pre.length*1000+1000:=by simp;omega
    rw[e];exact h1)
  have hgo:=fun (d1:Dsk) (h1:ROk m (pre.length*1000+1000) d1)=>tail26 n m (pre.length*1000+1000) c d1 h1 hm (by omega) (fun z=>a0y (n+9) (f+rest.length+1) (c,(z,(d1,(l,((l.length:Int),((IntKind.wrap .i64 (i+1)),())))))))
  rw[show f+(x::rest).length+1=(f+rest.length+1)+1 by simp;omega,i0n];simp only[tfd,if_pos h1];rw[d0c h hi,obs];by_cases hp2:(200:Int)<(x.2.1.length:Int)
  ·rw[if_pos hp2];exact .inr rfl
  rw[if_neg hp2];have hcl:(chgs x.2.1).length≤200:=by simp[chgs];omega
  by_cases k0:x.1=0
  ·rw[if_pos k0,g1t (n+7) x.2.1 (by omega),obs,f1d n hd hm (by omega) c,obs,obs,t0i n hd hm (by omega) c,obs];by_cases hf:fitB c d
   ·rw[if_pos hf,if_pos hf];simp only[decide_true,Bool.not_true,if_true,if_false,Bool.false_eq_true,tff];have:=hgo (commitD c d (chgs x.2.1)).2 ((hd.commitD c _).mono (by omega));simp only[b0p] at this ⊢;rw[this];exact hstep _ ((hd.commitD c _).mono (by omega))
   ·rw[if_neg hf,if_neg hf];simp only[decide_true,Bool.not_true,if_true,if_false,Bool.false_eq_true,tff];have:=hgo d (hd.mono (by omega));simp only[b0p] at this ⊢;rw[this];exact hstep _ (hd.mono (by omega))
  rw[if_neg k0];by_cases k1:x.1=1
  ·rw[if_pos k1,c1f n hd hm (by omega) c,obs,x0e n hd hm (by omega) c,obs];by_cases hf:fitB c d
   ·have hl118:=(m0s hf (by omega)).1;rw[if_pos hf,if_pos hf];simp only[decide_true,Bool.not_true,if_true,if_false,Bool.false_eq_true,tff];have:=hgo (recoverD c d).2.2 ((hd.recoverD c hl118).mono (by omega));simp only[b0p] at this ⊢;rw[this];exact hstep _ ((hd.recoverD c hl118).mono (by omega))
   ·rw[if_neg hf,if_neg hf];simp only[decide_true,Bool.not_true,if_true,if_false,Bool.false_eq_true,tff];have:=hgo d (hd.mono (by omega));simp only[b0p] at this ⊢;rw[this];exact hstep _ (hd.mono (by omega))
  rw[if_neg k1];by_cases k2:x.1=2
  ·rw[if_pos k2,v0t,obs,u0m,obs];rw[show ((d.1,(d.2.1,((if x.2.2.1<(0:Int) then (0:Int) else x.2.2.1),d.2.2.2))):Dsk)=armD d x.2.2.1 from rfl];have:=hgo (armD d x.2.2.1) ((hd.arm _ hx).mono (by omega));simp only[b0p] at this ⊢;rw[this];exact hstep _ ((hd.arm _ hx).mono (by omega))
  rw[if_neg k2];by_cases k3:x.1=3
  ·rw[if_pos k3,rup_val (n+7) d _ (hd.ok (by omega) (by omega)) (by have:=hd.pen;omega),obs,up_val (n+7) d _ (hd.ok (by omega) (by omega)),obs];simp only[decide_true,Bool.not_true,if_true,if_false,Bool.false_eq_true,tff];have:=hgo (upD d x.2.2.2).2 ((hd.up _).mono (by omega));simp only[b0p] at this ⊢;rw[this];exact hstep _ ((hd.up _).mono (by omega))
  rw[if_neg k3];by_cases k4:x.1=4
  ·rw[if_pos k4];obtain ⟨d',x',q1,q2⟩:=m1t (n+6) m hm c l (l.length:Int) i x.2.1 (by omega) x.2.1 [] (a0c-x.2.1.length-1) (pre.length*1000) d 0 0 rfl rfl hd (by omega);have hfu:(a0c-x.2.1.length-1)+x.2.1.length+1=a0c:=by unfold a0c;omega
   rw[hfu] at q2;rw[q2,obs,b0j];simp only[decide_true,Bool.not_true,if_true,if_false,Bool.false_eq_true,tff];have:=hgo d' (q1.mono (by omega));simp only[b0p] at this ⊢;rw[this];exact hstep _ (q1.mono (by omega))
  rw[if_neg k4];by_cases k5:x.1=5
  ·rw[if_pos k5];obtain ⟨hs,e1,e2⟩:∃hs,j0v (n+9) c (IntKind.wrap .u8 x.2.2.1)=some hs∧hs.length≤120:=by
    by_cases hc:OkC c∧siz c≤16777216
    ·have h120:siz c≤120:=by
      have:=hsm _ (k0d n hc.1);unfold sizR at this;rw[if_neg (by omega)] at this;exact this rfl
     exact ⟨_,i1q (n+2) hc.1 h120 _,by
      rw[j0w];have h1:=hc.1.rng;have:=idx_range h1;have:=h1.log;have:0≤hom c:=by unfold hom;omega
      unfold homN;omega⟩
    ·exact ⟨[],homes_no (n+2) hc _,by simp⟩
   rw[e1,obs,f1c n hd hm (by omega) c hs (by omega),obs,obs,z0v n hd hm (by omega) c hs (by omega),obs];by_cases hf:fitB c d
   ·rw[if_pos hf,if_pos hf];by_cases hq:(hs.length:Int)=(d.1.length:Int)-hom c∧∀s∈hs,s.length=512
    ·rw[if_pos hq,if_pos hq];simp only[decide_true,Bool.not_true,if_true,if_false,Bool.false_eq_true,tff];have:=hgo (formatD c d hs).2 ((hd.formatD c hs).mono (by omega));simp only[b0p] at this ⊢;rw[this];exact hstep _ ((hd.formatD c hs).mono (by omega))
    ·rw[if_neg hq,if_neg hq];simp only[decide_true,Bool.not_true,if_true,if_false,Bool.false_eq_true,tff];have:=hgo d (hd.mono (by omega));simp only[b0p] at this ⊢;rw[this];exact hstep _ (hd.mono (by omega))
   ·rw[if_neg hf,if_neg hf];simp only[decide_true,Bool.not_true,if_true,if_false,Bool.false_eq_true,tff];have:=hgo d (hd.mono (by omega));simp only[b0p] at this ⊢;rw[this];exact hstep _ (hd.mono (by omega))
  rw[if_neg k5];have:=hgo d (hd.mono (by omega));simp only[b0p] at this ⊢;rw[this];exact hstep _ (hd.mono (by omega))
theorem x0j (n:Nat) (hlv:r0m (n+9)=some true) (c:Conf) (size:Int) (l:List Act26) (hl:Wf (.slice b0a) l):r0n (n+10) c size l=some true:=by
 rw[u0k,hlv,obs];simp only[Bool.not_true,tff];have hw:∀x∈l,x.2.2.1≤9223372036854775807:=fun x hx=>(hl.2 x hx).2.2.1.2
 rw[n1p (n+5),obs];by_cases h4:1≤size∧size≤16777216
 ·rw[if_pos h4];simp only[s0s,tfn,tfd];rw[if_pos trivial];by_cases h1:120<size
  ·rw[if_pos h1];rfl
  rw[if_neg h1];by_cases h3:(30:Int)<(l.length:Int)
  ·rw[if_pos h3];rfl
  rw[if_neg h3,d1l];obtain ⟨r,hr⟩:∃r,c0j (n+8) c=some r:=by
   by_cases hc:OkC c
   ·exact ⟨_,k0d (n+2) hc⟩
   ·exact ⟨_,q0u (n+2) hc⟩
  have hr6:c0j (n+6) c=some r:=by
   by_cases hc:OkC c
   ·rw[k0d n hc];rw[k0d (n+2) hc] at hr;exact hr
   ·rw[q0u n hc];rw[q0u (n+2) hc] at hr;exact hr
  rw[hr,obs];have hmain:(∀r',c0j (n+6) c=some r'→r'.2=0→r'.1≤120)→a0d (a1j (n+9) size) (fun r4=>tif r4.2 (a0d (a0y (n+9) a0c (c,(newD size.toNat,(r4.1,(l,((l.length:Int),((0:Int),()))))))) fun r5=>d0b (fun y6=>some true) (fun z7=>some z7) r5) (some false))=some true:=by
   intro hsm;rw[rnew_val,obs,if_pos (show 1≤size∧size≤16777216 by omega)];simp only[tft];have hfu:(a0c-l.length-1)+l.length+1=a0c:=by unfold a0c;omega
   have:=c1p n size.toNat (by omega) c hsm l (by omega) hw l [] (a0c-l.length-1) (newD size.toNat) 0 rfl rfl (r0j _);rw[hfu] at this;rcases this with q | q
   ·rw[q];rfl
   ·rw[q];rfl
  by_cases h0:r.2=0
  ·simp only[tfn,tfd];rw[if_pos h0,obs];by_cases h120:r.1≤120
   ·rw[tfd,if_pos h120];have:=hmain (fun r' h1 _=>by rw[hr6] at h1;injection h1 with h1;rw[←h1];exact h120);exact this
   ·rw[tfd,if_neg h120];rfl
  ·simp only[tfn,tfd];rw[if_neg h0,obs];simp only[tft];have:=hmain (fun r' h1 h2=>by rw[hr6] at h1;injection h1 with h1;rw[←h1] at h2;exact absurd h2 h0);exact this
 ·rw[if_neg h4];simp only[k1l];rfl
end Go.Proofs.YtmcgmijdnfcfgaaGreat
