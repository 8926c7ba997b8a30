/-
 Plain proofs about the functions of this seat, part 1 of 1.
-/
import Derived.Test.YtghegadegcemjaaTr
import Derived.Test.YtghegadegcemjaaFlatM3
import Derived.KernelRfl
import Derived.IntWalk
namespace Go.Proofs.Ytghegadegcemjaa
open Go.Flat
set_option linter.unusedVariables false
set_option linter.unusedSimpArgs false
abbrev Sec:=List UInt8
abbrev Chg:=Int×Sec
abbrev Dsk:=List Sec×(List Chg×(Int×Bool))
theorem h0w {α:Type} {l pre rest:List α} {x:α} {i:Int} (h:l=pre++x::rest) (hi:i=pre.length):at? l i=some x:=by
 subst h hi;simp[at?]
theorem t0r {α:Type} {l pre rest:List α} {x:α} {i:Int} (h:l=pre++x::rest) (hi:i=pre.length):l[i.toNat]? = some x:=by
 subst h hi;simp
def FitC (m:Nat) (z:Chg):Prop:=0≤z.1∧z.1<m∧z.2.length=512
def j0i (S:List Sec) (l:List Chg):List Sec:=l.foldl (fun S z=>S.set z.1.toNat z.2) S
theorem p0h (l:List Chg):∀S,(j0i S l).length=S.length:=by
 induction l with
 | nil=>intro S;rfl
 | cons z l ih=>intro S;simp only[j0i,List.foldl_cons] at ih ⊢;rw[ih];simp
def d0f (k:Int→Bool):Int→List Chg→List Chg
 | _,[]=>[]
 | i,z::r=>if k i=true then z::d0f k (i+1) r else d0f k (i+1) r
theorem x0s (l:List Chg):∀i,d0f (fun _=>true) i l=l:=by
 induction l with
 | nil=>intro i;rfl
 | cons z r ih=>intro i;simp[d0f,ih]
theorem m0n {k:Int→Bool} {z:Chg}:∀(l:List Chg) (i:Int),z∈d0f k i l→z∈l
 | [],_,h=>h
 | y::r,i,h=>by
  unfold d0f at h;split at h
  ·rcases List.mem_cons.1 h with h | h
   ·exact h ▸ List.mem_cons_self
   ·exact List.mem_cons_of_mem _ (m0n r _ h)
  ·exact List.mem_cons_of_mem _ (m0n r _ h)
theorem k0w {k:Int→Bool}:∀(l:List Chg) (i:Int),(d0f k i l).length≤l.length
 | [],_=>Nat.le_refl _
 | y::r,i=>by
  unfold d0f;have:=k0w (k:=k) r (i+1);split<;>simp<;>omega
structure DkOk (d:Dsk):Prop where
 len:d.1.length≤16777216
 pen:d.2.1.length≤1000000000000
 fit:∀z∈d.2.1,FitC d.1.length z
theorem has_val (n:Nat) (d:Dsk) (i:Int):h0d (n+1) d i=some (decide (0≤i∧i<d.1.length),d):=by
 rw[l0j];simp only[tfd];by_cases h:0≤i
 ·rw[if_pos h];simp[h]
 ·rw[if_neg h];simp[h]
def stepD (d:Dsk):Int×Dsk :=
 if d.2.2.2=true then (14,d) else if d.2.2.1=1 then (14,d.1,d.2.1,0,true) else if 1<d.2.2.1 then (0,d.1,d.2.1,d.2.2.1-1,d.2.2.2) else (0,d)
theorem t0d (n:Nat) (d:Dsk) (h:d.2.2.1≤9223372036854775807):e0b (n+1) d=some (stepD d):=by
 rw[k0h];unfold stepD;simp only[b0h,decide_eq_true_eq];by_cases h1:d.2.2.2=true
 ·rw[if_pos h1,if_pos h1]
 rw[if_neg h1,if_neg h1];by_cases h2:d.2.2.1=1
 ·rw[if_pos h2,if_pos h2]
 rw[if_neg h2,if_neg h2];by_cases h3:1<d.2.2.1
 ·rw[if_pos h3,if_pos h3,w64 (by omega) (by omega)]
 ·rw[if_neg h3,if_neg h3]
def i0n (d:Dsk) (i:Int) (s:Sec):Int×Dsk :=
 if 0≤i∧i<d.1.length∧s.length=512 then
  if (stepD d).1=0 then (0,(stepD d).2.1,(stepD d).2.2.1++[(i,s)],(stepD d).2.2.2) else stepD d
 else (1,d)
theorem g0d (d:Dsk):(stepD d).2.1=d.1∧(stepD d).2.2.1=d.2.1:=by
 unfold stepD;split
 ·exact ⟨rfl,rfl⟩
 split
 ·exact ⟨rfl,rfl⟩
 split<;>exact ⟨rfl,rfl⟩
theorem d0l (n:Nat) (d:Dsk) (i:Int) (s:Sec) (h:d.2.2.1≤9223372036854775807) (hp:d.2.1.length≤1000000000000):a0i (n+2) d i s=some (i0n d i s):=by
 rw[j0u,has_val,obs];unfold i0n;by_cases h1:0≤i∧i<(d.1.length:Int)
 ·by_cases h2:s.length=512
  ·rw[if_pos ⟨h1.1,h1.2,h2⟩];have e2:decide (((s.length:Nat):Int)=512)=true:=by simp[h2]
   rw[decide_eq_true h1,e2];simp only[b0h,Bool.not_true,Bool.false_eq_true,if_false];rw[t0d n d h,obs];by_cases h3:(stepD d).1=0
   ·rw[if_pos (by simpa using h3),if_pos h3];have hl:(stepD d).2.2.1.length=d.2.1.length:=by rw[(g0d d).2]
    rw[if_pos (by simp;omega),h3]
   ·rw[if_neg (by simpa using h3),if_neg h3]
  ·rw[if_neg (fun q=>h2 q.2.2)];have e2:decide (((s.length:Nat):Int)=512)=false:=by simp;omega
   rw[decide_eq_true h1,e2];rfl
 ·rw[if_neg (fun q=>h1 ⟨q.1,q.2.1⟩),decide_eq_false h1];rfl
theorem x0r (n:Nat) {is:Int×Unit→Option Bool} {k:Int→Bool} (l:List Chg) (hl:l.length≤1000000000000):∀(rest pre:List Chg) (f:Nat) (d:Dsk) (c i:Int),(∀j:Int,0≤j→j<l.length→is (j,())=some (k j))→d.2.1=l→l=pre++rest→i=pre.length→(∀z∈rest,FitC d.1.length z)→0≤c→c≤pre.length →
  b0z n (f+rest.length+1) (d,is,c,(l.length:Int),i,())=some (.inl ((j0i d.1 (d0f k i rest),d.2),(c+(d0f k i rest).length,()))):=by
 intro rest;induction rest with
 | nil =>
  intro pre f d c i his hd h hi hf hc0 hc;rw[e0r];have h1:¬(i<(l.length:Int)):=by have:=congrArg List.length h;simp at this;omega
  simp only[tfd,if_neg h1];simp[d0f,j0i]
 | cons z rest ih =>
  intro pre f d c i his hd h hi hf hc0 hc;have hlen:=congrArg List.length h;simp at hlen;rw[show f+(z::rest).length+1=(f+rest.length+1)+1 by simp;omega,e0r];have h1:i<(l.length:Int):=by omega
  simp only[tfd,if_pos h1,hd];rw[h0w h hi,obs,t0r h hi,obs,his i (by omega) h1,obs];have hz:=hf z List.mem_cons_self;have hnext:i+1=((pre++[z]).length:Int):=by simp;omega
  rw[w64 (x:=i+1) (by omega) (by omega)];by_cases hk:k i=true
  ·rw[hk];simp only[b0h,if_true];have ha:∃v,d.1[z.1.toNat]? = some v:=⟨_,List.getElem?_eq_getElem (by have:=hz.1;have:=hz.2.1;omega)⟩;obtain ⟨v,hv⟩:=ha;have hat:at? d.1 z.1=some v:=by
    simp[at?,hz.1,hv]
   rw[hat,obs,hv,obs,w64 (x:=c+1) (by omega) (by omega)];have:=ih (pre++[z]) f (d.1.set z.1.toNat z.2,d.2) (c+1) (i+1) his hd (by rw[h];simp) hnext (fun y hy=>by simpa using hf y (List.mem_cons_of_mem _ hy)) (by omega) (by simp;omega);rw[this];have hkf:d0f k i (z::rest)=z::d0f k (i+1) rest:=by rw[d0f,if_pos hk]
   rw[hkf];simp only[j0i,List.foldl_cons,List.length_cons];congr 4
   push_cast
   omega
  ·have hk':k i=false:=by simpa using hk
   rw[hk'];simp only[b0h,Bool.false_eq_true,if_false];have:=ih (pre++[z]) f d c (i+1) his hd (by rw[h];simp) hnext (fun y hy=>hf y (List.mem_cons_of_mem _ hy)) hc0 (by simp;omega);rw[this];have hkf:d0f k i (z::rest)=d0f k (i+1) rest:=by rw[d0f,if_neg hk]
   rw[hkf]
def keepD (d:Dsk) (k:Int→Bool):Int×Dsk:=(((d0f k 0 d.2.1).length:Int),j0i d.1 (d0f k 0 d.2.1),[],d.2.2)
theorem t0s (n:Nat) (d:Dsk) {is:Int×Unit→Option Bool} {k:Int→Bool} (h:DkOk d) (his:∀j:Int,0≤j→j<d.2.1.length→is (j,())=some (k j)):e0c (n+1) d is=some (keepD d k):=by
 rw[k0i];have hfu:(a0j-d.2.1.length-1)+d.2.1.length+1=a0j:=by
  have:=h.pen;unfold a0j;omega
 have:=x0r n d.2.1 h.pen d.2.1 [] (a0j-d.2.1.length-1) d 0 0 his rfl rfl rfl h.fit (Int.le_refl _) (by simp);rw[hfu] at this;rw[this,obs,f0f];simp[keepD]
def r0t (d:Dsk):Int×Dsk:=if (stepD d).1=0 then (0,(keepD (stepD d).2 fun _=>true).2) else stepD d
theorem DkOk.step {d:Dsk} (h:DkOk d):DkOk (stepD d).2:=by
 obtain ⟨e1,e2⟩:=g0d d;exact ⟨by rw[e1];exact h.len,by rw[e2];exact h.pen,by rw[e1,e2];exact h.fit⟩
theorem t0c (n:Nat) (d:Dsk) (h:DkOk d) (ha:d.2.2.1≤9223372036854775807):c0q (n+2) d=some (r0t d):=by
 rw[k0k,t0d n d ha,obs];unfold r0t;by_cases h1:(stepD d).1=0
 ·simp only[tfd,if_pos h1];rw[t0s n (stepD d).2 (is:=fun y1=>e0k (n+1) y1.1) h.step (k:=fun _=>true) (fun j _ _=>i0x n j),obs,h1]
 ·simp only[tfd,if_neg h1]
def upK (keep:List Bool) (j:Int):Bool:=decide (j<keep.length)&&(keep[j.toNat]?.getD false)
def upD (d:Dsk) (keep:List Bool):Int×Dsk:=keepD (d.1,d.2.1,0,false) (upK keep)
theorem up_val (n:Nat) (d:Dsk) (keep:List Bool) (h:DkOk d):d0k (n+2) d keep=some (upD d keep):=by
 rw[m0u];have h':DkOk (d.1,d.2.1,(0:Int),false):=⟨h.len,h.pen,h.fit⟩;rw[t0s n (d.1,d.2.1,(0:Int),false) (is:=fun y0=>g0a (n+1) y0.1 keep) h' (k:=upK keep) (fun j h0 h1 => ?_),obs]
 ·rfl
 ·rw[k0j];unfold upK;by_cases hj:j<(keep.length:Int)
  ·obtain ⟨v,hv⟩:∃v,keep[j.toNat]? = some v:=⟨_,List.getElem?_eq_getElem (by omega)⟩;simp[tfd,hj,at?,h0,hv]
  ·simp[tfd,hj]
theorem safe_val (n:Nat) (d:Dsk) (h:DkOk d):b0g (n+2) d=some (d.1,d):=by
 rw[k0l,f0p];have h1:((0+d.1.length)*16≤140737488355328):=by have:=h.len;omega
 by_cases h0:d.1.length=0
 ·have:d.1=[]:=List.eq_nil_of_length_eq_zero h0;simp only[tfd,if_pos h0,if_pos h1];rw[this];simp
 ·simp only[tfd,if_neg h0,if_pos h1];simp
theorem m0e (n:Nat) (d:Dsk) (h:d.2.1.length≤1000000000000):a0s (n+2) d=some (d.2.1,d):=by
 rw[i0m,f0q];have h1:((0+d.2.1.length)*24≤140737488355328):=by omega
 by_cases h0:d.2.1.length=0
 ·have:d.2.1=[]:=List.eq_nil_of_length_eq_zero h0;simp only[tfd,if_pos h0,if_pos h1];rw[this];simp
 ·simp only[tfd,if_neg h0,if_pos h1];simp
end Go.Proofs.Ytghegadegcemjaa

set_option maxRecDepth 100000
namespace Go.Proofs.Ytghegadegcemjaa
open Go.Flat
theorem text_val (n:Nat) (c:Int):b0m (n+1) c=some (List.replicate 512 (UInt8.ofNat (Int.toNat c))):=by kernel_rfl
theorem rep512 (n:Nat):strings_Repeat (n+3) [0] 512=some (List.replicate 512 0):=by kernel_rfl
end Go.Proofs.Ytghegadegcemjaa
namespace Go.Proofs.Ytghegadegcemjaa
open Go.Flat
set_option linter.unusedVariables false
set_option linter.unusedSimpArgs false
theorem rep_loop (n:Nat) (r:Sec) (m:Nat) (hm:m≤16777216):∀(f k:Nat),1≤k→k≤m→m-k≤f →
  c0h n (f+1) (List.replicate k r++List.replicate (m-k) [],(k:Int),())=some (.inl (List.replicate m r,())):=by
 intro f;induction f with
 | zero =>
  intro k h1 h2 h3;obtain rfl:k=m:=by omega
  rw[d0t];simp[tfd]
 | succ f ih =>
  intro k h1 h2 h3;rw[d0t];have hlen:(List.replicate k r++List.replicate (m-k) ([]:Sec)).length=m:=by simp;omega
  rw[hlen];by_cases hk:k=m
  ·subst hk;simp[tfd]
  ·have c1:((k:Int)<(m:Int)):=by omega
   have c2:((0:Int)≤(k:Int)):=by omega
   have c3:(Int.toNat (k:Int)≤m):=by simp;omega
   have c4:(decide ((0:Int)≤(k:Int))&&decide ((k:Int)≤(m:Int)))=true:=by simp;omega
   have c5:(Int.toNat (k:Int)+(m-Int.toNat (k:Int))≤m):=by simp;omega
   rw[c4];simp only[b0h,decide_eq_true_eq,if_pos c1,if_pos c2,if_pos c3,if_pos c5,if_true];have e1:List.take (Int.toNat (k:Int)-0) (List.drop 0 (List.replicate k r++List.replicate (m-k) ([]:Sec)))=List.replicate k r:=by simp
   rw[e1];have e2:List.take (m-Int.toNat (k:Int)) (List.replicate k r)=List.replicate (min (m-k) k) r:=by simp
   rw[e2];have e3:(k:Int)+((List.replicate (min (m-k) k) r).length:Int)=((k+min (m-k) k:Nat):Int):=by simp
   rw[e3,w64 (by omega) (by omega)];have e4:Go.Flat.putRow (List.replicate k r++List.replicate (m-k) ([]:Sec)) (Int.toNat (k:Int)) (List.replicate (min (m-k) k) r)=List.replicate (k+min (m-k) k) r++List.replicate (m-(k+min (m-k) k)) []:=by
    unfold Go.Flat.putRow;rw[show Int.toNat (k:Int)=k by simp,List.take_left' (by simp),List.drop_append,List.drop_of_length_le (by simp),List.replicate_append_replicate];simp;omega
   rw[e4];exact ih (k+min (m-k) k) (by omega) (by omega) (by omega)
end Go.Proofs.Ytghegadegcemjaa

namespace Go.Plim
set_option linter.unusedVariables false
abbrev Wd:=Int×Int
abbrev Ev:=Int×(Int×(Int×Bool))
abbrev Cel:=Int×(Ev×(Ev×(Wd×(Int×(Int×Int)))))
instance decWd:DecidableEq Wd:=inferInstanceAs (DecidableEq (Int×Int))
instance decEv:DecidableEq Ev:=inferInstanceAs (DecidableEq (Int×(Int×(Int×Bool))))
instance decCel:DecidableEq Cel := @instDecidableEqProd _ _ _ (@instDecidableEqProd _ _ decEv (@instDecidableEqProd _ _ decEv (@instDecidableEqProd _ _ decWd inferInstance)))
def wv (a:Wd):Int:=a.1*18446744073709551616+a.2
structure WdOk (a:Wd):Prop where
 hi:0≤a.1∧a.1≤18446744073709551615
 lo:0≤a.2∧a.2≤18446744073709551615
def e0:Ev:=(0,(0,(0,false)))
structure EvOk (e:Ev):Prop where
 t0:0≤e.1
 t1:e.1<35184372088832
 v0:0≤e.2.1
 v1:e.2.1≤18446744073709551615
 c0:0≤e.2.2.1
 c1:e.2.2.1≤e.1
 st:e.2.2.2=true→e.2.1=0∧e.2.2.1=0
structure DlOk (d:Int×(Int×(Int×Int))) (s:Int):Prop where
 i:0≤d.1∧d.1≤18446744073709551615
 r:0≤d.2.1
 g:0≤d.2.2.1
 rg:d.2.1+d.2.2.1≤1
 s:0≤d.2.2.2∧d.2.2.2≤s
def z0:Cel:=(0,(e0,(e0,((0,0),(0,(0,0))))))
structure CellN (c:Cel):Prop where
 n1:1≤c.1
 f:EvOk c.2.1
 l:EvOk c.2.2.1
 one:c.1=1→c.2.1=c.2.2.1
 more:1<c.1→c.2.1.1<c.2.2.1.1
 n2:c.1-1≤c.2.2.1.1-c.2.1.1
 w:WdOk c.2.2.2.1
 inc:wv c.2.2.2.1≤18446744073709551615*(c.1-1)
 r:0≤c.2.2.2.2.1
 g:0≤c.2.2.2.2.2.1
 rg:c.2.2.2.2.1+c.2.2.2.2.2.1≤c.1-1
 s0:0≤c.2.2.2.2.2.2
 s1:c.2.2.2.2.2.2≤c.2.2.1.1-c.2.1.1
def r0s (c:Cel):Prop:=c=z0∨CellN c
theorem CellN.ne {c:Cel} (h:CellN c):c≠z0:=by
 intro e;have:=h.n1;rw[e] at this;simp[z0] at this
theorem CellN.ok {c:Cel} (h:CellN c):r0s c := .inr h
theorem r0s.n {c:Cel} (h:r0s c) (hz:c≠z0):CellN c:=h.resolve_left hz
theorem r0s.count {c:Cel} (h:r0s c):(c.1=0↔c=z0)∧0≤c.1:=by
 rcases h with rfl | h
 ·exact ⟨⟨fun _=>rfl,fun _=>rfl⟩,by simp[z0]⟩
 ·have:=h.n1;exact ⟨⟨fun e=>by omega,fun e=>absurd e h.ne⟩,by omega⟩
theorem CellN.ft {c:Cel} (h:CellN c):c.2.1.1≤c.2.2.1.1:=by have:=h.n1;have:=h.n2;omega
structure Foll (l:List Ev):Prop where
 ok:∀e∈l,EvOk e
 inc:l.Pairwise fun a b=>a.1<b.1
theorem Foll.nil:Foll []:=⟨by simp,.nil⟩
theorem Foll.sub {l m:List Ev} (h:Foll l) (s:m.Sublist l):Foll m:=⟨fun e he=>h.ok e (s.subset he),h.inc.sublist s⟩
structure Has (l:List Ev) (c:Cel):Prop where
 n:CellN c
 cnt:c.1=l.length
 first:l.head? = some c.2.1
 last:l.getLast? = some c.2.2.1
end Go.Plim

namespace Go.Proofs.Ytghegadegcemjaa
open Go.Flat Go.Plim
set_option linter.unusedVariables false
set_option linter.unusedSimpArgs false
theorem shr_nat (x:Int) (k:Nat) (hk:k≤64):shrI .u64 x (k:Int)=x / 2^k:=by
 unfold shrI;rw[show min (k:Int).toNat IntKind.u64.bits=k from by show min (k:Int).toNat 64=k;omega];exact Int.fdiv_eq_ediv_of_nonneg _ (Int.le_of_lt (Int.pow_pos (by decide)))
theorem and_mask (x:Int) (k:Nat) (hk:k≤63) (h:0≤x) (h':x≤18446744073709551615):andI .u64 x ((2^k-1:Nat):Int)=x % ((2^k:Nat):Int):=by
 obtain ⟨a,rfl⟩:=Int.eq_ofNat_of_zero_le h;have hp:2^k≤2^63:=Nat.pow_le_pow_right (by decide) hk;have h63:(2:Nat)^63=9223372036854775808:=by decide
 unfold andI;have e:(BitVec.ofInt IntKind.u64.bits (a:Int) &&& BitVec.ofInt IntKind.u64.bits ((2^k-1:Nat):Int)).toNat=a % 2^k:=by
  show (BitVec.ofInt 64 (a:Int) &&& BitVec.ofInt 64 ((2^k-1:Nat):Int)).toNat=_;rw[BitVec.toNat_and,BitVec.ofInt_natCast,BitVec.ofInt_natCast,BitVec.toNat_ofNat,BitVec.toNat_ofNat,Nat.mod_eq_of_lt (a:=a) (by omega),Nat.mod_eq_of_lt (a:=2^k-1) (by omega),Nat.and_two_pow_sub_one_eq_mod]
 rw[e];have:a % 2^k<2^k:=Nat.mod_lt _ (Nat.pow_pos (by decide));rw[wu64 (by omega) (by omega)];simp
theorem mul64 (n:Nat) (x y:Int) (hx:0≤x∧x≤18446744073709551615) (hy:0≤y∧y≤18446744073709551615):f0l (n+1) x y=some (x*y / 18446744073709551616,x*y % 18446744073709551616):=by
 rw[j0n];have sh:∀z:Int,shrI .u64 z (32:Int)=z / 4294967296:=fun z=>shr_nat z 32 (by decide)
 have an:∀z:Int,0≤z→z≤18446744073709551615→andI .u64 z (4294967295:Int)=z % 4294967296:=fun z h h'=>and_mask z 32 (by decide) h h'
 rw[an x hx.1 hx.2,an y hy.1 hy.2];simp only[sh];have b1:0≤x / 4294967296∧x / 4294967296≤4294967295:=by omega
 have b2:0≤y / 4294967296∧y / 4294967296≤4294967295:=by omega
 have b3:0≤x % 4294967296∧x % 4294967296≤4294967295:=by omega
 have b4:0≤y % 4294967296∧y % 4294967296≤4294967295:=by omega
 have ex:x=x / 4294967296*4294967296+x % 4294967296:=by omega
 have ey:y=y / 4294967296*4294967296+y % 4294967296:=by omega
 generalize hx1:x / 4294967296=x1 at *
 generalize hx0:x % 4294967296=x0 at *
 generalize hy1:y / 4294967296=y1 at *
 generalize hy0:y % 4294967296=y0 at *
 have bound:∀ {u v:Int},0≤u∧u≤4294967295→0≤v∧v≤4294967295→0≤u*v∧u*v≤18446744065119617025:=fun {u v} hu hv =>
  ⟨Int.mul_nonneg hu.1 hv.1,Int.le_trans (Int.mul_le_mul hu.2 hv.2 hv.1 (by decide)) (by decide)⟩
 have p11:=bound b1 b2;have p10:=bound b1 b4;have p01:=bound b3 b2;have p00:=bound b3 b4;have exy:x*y=x1*y1*18446744073709551616+(x1*y0+x0*y1)*4294967296+x0*y0:=by
  rw[ex,ey];simp only[Int.add_mul,Int.mul_add];have q1:x1*4294967296*(y1*4294967296)=x1*y1*18446744073709551616:=by
   rw[Int.mul_assoc,Int.mul_left_comm 4294967296 y1,←Int.mul_assoc];rfl
  have q2:x0*(y1*4294967296)=x0*y1*4294967296:=by rw[Int.mul_assoc]
  have q3:x1*4294967296*y0=x1*y0*4294967296:=by rw[Int.mul_assoc,Int.mul_comm 4294967296 y0,←Int.mul_assoc]
  rw[q1,q2,q3];omega
 rw[exy];generalize x1*y1=a11 at *
 generalize x1*y0=a10 at *
 generalize x0*y1=a01 at *
 generalize x0*y0=a00 at *
 rw[wu64 (x:=a00) (by omega) (by omega),wu64 (x:=a11) (by omega) (by omega),wu64 (x:=a10) (by omega) (by omega),wu64 (x:=a01) (by omega) (by omega)];rw[wu64 (x:=a10+a00 / 4294967296) (by omega) (by omega),an _ (by omega) (by omega)];rw[wu64 (x:=a11+(a10+a00 / 4294967296) / 4294967296) (by omega) (by omega),wu64 (x:=(a10+a00 / 4294967296) % 4294967296+a01) (by omega) (by omega),wu64 (by omega) (by omega)];have wm:∀z:Int,IntKind.wrap .u64 z=z % 18446744073709551616:=fun z=>IntKind.wrap_u64 z
 rw[wm];congr 2;omega
end Go.Proofs.Ytghegadegcemjaa
namespace Go.Proofs.Ytghegadegcemjaa
open Go.Flat
set_option linter.unusedVariables false
set_option linter.unusedSimpArgs false
theorem u0u (n:Nat) (r:Sec) (m:Nat) (h1:1≤m) (h2:m≤16777216):e0j (n+3) [r] (m:Int)=some (List.replicate m r):=by
 rw[i0u];have c1:¬((m:Int)<0):=by omega
 have e1:(((List.length [r]:Nat)):Int)=1:=rfl;rw[e1,wu64 (x:=1) (by omega) (by omega),wu64 (x:=(m:Int)) (by omega) (by omega),l0h,mul64 n 1 (m:Int) (by omega) (by omega)];have e2:(1:Int)*(m:Int) / 18446744073709551616=0:=by omega
 have e3:(1:Int)*(m:Int) % 18446744073709551616=(m:Int):=by omega
 rw[e2,e3,obs,obs];have c2:¬((9223372036854775807:Int)<(m:Int)):=by omega
 have e4:IntKind.wrap .i64 (m:Int)=(m:Int):=w64 (by omega) (by omega);rw[e4];have c3:(decide ((0:Int)≤(m:Int))&&(decide ((m:Int)≤(m:Int))&&decide ((m:Int)*16≤(140737488355328:Int))))=true:=by simp;omega
 rw[c3];simp only[b0h,decide_eq_true_eq,if_neg c1,if_neg c2,if_true,Int.lt_irrefl,if_false,Int.toNat_natCast,List.length_replicate];have e5:List.take m [r]=[r]:=by
  cases m with
  | zero=>omega
  | succ m=>simp
 have e6:Go.Flat.putRow (List.replicate m ([]:Sec)) 0 [r]=List.replicate 1 r++List.replicate (m-1) []:=by simp[Go.Flat.putRow]
 rw[e5,e6];have:=rep_loop (n+2) r m h2 (a0j-1) 1 (Nat.le_refl _) h1 (by unfold a0j;omega);rw[show a0j-1+1=a0j by unfold a0j;omega] at this;have e7:(((List.length [r]:Nat)):Int)=((1:Nat):Int):=rfl;rw[e7,this,obs,f0f]
def zsec:Sec:=List.replicate 512 0
def newD (m:Nat):Dsk:=(List.replicate m zsec,[],0,false)
theorem p0n (n:Nat) (c:Int):e0v (n+4) c=some (if 1≤c∧c≤16777216 then (some (newD c.toNat),0) else (none,1)):=by
 rw[s0y];by_cases h1:c<1
 ·rw[if_neg (by omega)];simp only[tfd,if_pos h1]
 by_cases h2:16777216<c
 ·rw[if_neg (by omega)];simp only[tfd,if_neg h1,if_pos h2]
 rw[if_pos (by omega)];simp only[tfd,if_neg h1,if_neg h2];have e:c=((c.toNat:Nat):Int):=by omega
 rw[rep512,obs];have:=u0u n (List.replicate 512 0) c.toNat (by omega) (by omega);rw[←e] at this;rw[this,obs];rfl
abbrev Act25:=Int×(Int×(Int×(Bool×List Bool)))
def tx (c:Int):Sec:=List.replicate 512 (UInt8.ofNat (Int.toNat c))
theorem w0b (n:Nat) (c:Int):b0m (n+1) c=some (tx c):=text_val n c
theorem g0c (c:Int):(tx c).length=512:=List.length_replicate
def upd (S:List Sec) (W:List Chg):Dsk:=(S,W,0,false)
theorem j0d (S:List Sec) (W:List Chg) (i c:Int):i0n (upd S W) i (tx c)=if 0≤i∧i<S.length then (0,upd S (W++[(i,tx c)])) else (1,upd S W):=by
 unfold i0n;have h:stepD (upd S W)=(0,upd S W):=by simp[stepD,upd]
 by_cases hi:0≤i∧i<(S.length:Int)
 ·rw[if_pos ⟨hi.1,hi.2,g0c c⟩,if_pos hi,h];rfl
 ·rw[if_neg (fun q=>hi ⟨q.1,q.2.1⟩),if_neg hi]
theorem r0c (n:Nat)  : j0p (n+1)  =
 a0e (e0v n (2:Int)) fun r0 =>
 s0k (r0.1) (
 a0e (e0v n (0:Int)) fun r1 =>
 s0k (r1.1) (
 tif ((!(decide (r0.2=(0:Int))))) (
 some false) (
 some false)) fun r2 =>
 tif ((!(decide (r0.2=(0:Int))))) (
 some false) (
 some false)) fun r3 =>
 a0e (e0v n (0:Int)) fun r4 =>
 s0k (r4.1) (
 tif ((!(decide (r0.2=(0:Int))))) (
 some false) (
 tif ((!(decide (r4.2=(1:Int))))) (
 some false) (
 a0e (b0m n (1:Int)) fun r5 =>
 a0e (a0i n r3 (0:Int) r5) fun r6 =>
 a0e (c0q n r6.2) fun r7 =>
 a0e (b0m n (2:Int)) fun r8 =>
 a0e (a0i n r7.2 (0:Int) r8) fun r9 =>
 a0e (b0m n (3:Int)) fun r10 =>
 a0e (a0i n r9.2 (1:Int) r10) fun r11 =>
 a0e (a0l n r11.2 (0:Int)) fun r12 =>
 a0e (d0p n r12.2.2 (1:Int)) fun r13 =>
 a0e (b0m n (4:Int)) fun r14 =>
 a0e (a0i n r13 (0:Int) r14) fun r15 =>
 a0e (a0l n r15.2 (0:Int)) fun r16 =>
 a0e (b0a n r16.2.2) fun r17 =>
 a0e (d0k n r17.2 (false::(true::[]))) fun r18 =>
 a0e (a0l n r18.2 (0:Int)) fun r19 =>
 a0e (a0l n r19.2.2 (1:Int)) fun r20 =>
 tif ((decide (r6.1=(0:Int)))) (
 tif ((decide (r7.1=(0:Int)))) (
 a0e (b0m n (2:Int)) fun r21 =>
 tif ((r12.1==r21)) (
 tif ((decide (r12.2.1=(0:Int)))) (
 tif ((decide (r15.1=(14:Int)))) (
 tif ((decide (r16.2.1=(14:Int)))) (
 tif (r17.1) (
 tif ((decide (r18.1=(1:Int)))) (
 a0e (b0m n (1:Int)) fun r22 =>
 tif ((r19.1==r22)) (
 tif ((decide (r19.2.1=(0:Int)))) (
 a0e (b0m n (3:Int)) fun r23 =>
 tif ((r20.1==r23)) (
 tif ((decide (r20.2.1=(0:Int)))) (
 a0e (a0s n r20.2.2) fun r24 =>
 tif ((decide ((((List.length r24.1):Nat):Int)=(0:Int)))) (
 a0e (c0k n r24.2) fun r25 =>
 tif ((decide (r25.1=(2:Int)))) (
 a0e (b0m n (1:Int)) fun r26 =>
 a0e (a0i n r25.2 (2:Int) r26) fun r27 =>
 tif ((decide (r27.1=(1:Int)))) (
 a0e (a0i n r27.2 (0:Int) ((120:UInt8)::[])) fun r28 =>
 some (decide (r28.1=(1:Int)))) (
 some false)) (
 some false)) (
 some false)) (
 some false)) (
 some false)) (
 some false)) (
 some false)) (
 some false)) (
 some false)) (
 some false)) (
 some false)) (
 some false)) (
 some false)) (
 some false)) (
 some false)))) fun r29 =>
 tif ((!(decide (r0.2=(0:Int))))) (
 some false) (
 tif ((!(decide (r4.2=(1:Int))))) (
 some false) (
 a0e (b0m n (1:Int)) fun r30 =>
 a0e (a0i n r3 (0:Int) r30) fun r31 =>
 a0e (c0q n r31.2) fun r32 =>
 a0e (b0m n (2:Int)) fun r33 =>
 a0e (a0i n r32.2 (0:Int) r33) fun r34 =>
 a0e (b0m n (3:Int)) fun r35 =>
 a0e (a0i n r34.2 (1:Int) r35) fun r36 =>
 a0e (a0l n r36.2 (0:Int)) fun r37 =>
 a0e (d0p n r37.2.2 (1:Int)) fun r38 =>
 a0e (b0m n (4:Int)) fun r39 =>
 a0e (a0i n r38 (0:Int) r39) fun r40 =>
 a0e (a0l n r40.2 (0:Int)) fun r41 =>
 a0e (b0a n r41.2.2) fun r42 =>
 a0e (d0k n r42.2 (false::(true::[]))) fun r43 =>
 a0e (a0l n r43.2 (0:Int)) fun r44 =>
 a0e (a0l n r44.2.2 (1:Int)) fun r45 =>
 tif ((decide (r31.1=(0:Int)))) (
 tif ((decide (r32.1=(0:Int)))) (
 a0e (b0m n (2:Int)) fun r46 =>
 tif ((r37.1==r46)) (
 tif ((decide (r37.2.1=(0:Int)))) (
 tif ((decide (r40.1=(14:Int)))) (
 tif ((decide (r41.2.1=(14:Int)))) (
 tif (r42.1) (
 tif ((decide (r43.1=(1:Int)))) (
 a0e (b0m n (1:Int)) fun r47 =>
 tif ((r44.1==r47)) (
 tif ((decide (r44.2.1=(0:Int)))) (
 a0e (b0m n (3:Int)) fun r48 =>
 tif ((r45.1==r48)) (
 tif ((decide (r45.2.1=(0:Int)))) (
 a0e (a0s n r45.2.2) fun r49 =>
 tif ((decide ((((List.length r49.1):Nat):Int)=(0:Int)))) (
 a0e (c0k n r49.2) fun r50 =>
 tif ((decide (r50.1=(2:Int)))) (
 a0e (b0m n (1:Int)) fun r51 =>
 a0e (a0i n r50.2 (2:Int) r51) fun r52 =>
 tif ((decide (r52.1=(1:Int)))) (
 a0e (a0i n r52.2 (0:Int) ((120:UInt8)::[])) fun r53 =>
 some (decide (r53.1=(1:Int)))) (
 some false)) (
 some false)) (
 some false)) (
 some false)) (
 some false)) (
 some false)) (
 some false)) (
 some false)) (
 some false)) (
 some false)) (
 some false)) (
 some false)) (
 some false)) (
 some false)) (
 some false))):=by kernel_rfl
theorem x0j (n:Nat):j0p (n+5)=some true:=by
 have l1:=g0c 1;have l2:=g0c 2;have l3:=g0c 3;have l4:=g0c 4;have q0:e0v (n+4) 2=some (some (upd [zsec,zsec] []),0):=by rw[p0n];rfl
 have q1:e0v (n+4) 0=some (none,1):=by rw[p0n];rfl
 have w1:a0i (n+4) (upd [zsec,zsec] []) 0 (tx 1)=some (0,upd [zsec,zsec] [(0,tx 1)]):=by
  rw[d0l _ _ _ _ (by simp[upd]) (by simp[upd]),j0d];rfl
 have w2:c0q (n+4) (upd [zsec,zsec] [(0,tx 1)])=some (0,upd [tx 1,zsec] []):=by
  rw[t0c _ _ ⟨by simp[upd],by simp[upd],fun z hz=>by
   simp only[upd,List.mem_singleton] at hz;subst hz
   exact ⟨by decide,by simp[upd],l1⟩⟩ (by simp[upd])]
  rfl
 have w3:a0i (n+4) (upd [tx 1,zsec] []) 0 (tx 2)=some (0,upd [tx 1,zsec] [(0,tx 2)]):=by
  rw[d0l _ _ _ _ (by simp[upd]) (by simp[upd]),j0d];rfl
 have w4:a0i (n+4) (upd [tx 1,zsec] [(0,tx 2)]) 1 (tx 3)=some (0,upd [tx 1,zsec] [(0,tx 2),(1,tx 3)]):=by
  rw[d0l _ _ _ _ (by simp[upd]) (by simp[upd]),j0d];rfl
 have w5:a0l (n+4) (upd [tx 1,zsec] [(0,tx 2),(1,tx 3)]) 0=some (tx 2,0,upd [tx 1,zsec] [(0,tx 2),(1,tx 3)]):=by
  rw[c0c];rfl
 have w6:d0p (n+4) (upd [tx 1,zsec] [(0,tx 2),(1,tx 3)]) 1=some ([tx 1,zsec],[(0,tx 2),(1,tx 3)],1,false):=by
  rw[h0h];rfl
 have w7:a0i (n+4) ([tx 1,zsec],[(0,tx 2),(1,tx 3)],1,false) 0 (tx 4)=some (14,[tx 1,zsec],[(0,tx 2),(1,tx 3)],0,true):=by
  rw[d0l _ _ _ _ (by simp) (by simp)];unfold i0n;rw[if_pos ⟨by decide,by simp,l4⟩];rfl
 have w8:a0l (n+4) ([tx 1,zsec],[(0,tx 2),(1,tx 3)],0,true) 0=some ([],14,[tx 1,zsec],[(0,tx 2),(1,tx 3)],0,true):=by
  rw[c0c];rfl
 have w9:b0a (n+4) ([tx 1,zsec],[(0,tx 2),(1,tx 3)],0,true)=some (true,[tx 1,zsec],[(0,tx 2),(1,tx 3)],0,true):=by
  rw[g0k]
 have w10:d0k (n+4) ([tx 1,zsec],[(0,tx 2),(1,tx 3)],0,true) [false,true]=some (1,upd [tx 1,tx 3] []):=by
  rw[up_val _ _ _ ⟨by simp,by simp,fun z hz=>by
   simp only[List.mem_cons,List.not_mem_nil,or_false] at hz;rcases hz with rfl | rfl
   ·exact ⟨by decide,by simp,l2⟩
   ·exact ⟨by decide,by simp,l3⟩⟩]
  rfl
 have w11:a0l (n+4) (upd [tx 1,tx 3] []) 0=some (tx 1,0,upd [tx 1,tx 3] []):=by
  rw[c0c];rfl
 have w12:a0l (n+4) (upd [tx 1,tx 3] []) 1=some (tx 3,0,upd [tx 1,tx 3] []):=by
  rw[c0c];rfl
 have w13:a0s (n+4) (upd [tx 1,tx 3] [])=some ([],upd [tx 1,tx 3] []):=by
  rw[m0e _ _ (by simp[upd])];rfl
 have w14:c0k (n+4) (upd [tx 1,tx 3] [])=some (2,upd [tx 1,tx 3] []):=by
  rw[h0g];rfl
 have w15:a0i (n+4) (upd [tx 1,tx 3] []) 2 (tx 1)=some (1,upd [tx 1,tx 3] []):=by
  rw[d0l _ _ _ _ (by simp[upd]) (by simp[upd]),j0d];rfl
 have w16:a0i (n+4) (upd [tx 1,tx 3] []) 0 [120]=some (1,upd [tx 1,tx 3] []):=by
  rw[d0l _ _ _ _ (by simp[upd]) (by simp[upd])];rfl
 have te:∀x:Sec,(x==x)=true:=fun x=>by simp
 have tt:∀c,b0m (n+4) c=some (tx c):=fun c=>w0b (n+3) c
 rw[r0c,q0,obs,o0l,q1,obs,k0f];have b0:(!decide ((0:Int)=0))=false:=rfl;have b1:(!decide ((1:Int)=1))=false:=rfl;have i0:decide ((0:Int)=0)=true:=rfl;have i1:decide ((1:Int)=1)=true:=rfl;have i14:decide ((14:Int)=14)=true:=rfl;have i2:decide ((2:Int)=2)=true:=rfl;have il:decide ((([]:List Chg).length:Int)=0)=true:=rfl;simp only[b0,b1,b0h,Bool.false_eq_true,if_false,tt,obs,w1,w2,w3,w4,w5,w6,w7,w8,w9,w10,w11,w12,w13,w14,w15,w16,i0,i1,i14,i2,il,te,if_true,decide_true,Bool.not_true]
theorem q0j (n:Nat) (d:Dsk) (h:d.2.2.1≤9223372036854775807) (h0:0≤d.2.2.1):e0s (n+1) d=some ((stepD d).2,decide ((stepD d).1=0)):=by
 rw[l0d];unfold stepD;simp only[b0h,decide_eq_true_eq];by_cases h1:d.2.2.2=true
 ·rw[if_pos h1,if_pos h1];rfl
 rw[if_neg h1,if_neg h1];by_cases h2:d.2.2.1=1
 ·rw[if_pos h2,if_pos h2];rfl
 rw[if_neg h2,if_neg h2];by_cases h3:1<d.2.2.1
 ·rw[if_pos h3,if_pos (by omega),w64 (by omega) (by omega)];rfl
 ·rw[if_neg h3,if_neg (by omega)];rfl
theorem n0y (d:Dsk) (h:¬(stepD d).1=0):(stepD d).1=14:=by
 unfold stepD at h ⊢;split
 ·rfl
 split
 ·rfl
 split
 ·rename_i h1 h2 h3;rw[if_neg h1,if_neg h2,if_pos h3] at h;exact absurd rfl h
 ·rename_i h1 h2 h3;rw[if_neg h1,if_neg h2,if_neg h3] at h;exact absurd rfl h
theorem o0i (n:Nat) (d:Dsk) (i:Int) (s:Sec) (h:d.2.2.1≤9223372036854775807) (h0:0≤d.2.2.1) (hp:d.2.1.length≤1000000000000):e0a (n+2) d i s=some ((i0n d i s).2,(i0n d i s).1):=by
 rw[k0b];unfold i0n;simp only[tfd];by_cases h1:i<0
 ·rw[if_pos h1,if_neg (by omega)]
 rw[if_neg h1];by_cases h2:(d.1.length:Int)≤i
 ·rw[if_pos h2,if_neg (by omega)]
 rw[if_neg h2];by_cases h3:s.length=512
 ·have e2:decide (((s.length:Nat):Int)=512)=true:=by simp[h3]
  rw[if_pos ⟨by omega,by omega,h3⟩,e2];simp only[b0h,Bool.not_true,Bool.false_eq_true,if_false];rw[q0j n d h h0,obs];by_cases h4:(stepD d).1=0
  ·have hl:(stepD d).2.2.1.length=d.2.1.length:=by rw[(g0d d).2]
   rw[if_pos h4,h4];simp only[decide_true,Bool.not_true,Bool.false_eq_true,if_false,decide_eq_true_eq];rw[if_pos (by omega),if_pos (by simp;omega)];simp
  ·rw[if_neg h4];simp only[decide_eq_false h4,Bool.not_false,if_true];rw[←n0y d h4]
 ·have e2:decide (((s.length:Nat):Int)=512)=false:=by simp;omega
  rw[if_neg (fun q=>h3 q.2.2),e2];rfl
theorem u0q (n:Nat) (s4:Dsk) (l:List Chg) (hl:l.length≤1000000000000):∀(rest pre:List Chg) (f:Nat) (d:Dsk) (i:Int),l=pre++rest→i=pre.length→(∀z∈rest,FitC d.1.length z) →
  d0h n (f+rest.length+1) (d,s4,l,(l.length:Int),i,())=some (.inl ((j0i d.1 rest,d.2),s4,())):=by
 intro rest;induction rest with
 | nil =>
  intro pre f d i h hi hf;rw[f0i];have h1:¬(i<(l.length:Int)):=by have:=congrArg List.length h;simp at this;omega
  simp only[tfd,if_neg h1];rfl
 | cons z rest ih =>
  intro pre f d i h hi hf;have hlen:=congrArg List.length h;simp at hlen;rw[show f+(z::rest).length+1=(f+rest.length+1)+1 by simp;omega,f0i];have h1:i<(l.length:Int):=by omega
  simp only[tfd,if_pos h1];rw[h0w h hi,obs,w64 (x:=i+1) (by omega) (by omega)];have hz:=hf z List.mem_cons_self;obtain ⟨v,hv⟩:∃v,d.1[z.1.toNat]? = some v:=⟨_,List.getElem?_eq_getElem (by have:=hz.1;have:=hz.2.1;omega)⟩;have hat:at? d.1 z.1=some v:=by simp[at?,hz.1,hv]
  rw[hat,obs,hv,obs];rw[ih (pre++[z]) f (d.1.set z.1.toNat z.2,d.2) (i+1) (by rw[h];simp) (by simp;omega) (fun y hy=>by simpa using hf y (List.mem_cons_of_mem _ hy))];rfl
theorem q0k (n:Nat) (d:Dsk) (l:List Chg) (hS:d.1.length≤16777216) (hl:l.length≤1000000000000) (hf:∀z∈l,FitC d.1.length z):d0m (n+1) d l=some (j0i d.1 l,[],d.2.2):=by
 rw[l0e];simp only[tfd];by_cases h0:(0:Int)<(l.length:Int)
 ·rw[if_pos h0,if_pos (by omega)];have hfu:(a0j-l.length-1)+l.length+1=a0j:=by unfold a0j;omega
  have:=u0q n ([],[],0,false) l hl l [] (a0j-l.length-1) ([]++d.1,d.2) 0 rfl rfl (by simpa using hf);rw[hfu] at this;rw[this,obs,f0f];simp
 ·have:l=[]:=List.eq_nil_of_length_eq_zero (by omega);subst this;rw[if_neg h0,if_neg h0];rfl
theorem w0j (n:Nat) (d:Dsk) (h:DkOk d) (ha:d.2.2.1≤9223372036854775807) (h0:0≤d.2.2.1):g0u (n+2) d=some ((r0t d).2,(r0t d).1):=by
 rw[l0f,q0j n d ha h0,obs];unfold r0t;by_cases h1:(stepD d).1=0
 ·rw[if_pos h1];have hs:=h.step;simp only[decide_eq_true h1,Bool.not_true,b0h,Bool.false_eq_true,if_false];rw[q0k n _ _ hs.len hs.pen hs.fit,obs];simp[keepD,x0s]
 ·rw[if_neg h1];simp only[decide_eq_false h1,Bool.not_false,b0h,if_true];rw[←n0y d h1]
theorem rup_loop (n:Nat) (keep:List Bool) (d s4:Dsk) (l:List Chg) (hl:l.length≤1000000):∀(rest pre:List Chg) (f:Nat) (out:List Chg) (i:Int),l=pre++rest→i=pre.length→out.length≤pre.length →
  c0p n (f+rest.length+1) (keep,d,s4,out,l,(l.length:Int),i,())=some (.inl (d,s4,out++d0f (upK keep) i rest,())):=by
 intro rest;induction rest with
 | nil =>
  intro pre f out i h hi ho;rw[g0f];have h1:¬(i<(l.length:Int)):=by have:=congrArg List.length h;simp at this;omega
  simp only[tfd,if_neg h1];simp[d0f]
 | cons z rest ih =>
  intro pre f out i h hi ho;have hlen:=congrArg List.length h;simp at hlen;rw[show f+(z::rest).length+1=(f+rest.length+1)+1 by simp;omega,g0f];have h1:i<(l.length:Int):=by omega
  simp only[tfd,if_pos h1];rw[h0w h hi,obs,w64 (x:=i+1) (by omega) (by omega)];have hn:=fun (o:List Chg) (ho:o.length≤pre.length+1)=>ih (pre++[z]) f o (i+1) (by rw[h];simp) (by simp;omega) (by simp;omega)
  by_cases hk:i<(keep.length:Int)
  ·obtain ⟨v,hv⟩:∃v,keep[i.toNat]? = some v:=⟨_,List.getElem?_eq_getElem (by omega)⟩;have hi0:0≤i:=by omega
   have hat:at? keep i=some v:=by simp[at?,hi0,hv]
   have hu:upK keep i=v:=by simp[upK,hk,hv]
   rw[if_pos hk,hat,obs];cases v with
   | true =>
    have e:d0f (upK keep) i (z::rest)=z::d0f (upK keep) (i+1) rest:=by rw[d0f,if_pos hu]
    simp only[b0h,if_true];rw[if_pos (by omega),hn (out++[z]) (by simp;omega),e];simp
   | false =>
    have e:d0f (upK keep) i (z::rest)=d0f (upK keep) (i+1) rest:=by rw[d0f,if_neg (by simp[hu])]
    simp only[b0h,Bool.false_eq_true,if_false];rw[hn out (by omega),e]
  ·have hu:upK keep i=false:=by simp[upK,hk]
   rw[if_neg hk,hn out (by omega)];have:d0f (upK keep) i (z::rest)=d0f (upK keep) (i+1) rest:=by rw[d0f,if_neg (by simp[hu])]
   rw[this]
theorem rup_val (n:Nat) (d:Dsk) (keep:List Bool) (h:DkOk d) (hp:d.2.1.length≤1000000):i0w (n+2) d keep=some ((upD d keep).2,(upD d keep).1):=by
 rw[n0o];have hfu:(a0j-d.2.1.length-1)+d.2.1.length+1=a0j:=by unfold a0j;omega
 have:=rup_loop (n+1) keep d ([],[],0,false) d.2.1 hp d.2.1 [] (a0j-d.2.1.length-1) [] 0 rfl rfl (Nat.le_refl _);rw[hfu] at this;rw[this,obs,f0f];have hm:∀z∈([]:List Chg)++d0f (upK keep) 0 d.2.1,FitC d.1.length z:=fun z hz=>h.fit z (m0n _ 0 (by simpa using hz))
 have hle:=k0w (k:=upK keep) d.2.1 0;show a0e (d0m (n+1) d ([]++d0f (upK keep) 0 d.2.1)) _=_;rw[q0k n d _ h.len (by simp;omega) hm,obs];rfl
theorem o0v (i:Int) (s:Sec):∀r:List Chg,r.foldr (fun z s=>if z.1=i then z.2 else s) s=(match r.find? (fun z=>decide (z.1=i)) with | some z=>z.2 | none=>s)
 | []=>rfl
 | z::r=>by
  rw[List.foldr_cons,List.find?_cons];by_cases h:z.1=i
  ·simp[h]
  ·rw[if_neg h,o0v i s r,decide_eq_false h]
theorem u0r (n:Nat) (a:Int) (l:List Chg) (hl:l.length≤1000000):∀(rest pre:List Chg) (f:Nat) (s:Sec) (i:Int),l=pre++rest→i=pre.length →
  c0l n (f+rest.length+1) (a,s,l,(l.length:Int),i,())=some (.inl (rest.foldl (fun s z=>if z.1=a then z.2 else s) s,())):=by
 intro rest;induction rest with
 | nil =>
  intro pre f s i h hi;rw[f0j];have h1:¬(i<(l.length:Int)):=by have:=congrArg List.length h;simp at this;omega
  simp only[tfd,if_neg h1];rfl
 | cons z rest ih =>
  intro pre f s i h hi;have hlen:=congrArg List.length h;simp at hlen;rw[show f+(z::rest).length+1=(f+rest.length+1)+1 by simp;omega,f0j];have h1:i<(l.length:Int):=by omega
  simp only[tfd,if_pos h1];rw[h0w h hi,obs,w64 (x:=i+1) (by omega) (by omega),List.foldl_cons];by_cases hz:z.1=a
  ·rw[if_pos hz,if_pos hz,ih (pre++[z]) f z.2 (i+1) (by rw[h];simp) (by simp;omega)]
  ·rw[if_neg hz,if_neg hz,ih (pre++[z]) f s (i+1) (by rw[h];simp) (by simp;omega)]
def p0g (d:Dsk) (i:Int):Sec×Int :=
 if d.2.2.2=true then ([],14) else if 0≤i∧i<d.1.length then
  ((match d.2.1.reverse.find? (fun z=>decide (z.1=i)) with | some z=>z.2 | none=>d.1[i.toNat]?.getD []),0) else ([],1)
theorem read_val (n:Nat) (d:Dsk) (i:Int):a0l (n+1) d i=some ((p0g d i).1,(p0g d i).2,d):=by
 rw[c0c];unfold l0a p0g;cases d.2.2.2 with
 | true=>rfl
 | false =>
  by_cases h:0≤i∧i<(d.1.length:Int)
  ·rw[if_pos h,decide_eq_true h.1,decide_eq_true h.2];simp only[Bool.and_self,cond_true,cond_false,Bool.false_eq_true,if_false];cases d.2.1.reverse.find? (fun z=>decide (z.1=i))<;>rfl
  ·rw[if_neg h];have:(decide (0≤i)&&decide (i<(d.1.length:Int)))=false:=by simp;omega
   rw[this];rfl
theorem w0k (n:Nat) (d:Dsk) (i:Int) (hp:d.2.1.length≤1000000):b0j (n+1) d i=some (p0g d i):=by
 rw[l0g];unfold p0g;simp only[b0h,decide_eq_true_eq];by_cases h:d.2.2.2=true
 ·rw[if_pos h,if_pos h]
 rw[if_neg h,if_neg h];by_cases h1:i<0
 ·rw[if_pos h1,if_neg (by omega)]
 rw[if_neg h1];by_cases h2:(d.1.length:Int)≤i
 ·rw[if_pos h2,if_neg (by omega)]
 rw[if_neg h2,if_pos (by omega)];obtain ⟨v,hv⟩:∃v,d.1[i.toNat]? = some v:=⟨_,List.getElem?_eq_getElem (by omega)⟩;have hi0:0≤i:=by omega
 have hat:at? d.1 i=some v:=by simp[at?,hi0,hv]
 have hfu:(a0j-d.2.1.length-1)+d.2.1.length+1=a0j:=by unfold a0j;omega
 have:=u0r n i d.2.1 hp d.2.1 [] (a0j-d.2.1.length-1) v 0 rfl rfl;rw[hfu] at this;rw[hat,obs,this,obs,f0f,hv];congr 2;show List.foldl _ v d.2.1=_;rw[←List.foldr_reverse,o0v i v d.2.1.reverse];rfl
theorem w0h (n:Nat) (l:List Sec) (hl:l.length≤1000000000):∀(rest pre:List Sec) (f:Nat) (i:Int),l=pre++rest→i=pre.length →
  g0v n (f+rest.length+1) (l,l,(l.length:Int),i,())=some (.inl ()):=by
 intro rest;induction rest with
 | nil =>
  intro pre f i h hi;rw[i0r];have h1:¬(i<(l.length:Int)):=by have:=congrArg List.length h;simp at this;omega
  simp only[tfd,if_neg h1]
 | cons z rest ih =>
  intro pre f i h hi;have hlen:=congrArg List.length h;simp at hlen;rw[show f+(z::rest).length+1=(f+rest.length+1)+1 by simp;omega,i0r];have h1:i<(l.length:Int):=by omega
  simp only[tfd,if_pos h1];rw[h0w h hi,obs,obs,w64 (x:=i+1) (by omega) (by omega),ih (pre++[z]) f (i+1) (by rw[h];simp) (by simp;omega)];simp[b0h]
theorem same_val (n:Nat) (l:List Sec) (hl:l.length≤1000000000):d0n (n+1) l l=some true:=by
 rw[s0b];have hfu:(a0j-l.length-1)+l.length+1=a0j:=by unfold a0j;omega
 have:=w0h n l hl l [] (a0j-l.length-1) 0 rfl rfl;rw[hfu] at this;rw[this];simp[b0h]
theorem u0o (n:Nat) (l:List Chg) (hl:l.length≤1000000000):∀(rest pre:List Chg) (f:Nat) (i:Int),l=pre++rest→i=pre.length →
  c0t n (f+rest.length+1) (l,l,(l.length:Int),i,())=some (.inl ()):=by
 intro rest;induction rest with
 | nil =>
  intro pre f i h hi;rw[e0g];have h1:¬(i<(l.length:Int)):=by have:=congrArg List.length h;simp at this;omega
  simp only[tfd,if_neg h1]
 | cons z rest ih =>
  intro pre f i h hi;have hlen:=congrArg List.length h;simp at hlen;rw[show f+(z::rest).length+1=(f+rest.length+1)+1 by simp;omega,e0g];have h1:i<(l.length:Int):=by omega
  simp only[tfd,if_pos h1];rw[h0w h hi,obs,obs,w64 (x:=i+1) (by omega) (by omega),ih (pre++[z]) f (i+1) (by rw[h];simp) (by simp;omega)];simp[b0h]
theorem w0i (n:Nat) (l:List Chg) (hl:l.length≤1000000000):b0d (n+1) l l=some true:=by
 rw[j0h];have hfu:(a0j-l.length-1)+l.length+1=a0j:=by unfold a0j;omega
 have:=u0o n l hl l [] (a0j-l.length-1) 0 rfl rfl;rw[hfu] at this;rw[this];simp[b0h]
theorem y0o (n:Nat) (d:Dsk) (hS:d.1.length≤16777216) (hp:d.2.1.length≤1000000):f0m (n+2) d=some (d,d):=by
 rw[j0v,f0p,f0q];have h1:((0+d.1.length)*16≤140737488355328):=by omega
 have h2:((0+d.2.1.length)*24≤140737488355328):=by omega
 have e1:(tif (decide (d.1.length=0)) (both (some []) (tif (decide ((0+d.1.length)*16≤140737488355328)) (some ([]++d.1)) none)) (tif (decide ((0+d.1.length)*16≤140737488355328)) (some ([]++d.1)) none))=some d.1:=by
  by_cases h0:d.1.length=0
  ·have:d.1=[]:=List.eq_nil_of_length_eq_zero h0;simp only[tfd,if_pos h0,if_pos h1];rw[this];simp
  ·simp only[tfd,if_neg h0,if_pos h1];simp
 have e2:(tif (decide (d.2.1.length=0)) (both (some []) (tif (decide ((0+d.2.1.length)*24≤140737488355328)) (some ([]++d.2.1)) none)) (tif (decide ((0+d.2.1.length)*24≤140737488355328)) (some ([]++d.2.1)) none))=some d.2.1:=by
  by_cases h0:d.2.1.length=0
  ·have:d.2.1=[]:=List.eq_nil_of_length_eq_zero h0;simp only[tfd,if_pos h0,if_pos h2];rw[this];simp
  ·simp only[tfd,if_neg h0,if_pos h2];simp
 rw[e1,obs,e2,obs]
theorem w0n (n:Nat) (s2:Dsk) (z:Sec) (x:List Chg×(Int×Bool)) (m:Nat) (hm:m≤16777216):∀(r k f:Nat),k+r=m →
  g0e n (f+r+1) (s2,z,(List.replicate k z++List.replicate r [],x),(m:Int),(k:Int),())=some (.inl (s2,(List.replicate m z,x),())):=by
 intro r;induction r with
 | zero =>
  intro k f h;rw[j0g];have h1:¬((k:Int)<(m:Int)):=by omega
  simp only[tfd,if_neg h1];obtain rfl:k=m:=by omega
  simp
 | succ r ih =>
  intro k f h;rw[show f+(r+1)+1=(f+r+1)+1 by omega,j0g];have h1:((k:Int)<(m:Int)):=by omega
  simp only[tfd,if_pos h1];have hl:(List.replicate k z++List.replicate (r+1) ([]:Sec))=List.replicate k z++[]::List.replicate r []:=by rw[List.replicate_succ]
  rw[h0w hl (by simp),obs,t0r hl (by simp),obs,w64 (x:=(k:Int)+1) (by omega) (by omega)];have e:(List.replicate k z++List.replicate (r+1) ([]:Sec)).set (Int.toNat (k:Int)) z=List.replicate (k+1) z++List.replicate r []:=by
   have e1:(List.replicate k z++[]::List.replicate r ([]:Sec)).set k z=List.replicate k z++z::List.replicate r []:=by
    have:=List.set_append_right (s:=List.replicate k z) (t:=[]::List.replicate r ([]:Sec)) k z (by simp);rw[this];simp
   rw[hl,Int.toNat_natCast,e1,List.replicate_succ'];simp
  rw[e,show (k:Int)+1=((k+1:Nat):Int) by simp,ih (k+1) f (by omega)]
theorem p0f (n:Nat) (c:Int):k0a (n+1) c=some (if 1≤c∧c≤16777216 then (newD c.toNat,true) else (([],[],0,false),false)):=by
 rw[u0v];simp only[tfd];by_cases h1:c<1
 ·rw[if_pos h1,if_neg (by omega)]
 rw[if_neg h1];by_cases h2:16777216<c
 ·rw[if_pos h2,if_neg (by omega)]
 rw[if_neg h2,if_pos (by omega)];have hc:(decide ((0:Int)≤c)&&(decide (c≤c)&&decide (c*16≤(140737488355328:Int))))=true:=by simp;omega
 rw[hc];simp only[b0h,if_true,List.length_replicate];have hz:(List.map (fun y0=>UInt8.ofNat (Int.toNat y0)) (List.replicate 512 (0:Int)))=zsec:=List.map_replicate;have hfu:(a0j-c.toNat-1)+c.toNat+1=a0j:=by unfold a0j;omega
 have:=w0n n ([],[],0,false) zsec ([],0,false) c.toNat (by omega) c.toNat 0 (a0j-c.toNat-1) (by omega);rw[hfu] at this;rw[hz];simp only[List.replicate_zero,List.nil_append] at this;show a0e (g0e n a0j (([],[],0,false),zsec,(List.replicate c.toNat [],[],0,false),(c.toNat:Int),((0:Nat):Int),())) _=_;rw[this,obs,f0f];rfl
structure PlOk (m k:Nat) (d:Dsk):Prop where
 len:d.1.length=m
 pen:d.2.1.length≤k
 fit:∀z∈d.2.1,FitC d.1.length z
 arm0:0≤d.2.2.1
 arm1:d.2.2.1≤9223372036854775807
theorem PlOk.ok {m k:Nat} {d:Dsk} (h:PlOk m k d) (hm:m≤16777216) (hk:k≤1000000):DkOk d :=
 ⟨by rw[h.len];exact hm,by have:=h.pen;omega,h.fit⟩
theorem PlOk.step {m k:Nat} {d:Dsk} (h:PlOk m k d):PlOk m k (stepD d).2:=by
 obtain ⟨e1,e2⟩:=g0d d;have ha:0≤(stepD d).2.2.2.1∧(stepD d).2.2.2.1≤9223372036854775807:=by
  have h1:=h.arm0;have h2:=h.arm1;unfold stepD;split
  ·exact ⟨h1,h2⟩
  split
  ·exact ⟨by show (0:Int)≤0;omega,by show (0:Int)≤_;omega⟩
  split
  ·exact ⟨by show 0≤d.2.2.1-1;omega,by show d.2.2.1-1≤_;omega⟩
  ·exact ⟨h1,h2⟩
 exact ⟨by rw[e1];exact h.len,by rw[e2];exact h.pen,by rw[e1,e2];exact h.fit,ha.1,ha.2⟩
theorem PlOk.more {m k:Nat} {d:Dsk} (h:PlOk m k d):PlOk m (k+1) d:=⟨h.len,by have:=h.pen;omega,h.fit,h.arm0,h.arm1⟩
theorem PlOk.write {m k:Nat} {d:Dsk} (h:PlOk m k d) (i:Int) (s:Sec):PlOk m (k+1) (i0n d i s).2:=by
 unfold i0n;by_cases h1:0≤i∧i<(d.1.length:Int)∧s.length=512
 ·rw[if_pos h1];by_cases h2:(stepD d).1=0
  ·rw[if_pos h2];have hs:=h.step;refine ⟨hs.len,?_,?_,hs.arm0,hs.arm1⟩
   ·have:=hs.pen;simp;omega
   ·intro z hz;rcases List.mem_append.1 hz with hz | hz
    ·exact hs.fit z hz
    ·obtain rfl:=List.mem_singleton.1 hz;show FitC (stepD d).2.1.length (i,s);rw[(g0d d).1];exact h1
  ·rw[if_neg h2];exact h.step.more
 ·rw[if_neg h1];exact h.more
theorem PlOk.keep {m k:Nat} {d:Dsk} (h:PlOk m k d) (f:Int→Bool):PlOk m (k+1) (keepD d f).2 :=
 ⟨by show (j0i d.1 _).length=m;rw[p0h];exact h.len,by show 0≤_;omega,fun z hz=>(by cases hz),h.arm0,h.arm1⟩
theorem PlOk.sync {m k:Nat} {d:Dsk} (h:PlOk m k d):PlOk m (k+1) (r0t d).2:=by
 unfold r0t;split
 ·exact h.step.keep _
 ·exact h.step.more
theorem u0l {β:Type} (n m k:Nat) (d:Dsk) (a:Int) (h:PlOk m k d) (hm:m≤16777216) (hk:k≤1000000) (K:Dsk→Option (β ⊕ Bool)) :
  (a0e (b0j (n+2) d a) fun r4 =>
  a0e (a0l (n+2) d a) fun r5 =>
  tif ((!(r4.1==r5.1))) (
  some (.inr false)) (
  tif ((!(decide (r4.2=r5.2.1)))) (
  some (.inr false)) (
  a0e (b0a (n+2) r5.2.2) fun r6 =>
  tif ((!(r6.1==d.2.2.2))) (
  some (.inr false)) (
  a0e (b0g (n+2) r6.2) fun r7 =>
  a0e (d0n (n+2) r7.1 d.1) fun r8 =>
  tif ((!r8)) (
  some (.inr false)) (
  a0e (a0s (n+2) r7.2) fun r9 =>
  a0e (b0d (n+2) r9.1 d.2.1) fun r10 =>
  tif ((!r10)) (
  some (.inr false)) (K r9.2))))))=K d:=by
 have hl:=h.len;have hp:=h.pen;rw[w0k (n+1) d a (by omega),obs,read_val (n+1) d a,obs];have t1:(!((p0g d a).1==(p0g d a).1))=false:=by simp
 have t2:(!(decide ((p0g d a).2=(p0g d a).2)))=false:=by simp
 simp only[t1,t2,b0h,Bool.false_eq_true,if_false,decide_true,Bool.not_true];rw[g0k,obs];have t3:(!(d.2.2.2==d.2.2.2))=false:=by simp
 simp only[t3,Bool.false_eq_true,if_false];rw[safe_val n d (h.ok hm hk),obs];simp only[];rw[same_val (n+1) d.1 (by omega),obs];simp only[Bool.not_true,Bool.false_eq_true,if_false];rw[m0e n d (by omega),obs];simp only[];rw[w0i (n+1) d.2.1 (by omega),obs];simp only[Bool.not_true,Bool.false_eq_true,if_false]
theorem u0x (n m:Nat) (hm:m≤16777216) (c a:Int) (l:List Act25) (hl:l.length≤1000) (hw:∀x∈l,-9223372036854775808≤x.2.1∧x.2.1≤9223372036854775807) :
  ∀(rest pre:List Act25) (f:Nat) (d:Dsk) (i:Int),l=pre++rest→i=pre.length→PlOk m pre.length d →
  ∃d',PlOk m l.length d'∧a0r (n+2) (f+rest.length+1) (c,a,d,0,d,l,(l.length:Int),i,())=some (.inl (c,d',0,())):=by
 intro rest;induction rest with
 | nil =>
  intro pre f d i h hi hd;obtain rfl:l=pre:=by simpa using h
  refine ⟨d,hd,?_⟩;rw[e0p];have h1:¬(i<(l.length:Int)):=by omega
  simp only[tfd,if_neg h1]
 | cons x rest ih =>
  intro pre f d i h hi hd;have hlen:=congrArg List.length h;simp at hlen;have h1:i<(l.length:Int):=by omega
  have hx:=hw x (by rw[h];simp);have hok:=hd.ok hm (by omega);have ha0:=hd.arm0;have ha1:=hd.arm1;have hdl:=hd.len;have hdp:=hd.pen;have hstep:∀d1:Dsk,PlOk m (pre.length+1) d1→∃d',PlOk m l.length d'∧a0r (n+2) (f+rest.length+1) (c,a,d1,0,d1,l,(l.length:Int),IntKind.wrap .i64 (i+1),())=some (.inl (c,d',0,())):=by
   intro d1 h1;rw[w64 (x:=i+1) (by omega) (by omega)];exact ih (pre++[x]) f d1 (i+1) (by rw[h];simp) (by simp;omega) (by simpa using h1)
  have hgo:∀(d1:Dsk),PlOk m (pre.length+1) d1→∃d',PlOk m l.length d'∧(a0e (b0j (n+2) d1 a) fun r4 =>
    a0e (a0l (n+2) d1 a) fun r5 =>
    tif ((!(r4.1==r5.1))) (some (.inr false)) (
    tif ((!(decide (r4.2=r5.2.1)))) (some (.inr false)) (
    a0e (b0a (n+2) r5.2.2) fun r6 =>
    tif ((!(r6.1==d1.2.2.2))) (some (.inr false)) (
    a0e (b0g (n+2) r6.2) fun r7 =>
    a0e (d0n (n+2) r7.1 d1.1) fun r8 =>
    tif ((!r8)) (some (.inr false)) (
    a0e (a0s (n+2) r7.2) fun r9 =>
    a0e (b0d (n+2) r9.1 d1.2.1) fun r10 =>
    tif ((!r10)) (some (.inr false)) (
    a0r (n+2) (f+rest.length+1) (c,(a,(r9.2,(0,(d1,(l,((l.length:Int),((IntKind.wrap .i64 (i+1)),()))))))))))))))=some (.inl (c,d',0,())):=by
   intro d1 h1;obtain ⟨d',q1,q2⟩:=hstep d1 h1;exact ⟨d',q1,(u0l n m (pre.length+1) d1 a h1 hm (by omega) (fun z=>a0r (n+2) (f+rest.length+1) (c,(a,(z,(0,(d1,(l,((l.length:Int),((IntKind.wrap .i64 (i+1)),()))))))))) ).trans q2⟩
  rw[show f+(x::rest).length+1=(f+rest.length+1)+1 by simp;omega,e0p];simp only[tfd,if_pos h1];rw[h0w h hi,obs];by_cases k0:x.1=0
  ·rw[if_pos k0,w0b,obs];by_cases ks:x.2.2.2.1=true
   ·have hl1:1≤(tx x.2.2.1).length:=by rw[g0c];decide
    rw[ks];simp only[b0h,if_true,if_pos hl1];rw[o0i n d _ _ ha1 ha0 (by omega),obs,d0l n d _ _ ha1 (by omega),obs];simp only[decide_true,Bool.not_true,Bool.false_eq_true,if_false];have:=hgo _ (hd.write x.2.1 (List.drop 1 (List.take (List.length (tx x.2.2.1)) (tx x.2.2.1))));simp only[b0h] at this;exact this
   ·have ks':x.2.2.2.1=false:=by simpa using ks
    rw[ks'];simp only[b0h,Bool.false_eq_true,if_false];rw[o0i n d _ _ ha1 ha0 (by omega),obs,d0l n d _ _ ha1 (by omega),obs];simp only[decide_true,Bool.not_true,Bool.false_eq_true,if_false];have:=hgo _ (hd.write x.2.1 (tx x.2.2.1));simp only[b0h] at this;exact this
  rw[if_neg k0];by_cases k1:x.1=1
  ·rw[if_pos k1,w0j n d hok ha1 ha0,obs,t0c n d hok ha1,obs];simp only[decide_true,Bool.not_true,b0h,Bool.false_eq_true,if_false];have:=hgo _ hd.sync;simp only[b0h] at this;exact this
  rw[if_neg k1];by_cases k2:x.1=2
  ·rw[if_pos k2,m0b,obs,h0h,obs];refine hgo (d.1,(d.2.1,((if x.2.1<(0:Int) then (0:Int) else x.2.1),d.2.2.2))) ⟨hd.len,by have:=hd.pen;show d.2.1.length≤_;omega,hd.fit,?_,?_⟩
   ·show 0≤(if x.2.1<(0:Int) then (0:Int) else x.2.1);split<;>omega
   ·show (if x.2.1<(0:Int) then (0:Int) else x.2.1)≤_;split<;>omega
  rw[if_neg k2];by_cases k3:x.1=3
  ·rw[if_pos k3,rup_val n d _ hok (by omega),obs,up_val n d _ hok,obs];simp only[decide_true,Bool.not_true,b0h,Bool.false_eq_true,if_false];have hz:PlOk m pre.length ((d.1,d.2.1,0,false):Dsk):=⟨hd.len,hd.pen,hd.fit,Int.le_refl _,by show (0:Int)≤_;omega⟩;have:=hgo (upD d x.2.2.2.2).2 (hz.keep _);simp only[b0h] at this;exact this
  rw[if_neg k3];by_cases k4:x.1=4
  ·rw[if_pos k4,y0o n d (by omega) (by omega),obs,w0b,obs,d0l n d _ _ ha1 (by omega),obs];exact hgo d hd.more
  rw[if_neg k4];exact hgo d hd.more
theorem u0w (n:Nat) (hlv:j0p (n+6)=some true) (c:Int) (l:List Act25) (a:Int) (hl:Wf (.slice a0t) l):j0q (n+7) c l a=some true:=by
 rw[l0i,hlv,obs];simp only[Bool.not_true,b0h,Bool.false_eq_true,if_false,decide_eq_true_eq];have hw:∀x∈l,-9223372036854775808≤x.2.1∧x.2.1≤9223372036854775807:=fun x hx=>(hl.2 x hx).2.1
 have hlast:∀d:Dsk,PlOk c.toNat l.length d→1≤c→(if decide ((0:Int)=0)=true then a0e (c0k (n+6) d) fun r7=>some (decide (r7.1=c)) else some false)=some true:=by
  intro d hd hc;rw[if_pos (by simp),h0g,obs];have:=hd.len;simp;omega
 by_cases h1:60<c
 ·rw[if_pos h1];by_cases h2:c≤16777216
  ·rw[if_pos h2]
  rw[if_neg h2];by_cases h3:(100:Int)<(l.length:Int)
  ·rw[if_pos h3]
  rw[if_neg h3,p0n,obs,if_neg (by omega)];simp only[k0f];rw[p0f,obs,if_neg (show ¬(1≤c∧c≤16777216) by omega)];rfl
 rw[if_neg h1];by_cases h3:(100:Int)<(l.length:Int)
 ·rw[if_pos h3]
 rw[if_neg h3,p0n,obs];by_cases h4:1≤c
 ·rw[if_pos (by omega)];simp only[o0l];rw[p0f,obs,if_pos (show 1≤c∧c≤16777216 by omega)];simp only[Bool.not_true,Bool.false_eq_true,if_false];have h0:PlOk c.toNat ([]:List Act25).length (newD c.toNat):=⟨by simp[newD],by simp[newD],fun z hz=>(by cases hz),by simp[newD],by simp[newD]⟩;obtain ⟨d',q1,q2⟩:=u0x (n+4) c.toNat (by omega) c a l (by omega) hw l [] (a0j-l.length-1) (newD c.toNat) 0 rfl rfl h0;have hfu:(a0j-l.length-1)+l.length+1=a0j:=by unfold a0j;omega
  rw[hfu] at q2;rw[q2,obs,f0f];exact hlast d' q1 h4
 ·rw[if_neg (by omega)];simp only[k0f];rw[p0f,obs,if_neg (show ¬(1≤c∧c≤16777216) by omega)];rfl
end Go.Proofs.Ytghegadegcemjaa
