/-
 Plain proofs about the functions of this seat, part 2 of 3.
-/
import Derived.Test.YtagnkfbpgkckiaaGreatQ1
namespace Go.Plim
set_option linter.unusedVariables false
abbrev Slo:=Int×Cel
instance decSlo:DecidableEq Slo := @instDecidableEqProd _ _ _ decCel
def s0:Slo:=(0,z0)
structure FitsP (c:Cel) (w i:Int):Prop where
 n:CellN c
 w0:1≤w
 w1:w≤1099511627776
 f:c.2.1.1 / w=i
 l:c.2.2.1.1 / w=i
theorem FitsP.i0 {c:Cel} {w i:Int} (h:FitsP c w i):0≤i∧i<35184372088832:=by
 obtain ⟨n,w0,w1,f,l⟩:=h;have h1:=n.f.t0;have h2:=n.f.t1;have:0≤c.2.1.1 / w:=Int.ediv_nonneg h1 (by omega);have:c.2.1.1 / w≤c.2.1.1:=Int.ediv_le_self _ h1;omega
structure TierOk (l:List Slo) (w:Int):Prop where
 l0:1≤l.length
 l1:l.length≤4096
 w0:1≤w
 w1:w≤1099511627776
 s:∀(j:Nat) s,l[j]? = some s→s=s0∨(s.1 % (l.length:Int)=j∧FitsP s.2 w s.1)
noncomputable instance (c w i):Decidable (FitsP c w i):=Classical.propDecidable _
noncomputable instance (l w):Decidable (TierOk l w):=Classical.propDecidable _
def Up (l:List Slo):Prop:=l.Pairwise fun a b=>a.1<b.1
theorem up_perm:∀ {a b:List Slo},Up a→Up b→a.Perm b→a=b:=by
 intro a;induction a with
 | nil=>intro b _ _ h;exact h.nil_eq
 | cons x a ih =>
  intro b ha hb h;cases b with
  | nil=>exact absurd h.length_eq (by simp)
  | cons y b =>
   unfold Up at *
   rw[List.pairwise_cons] at ha hb;have hx:x∈y::b:=h.subset (by simp);have hy:y∈x::a:=h.symm.subset (by simp);have e:x=y:=by
    rcases List.mem_cons.1 hx with e | hx
    ·exact e
    ·rcases List.mem_cons.1 hy with e | hy
     ·exact e.symm
     ·have:=hb.1 x hx;have:=ha.1 y hy;omega
   subst e;rw[ih ha.2 hb.2 (List.Perm.cons_inv h)]
def i0k (l:List Slo):List Slo:=l.filter fun s=>decide (s≠s0)
theorem TierOk.apart {l:List Slo} {w:Int} (h:TierOk l w):(i0k l).Pairwise fun a b=>a.1≠b.1:=by
 have key:∀(m:List Slo) (k:Nat),(∀(j:Nat) s,m[j]? = some s→s=s0∨s.1 % (l.length:Int)=((k+j:Nat):Int))→(i0k m).Pairwise fun a b=>a.1≠b.1:=by
  intro m;induction m with
  | nil=>intro k _;exact .nil
  | cons x m ih =>
   intro k hm;have ih':=ih (k+1) (fun j s hs=>by
    have:=hm (j+1) s hs
    rwa [show k+(j+1)=k+1+j by omega] at this)
   unfold i0k at *
   by_cases hx:x=s0
   ·rw[List.filter_cons_of_neg (by simp[hx])];exact ih'
   ·rw[List.filter_cons_of_pos (by simp[hx])];refine List.pairwise_cons.2 ⟨fun y hy => ?_,ih'⟩;have hy':=List.mem_filter.1 hy;obtain ⟨j,hj⟩:=List.getElem?_of_mem hy'.1;have h1:=(hm 0 x rfl).resolve_left hx;have h2:=(hm (j+1) y hj).resolve_left (by simpa using hy'.2);intro e;rw[e,h2] at h1;omega
 exact key l 0 (fun j s hs=>by
  rcases h.s j s hs with e | e
  ·exact .inl e
  ·exact .inr (by rw[e.1,Nat.zero_add]))
def tall (l:List Slo):List Slo:=(i0k l).mergeSort fun a b=>decide (a.1≤b.1)
theorem x0d (l:List Slo):(tall l).Perm (i0k l):=List.mergeSort_perm _ _
theorem up_of {l:List Slo} (h:l.Pairwise fun a b=>a.1≤b.1) (h':l.Pairwise fun a b=>a.1≠b.1):Up l:=by
 have:=h.and h';exact this.imp (fun {a b} k=>by have:=k.1;have:=k.2;omega)
theorem tall_up {l:List Slo} {w:Int} (h:TierOk l w):Up (tall l):=by
 refine up_of ?_ ((x0d l).pairwise_iff (fun {a b} k=>k.symm) |>.2 h.apart);have:=List.pairwise_mergeSort (le:=fun a b:Slo=>decide (a.1≤b.1)) (fun a b c h1 h2=>by simp at *;omega) (fun a b=>by simp;omega) (i0k l);exact this.imp (fun {a b} k=>by simpa using k)
theorem d2q {l r:List Slo} {w:Int} (h:TierOk l w) (hp:r.Perm (i0k l)) (hs:r.Pairwise fun a b=>a.1≤b.1):r=tall l:=by
 refine up_perm (up_of hs (hp.pairwise_iff (fun {a b} k=>k.symm) |>.2 h.apart)) (tall_up h) (hp.trans (x0d l).symm)
theorem m1z {l:List Slo} {s:Slo}:s∈tall l↔s∈l∧s≠s0:=by
 rw[(x0d l).mem_iff];simp[i0k]
theorem p1m {l:List Slo} {w:Int} (h:TierOk l w) {s:Slo} (hs:s∈tall l):FitsP s.2 w s.1∧l[(s.1 % (l.length:Int)).toNat]? = some s:=by
 obtain ⟨h1,h2⟩:=m1z.1 hs;obtain ⟨j,hj⟩:=List.getElem?_of_mem h1;obtain ⟨h3,h4⟩:=(h.s j s hj).resolve_left h2;refine ⟨h4,?_⟩;rw[h3];exact hj
def within (l:List Slo) (i k:Int):List Cel:=((tall l).filter fun s=>decide (i≤s.1∧s.1<k)).map (·.2)
def tfold (l:List Slo) (i k:Int):Cel×Int:=if i<0∨k<i then (z0,1) else allE z0 (within l i k)
end Go.Plim

namespace Go.Proofs.YtagnkfbpgkckiaaGreat
open Go.Flat Go.Plim
set_option linter.unusedVariables false
set_option linter.unusedSimpArgs false
structure SloW (s:Slo):Prop where
 i:I64 s.1
 c:CelW s.2
theorem e2c (a b:Slo):((decide (a.1=b.1))&&((decide (a.2.1=b.2.1))&&((decide (a.2.2.1.1=b.2.2.1.1))&&((decide (a.2.2.1.2.1=b.2.2.1.2.1))&&((decide (a.2.2.1.2.2.1=b.2.2.1.2.2.1))&&((a.2.2.1.2.2.2==b.2.2.1.2.2.2)&&((decide (a.2.2.2.1.1=b.2.2.2.1.1))&&((decide (a.2.2.2.1.2.1=b.2.2.2.1.2.1))&&((decide (a.2.2.2.1.2.2.1=b.2.2.2.1.2.2.1))&&((a.2.2.2.1.2.2.2==b.2.2.2.1.2.2.2)&&((decide (a.2.2.2.2.1.1=b.2.2.2.2.1.1))&&((decide (a.2.2.2.2.1.2=b.2.2.2.2.1.2))&&((decide (a.2.2.2.2.2.1=b.2.2.2.2.2.1))&&((decide (a.2.2.2.2.2.2.1=b.2.2.2.2.2.2.1))&&(decide (a.2.2.2.2.2.2.2=b.2.2.2.2.2.2.2))))))))))))))))=decide (a=b):=by
 rw[celEq a.2 b.2,Bool.eq_iff_iff];simp[Prod.ext_iff]
theorem p1u (a:Slo):((decide (a.1=(0:Int)))&&((decide (a.2.1=(0:Int)))&&((decide (a.2.2.1.1=(0:Int)))&&((decide (a.2.2.1.2.1=(0:Int)))&&((decide (a.2.2.1.2.2.1=(0:Int)))&&((a.2.2.1.2.2.2==false)&&((decide (a.2.2.2.1.1=(0:Int)))&&((decide (a.2.2.2.1.2.1=(0:Int)))&&((decide (a.2.2.2.1.2.2.1=(0:Int)))&&((a.2.2.2.1.2.2.2==false)&&((decide (a.2.2.2.2.1.1=(0:Int)))&&((decide (a.2.2.2.2.1.2=(0:Int)))&&((decide (a.2.2.2.2.2.1=(0:Int)))&&((decide (a.2.2.2.2.2.2.1=(0:Int)))&&(decide (a.2.2.2.2.2.2.2=(0:Int)))))))))))))))))=decide (a=s0):=e2c a s0
theorem wi_in (n:Nat) (x a b:Int):q0h (n+1) x a b=some (decide (a≤x∧x≤b)):=by
 rw[i1b];by_cases h1:a≤x<;>by_cases h2:x≤b<;>simp[h1,h2]
def OfP (t w:Int):Prop:=0≤t∧t<35184372088832∧1≤w∧w≤1099511627776
instance (t w:Int):Decidable (OfP t w):=by unfold OfP;infer_instance
theorem y0r {t w:Int} (h:OfP t w):0≤t / w∧t / w<35184372088832:=by
 obtain ⟨h1,h2,h3,h4⟩:=h;have:0≤t / w:=Int.ediv_nonneg h1 (by omega);have:t / w≤t:=Int.ediv_le_self _ h1;omega
theorem wi_of (n:Nat) (t w:Int):z1x (n+3) t w=some (if OfP t w then (t / w,0) else (0,1)):=by
 rw[wi_Of_eq,t1x,wi_in,wi_in];simp only[obs,tfn,tfd];by_cases h:OfP t w
 ·have hq:=y0r h;rw[if_pos h];obtain ⟨h1,h2,h3,h4⟩:=h;rw[if_pos (show (0:Int)≤t∧t≤35184372088831 by omega),if_pos (And.intro h3 h4),if_neg (show ¬(w=0) by omega),o0s h1,w64 (by omega) (by omega)]
 ·rw[if_neg h];by_cases h1:(0:Int)≤t∧t≤35184372088831
  ·rw[if_pos h1,if_neg (fun k=>h ⟨h1.1,by omega,k.1,k.2⟩)]
  ·rw[if_neg h1]
theorem y1e (n:Nat) (t w:Int):k1k (n+2) t w=some (if OfP t w then (t / w,0) else (0,1)):=by
 rw[f2b,r1a];simp only[tfd];by_cases h:OfP t w
 ·have hq:=y0r h;rw[if_pos h];obtain ⟨h1,h2,h3,h4⟩:=h;rw[if_neg (show ¬(t<0) by omega),if_neg (show ¬((35184372088832:Int)≤t) by omega),if_pos h3,decide_eq_true h4];simp only[obs,Bool.not_true,tff];rw[if_neg (show ¬(w=0) by omega),h0h h1];have e:t-t % w=w*(t / w):=by have:=Int.mul_ediv_add_emod t w;omega
  have m0:=Int.emod_nonneg t (show w≠0 by omega);have m1:t % w≤t:=by
   have:=Int.mul_nonneg (show 0≤w by omega) hq.1;omega
  rw[w64 (x:=t-t % w) (by omega) (by omega),o0s (by omega),e,Int.mul_ediv_cancel_left _ (show w≠0 by omega),w64 (by omega) (by omega),if_neg (show ¬(w=0) by omega)]
 ·rw[if_neg h];by_cases h1:t<0
  ·rw[if_pos h1]
  by_cases h2:(35184372088832:Int)≤t
  ·rw[if_neg h1,if_pos h2]
  rw[if_neg h1,if_neg h2];by_cases h3:(1:Int)≤w
  ·have h4:¬(w≤1099511627776):=fun k=>h ⟨by omega,by omega,h3,k⟩
   rw[if_pos h3,decide_eq_false h4];rfl
  ·rw[if_neg h3];rfl
def x0j (i n:Int):Int:=if i<0 then 0 else if n<1 then 0 else i % n
theorem wi_slot (n:Nat) (i m:Int):t1z (n+1) i m=some (x0j i m):=by
 rw[z1w];simp only[tfd];unfold x0j;by_cases h1:i<0
 ·rw[if_pos h1,if_pos h1]
 by_cases h2:m<1
 ·rw[if_neg h1,if_neg h1,if_pos h2,if_pos h2]
 rw[if_neg h1,if_neg h1,if_neg h2,if_neg h2,if_neg (by omega),h0h (by omega)]
theorem r09_slot (n:Nat) (i m:Int):m1m (n+1) i m=some (x0j i m):=by
 rw[v1q];simp only[tfd];unfold x0j;by_cases h1:i<0
 ·rw[if_pos h1,if_pos h1]
 by_cases h2:m<1
 ·rw[if_neg h1,if_neg h1,if_pos h2,if_pos h2]
 rw[if_neg h1,if_neg h1,if_neg h2,if_neg h2,if_neg (by omega),h0h (by omega)]
theorem j1u {i n:Int} (hi:0≤i) (hn:1≤n):x0j i n=i % n:=by
 unfold x0j;rw[if_neg (by omega),if_neg (by omega)]
theorem s1y (c:Cel) (w i:Int):FitsP c w i↔c≠z0∧l0c c∧OfP c.2.1.1 w∧c.2.1.1 / w=i∧OfP c.2.2.1.1 w∧c.2.2.1.1 / w=i:=by
 constructor
 ·rintro ⟨n,w0,w1,f,l⟩;exact ⟨n.ne,n.ok,⟨n.f.t0,n.f.t1,w0,w1⟩,f,⟨n.l.t0,n.l.t1,w0,w1⟩,l⟩
 ·rintro ⟨h1,h2,h3,h4,h5,h6⟩;exact ⟨h2.n h1,h3.2.2.1,h3.2.2.2,h4,h6⟩
theorem of01 (p:Prop) [Decidable p] (x:Int):((if p then (x,(0:Int)) else (0,1)).2=0)↔p:=by by_cases h:p<;>simp[h]
theorem h2i (n f:Nat) (w i:Int) (s:Int×Int):g0i n (f+1) (w,i,s,(2:Int),())=some (.inl ()):=by
 rw[m0l,show (decide ((2:Int)<2))=false from rfl,tff]
theorem h2j (n f:Nat) (w i:Int) (s:Int×Int):g0i (n+3) (f+2) (w,i,s,(1:Int),())=some (if OfP s.2 w∧s.2 / w=i then .inl () else .inr false):=by
 rw[m0l,show (decide ((1:Int)<2))=true from rfl,tft,show (decide ((1:Int)=0))=false from rfl,tff,show (decide ((1:Int)=1))=true from rfl,tft,wi_of];simp only[tfd,tfn,obs,of01];rw[show IntKind.wrap .i64 ((1:Int)+1)=2 from rfl,h2i];by_cases h3:OfP s.2 w
 ·rw[if_pos h3,if_pos h3];by_cases h4:s.2 / w=i
  ·rw[if_pos h4,if_pos (And.intro h3 h4)]
  ·rw[if_neg h4,if_neg (fun k=>h4 k.2)]
 ·rw[if_neg h3,if_neg (fun k=>h3 k.1)]
theorem h2k (n f:Nat) (w i:Int) (s:Int×Int):g0i (n+3) (f+3) (w,i,s,(0:Int),())=some (if (OfP s.1 w∧s.1 / w=i)∧(OfP s.2 w∧s.2 / w=i) then .inl () else .inr false):=by
 rw[m0l,show (decide ((0:Int)<2))=true from rfl,tft,show (decide ((0:Int)=0))=true from rfl,tft,wi_of];simp only[tfd,tfn,obs,of01];rw[show IntKind.wrap .i64 ((0:Int)+1)=1 from rfl,h2j];by_cases h3:OfP s.1 w
 ·rw[if_pos h3,if_pos h3];by_cases h4:s.1 / w=i
  ·rw[if_pos h4];by_cases h5:OfP s.2 w∧s.2 / w=i
   ·rw[if_pos h5,if_pos (And.intro (And.intro h3 h4) h5)]
   ·rw[if_neg h5,if_neg (fun k=>h5 k.2)]
  ·rw[if_neg h4,if_neg (fun k=>h4 k.1.2)]
 ·rw[if_neg h3,if_neg (fun k=>h3 k.1.1)]
theorem p1h (n:Nat) {c:Cel} (hc:CelW c) (w i:Int):x0c (n+6) c w i=some (decide (FitsP c w i)):=by
 rw[p1j,c2o n hc];simp only[tfd,obs,tfn,z02];have e:a0b=(2^70-3)+3:=by decide
 rw[e,h2k];have hiff:=s1y c w i;by_cases h1:c.1=0
 ·rw[if_pos h1,decide_eq_false];intro k;have:=k.n.n1;omega
 rw[if_neg h1];by_cases h2:l0c c
 case neg=>rw[if_neg h2,decide_eq_false (fun k=>h2 (hiff.1 k).2.1)]
 rw[if_pos h2];by_cases h3:(OfP c.2.1.1 w∧c.2.1.1 / w=i)∧(OfP c.2.2.1.1 w∧c.2.2.1.1 / w=i)
 ·rw[if_pos h3,decide_eq_true (hiff.2 ⟨mt h2.count.1.2 h1,h2,h3.1.1,h3.1.2,h3.2.1,h3.2.2⟩)];rfl
 ·rw[if_neg h3,decide_eq_false (fun k=>h3 (by have:=hiff.1 k;exact ⟨⟨this.2.2.1,this.2.2.2.1⟩,this.2.2.2.2⟩))];rfl
theorem y1c (n:Nat) {c:Cel} (hc:CelW c) (w i:Int):d1h (n+5) c w i=some (decide (FitsP c w i)):=by
 rw[v1m,f2c n hc,y1e,y1e];simp only[tfd,obs,tfn,z02,of01];have hiff:=s1y c w i;by_cases h2:l0c c
 case neg=>rw[if_neg h2,decide_eq_false (fun k=>h2 (hiff.1 k).2.1)]
 rw[if_pos h2];by_cases h1:c.1=0
 ·rw[if_pos h1,decide_eq_false];intro k;have:=k.n.n1;omega
 rw[if_neg h1];by_cases h3:OfP c.2.1.1 w
 case neg=>rw[if_neg h3,decide_eq_false (fun k=>h3 (hiff.1 k).2.2.1)]
 rw[if_pos h3,if_pos h3];by_cases h5:OfP c.2.2.1.1 w
 case neg=>rw[if_neg h5,decide_eq_false (fun k=>h5 (hiff.1 k).2.2.2.2.1)]
 rw[if_pos h5,if_pos h5];by_cases h4:c.2.1.1 / w=i
 case neg=>rw[if_neg h4,decide_eq_false (fun k=>h4 (hiff.1 k).2.2.2.1)]
 rw[if_pos h4];congr 1;exact decide_eq_decide.2 ⟨fun h6=>hiff.2 ⟨mt h2.count.1.2 h1,h2,h3,h4,h5,h6⟩,fun k=>(hiff.1 k).2.2.2.2.2⟩
theorem x0b (n:Nat) (s:Slo):s0o (n+1) s=some (decide (s=s0)):=by rw[p1g,p1u]
def w0t (m w:Int) (j:Int) (s:Slo):Prop:=s=s0∨(x0j s.1 m=j∧FitsP s.2 w s.1)
theorem p1i (n:Nat) (l:List Slo) (w:Int) (hL:l.length≤4096) (hw:∀s∈l,SloW s):∀(rest pre:List Slo) (f:Nat) (i len:Int),l=pre++rest→i=pre.length→len=l.length→rest.length<f →
  ((∀(j:Nat) s,rest[j]? = some s→w0t l.length w (i+j) s)→g0t (n+6) f (l,w,l,len,i,())=some (.inl ())) ∧
  (¬(∀(j:Nat) s,rest[j]? = some s→w0t l.length w (i+j) s)→g0t (n+6) f (l,w,l,len,i,())=some (.inr 2)):=by
 intro rest;induction rest with
 | nil =>
  intro pre f i len hl hi hn hf;obtain ⟨f,rfl⟩:∃g,f=g+1:=⟨f-1,by simp at hf;omega⟩;rw[r0v];refine ⟨fun _=>by simp only[tfd,if_neg (idxe hl hi hn)],fun h=>absurd ?_ h⟩;intro j s hs;simp at hs
 | cons x rest ih =>
  intro pre f i len hl hi hn hf;obtain ⟨f,rfl⟩:∃g,f=g+1:=⟨f-1,by simp at hf;omega⟩;rw[r0v];have hx:SloW x:=hw x (by rw[hl];simp);have ih':=ih (pre++[x]) f (i+1) len (idxl hl) (idxs hi) hn (by simp at hf;omega);simp only[tfd,tfn,if_pos (idx hl hi hn),b0s hl hi,obs,x0b,wi_slot,p1h n hx.c,idxw hl hi (by omega)];have split:(∀(j:Nat) s,(x::rest)[j]? = some s→w0t l.length w (i+j) s)↔w0t l.length w i x∧(∀(j:Nat) s,rest[j]? = some s→w0t l.length w (i+1+j) s):=by
   constructor
   ·intro h;refine ⟨by simpa using h 0 x rfl,fun j s hs => ?_⟩;have:=h (j+1) s hs
    rwa [show i+((j+1:Nat):Int)=i+1+j by omega] at this
   ·rintro ⟨h1,h2⟩ j s hs;cases j with
    | zero=>simp at hs;subst hs;simpa using h1
    | succ j =>
     have:=h2 j s hs
     rwa [show i+((j+1:Nat):Int)=i+1+j by omega]
  rw[split];by_cases h0:x=s0
  ·rw[if_pos h0];have hp:w0t l.length w i x := .inl h0;exact ⟨fun h=>ih'.1 h.2,fun h=>ih'.2 (fun k=>h ⟨hp,k⟩)⟩
  ·rw[if_neg h0];by_cases h1:x0j x.1 l.length=i
   ·rw[if_pos h1];by_cases h2:FitsP x.2 w x.1
    ·rw[if_pos h2];have hp:w0t l.length w i x := .inr ⟨h1,h2⟩;exact ⟨fun h=>ih'.1 h.2,fun h=>ih'.2 (fun k=>h ⟨hp,k⟩)⟩
    ·rw[if_neg h2];exact ⟨fun h=>absurd (h.1.resolve_left h0).2 h2,fun _=>rfl⟩
   ·rw[if_neg h1];exact ⟨fun h=>absurd (h.1.resolve_left h0).1 h1,fun _=>rfl⟩
theorem v1k (n:Nat) (l:List Slo) (w:Int) (hL:l.length≤4096) (hw:∀s∈l,SloW s):∀(rest pre:List Slo) (f:Nat) (i len:Int),l=pre++rest→i=pre.length→len=l.length→rest.length<f →
  ((∀(j:Nat) s,rest[j]? = some s→w0t l.length w (i+j) s)→i0m (n+5) f (l,w,l,len,i,())=some (.inl ())) ∧
  (¬(∀(j:Nat) s,rest[j]? = some s→w0t l.length w (i+j) s)→i0m (n+5) f (l,w,l,len,i,())=some (.inr 2)):=by
 intro rest;induction rest with
 | nil =>
  intro pre f i len hl hi hn hf;obtain ⟨f,rfl⟩:∃g,f=g+1:=⟨f-1,by simp at hf;omega⟩;rw[s0z];refine ⟨fun _=>by simp only[tfd,if_neg (idxe hl hi hn)],fun h=>absurd ?_ h⟩;intro j s hs;simp at hs
 | cons x rest ih =>
  intro pre f i len hl hi hn hf;obtain ⟨f,rfl⟩:∃g,f=g+1:=⟨f-1,by simp at hf;omega⟩;rw[s0z];have hx:SloW x:=hw x (by rw[hl];simp);have ih':=ih (pre++[x]) f (i+1) len (idxl hl) (idxs hi) hn (by simp at hf;omega);simp only[tfd,tfn,if_pos (idx hl hi hn),b0s hl hi,obs,p1u,r09_slot,y1c n hx.c,idxw hl hi (by omega)];have split:(∀(j:Nat) s,(x::rest)[j]? = some s→w0t l.length w (i+j) s)↔w0t l.length w i x∧(∀(j:Nat) s,rest[j]? = some s→w0t l.length w (i+1+j) s):=by
   constructor
   ·intro h;refine ⟨by simpa using h 0 x rfl,fun j s hs => ?_⟩;have:=h (j+1) s hs
    rwa [show i+((j+1:Nat):Int)=i+1+j by omega] at this
   ·rintro ⟨h1,h2⟩ j s hs;cases j with
    | zero=>simp at hs;subst hs;simpa using h1
    | succ j =>
     have:=h2 j s hs
     rwa [show i+((j+1:Nat):Int)=i+1+j by omega]
  rw[split];by_cases h0:x=s0
  ·rw[if_pos h0];have hp:w0t l.length w i x := .inl h0;exact ⟨fun h=>ih'.1 h.2,fun h=>ih'.2 (fun k=>h ⟨hp,k⟩)⟩
  ·rw[if_neg h0];by_cases h2:FitsP x.2 w x.1
   ·rw[if_pos h2];by_cases h1:x0j x.1 l.length=i
    ·rw[if_pos h1];have hp:w0t l.length w i x := .inr ⟨h1,h2⟩;exact ⟨fun h=>ih'.1 h.2,fun h=>ih'.2 (fun k=>h ⟨hp,k⟩)⟩
    ·rw[if_neg h1];exact ⟨fun h=>absurd (h.1.resolve_left h0).1 h1,fun _=>rfl⟩
   ·rw[if_neg h2];exact ⟨fun h=>absurd (h.1.resolve_left h0).2 h2,fun _=>rfl⟩
theorem p1t {l:List Slo} {w:Int} (h0:1≤l.length):(∀(j:Nat) s,l[j]? = some s→w0t l.length w (0+j) s)↔(∀(j:Nat) s,l[j]? = some s→s=s0∨(s.1 % (l.length:Int)=j∧FitsP s.2 w s.1)):=by
 constructor
 ·intro h j s hs;rcases h j s hs with e | ⟨e,f⟩
  ·exact .inl e
  ·rw[j1u f.i0.1 (by omega)] at e;exact .inr ⟨by omega,f⟩
 ·intro h j s hs;rcases h j s hs with e | ⟨e,f⟩
  ·exact .inl e
  ·exact .inr ⟨by rw[j1u f.i0.1 (by omega)];omega,f⟩
theorem z0v (n:Nat) (l:List Slo) (w:Int) (hw:∀s∈l,SloW s):p0g (n+7) l w=some (if TierOk l w then 0 else 2):=by
 rw[l1r];simp only[tfd];by_cases h1:(l.length:Int)=0
 ·rw[if_pos h1,if_neg (fun k=>by have:=k.l0;omega)]
 by_cases h2:(4096:Int)<l.length
 ·rw[if_neg h1,if_pos h2,if_neg (fun k=>by have:=k.l1;omega)]
 by_cases h3:w<1
 ·rw[if_neg h1,if_neg h2,if_pos h3,if_neg (fun k=>by have:=k.w0;omega)]
 by_cases h4:(1099511627776:Int)<w
 ·rw[if_neg h1,if_neg h2,if_neg h3,if_pos h4,if_neg (fun k=>by have:=k.w1;omega)]
 rw[if_neg h1,if_neg h2,if_neg h3,if_neg h4];have hl:=p1i n l w (by omega) hw l [] a0b 0 l.length rfl rfl rfl (by unfold a0b;omega);rw[p1t (by omega)] at hl;by_cases h5:∀(j:Nat) s,l[j]? = some s→s=s0∨(s.1 % (l.length:Int)=j∧FitsP s.2 w s.1)
 ·rw[hl.1 h5,if_pos ⟨by omega,by omega,by omega,by omega,h5⟩];rfl
 ·rw[hl.2 h5,if_neg (fun k=>h5 k.s)];rfl
theorem f1d (n:Nat) (l:List Slo) (w:Int) (hw:∀s∈l,SloW s):t0a (n+6) l w=some (if TierOk l w then 0 else 2):=by
 rw[q1s];simp only[tfd];by_cases h1:(l.length:Int)<1
 ·rw[if_pos h1,if_neg (fun k=>by have:=k.l0;omega)]
 by_cases h2:(4096:Int)<l.length
 ·rw[if_neg h1,if_pos h2,if_neg (fun k=>by have:=k.l1;omega)]
 by_cases h3:w<1
 ·rw[if_neg h1,if_neg h2,if_pos h3,if_neg (fun k=>by have:=k.w0;omega)]
 by_cases h4:(1099511627776:Int)<w
 ·rw[if_neg h1,if_neg h2,if_neg h3,if_pos h4,if_neg (fun k=>by have:=k.w1;omega)]
 rw[if_neg h1,if_neg h2,if_neg h3,if_neg h4];have hl:=v1k n l w (by omega) hw l [] a0b 0 l.length rfl rfl rfl (by unfold a0b;omega);rw[p1t (by omega)] at hl;by_cases h5:∀(j:Nat) s,l[j]? = some s→s=s0∨(s.1 % (l.length:Int)=j∧FitsP s.2 w s.1)
 ·rw[hl.1 h5,if_pos ⟨by omega,by omega,by omega,by omega,h5⟩];rfl
 ·rw[hl.2 h5,if_neg (fun k=>h5 k.s)];rfl
theorem wst (n:Nat) (b s:List UInt8) (hl:b.length+s.length≤100000000000000):a0p (n+1) b s=some ((s.length:Int),false,b++s):=by
 rw[k0q,g0q,tfd,if_pos (by omega)]
theorem lfu {k:Nat} (h:k≤1000000000000):a0b=(a0b-k-1)+k+1:=by unfold a0b;omega
theorem d1q:∀(l:List Lab) (p:Option (List UInt8)),chkL p l→∀x∈l,x.1.length≤64∧x.2.length≤128
 | [],_,_,x,hx=>by cases hx
 | y::l,p,h,x,hx=>by
  rcases List.mem_cons.1 hx with rfl | hx
  ·exact ⟨h.1.len,h.2.1⟩
  ·exact d1q l _ h.2.2.2 x hx
def padB (s:List UInt8) (k:Nat):List UInt8:=s++List.replicate (k-s.length) 0
theorem l0v (s:List UInt8) (k:Nat):(padB s k).length=max s.length k:=by unfold padB;simp;omega
def n8I (x:Int):List Int:=beI 8 (IntKind.wrap .u64 x)
def n8B (x:Int):List UInt8:=toB (n8I x)
theorem w0f (x:Int):(n8I x).length=8:=by simp[n8I,b0l]
theorem f0r (x:Int):(n8B x).length=8:=by simp[n8B,c0i,w0f]
theorem s0n (a b:List Int):toB (a++b)=toB a++toB b:=by simp[toB]
theorem g2b (x:Int):n8I (IntKind.wrap .i64 x)=n8I x:=by
 unfold n8I;congr 1;rw[IntKind.wrap_u64,IntKind.wrap_u64,IntKind.wrap_i64];omega
def s0s (e:Ev):List Int:=n8I e.1++(n8I e.2.1++(n8I e.2.2.1++[if e.2.2.2=true then 1 else 0]))
def n0x (e:Ev):List UInt8:=toB (s0s e)
theorem p0l (e:Ev):(s0s e).length=25:=by simp[s0s,w0f]
theorem u0k (e:Ev):(n0x e).length=25:=by simp[n0x,c0i,p0l]
def c0y (e:Ev):List UInt8:=padB (n0x e) 32
theorem g0a (e:Ev):(c0y e).length=32:=by rw[c0y,l0v,u0k];rfl
def sloI (s:Slo):List Int:=n8I s.1++(n8I s.2.1++(s0s s.2.2.1++(s0s s.2.2.2.1++(n8I s.2.2.2.2.1.1++(n8I s.2.2.2.2.1.2++(n8I s.2.2.2.2.2.1++(n8I s.2.2.2.2.2.2.1++n8I s.2.2.2.2.2.2.2)))))))
theorem x1u (s:Slo):(sloI s).length=106:=by simp[sloI,w0f,p0l]
def b0w (s:Slo):List UInt8:=padB (toB (sloI s)) 128
theorem d0j (s:Slo):(b0w s).length=128:=by rw[b0w,l0v,c0i,x1u];rfl
theorem num_l (n:Nat) (l:List Int) (hl:l.length≤1000):∀(rest pre:List Int) (f:Nat) (w:List Int) (i:Int),l=pre++rest→i=pre.length→w.length+8*rest.length≤100000 →
  o0k (n+1) (f+rest.length+1) (w,l,(l.length:Int),i,())=some (.inl (w++rest.flatMap n8I,())):=by
 intro rest;induction rest with
 | nil =>
  intro pre f w i h hi hw;rw[t0t];simp only[tfd,if_neg (idxe h hi rfl)];simp
 | cons a rest ih =>
  intro pre f w i h hi hw;have hlen:=congrArg List.length h;simp at hlen hw;rw[show f+(a::rest).length+1=(f+rest.length+1)+1 by simp;omega,t0t];simp only[tfd,if_pos (idx h hi rfl)];rw[b0s h hi,obs,c0c n w 8 8 _ rfl (by omega) (by omega) (by omega),obs,w64 (x:=i+1) (by omega) (by omega),ih (pre++[a]) f _ (i+1) (idxl h) (idxs hi) (by simp[b0l];omega)];simp[n8I]
theorem y0v (n:Nat) (w l:List Int) (hl:l.length≤1000) (hw:w.length+8*l.length≤100000):n0i (n+2) w l=some (w++l.flatMap n8I):=by
 rw[s1q];have:=num_l n l hl l [] (a0b-l.length-1) w 0 rfl rfl hw;rw[←lfu (by omega)] at this;rw[this,obs,a0r]
theorem e1p (n:Nat) (w:List Int) (e:Ev) (hw:w.length≤10000):n0g (n+3) w e=some (w++s0s e):=by
 rw[i1v,y0v n w _ (by simp) (by simp;omega),obs];have hl:(w++List.flatMap n8I [e.1,IntKind.wrap .i64 e.2.1,e.2.2.1]).length≤20000:=by simp[w0f];omega
 have e1:List.flatMap n8I [e.1,IntKind.wrap .i64 e.2.1,e.2.2.1]=n8I e.1++(n8I e.2.1++n8I e.2.2.1):=by
  simp[g2b]
 rw[e1] at hl ⊢;unfold s0s;cases h:e.2.2.2 with
 | true=>rw[tft,c0c (n+1) _ 1 1 1 rfl (by omega) (by omega) (by omega),obs,if_pos rfl,show beI 1 1=[1] from rfl];simp
 | false=>rw[tff,c0c (n+1) _ 1 1 0 rfl (by omega) (by omega) (by omega),obs,if_neg (by decide),show beI 1 0=[0] from rfl];simp
theorem f0y (n:Nat) (x:Int):e0o (n+2) x=some (n8B x):=by
 have h:=IntKind.wrap_u64 x;rw[q1h,f0v n 8 8 _ rfl (by omega) (by omega) (by omega) (by omega),obs];rfl
theorem n1v (n:Nat) {x:Int} (h0:0≤x) (h1:x≤18446744073709551615):c0r (n+1) 8 x=some (n8B x):=by
 rw[f0v n 8 8 x rfl (by omega) (by omega) h0 h1];unfold n8B n8I;rw[wu64 (by omega) (by omega)]
theorem w0e (n:Nat) (k:Int) (hk:k≤100000000000):m0w (n+1) k=some (List.replicate k.toNat 0):=by
 rw[i1i,tfd];by_cases h:k≤0
 ·rw[if_pos h,show k.toNat=0 by omega];rfl
 ·rw[if_neg h];have c1:(decide ((0:Int)≤k)&&(decide (k≤k)&&decide (k*(1:Int)≤(140737488355328:Int))))=true:=by
   rw[Bool.and_eq_true,Bool.and_eq_true,decide_eq_true_eq,decide_eq_true_eq,decide_eq_true_eq];omega
  rw[c1,tft,List.map_replicate];rfl
theorem u0l (n:Nat) (s:List UInt8) (k:Nat) (hs:s.length≤1000000000) (hk:k≤1000000000):q0y (n+2) s (k:Int)=some (padB s k):=by
 rw[a2u,w64 (by omega) (by omega),w0e n _ (by omega),obs,show ((k:Int)-((s.length:Nat):Int)).toNat=k-s.length by omega,tfd,if_pos (by simp;omega)];rfl
theorem a1h (n:Nat) (e:Ev) (h:EvW e):s0v (n+3) e=some (n0x e):=by
 have l1:=f0r e.1;have l2:=f0r e.2.1;have l3:=f0r e.2.2.1;rw[q1g,f0y n,obs,n1v (n+1) h.v.1 h.v.2,obs,tfd,if_pos (by omega),f0y n,obs,tfd,if_pos (by simp;omega)];have hl:(n8B e.1++n8B e.2.1++n8B e.2.2.1).length+1≤9223372036854775807:=by simp;omega
 unfold n0x s0s;rw[s0n,s0n,s0n];cases hst:e.2.2.2 with
 | true=>rw[tft,tfd,if_pos hl,if_pos rfl];simp[n8B,toB]
 | false=>rw[tff,tfd,if_pos hl,if_neg (by decide)];simp[n8B,toB]
theorem k1i (n:Nat) (e:Ev) (h:EvW e):x0z (n+4) e=some (c0y e):=by
 have hl:=u0k e;rw[q1j,a1h n e h,obs,show ((32:Int))=((32:Nat):Int) from rfl,u0l (n+1) _ 32 (by omega) (by omega),obs];rfl
theorem e1u (n:Nat) (s:Slo) (h:SloW s):x0y (n+4) s=some (b0w s):=by
 have hw:=h.c.w;have f:=a1h n s.2.2.1 h.c.f;have g:=a1h n s.2.2.2.1 h.c.l;have e1:=u0k s.2.2.1;have e2:=u0k s.2.2.2.1;have n1:=f0r s.1;have n2:=f0r s.2.1;have n3:=f0r s.2.2.2.2.1.1;have n4:=f0r s.2.2.2.2.1.2;have n5:=f0r s.2.2.2.2.2.1;have n6:=f0r s.2.2.2.2.2.2.1;have n7:=f0r s.2.2.2.2.2.2.2;rw[v1c,f0y (n+1),obs,f0y (n+1),obs,tfd,if_pos (by omega),f,obs,tfd,if_pos (by simp;omega),g,obs,tfd,if_pos (by simp;omega),
  n1v (n+2) hw.1.1 hw.1.2,obs,tfd,if_pos (by simp;omega),n1v (n+2) hw.2.1 hw.2.2,obs,tfd,if_pos (by simp;omega),
  f0y (n+1),obs,tfd,if_pos (by simp;omega),f0y (n+1),obs,tfd,if_pos (by simp;omega),f0y (n+1),obs,tfd,if_pos (by simp;omega),
  show ((128:Int))=((128:Nat):Int) from rfl,u0l (n+1) _ 128 (by simp;omega) (by omega),obs]
 unfold b0w sloI n8B n0x;simp only[s0n,List.append_assoc]
theorem rps_loop (n:Nat) (r:(List UInt8)) (m:Nat) (hm:m≤16777216):∀(f k:Nat),1≤k→k≤m→m-k≤f →
  f0o n (f+1) (List.replicate k r++List.replicate (m-k) [],(k:Int),())=some (.inl (List.replicate m r,())):=by
 intro f;induction f with
 | zero =>
  intro k h1 h2 h3;obtain rfl:k=m:=by omega
  rw[j0p];simp[tfd]
 | succ f ih =>
  intro k h1 h2 h3;rw[j0p];have hlen:(List.replicate k r++List.replicate (m-k) ([]:(List UInt8))).length=m:=by simp;omega
  rw[hlen];by_cases hk:k=m
  ·subst hk;simp[tfd]
  ·have c1:((k:Int)<(m:Int)):=by omega
   have c2:((0:Int)≤(k:Int)):=by omega
   have c3:(Int.toNat (k:Int)≤m):=by simp;omega
   have c4:(decide ((0:Int)≤(k:Int))&&decide ((k:Int)≤(m:Int)))=true:=by simp;omega
   have c5:(Int.toNat (k:Int)+(m-Int.toNat (k:Int))≤m):=by simp;omega
   rw[c4];simp only[v0x,decide_eq_true_eq,if_pos c1,if_pos c2,if_pos c3,if_pos c5,if_true];have e1:List.take (Int.toNat (k:Int)-0) (List.drop 0 (List.replicate k r++List.replicate (m-k) ([]:(List UInt8))))=List.replicate k r:=by simp
   rw[e1];have e2:List.take (m-Int.toNat (k:Int)) (List.replicate k r)=List.replicate (min (m-k) k) r:=by simp
   rw[e2];have e3:(k:Int)+((List.replicate (min (m-k) k) r).length:Int)=((k+min (m-k) k:Nat):Int):=by simp
   rw[e3,w64 (by omega) (by omega)];have e4:Go.Flat.putRow (List.replicate k r++List.replicate (m-k) ([]:(List UInt8))) (Int.toNat (k:Int)) (List.replicate (min (m-k) k) r)=List.replicate (k+min (m-k) k) r++List.replicate (m-(k+min (m-k) k)) []:=by
    unfold Go.Flat.putRow;rw[show Int.toNat (k:Int)=k by simp,List.take_left' (by simp),List.drop_append,List.drop_of_length_le (by simp),List.replicate_append_replicate];simp;omega
   rw[e4];exact ih (k+min (m-k) k) (by omega) (by omega) (by omega)
theorem u1x (n:Nat) (r:(List UInt8)) (m:Nat) (h1:1≤m) (h2:m≤16777216):l0d (n+3) [r] (m:Int)=some (List.replicate m r):=by
 rw[v0y];have c1:¬((m:Int)<0):=by omega
 have e1:(((List.length [r]:Nat)):Int)=1:=rfl;rw[e1,wu64 (x:=1) (by omega) (by omega),wu64 (x:=(m:Int)) (by omega) (by omega),s0e,mul64 n 1 (m:Int) (by omega) (by omega)];have e2:(1:Int)*(m:Int) / 18446744073709551616=0:=by omega
 have e3:(1:Int)*(m:Int) % 18446744073709551616=(m:Int):=by omega
 rw[e2,e3,obs,obs];have c2:¬((9223372036854775807:Int)<(m:Int)):=by omega
 have e4:IntKind.wrap .i64 (m:Int)=(m:Int):=w64 (by omega) (by omega);rw[e4];have c3:(decide ((0:Int)≤(m:Int))&&(decide ((m:Int)≤(m:Int))&&decide ((m:Int)*16≤(140737488355328:Int))))=true:=by simp;omega
 rw[c3];simp only[v0x,decide_eq_true_eq,if_neg c1,if_neg c2,if_true,Int.lt_irrefl,if_false,Int.toNat_natCast,List.length_replicate];have e5:List.take m [r]=[r]:=by
  cases m with
  | zero=>omega
  | succ m=>simp
 have e6:Go.Flat.putRow (List.replicate m ([]:(List UInt8))) 0 [r]=List.replicate 1 r++List.replicate (m-1) []:=by simp[Go.Flat.putRow]
 rw[e5,e6];have:=rps_loop (n+2) r m h2 (a0b-1) 1 (Nat.le_refl _) h1 (by unfold a0b;omega);rw[show a0b-1+1=a0b by unfold a0b;omega] at this;have e7:(((List.length [r]:Nat)):Int)=((1:Nat):Int):=rfl;rw[e7,this,obs,a0r]
theorem rpb_loop (n m:Nat) (hm:m≤100000):∀(f k:Nat),1≤k→k≤m→m-k≤f →
  d0n (n+1) (f+1) ((m:Int),(m:Int),List.replicate k (0:UInt8),())=some (.inl (List.replicate m 0,())):=by
 intro f;induction f with
 | zero =>
  intro k h1 h2 h3;obtain rfl:k=m:=by omega
  rw[k0p,e0f,obs];dsimp only;rw[List.length_replicate,tfd,if_neg (by omega)]
 | succ f ih =>
  intro k h1 h2 h3;rw[k0p,e0f,obs];dsimp only;rw[List.length_replicate,tfd];by_cases hk:k=m
  ·subst hk;rw[if_neg (by omega)]
  ·rw[if_pos (by omega),e0f,obs];dsimp only;rw[e0f,obs];dsimp only;rw[c0j,obs];dsimp only;rw[List.length_replicate,w64 (by omega) (by omega)];have e:(if (m:Int)<(if (k:Int)<(m:Int)-(k:Int) then (k:Int) else (m:Int)-(k:Int)) then (m:Int) else (if (k:Int)<(m:Int)-(k:Int) then (k:Int) else (m:Int)-(k:Int)))=((min k (m-k):Nat):Int):=by
    split<;>split<;>omega
   rw[e,Int.toNat_natCast];have c1:(decide ((0:Int)≤((min k (m-k):Nat):Int))&&decide (((min k (m-k):Nat):Int)≤((k:Nat):Int)))=true:=by
    rw[Bool.and_eq_true,decide_eq_true_eq,decide_eq_true_eq];omega
   have e2:List.drop 0 (List.take (min k (m-k)) (List.replicate k (0:UInt8)))=List.replicate (min k (m-k)) 0:=by
    rw[List.drop_zero,List.take_replicate];congr 1;omega
   rw[c1,tft,e2,wst n _ _ (by simp;omega),obs];dsimp only;rw[List.replicate_append_replicate];exact ih (k+min k (m-k)) (by omega) (by omega) (by omega)
theorem rep_val (n c:Nat) (hc:c≤8192):strings_Repeat (n+4) [0] (c:Int)=some (List.replicate c 0):=by
 rw[o0v,tfd];by_cases h0:(c:Int)=0
 ·obtain rfl:c=0:=by omega
  rw[if_pos h0];rfl
 rw[if_neg h0,tfd];by_cases h1:(c:Int)=1
 ·obtain rfl:c=1:=by omega
  rw[if_pos h1];rfl
 rw[if_neg h1,tfd,if_neg (by omega),wu64 (x:=(c:Int)) (by omega) (by omega),s0e,mul64 (n+1) 1 (c:Int) (by omega) (by omega)];have e2:(1:Int)*(c:Int) / 18446744073709551616=0:=by omega
 have e3:(1:Int)*(c:Int) % 18446744073709551616=(c:Int):=by omega
 rw[e2,e3,obs,obs];dsimp only;rw[tfd,if_neg (by omega),tfd,if_neg (by omega),w64 (x:=(c:Int)) (by omega) (by omega)];have hg:b0z (n+3) [] (c:Int)=some []:=by
  rw[i0v,s1s];rw[show (decide (([]:List UInt8).length=0)&&(decide ((0:Int)≤(c:Int))&&decide ((c:Int)≤70368744177664)))=true by
   rw[Bool.and_eq_true,Bool.and_eq_true,decide_eq_true_eq,decide_eq_true_eq,decide_eq_true_eq]
   exact ⟨rfl,by omega,by omega⟩,tft]
 rw[tfd,if_neg (by omega),hg,obs,wst (n+2) [] _ (by simp),obs];dsimp only;have:=rpb_loop (n+2) c (by omega) (a0b-1) 1 (Nat.le_refl _) (by omega) (by unfold a0b;omega);rw[show a0b-1+1=a0b by unfold a0b;omega] at this
 change a0a (d0n (n+3) a0b ((c:Int),(c:Int),List.replicate 1 (0:UInt8),())) _=_
 rw[this,obs,a0r];dsimp only;rw[c0j,obs]
abbrev Rw:=Int×(Int×List Ev)
structure RawOk (r:Rw) (room:Int):Prop where
 m0:1≤room
 m1:room≤4096
 len:(r.2.2.length:Int)≤room
 l0:0≤r.1
 l1:r.1≤70368744177664
 f:Foll r.2.2
 z:r.1=0→r.2.1=0
 p:r.1≠0→(r.2.2.length:Int)=room∧0≤r.2.1∧∀x,r.2.2.head? = some x→r.2.1<x.1
noncomputable instance (r room):Decidable (RawOk r room):=Classical.propDecidable _
def RawW (r:Rw):Prop:=∀e∈r.2.2,EvW e
theorem last_at {l pre rest:List Ev} {x:Ev} {i:Int} (hl:l=pre++x::rest) (hi:i=pre.length) (hL:l.length≤1000000) (h:0<i):∃q,pre.getLast? = some q∧at? l (IntKind.wrap .i64 (i-1))=some q:=by
 rcases List.eq_nil_or_concat pre with rfl | ⟨q,y,rfl⟩
 ·simp at hi;omega
 rw[List.concat_eq_append] at *
 have hlen:=congrArg List.length hl;simp at hlen hi;refine ⟨y,by simp,?_⟩;rw[w64 (by omega) (by omega)];exact b0s (pre:=q) (rest:=x::rest) (by rw[hl];simp) (by omega)
theorem s1v {pre rest:List Ev} {x:Ev} (hp:Foll pre):(EvOk x∧(∀q,pre.getLast? = some q→q.1<x.1))↔Foll (pre++[x]):=by
 constructor
 ·rintro ⟨h1,h2⟩;refine s1u.2 ⟨hp,h1,?_⟩;rcases List.eq_nil_or_concat pre with rfl | ⟨q,y,rfl⟩
  ·simp
  ·rw[List.concat_eq_append] at *
   exact last_all hp (y:=y) (by simp) (h2 y (by simp))
 ·intro h;obtain ⟨h1,h2,h3⟩:=s1u.1 h;exact ⟨h2,fun q hq=>h3 q (List.mem_of_getLast? hq)⟩
theorem y1y {l pre rest:List Ev} {x:Ev} (hl:l=pre++x::rest) (h:Foll l):Foll (pre++[x]):=by
 rw[idxl hl] at h;exact (r0o.1 h).1
theorem q1e (n:Nat) (l:List Ev) (hL:l.length≤1000000) (hw:∀e∈l,EvW e):∀(rest pre:List Ev) (f:Nat) (i len:Int),l=pre++rest→i=pre.length→len=l.length→rest.length<f→Foll pre →
  (Foll l→g0x (n+3) f (l,l,len,i,())=some (.inl ()))∧(¬Foll l→g0x (n+3) f (l,l,len,i,())=some (.inr false)):=by
 intro rest;induction rest with
 | nil =>
  intro pre f i len hl hi hn hf hp;obtain ⟨f,rfl⟩:∃g,f=g+1:=⟨f-1,by simp at hf;omega⟩;rw[r0z];have e:l=pre:=by rw[hl,List.append_nil]
  exact ⟨fun _=>by simp only[tfd,if_neg (idxe hl hi hn)],fun k=>absurd (e ▸ hp) k⟩
 | cons x rest ih =>
  intro pre f i len hl hi hn hf hp;obtain ⟨f,rfl⟩:∃g,f=g+1:=⟨f-1,by simp at hf;omega⟩;rw[r0z];have hx:EvW x:=hw x (by rw[hl];simp);have ih':=ih (pre++[x]) f (i+1) len (idxl hl) (idxs hi) hn (by simp at hf;omega);simp only[tfd,tfn,if_pos (idx hl hi hn),b0s hl hi,obs,w0n _ hx,z02,idxw hl hi (by omega)];have nx:=s1v (rest:=rest) (x:=x) hp;by_cases c1:EvOk x
  case neg=>rw[if_neg c1];exact ⟨fun k=>absurd (k.ok x (by rw[hl];simp)) c1,fun _=>rfl⟩
  rw[if_pos c1];by_cases c2:0<i
  ·obtain ⟨q,hq,hat⟩:=last_at hl hi hL c2;have hqo:EvOk q:=hp.ok q (List.mem_of_getLast? hq);rw[if_pos c2,hat,obs,c1i n (.of hqo) hx];simp only[obs,tfd];by_cases c3:q.1<x.1
   ·rw[if_pos ⟨hqo,c1,c3⟩];exact ih' (nx.1 ⟨c1,fun z hz=>by rw[hq] at hz;injection hz with hz;rw[←hz];exact c3⟩)
   ·rw[if_neg (fun k=>c3 k.2.2)];exact ⟨fun k=>absurd ((nx.2 (y1y hl k)).2 q hq) c3,fun _=>rfl⟩
  ·have hpe:pre=[]:=List.length_eq_zero_iff.1 (by omega);rw[if_neg c2];exact ih' (nx.1 ⟨c1,fun z hz=>by rw[hpe] at hz;cases hz⟩)
noncomputable instance (l:List Ev):Decidable (Foll l):=Classical.propDecidable _
theorem i1h (n:Nat) (l:List Ev) (hL:l.length≤1000000) (hw:∀e∈l,EvW e):a1j (n+4) l=some (decide (Foll l)):=by
 rw[m1f];have h:=q1e n l hL hw l [] a0b 0 l.length rfl rfl rfl (by unfold a0b;omega) Foll.nil;by_cases c:Foll l
 ·rw[h.1 c,decide_eq_true c];rfl
 ·rw[h.2 c,decide_eq_false c];rfl
theorem h2c (l:List Ev):at? l (0:Int)=l.head? := by cases l<;>rfl
theorem e2t (n:Nat) (r:Rw) (room:Int) (hw:RawW r):e1y (n+5) r room=some (if RawOk r room then 0 else 2):=by
 rw[q1f];simp only[tfd];by_cases h1:room<1
 ·rw[if_pos h1,if_neg (fun k:RawOk r room=>by have:=k.m0;omega)]
 by_cases h2:4096<room
 ·rw[if_neg h1,if_pos h2,if_neg (fun k:RawOk r room=>by have:=k.m1;omega)]
 by_cases h3:room<r.2.2.length
 ·rw[if_neg h1,if_neg h2,if_pos h3,if_neg (fun k:RawOk r room=>by have:=k.len;omega)]
 by_cases h4:r.1<0
 ·rw[if_neg h1,if_neg h2,if_neg h3,if_pos h4,if_neg (fun k:RawOk r room=>by have:=k.l0;omega)]
 by_cases h5:70368744177664<r.1
 ·rw[if_neg h1,if_neg h2,if_neg h3,if_neg h4,if_pos h5,if_neg (fun k:RawOk r room=>by have:=k.l1;omega)]
 rw[if_neg h1,if_neg h2,if_neg h3,if_neg h4,if_neg h5,i1h n r.2.2 (by omega) hw,m1h];simp only[obs,tfn,tfd];by_cases h6:Foll r.2.2
 case neg=>rw[if_neg h6,if_neg (fun k:RawOk r room=>h6 k.f)]
 rw[if_pos h6];by_cases h7:r.1=0
 ·rw[if_pos h7,obs];simp only[tfd];by_cases h8:r.2.1=0
  ·rw[if_pos h8,if_pos (⟨by omega,by omega,by omega,by omega,by omega,h6,fun _=>h8,fun k=>absurd h7 k⟩:RawOk r room)]
  ·rw[if_neg h8,if_neg (fun k:RawOk r room=>h8 (k.z h7))]
 rw[if_neg h7];by_cases h8:(r.2.2.length:Int)=room
 case neg=>rw[if_neg h8,if_neg (fun k:RawOk r room=>h8 (k.p h7).1)];rfl
 rw[if_pos h8];by_cases h9:(0:Int)≤r.2.1
 case neg=>rw[if_neg h9,if_neg (fun k:RawOk r room=>h9 (k.p h7).2.1)];rfl
 rw[if_pos h9,h2c];obtain ⟨x,hx⟩:∃x,r.2.2.head? = some x:=by
  cases hh:r.2.2 with
  | nil=>rw[hh] at h8;simp at h8;omega
  | cons x l=>exact ⟨x,rfl⟩
 rw[hx,obs,obs];simp only[tfd];by_cases h10:r.2.1<x.1
 ·rw[if_pos h10,if_pos (⟨by omega,by omega,by omega,by omega,by omega,h6,fun k=>absurd k h7,fun _=>⟨h8,h9,fun y hy=>by rw[hx] at hy;injection hy with hy;rw[←hy];exact h10⟩⟩:RawOk r room)]
 ·rw[if_neg h10,if_neg (fun k:RawOk r room=>h10 ((k.p h7).2.2 x hx))]
theorem v1n (n:Nat) (room:Int) (r:Rw) (hL:r.2.2.length≤1000000) (hw:RawW r):∀(rest pre:List Ev) (f:Nat) (i len:Int),r.2.2=pre++rest→i=pre.length→len=r.2.2.length→rest.length<f→Foll pre →
  (Foll r.2.2→i0n (n+1) f (room,r,r.2.2,len,i,())=some (.inl (room,r,())))∧(¬Foll r.2.2→i0n (n+1) f (room,r,r.2.2,len,i,())=some (.inr 2)):=by
 intro rest;induction rest with
 | nil =>
  intro pre f i len hl hi hn hf hp;obtain ⟨f,rfl⟩:∃g,f=g+1:=⟨f-1,by simp at hf;omega⟩;rw[t0d];have e:r.2.2=pre:=by rw[hl,List.append_nil]
  exact ⟨fun _=>by simp only[tfd,if_neg (idxe hl hi hn)],fun k=>absurd (e ▸ hp) k⟩
 | cons x rest ih =>
  intro pre f i len hl hi hn hf hp;obtain ⟨f,rfl⟩:∃g,f=g+1:=⟨f-1,by simp at hf;omega⟩;rw[t0d];have hx:EvW x:=hw x (by rw[hl];simp);have ih':=ih (pre++[x]) f (i+1) len (idxl hl) (idxs hi) hn (by simp at hf;omega);simp only[tfd,tfn,if_pos (idx hl hi hn),b0s hl hi,obs,f1j _ hx,z02,idxw hl hi (by omega)];have nx:=s1v (rest:=rest) (x:=x) hp;by_cases c1:EvOk x
  case neg=>rw[if_neg c1];exact ⟨fun k=>absurd (k.ok x (by rw[hl];simp)) c1,fun _=>rfl⟩
  rw[if_pos c1];by_cases c2:0<i
  ·obtain ⟨q,hq,hat⟩:=last_at hl hi hL c2;rw[if_pos c2,hat,obs];by_cases c3:x.1≤q.1
   ·rw[if_pos c3];exact ⟨fun k=>by have:=(nx.2 (y1y hl k)).2 q hq;omega,fun _=>rfl⟩
   ·rw[if_neg c3];exact ih' (nx.1 ⟨c1,fun z hz=>by rw[hq] at hz;injection hz with hz;rw[←hz];omega⟩)
  ·have hpe:pre=[]:=List.length_eq_zero_iff.1 (by omega);rw[if_neg c2];exact ih' (nx.1 ⟨c1,fun z hz=>by rw[hpe] at hz;cases hz⟩)
theorem f2a (n:Nat) (r:Rw) (room:Int) (hw:RawW r):f1f (n+2) r room=some (if RawOk r room then 0 else 2):=by
 rw[q1t];simp only[tfd];by_cases h1:room<1
 ·rw[if_pos h1,if_neg (fun k:RawOk r room=>by have:=k.m0;omega)]
 by_cases h2:4096<room
 ·rw[if_neg h1,if_pos h2,if_neg (fun k:RawOk r room=>by have:=k.m1;omega)]
 by_cases h3:room<r.2.2.length
 ·rw[if_neg h1,if_neg h2,if_pos h3,if_neg (fun k:RawOk r room=>by have:=k.len;omega)]
 by_cases h4:r.1<0
 ·rw[if_neg h1,if_neg h2,if_neg h3,if_pos h4,if_neg (fun k:RawOk r room=>by have:=k.l0;omega)]
 by_cases h5:70368744177664<r.1
 ·rw[if_neg h1,if_neg h2,if_neg h3,if_neg h4,if_pos h5,if_neg (fun k:RawOk r room=>by have:=k.l1;omega)]
 rw[if_neg h1,if_neg h2,if_neg h3,if_neg h4,if_neg h5];have hl:=v1n n room r (by omega) hw r.2.2 [] a0b 0 _ rfl rfl rfl (by unfold a0b;omega) Foll.nil;by_cases h6:Foll r.2.2
 case neg=>rw[hl.2 h6,if_neg (fun k:RawOk r room=>h6 k.f)];rfl
 rw[hl.1 h6];simp only[obs,a0r,tfn,tfd];by_cases h7:r.1=0
 ·rw[if_pos h7];by_cases h8:r.2.1=0
  ·rw[if_pos h8,if_pos (⟨by omega,by omega,by omega,by omega,by omega,h6,fun _=>h8,fun k=>absurd h7 k⟩:RawOk r room)]
  ·rw[if_neg h8,if_neg (fun k:RawOk r room=>h8 (k.z h7))]
 rw[if_neg h7];by_cases h9:r.2.1<0
 ·rw[if_pos h9,if_neg (fun k:RawOk r room=>by have:=(k.p h7).2.1;omega)]
 rw[if_neg h9];have hd:∀k:RawOk r room,∃x,r.2.2.head? = some x∧EvOk x:=fun k=>by
  have h8:=(k.p h7).1;have:=k.m0;cases hh:r.2.2 with
  | nil=>rw[hh] at h8;simp at h8;omega
  | cons x l=>exact ⟨x,rfl,h6.ok x (by rw[hh];simp)⟩
 by_cases h10:(35184372088832:Int)≤r.2.1
 ·rw[if_pos h10,if_neg];intro k;obtain ⟨x,hx,hxo⟩:=hd k;have:=(k.p h7).2.2 x hx;have:=hxo.t1;omega
 rw[if_neg h10];by_cases h8:(r.2.2.length:Int)=room
 case neg=>rw[if_neg h8,if_neg (fun k:RawOk r room=>h8 (k.p h7).1)]
 rw[if_pos h8,h2c];obtain ⟨x,hx⟩:∃x,r.2.2.head? = some x:=by
  cases hh:r.2.2 with
  | nil=>rw[hh] at h8;simp at h8;omega
  | cons x l=>exact ⟨x,rfl⟩
 rw[hx,obs];by_cases h11:x.1≤r.2.1
 ·rw[if_pos h11,if_neg (fun k:RawOk r room=>by have:=(k.p h7).2.2 x hx;omega)]
 ·rw[if_neg h11,if_pos (⟨by omega,by omega,by omega,by omega,by omega,h6,fun k=>absurd k h7,fun _=>⟨h8,by omega,fun y hy=>by rw[hx] at hy;injection hy with hy;rw[←hy];omega⟩⟩:RawOk r room)]
theorem raw_last (n:Nat) (r:Rw) (hL:r.2.2.length≤1000000):m1i (n+1) r=some (match r.2.2.getLast? with | some e=>(e,0) | none=>(e0,3)):=by
 rw[v1a];simp only[tfd];rcases List.eq_nil_or_concat r.2.2 with h | ⟨q,y,h⟩
 ·rw[h,if_pos (by simp)];rfl
 ·rw[List.concat_eq_append] at h;have hlen:=congrArg List.length h;simp at hlen;rw[if_neg (by omega),w64 (by omega) (by omega),b0s (pre:=q) (rest:=[]) h (by omega),h];simp
theorem r12_last (n:Nat) (r:Rw) (hL:r.2.2.length≤1000000):m1k (n+1) r=some (match r.2.2.getLast? with | some e=>(e,0) | none=>(e0,3)):=by
 rw[v1p];simp only[tfd];rcases List.eq_nil_or_concat r.2.2 with h | ⟨q,y,h⟩
 ·rw[h,if_pos (by simp)];rfl
 ·rw[List.concat_eq_append] at h;have hlen:=congrArg List.length h;simp at hlen;rw[if_neg (by omega),w64 (by omega) (by omega),b0s (pre:=q) (rest:=[]) h (by omega),h];simp
def r0w:Rw:=(0,(0,[]))
end Go.Proofs.YtagnkfbpgkckiaaGreat
namespace Go.Proofs.YtagnkfbpgkckiaaGreat
open Go.Flat Go.Plim
end Go.Proofs.YtagnkfbpgkckiaaGreat
namespace Go.Proofs.YtagnkfbpgkckiaaGreat
open Go.Flat Go.Plim
set_option linter.unusedVariables false
set_option linter.unusedSimpArgs false
theorem c2k (n:Nat) (l:List Slo) (h:l.length≤1000000):q0s (n+1) l=some l:=by
 rw[c1s];simp only[tfd,if_pos (show (0+l.length)*120≤140737488355328 by omega),List.nil_append];by_cases h0:l.length=0
 ·obtain rfl:=List.length_eq_zero_iff.1 h0;simp
 ·rw[if_neg h0]
section
variable {del:a0d×Unit→Option Bool} {p:Slo→Bool} (hd:∀x,del (x,())=some (p x))
include hd
theorem g2z (n:Nat) (l:List Slo) (hL:l.length≤1000000):∀(rest pre:List Slo) (f:Nat) (i len:Int),l=pre++rest→i=pre.length→len=l.length→rest.length<f →
  (d0t n f (l,del,len,i,())=some (.inl ())∧∀x∈rest,p x=false) ∨
  (∃A x B,rest=A++x::B∧(∀y∈A,p y=false)∧p x=true∧d0t n f (l,del,len,i,())=some (.inr (i+A.length))):=by
 intro rest;induction rest with
 | nil =>
  intro pre f i len hl hi hn hf;obtain ⟨f,rfl⟩:∃g,f=g+1:=⟨f-1,by simp at hf;omega⟩;rw[i0x];exact .inl ⟨by simp only[tfd,if_neg (idxe hl hi hn)],by simp⟩
 | cons x rest ih =>
  intro pre f i len hl hi hn hf;obtain ⟨f,rfl⟩:∃g,f=g+1:=⟨f-1,by simp at hf;omega⟩;rw[i0x];simp only[tfd,if_pos (idx hl hi hn),b0s hl hi,obs,hd,idxw hl hi (by omega)];cases hp:p x with
  | true=>exact .inr ⟨[],x,rest,rfl,by simp,hp,by simp⟩
  | false =>
   rw[tff];rcases ih (pre++[x]) f (i+1) len (idxl hl) (idxs hi) hn (by simp at hf;omega) with ⟨h1,h2⟩ | ⟨A,y,B,h1,h2,h3,h4⟩
   ·exact .inl ⟨h1,by intro z hz;rcases List.mem_cons.1 hz with rfl | hz;exact hp;exact h2 z hz⟩
   ·refine .inr ⟨x::A,y,B,by rw[h1];rfl,?_,h3,by rw[h4,List.length_cons,show i+1+(A.length:Int)=i+((A.length+1:Nat):Int) by omega]⟩;intro z hz;rcases List.mem_cons.1 hz with rfl | hz
    ·exact hp
    ·exact h2 z hz
theorem delete_l (n:Nat) (l0:List Slo) (hL:l0.length≤1000000):∀(rest F G:List Slo) (f:Nat) (i j:Int),(F++(G++rest)).length=l0.length→G≠[]→i=F.length→j=F.length+G.length→rest.length<f →
  ∃G',d0l n f (F++(G++rest),del,i,j,())=some (.inl (F++rest.filter (fun x => !p x)++G',(F++rest.filter (fun x => !p x)).length,()))∧(F++rest.filter (fun x => !p x)++G').length=l0.length:=by
 intro rest;induction rest with
 | nil =>
  intro F G f i j hl hg hi hj hf;obtain ⟨f,rfl⟩:∃g,f=g+1:=⟨f-1,by simp at hf;omega⟩;rw[i0l];have:¬(j<((F++(G++[])).length:Int)):=by simp;omega
  simp only[tfd,if_neg this];exact ⟨G,by simp[hi],by simpa using hl⟩
 | cons x rest ih =>
  intro F G f i j hl hg hi hj hf;obtain ⟨f,rfl⟩:∃g,f=g+1:=⟨f-1,by simp at hf;omega⟩;rw[i0l];simp only[List.length_append,List.length_cons] at hl;have hlt:j<((F++(G++x::rest)).length:Int):=by simp;omega
  have hat:at? (F++(G++x::rest)) j=some x:=b0s (pre:=F++G) (rest:=rest) (by simp) (by simp;omega);have hget:(F++(G++x::rest))[j.toNat]? = some x:=by
   rw[show j.toNat=F.length+G.length by omega,List.getElem?_append_right (by omega),List.getElem?_append_right (by omega)];simp
  simp only[tfd,if_pos hlt,hat,hget,obs,hd];have wj:IntKind.wrap .i64 (j+1)=j+1:=by rw[w64 (by omega) (by omega)]
  have wi:IntKind.wrap .i64 (i+1)=i+1:=by rw[w64 (by omega) (by omega)]
  rw[wj,wi]
  match G,hg with
  | g::G,_ =>
  cases hp:p x with
  | false =>
   have hat':at? (F++(g::G++x::rest)) i=some g:=b0s (pre:=F) (rest:=G++x::rest) (by simp) hi;have hget':(F++(g::G++x::rest))[i.toNat]? = some g:=by
    rw[show i.toNat=F.length by omega];simp
   have hset:(F++(g::G++x::rest)).set i.toNat x=(F++[x])++((G++[x])++rest):=by
    rw[show i.toNat=F.length by omega,List.set_append_right _ _ (by omega)];simp
   simp only[Bool.not_false,tft,hat',hget',obs,hset];obtain ⟨G',h1,h2⟩:=ih (F++[x]) (G++[x]) f (i+1) (j+1) (by simp at hl ⊢;omega) (by simp) (by simp;omega) (by simp at hj ⊢;omega) (by simp at hf;omega);refine ⟨G',?_,?_⟩
   ·rw[h1];simp[List.filter_cons,hp]
   ·rw[←h2];simp[List.filter_cons,hp]
  | true =>
   simp only[Bool.not_true,tff];obtain ⟨G',h1,h2⟩:=ih F (g::G++[x]) f i (j+1) (by simp at hl ⊢;omega) (by simp) hi (by simp at hj ⊢;omega) (by simp at hf;omega);simp only[List.append_assoc,List.singleton_append] at h1;refine ⟨G',?_,?_⟩
   ·rw[h1];simp[List.filter_cons,hp]
   ·rw[←h2];simp[List.filter_cons,hp]
theorem x1b (n:Nat) (l:List Slo) (hL:l.length≤1000000):j0a (n+2) l del=some (l.filter fun x => !p x):=by
 rw[s0r,l0l];rcases g2z hd n l hL l [] a0b 0 l.length rfl rfl rfl (by unfold a0b;omega) with ⟨h1,h2⟩ | ⟨A,x,B,h1,h2,h3,h4⟩
 ·rw[h1];simp only[obs,a0r,tfd,if_pos trivial];exact congrArg some (List.filter_eq_self.2 fun y hy=>by simp[h2 y hy]).symm
 ·rw[h4];have hl:l.length=A.length+(B.length+1):=by rw[h1];simp
  simp only[obs,m0t,tfd,Int.zero_add];rw[if_neg (by omega),w64 (x:=(A.length:Int)+1) (by omega) (by omega)];obtain ⟨G',g1,g2⟩:=delete_l hd (n+1) l hL B A [x] a0b (A.length:Int) (A.length+1) (by rw[h1];simp) (by simp) rfl (by simp) (by unfold a0b;omega);rw[show A++([x]++B)=l by rw[h1];simp] at g1;rw[g1];have hF:A++B.filter (fun x => !p x)=l.filter fun x => !p x:=by
   rw[h1,List.filter_append,List.filter_cons];have:A.filter (fun x => !p x)=A:=List.filter_eq_self.2 fun y hy=>by simp[h2 y hy]
   simp[h3,this]
  rw[hF] at g2 ⊢;generalize (l.filter fun x => !p x)=F at *
  simp only[obs,a0r,e1d,tfd,Int.toNat_natCast];have hle:F.length≤(F++G').length:=by simp
  have k1:putRow (F++G') F.length (List.replicate ((F++G').length-F.length) s0)=F++List.replicate ((F++G').length-F.length) s0:=by
   unfold putRow;rw[List.drop_of_length_le (by simp)];simp
  have k2:=k1;simp only[s0,z0,e0] at k2;rw[k2,if_pos (by omega),if_pos hle,if_pos (by omega),if_pos (by omega),if_pos (by simp;omega)];simp
end
theorem i2h (n:Nat) (x y:Int):k0d (n+2) x y=some (if x<y then -1 else if y<x then 1 else 0):=by
 rw[v0g,o0p,o0p];simp only[decide_true,Bool.not_true,obs,tff,tfd];by_cases h1:x<y
 ·rw[if_pos h1,if_pos h1]
 ·rw[if_neg h1,if_neg h1];by_cases h2:y<x
  ·rw[if_pos h2,if_pos h2]
  ·rw[if_neg h2,if_neg h2]
theorem i2i (n:Nat):Cmp (fun y3=>u0e (n+3) y3.1 y3.2.1) (fun s=>s.1):=by
 intro x y;refine ⟨if x.1<y.1 then -1 else if y.1<x.1 then 1 else 0,?_,?_⟩
 ·show u0e (n+3) x y=_;rw[l1s,i2h];rfl
 ·by_cases h1:x.1<y.1
  ·simp[h1]
  ·by_cases h2:y.1<x.1
   ·simp[h1,h2]
   ·simp[h1,h2]
theorem f1r {l:List Slo} (h:Srt (fun s=>s.1) l 0 l.length):l.Pairwise fun a b=>a.1≤b.1:=by
 rw[List.pairwise_iff_getElem];intro i j hi hj hij;exact h i j _ _ (by omega) hij hj (List.getElem?_eq_getElem hi) (List.getElem?_eq_getElem hj)
theorem tier_all (n:Nat) {l:List Slo} {w:Int} (h:TierOk l w):x1o (n+17) l=some (tall l):=by
 have hl:=h.l1;rw[u1a,c2k _ l (by omega)];simp only[obs];rw[x1b (del:=fun y1=>s0o (n+16) y1.1) (p:=fun s=>decide (s=s0)) (fun x=>x0b (n+15) x) (n+14) l (by omega)];simp only[obs];have e:(l.filter fun x => !decide (x=s0))=i0k l:=by unfold i0k;congr 1;funext x;simp
 rw[e];have hle:(i0k l).length≤l.length:=List.length_filter_le _ _;obtain ⟨d',r1,r2,r3⟩:=l1z (i2i (n+13)) n 12 (i0k l) (by omega) (by omega);rw[r1];rw[←r2.length_eq] at r3;rw[d2q h r2 (f1r r3)];rfl
theorem a2x (n:Nat) (out:List Slo) (s:Slo) (s8:List Slo) (s9 s10:Int) (hL:out.length≤1000000) (hs:out.Pairwise fun a b=>a.1≤b.1):∀(k f:Nat),k≤out.length→k<f→(∀x∈out.drop k,s.1<x.1) →
  ∃k':Nat,u0p n f (out,s,(k:Int),s8,s9,s10,())=some (.inl (out,s,(k':Int),s8,s9,s10,()))∧k'≤out.length∧(∀x∈out.take k',x.1≤s.1)∧(∀x∈out.drop k',s.1<x.1):=by
 intro k;induction k with
 | zero =>
  intro f hk hf h;obtain ⟨f,rfl⟩:∃g,f=g+1:=⟨f-1,by omega⟩;rw[y0k];simp only[tfd,if_neg (show ¬((0:Int)<((0:Nat):Int)) by omega)];exact ⟨0,rfl,by omega,by simp,h⟩
 | succ k ih =>
  intro f hk hf h;obtain ⟨f,rfl⟩:∃g,f=g+1:=⟨f-1,by omega⟩;rw[y0k];have lk:k<out.length:=by omega
  rw[wn (x:=((k+1:Nat):Int)-1) (k:=k) (by omega) (by omega)];simp only[tfd,if_pos (show ((0:Int)<((k+1:Nat):Int)) by omega),at_some lk,Int.toNat_natCast,List.getElem?_eq_getElem lk,obs];by_cases hc:s.1<out[k].1
  ·rw[if_pos hc];refine ih f (by omega) (by omega) (fun x hx => ?_);rw[List.drop_eq_getElem_cons lk] at hx;rcases List.mem_cons.1 hx with rfl | hx
   ·exact hc
   ·exact h x hx
  ·rw[if_neg hc];refine ⟨k+1,rfl,hk,fun x hx => ?_,h⟩;obtain ⟨j,hj,rfl⟩:=List.mem_iff_getElem.1 hx;have hj':j<k+1:=by simp at hj;omega
   rw[List.getElem_take];rcases Nat.lt_or_eq_of_le (Nat.le_of_lt_succ hj') with hjk | rfl
   ·have:=List.pairwise_iff_getElem.1 hs j k (by omega) lk hjk;omega
   ·omega
theorem insert_sorted {out:List Slo} {s:Slo} {k:Nat} (hs:out.Pairwise fun a b=>a.1≤b.1) (h1:∀x∈out.take k,x.1≤s.1) (h2:∀x∈out.drop k,s.1<x.1) :
  (out.take k++s::out.drop k).Pairwise fun a b=>a.1≤b.1:=by
 rw[List.pairwise_append];refine ⟨hs.sublist (List.take_sublist _ _),List.pairwise_cons.2 ⟨fun x hx=>Int.le_of_lt (h2 x hx),hs.sublist (List.drop_sublist _ _)⟩,fun a ha b hb => ?_⟩;rcases List.mem_cons.1 hb with rfl | hb
 ·exact h1 a ha
 ·have:=h1 a ha;have:=h2 b hb;omega
theorem a2y (n:Nat) (l:List Slo) (hL:l.length≤1000000):∀(rest pre:List Slo) (f:Nat) (out:List Slo) (i len:Int),l=pre++rest→i=pre.length→len=l.length→rest.length<f→out.Pairwise (fun a b=>a.1≤b.1)→out.Perm (i0k pre) →
  ∃out',p0n n f (out,l,len,i,())=some (.inl (out',()))∧out'.Pairwise (fun a b=>a.1≤b.1)∧out'.Perm (i0k l):=by
 intro rest;induction rest with
 | nil =>
  intro pre f out i len hl hi hn hf hs hp;obtain ⟨f,rfl⟩:∃g,f=g+1:=⟨f-1,by simp at hf;omega⟩;rw[y0l];rw[List.append_nil] at hl;exact ⟨out,by simp only[tfd,if_neg (idxe (pre:=pre) (by rw[hl,List.append_nil]) hi hn)],hs,by rw[hl];exact hp⟩
 | cons x rest ih =>
  intro pre f out i len hl hi hn hf hs hp;obtain ⟨f,rfl⟩:∃g,f=g+1:=⟨f-1,by simp at hf;omega⟩;rw[y0l];have hlen:out.length≤l.length:=by
   rw[hp.length_eq,hl];have:(i0k pre).length≤pre.length:=List.length_filter_le _ _;simp;omega
  simp only[tfd,if_pos (idx hl hi hn),b0s hl hi,obs,p1u];by_cases h0:x=s0
  ·rw[if_pos h0,idxw hl hi (by omega)];exact ih (pre++[x]) f out (i+1) len (idxl hl) (idxs hi) hn (by simp at hf;omega) hs (by simpa [i0k,List.filter_append,h0] using hp)
  ·rw[if_neg h0];obtain ⟨k,r1,r2,r3,r4⟩:=a2x n out x l len i (by omega) hs out.length a0b (Nat.le_refl _) (by unfold a0b;omega) (by simp);rw[r1];have t1:(List.take ((k:Int).toNat-0) (List.drop 0 out))=out.take k:=by simp
   have t2:(List.take (out.length-(k:Int).toNat) (List.drop (k:Int).toNat out))=out.drop k:=by
    rw[Int.toNat_natCast,List.take_of_length_le (by simp)]
   simp only[obs,a0r,e1d,tfd];rw[t1,t2,List.nil_append];have l1:(out.take k).length=k:=by simp;omega
   rw[if_pos (by omega),if_pos (by omega),if_pos (by rw[l1];omega),if_pos (by rw[l1];omega),if_pos (by omega),if_pos (by simp;omega),if_pos (by simp;omega),idxw hl hi (by omega)];have e:out.take k++[x]++out.drop k=out.take k++x::out.drop k:=by simp
   rw[e];refine ih (pre++[x]) f _ (i+1) len (idxl hl) (idxs hi) hn (by simp at hf;omega) (insert_sorted hs r3 r4) ?_;have e2:i0k (pre++[x])=i0k pre++[x]:=by simp[i0k,List.filter_append,h0]
   rw[e2];refine (List.perm_middle).trans ?_;rw[List.take_append_drop];exact ((List.Perm.cons x hp)).trans (List.perm_append_comm (l₁:=[x]))
theorem a1k (n:Nat) {l:List Slo} {w:Int} (h:TierOk l w):t0b (n+1) l=some (tall l):=by
 have hl:=h.l1;rw[a2z];obtain ⟨out,r1,r2,r3⟩:=a2y n l (by omega) l [] a0b [] 0 l.length rfl rfl rfl (by unfold a0b;omega) .nil (by simp[i0k]);rw[r1];simp only[obs,a0r];rw[d2q h r3 r2]
theorem ev_wf {e:Ev} (h:Wf a0e e):EvW e:=by
 obtain ⟨h1,h2,h3,_⟩:=h;exact ⟨h1,h2,h3⟩
theorem cel_wf {c:Cel} (h:Wf c0d c):CelW c:=by
 obtain ⟨h1,h2,h3,⟨h4,h5⟩,h6,h7,h8⟩:=h;exact ⟨h1,ev_wf h2,ev_wf h3,⟨h4,h5⟩,h6,h7,h8⟩
theorem e2a {s:Slo} (h:Wf a0c s):SloW s:=by
 obtain ⟨h1,h2⟩:=h;exact ⟨h1,cel_wf h2⟩
theorem u1p {l:List Slo} (h:Wf (.slice a0c) l):∀s∈l,SloW s:=fun s hs=>e2a (h.2 s hs)
theorem l1v {l:List Slo}:(tall l).length≤l.length:=by
 rw[(x0d l).length_eq];exact List.length_filter_le _ _
theorem u1o:SloW s0:=⟨by simp[I64,s0],i2q⟩
theorem l1t {l:List Slo} {w:Int} (h:TierOk l w):∀s∈l,SloW s:=by
 intro s hs;obtain ⟨j,hj⟩:=List.getElem?_of_mem hs;rcases h.s j s hj with rfl | ⟨_,hf⟩
 ·exact u1o
 ·have:=hf.i0;exact ⟨by unfold I64;omega,.ofN hf.n⟩
theorem k1l {e:Ev} (h:EvOk e) {w:Int} (hw:1≤w):IntKind.wrap .i64 (Int.tdiv e.1 w)=e.1 / w:=by
 have h0:=h.t0;have h1:=h.t1;have:0≤e.1 / w:=Int.ediv_nonneg h0 (by omega);have:e.1 / w≤e.1:=Int.ediv_le_self _ h0;rw[o0s h0,w64 (by omega) (by omega)]
end Go.Proofs.YtagnkfbpgkckiaaGreat

namespace Go.Plim
set_option linter.unusedVariables false
def rng (w:Int) (l:List Ev) (i k:Int):List Ev:=l.filter fun e=>decide (i≤e.1 / w∧e.1 / w<k)
def win (w:Int) (l:List Ev) (i:Int):List Ev:=l.filter fun e=>decide (e.1 / w=i)
theorem tall_N {l:List Slo} {w:Int} (h:TierOk l w) {s:Slo} (hs:s∈tall l):CellN s.2:=(p1m h hs).1.n
structure TierInv (t:List Slo) (w:Int) (l:List Ev):Prop where
 ok:TierOk t w
 cells:∀s∈tall t,s.2=cellOf (win w l s.1)
 kept:∀i,(∃e∈l,e.1 / w=i)→(∀e∈l,e.1 / w<i+(t.length:Int))→(i,cellOf (win w l i))∈tall t
end Go.Plim

namespace Go.Proofs.YtagnkfbpgkckiaaGreat
open Go.Flat Go.Plim
set_option linter.unusedVariables false
abbrev Trs:=List Slo×(List Slo×List Slo)
noncomputable instance (c:Conf):Decidable (OkC c):=Classical.propDecidable _
structure FoldOk (c:Conf) (s:Trs):Prop where
 cok:OkC c
 n0:(s.1.length:Int)=c.2.2.1.1
 n1:(s.2.1.length:Int)=c.2.2.1.2.1
 n2:(s.2.2.length:Int)=c.2.2.1.2.2
 t0:TierOk s.1 c.2.1.1
 t1:TierOk s.2.1 c.2.1.2.1
 t2:TierOk s.2.2 c.2.1.2.2
noncomputable instance (c:Conf) (s:Trs):Decidable (FoldOk c s):=Classical.propDecidable _
def mk1 (c:Conf) (s:Trs) (i:Int):Cel×Int:=tfold s.1 (i*(c.2.1.2.1 / c.2.1.1)) ((i+1)*(c.2.1.2.1 / c.2.1.1))
theorem b2p {a w m:Int} (hw:1≤w) (h:a≤m / w):a*w≤m :=
 Int.le_trans (Int.mul_le_mul_of_nonneg_right h (by omega)) (Int.ediv_mul_le m (by omega))
def Begins (w i:Int):Prop:=0≤i∧i≤35184372088831 / w
theorem Begins.mul {w i:Int} (hw:1≤w) (h:Begins w i):0≤i*w∧i*w≤35184372088831:=⟨Int.mul_nonneg h.1 (by omega),b2p hw h.2⟩
end Go.Proofs.YtagnkfbpgkckiaaGreat
namespace Go.Proofs.YtagnkfbpgkckiaaGreat
open Go.Flat Go.Plim
set_option linter.unusedVariables false
set_option linter.unusedSimpArgs false
structure TrsW (s:Trs):Prop where
 a:∀x∈s.1,SloW x
 b:∀x∈s.2.1,SloW x
 c:∀x∈s.2.2,SloW x
theorem FoldOk.w {c:Conf} {s:Trs} (h:FoldOk c s):TrsW s:=⟨l1t h.t0,l1t h.t1,l1t h.t2⟩
theorem b1g (n:Nat) (c:Conf):e0k (n+3) c=some (if OkC c then 0 else 2):=by
 by_cases h:OkC c
 ·rw[if_pos h,z0q n h]
 ·rw[if_neg h,o1n n h]
theorem y0n (n:Nat) (c:Conf):g0l (n+3) c=some (if OkC c then 0 else 2):=by
 by_cases h:OkC c
 ·rw[if_pos h,o0e n h]
 ·rw[if_neg h,c1b n h]
theorem n1s (n:Nat) (c:Conf) {s:Trs} (hw:TrsW s):g1i (n+8) c s=some (if FoldOk c s then (some (c,s),0) else (none,2)):=by
 rw[s1w,b1g (n+4),z0v n _ _ hw.a,z0v n _ _ hw.b,z0v n _ _ hw.c];simp only[obs,tfn,tfd];by_cases h0:OkC c
 case neg=>rw[if_neg (mt (z02 _).1 h0),if_neg h0,if_neg (fun k:FoldOk c s=>h0 k.cok)]
 rw[if_pos ((z02 _).2 h0)];by_cases h1:(s.1.length:Int)=c.2.2.1.1
 case neg=>rw[if_neg h1,if_neg (fun k:FoldOk c s=>h1 k.n0)]
 rw[if_pos h1];by_cases h2:TierOk s.1 c.2.1.1
 case neg=>rw[if_neg (mt (z02 _).1 h2),if_neg (fun k:FoldOk c s=>h2 k.t0)]
 rw[if_pos ((z02 _).2 h2)];by_cases h3:(s.2.1.length:Int)=c.2.2.1.2.1
 case neg=>rw[if_neg h3,if_neg (fun k:FoldOk c s=>h3 k.n1)]
 rw[if_pos h3];by_cases h4:TierOk s.2.1 c.2.1.2.1
 case neg=>rw[if_neg (mt (z02 _).1 h4),if_neg (fun k:FoldOk c s=>h4 k.t1)]
 rw[if_pos ((z02 _).2 h4)];by_cases h5:(s.2.2.length:Int)=c.2.2.1.2.2
 case neg=>rw[if_neg h5,if_neg (fun k:FoldOk c s=>h5 k.n2)]
 rw[if_pos h5];by_cases h6:TierOk s.2.2 c.2.1.2.2
 case neg=>rw[if_neg (mt (z02 _).1 h6),if_neg (fun k:FoldOk c s=>h6 k.t2)]
 rw[if_pos ((z02 _).2 h6),if_pos (⟨h0,h1,h3,h5,h2,h4,h6⟩:FoldOk c s)]
theorem e2z (n:Nat) (c:Conf) {s:Trs} (hw:TrsW s):f1c (n+7) c s=some (if FoldOk c s then 0 else 2):=by
 rw[q1r,y0n (n+3),f1d n _ _ hw.a,f1d n _ _ hw.b,f1d n _ _ hw.c];simp only[obs,tfn,tfd];by_cases h0:OkC c
 case neg=>rw[if_neg (mt (z02 _).1 h0),if_neg (fun k:FoldOk c s=>h0 k.cok)]
 rw[if_pos ((z02 _).2 h0)];by_cases h1:(s.1.length:Int)=c.2.2.1.1
 case neg=>rw[if_neg h1,if_neg (fun k:FoldOk c s=>h1 k.n0)]
 rw[if_pos h1];by_cases h2:TierOk s.1 c.2.1.1
 case neg=>rw[if_neg (mt (z02 _).1 h2),if_neg (fun k:FoldOk c s=>h2 k.t0)]
 rw[if_pos ((z02 _).2 h2)];by_cases h3:(s.2.1.length:Int)=c.2.2.1.2.1
 case neg=>rw[if_neg h3,if_neg (fun k:FoldOk c s=>h3 k.n1)]
 rw[if_pos h3];by_cases h4:TierOk s.2.1 c.2.1.2.1
 case neg=>rw[if_neg (mt (z02 _).1 h4),if_neg (fun k:FoldOk c s=>h4 k.t1)]
 rw[if_pos ((z02 _).2 h4)];by_cases h5:(s.2.2.length:Int)=c.2.2.1.2.2
 case neg=>rw[if_neg h5,if_neg (fun k:FoldOk c s=>h5 k.n2)]
 rw[if_pos h5];by_cases h6:TierOk s.2.2 c.2.1.2.2
 case neg=>rw[if_neg (mt (z02 _).1 h6),if_neg (fun k:FoldOk c s=>h6 k.t2)]
 rw[if_pos ((z02 _).2 h6),if_pos (⟨h0,h1,h3,h5,h2,h4,h6⟩:FoldOk c s)]
theorem c2a (n:Nat) (c:Conf) {s:Trs} (hw:TrsW s):b1b (n+9) c s=some (if FoldOk c s then 0 else 2):=by
 rw[n1t,n1s n c hw];by_cases h:FoldOk c s
 ·rw[if_pos h,if_pos h];rfl
 ·rw[if_neg h,if_neg h];rfl
theorem FoldOk.lens {c:Conf} {s:Trs} (h:FoldOk c s):s.1.length≤1000000∧s.2.1.length≤1000000∧s.2.2.length≤1000000:=by
 have:=h.t0.l1;have:=h.t1.l1;have:=h.t2.l1;omega
theorem trs_wf {s:Trs} (h:Wf (.wrap (.pair (.slice a0c) (.pair (.slice a0c) (.slice a0c)))) s):TrsW s:=by
 obtain ⟨h1,h2,h3⟩:=h;exact ⟨u1p h1,u1p h2,u1p h3⟩
abbrev Ser:=List Lab×(Int×(Rw×(Trs×Slo)))
structure SerW (s:Ser):Prop where
 last:I64 s.2.1
 raw:RawW s.2.2.1
 trs:TrsW s.2.2.2.1
 opn:SloW s.2.2.2.2
def b0p (l:List Slo) (i:Int):Prop:=∀s∈l,0<s.2.1→s.1<i
noncomputable instance (l i):Decidable (b0p l i):=Classical.propDecidable _
structure Fresh (s:Ser):Prop where
 raw:s.2.2.1.2.2=[]
 opn:s.2.2.2.2=s0
 b0:b0p s.2.2.2.1.1 0
 b1:b0p s.2.2.2.1.2.1 0
 b2:b0p s.2.2.2.1.2.2 0
structure EndsP (c:Conf) (s:Ser):Prop where
 last:∃e,s.2.2.1.2.2.getLast? = some e∧e.1=s.2.1
 ol:s.2.2.2.2.2.2.2.1.1=s.2.1
 fit:FitsP s.2.2.2.2.2 c.2.1.1 s.2.2.2.2.1
 b0:b0p s.2.2.2.1.1 (s.2.1 / c.2.1.1)
 b1:b0p s.2.2.2.1.2.1 (s.2.1 / c.2.1.2.1)
 b2:b0p s.2.2.2.1.2.2 (s.2.1 / c.2.1.2.2)
structure SerOk (c:Conf) (s:Ser):Prop where
 fold:FoldOk c s.2.2.2.1
 lab:LabOk s.1
 raw:RawOk s.2.2.1 c.1
 st:(s.2.1 = -1∧Fresh s)∨(s.2.1 ≠ -1∧EndsP c s)
noncomputable instance (s):Decidable (Fresh s):=Classical.propDecidable _
noncomputable instance (c s):Decidable (EndsP c s):=Classical.propDecidable _
noncomputable instance (c s):Decidable (SerOk c s):=Classical.propDecidable _
theorem o1g (n:Nat) {del:a0d×Unit→Option Bool} {p:Slo→Bool} (hd:∀x,del (x,())=some (p x)) (l:List Slo) (hL:l.length≤1000000):h0p (n+2) l del=some (l.any p):=by
 rw[q0r,l0l];rcases g2z hd n l hL l [] a0b 0 l.length rfl rfl rfl (by unfold a0b;omega) with ⟨h1,h2⟩ | ⟨A,x,B,h1,h2,h3,h4⟩
 ·rw[h1];have:l.any p=false:=by rw[List.any_eq_false];intro x hx;simp[h2 x hx]
  rw[this];rfl
 ·rw[h4];have:l.any p=true:=List.any_eq_true.2 ⟨x,by rw[h1];simp,h3⟩;simp only[obs,m0t,this,Int.zero_add];rw[decide_eq_true (by omega)]
theorem e0a (n:Nat) (l:List Slo) (i:Int) (hL:l.length≤1000000):e0n (n+3) l i=some (!decide (b0p l i)):=by
 rw[c1u,o1g (p:=fun s=>decide (0<s.2.1∧i≤s.1)) n (fun x=>by
  show m0s (n+1+1) x i=_;rw[x0u]
  by_cases h1:0<x.2.1<;>by_cases h2:i≤x.1<;>simp[h1,h2]) l hL]
 simp only[obs];refine congrArg some ?_;by_cases h:b0p l i
 ·rw[decide_eq_true h];rw[List.any_eq_false.2]
  ·rfl
  ·intro x hx k;have:=of_decide_eq_true k;have:=h x hx this.1;omega
 ·rw[decide_eq_false h];have:∃x∈l,0<x.2.1∧i≤x.1:=Classical.byContradiction fun k=>h fun x hx hc=>by
   rcases Int.lt_or_le x.1 i with q | q
   ·exact q
   ·exact absurd ⟨x,hx,hc,q⟩ k
  obtain ⟨x,hx,hq⟩:=this;rw[List.any_eq_true.2 ⟨x,hx,decide_eq_true hq⟩];rfl
theorem b2v (n:Nat) (c:Conf) {s:Ser} (hf:FoldOk c s.2.2.2.1):e1k (n+4) (c,s)=some (decide (Fresh s)):=by
 obtain ⟨l0,l1,l2⟩:=hf.lens;rw[p1r,p1u,e0a n _ _ l0,e0a n _ _ l1,e0a n _ _ l2];simp only[obs,Bool.not_not,tfd];by_cases h1:(s.2.2.1.2.2.length:Int)=0
 case neg=>rw[if_neg h1,decide_eq_false (fun k:Fresh s=>h1 (by rw[k.raw];rfl))]
 rw[if_pos h1];by_cases h2:s.2.2.2.2=s0
 case neg=>rw[if_neg h2,decide_eq_false (fun k:Fresh s=>h2 k.opn)]
 rw[if_pos h2];by_cases h3:b0p s.2.2.2.1.1 0
 case neg=>rw[if_neg h3,decide_eq_false (fun k:Fresh s=>h3 k.b0)]
 rw[if_pos h3];by_cases h4:b0p s.2.2.2.1.2.1 0
 case neg=>rw[if_neg h4,decide_eq_false (fun k:Fresh s=>h4 k.b1)]
 rw[if_pos h4];refine congrArg some (decide_eq_decide.2 ⟨fun k=>⟨List.length_eq_zero_iff.1 (by omega),h2,h3,h4,k⟩,fun k=>k.b2⟩)
theorem g2m {c:Conf} {s:Ser} (hr:RawOk s.2.2.1 c.1) {e:Ev} (he:s.2.2.1.2.2.getLast? = some e):EvOk e:=hr.f.ok e (List.mem_of_getLast? he)
theorem g2w (n:Nat) (c:Conf) {s:Ser} (hf:FoldOk c s.2.2.2.1) (hr:RawOk s.2.2.1 c.1) (hw:SerW s):d1d (n+7) (c,s)=some (decide (EndsP c s)):=by
 obtain ⟨l0,l1,l2⟩:=hf.lens;have hg:=hf.cok.rng;have hlen:=hr.len;have hm1:=hr.m1;rw[u1l,raw_last (n+5) s.2.2.1 (by omega)];cases hl:s.2.2.1.2.2.getLast? with
 | none =>
  simp only[obs];rw[show (decide ((3:Int)=0))=false from rfl,tff,decide_eq_false];intro k;obtain ⟨e,he,_⟩:=k.last;rw[hl] at he;cases he
 | some e =>
  have heo:=g2m hr hl;simp only[obs,decide_true,tft,tfd,if_true];by_cases h1:e.1=s.2.1
  case neg =>
   rw[if_neg h1,decide_eq_false];intro k;obtain ⟨e',he,hq⟩:=k.last;rw[hl] at he;injection he with he;subst he;exact h1 hq
  rw[if_pos h1];by_cases h2:s.2.2.2.2.2.2.2.1.1=s.2.1
  case neg=>rw[if_neg h2,decide_eq_false (fun k:EndsP c s=>h2 k.ol)]
  have q0:=k1l heo hg.w0.1;have q1:=k1l heo hg.w1.1;have q2:=k1l heo hg.w2.1;rw[h1] at q0 q1 q2;rw[if_pos h2,p1h n hw.opn.c];simp only[obs,tfd,q0,q1,q2,e0a (n+3) _ _ l0,e0a (n+3) _ _ l1,e0a (n+3) _ _ l2,Bool.not_not,if_neg (show ¬(c.2.1.1=0) by have:=hg.w0;omega),if_neg (show ¬(c.2.1.2.1=0) by have:=hg.w1;omega),if_neg (show ¬(c.2.1.2.2=0) by have:=hg.w2;omega)];by_cases h3:FitsP s.2.2.2.2.2 c.2.1.1 s.2.2.2.2.1
  case neg=>rw[if_neg h3,decide_eq_false (fun k:EndsP c s=>h3 k.fit)]
  rw[if_pos h3];by_cases h4:b0p s.2.2.2.1.1 (s.2.1 / c.2.1.1)
  case neg=>rw[if_neg h4,decide_eq_false (fun k:EndsP c s=>h4 k.b0)]
  rw[if_pos h4];by_cases h5:b0p s.2.2.2.1.2.1 (s.2.1 / c.2.1.2.1)
  case neg=>rw[if_neg h5,decide_eq_false (fun k:EndsP c s=>h5 k.b1)]
  rw[if_pos h5];refine congrArg some (decide_eq_decide.2 ⟨fun k=>⟨⟨e,hl,h1⟩,h2,h3,h4,h5,k⟩,fun k=>k.b2⟩)
theorem z08 (p:Prop) [Decidable p]:((if p then (0:Int) else 8)=0)↔p:=by by_cases h:p<;>simp[h]
theorem e1r (n:Nat) (c:Conf) {s:Ser} (hw:SerW s):w0a (n+10) c s=some (if SerOk c s then (some (c,s),0) else (none,2)):=by
 rw[i1e,c2a n c hw.trs,r0l (n+3),e2t (n+4) _ _ hw.raw];simp only[obs,tfn,tfd];by_cases h1:FoldOk c s.2.2.2.1
 case neg=>rw[if_neg (mt (z02 _).1 h1),if_neg (fun k:SerOk c s=>h1 k.fold)]
 by_cases h2:LabOk s.1
 case neg=>rw[if_pos ((z02 _).2 h1),if_neg (mt (z08 _).1 h2),if_neg (fun k:SerOk c s=>h2 k.lab)]
 by_cases h3:RawOk s.2.2.1 c.1
 case neg=>rw[if_pos ((z02 _).2 h1),if_pos ((z08 _).2 h2),if_neg (mt (z02 _).1 h3),if_neg (fun k:SerOk c s=>h3 k.raw)]
 rw[if_pos ((z02 _).2 h1),if_pos ((z08 _).2 h2),if_pos ((z02 _).2 h3),b2v (n+5) c h1,g2w (n+2) c h1 h3 hw];simp only[obs,tfd];by_cases h4:s.2.1 = -1
 ·rw[if_pos h4];by_cases h5:Fresh s
  ·rw[if_pos h5,if_pos (⟨h1,h2,h3,.inl ⟨h4,h5⟩⟩:SerOk c s)]
  ·rw[if_neg h5,if_pos h4,if_neg (fun k:SerOk c s=>by
    rcases k.st with q | q
    ·exact h5 q.2
    ·exact q.1 h4)]
 ·rw[if_neg h4,if_neg h4];by_cases h5:EndsP c s
  ·rw[if_pos h5,if_pos (⟨h1,h2,h3,.inr ⟨h4,h5⟩⟩:SerOk c s)]
  ·rw[if_neg h5,if_neg (fun k:SerOk c s=>by
    rcases k.st with q | q
    ·exact h4 q.1
    ·exact h5 q.2)]
theorem o0h {l:List Slo} {w:Int} (h:TierOk l w) (i:Int):b0p l i↔∀s∈tall l,s.1<i:=by
 constructor
 ·intro k s hs;have:=(tall_N h hs).n1;exact k s (m1z.1 hs).1 (by omega)
 ·intro k s hs hc;exact k s (m1z.2 ⟨hs,fun e=>by rw[e] at hc;simp[s0,z0] at hc⟩)
theorem f1w {l:List Slo} {w:Int} (h:TierOk l w):b0p l 0↔tall l=[]:=by
 rw[o0h h];constructor
 ·intro k;by_cases e:tall l=[]
  ·exact e
  ·obtain ⟨s,hs⟩:=List.exists_mem_of_ne_nil _ e;have:=(p1m h hs).1.i0;have:=k s hs;omega
 ·intro e s hs;rw[e] at hs;cases hs
theorem r15_l7_3 (n f:Nat) (s:Ser):g0k n (f+1) (s,(3:Int),())=some (.inl ()):=by
 rw[j0d,show (decide ((3:Int)<3))=false from rfl,tff]
theorem r15_l7 (n f:Nat) (c:Conf) {s:Ser} (h:FoldOk c s.2.2.2.1):g0k (n+1) (f+4) (s,(0:Int),())=some (if b0p s.2.2.2.1.1 0∧b0p s.2.2.2.1.2.1 0∧b0p s.2.2.2.1.2.2 0 then .inl () else .inr 2):=by
 have n0:=f1w h.t0;have n1:=f1w h.t1;have n2:=f1w h.t2;have len:∀ {l:List Slo},((0:Int)<(tall l).length)↔tall l≠[]:=fun {l}=>by
  have:=List.length_pos_iff (l:=tall l);constructor
  ·intro k;exact this.1 (by omega)
  ·intro k;have:=this.2 k;omega
 rw[j0d,show (decide ((0:Int)<3))=true from rfl,tft,show (decide ((0:Int)=0))=true from rfl,tft,a1k n h.t0];simp only[obs,tfd];by_cases c0:b0p s.2.2.2.1.1 0
 case neg=>rw[if_pos (len.2 (mt n0.2 c0)),if_neg (fun k=>c0 k.1)]
 rw[if_neg (fun k=>(len.1 k) (n0.1 c0)),show IntKind.wrap .i64 ((0:Int)+1)=1 from rfl,j0d,show (decide ((1:Int)<3))=true from rfl,tft,show (decide ((1:Int)=0))=false from rfl,tff,show (decide ((1:Int)=1))=true from rfl,tft,a1k n h.t1];simp only[obs,tfd];by_cases c1:b0p s.2.2.2.1.2.1 0
 case neg=>rw[if_pos (len.2 (mt n1.2 c1)),if_neg (fun k=>c1 k.2.1)]
 rw[if_neg (fun k=>(len.1 k) (n1.1 c1)),show IntKind.wrap .i64 ((1:Int)+1)=2 from rfl,j0d,show (decide ((2:Int)<3))=true from rfl,tft,show (decide ((2:Int)=0))=false from rfl,tff,show (decide ((2:Int)=1))=false from rfl,tff,show (decide ((2:Int)=2))=true from rfl,tft,a1k n h.t2];simp only[obs,tfd];by_cases c2:b0p s.2.2.2.1.2.2 0
 case neg=>rw[if_pos (len.2 (mt n2.2 c2)),if_neg (fun k=>c2 k.2.2)]
 rw[if_neg (fun k=>(len.1 k) (n2.1 c2)),show IntKind.wrap .i64 ((2:Int)+1)=3 from rfl,r15_l7_3,if_pos ⟨c0,c1,c2⟩]
theorem e2x (n:Nat) (c:Conf) (s:Ser) (at_:Int) (hw:1≤c.2.1.1) (hq:IntKind.wrap .i64 (Int.tdiv s.2.1 c.2.1.1)=at_) (l:List Slo) (hL:l.length≤1000000):∀(rest pre:List Slo) (f:Nat) (ix len:Int),l=pre++rest→ix=pre.length→len=l.length→rest.length<f →
  ((∀x∈rest,x.1<at_)→c0f n f (c,s,(0:Int),l,len,ix,())=some (.inl (c,s,(0:Int),())))∧(¬(∀x∈rest,x.1<at_)→c0f n f (c,s,(0:Int),l,len,ix,())=some (.inr 2)):=by
 intro rest;induction rest with
 | nil =>
  intro pre f ix len hl hi hn hf;obtain ⟨f,rfl⟩:∃g,f=g+1:=⟨f-1,by simp at hf;omega⟩;rw[e0j];exact ⟨fun _=>by simp only[tfd,if_neg (idxe hl hi hn)],fun k=>absurd (by simp) k⟩
 | cons x rest ih =>
  intro pre f ix len hl hi hn hf;obtain ⟨f,rfl⟩:∃g,f=g+1:=⟨f-1,by simp at hf;omega⟩;rw[e0j,decide_eq_true (idx hl hi hn),tft,b0s hl hi,obs];rw[show (decide ((0:Int)=0))=true from rfl,tft];simp only[tfd,if_neg (show ¬(c.2.1.1=0) by omega),hq,idxw hl hi (show l.length≤1000000000000 by omega)];have ih':=ih (pre++[x]) f (ix+1) len (idxl hl) (idxs hi) hn (by simp at hf;omega);by_cases h1:at_≤x.1
  ·rw[if_pos h1];exact ⟨fun k=>by have:=k x (by simp);omega,fun _=>rfl⟩
  ·rw[if_neg h1];exact ⟨fun k=>ih'.1 fun y hy=>k y (by simp[hy]),fun k=>ih'.2 fun q=>k fun y hy=>by
    rcases List.mem_cons.1 hy with rfl | hy
    ·omega
    ·exact q y hy⟩
theorem e2w (n:Nat) (c:Conf) (s:Ser) (at_:Int) (hw:1≤c.2.1.2.1) (hq:IntKind.wrap .i64 (Int.tdiv s.2.1 c.2.1.2.1)=at_) (l:List Slo) (hL:l.length≤1000000):∀(rest pre:List Slo) (f:Nat) (ix len:Int),l=pre++rest→ix=pre.length→len=l.length→rest.length<f →
  ((∀x∈rest,x.1<at_)→c0f n f (c,s,(1:Int),l,len,ix,())=some (.inl (c,s,(1:Int),())))∧(¬(∀x∈rest,x.1<at_)→c0f n f (c,s,(1:Int),l,len,ix,())=some (.inr 2)):=by
 intro rest;induction rest with
 | nil =>
  intro pre f ix len hl hi hn hf;obtain ⟨f,rfl⟩:∃g,f=g+1:=⟨f-1,by simp at hf;omega⟩;rw[e0j];exact ⟨fun _=>by simp only[tfd,if_neg (idxe hl hi hn)],fun k=>absurd (by simp) k⟩
 | cons x rest ih =>
  intro pre f ix len hl hi hn hf;obtain ⟨f,rfl⟩:∃g,f=g+1:=⟨f-1,by simp at hf;omega⟩;rw[e0j,decide_eq_true (idx hl hi hn),tft,b0s hl hi,obs];rw[show (decide ((1:Int)=0))=false from rfl,tff,show (decide ((1:Int)=1))=true from rfl,tft];simp only[tfd,if_neg (show ¬(c.2.1.2.1=0) by omega),hq,idxw hl hi (show l.length≤1000000000000 by omega)];have ih':=ih (pre++[x]) f (ix+1) len (idxl hl) (idxs hi) hn (by simp at hf;omega);by_cases h1:at_≤x.1
  ·rw[if_pos h1];exact ⟨fun k=>by have:=k x (by simp);omega,fun _=>rfl⟩
  ·rw[if_neg h1];exact ⟨fun k=>ih'.1 fun y hy=>k y (by simp[hy]),fun k=>ih'.2 fun q=>k fun y hy=>by
    rcases List.mem_cons.1 hy with rfl | hy
    ·omega
    ·exact q y hy⟩
theorem e2v (n:Nat) (c:Conf) (s:Ser) (at_:Int) (hw:1≤c.2.1.2.2) (hq:IntKind.wrap .i64 (Int.tdiv s.2.1 c.2.1.2.2)=at_) (l:List Slo) (hL:l.length≤1000000):∀(rest pre:List Slo) (f:Nat) (ix len:Int),l=pre++rest→ix=pre.length→len=l.length→rest.length<f →
  ((∀x∈rest,x.1<at_)→c0f n f (c,s,(2:Int),l,len,ix,())=some (.inl (c,s,(2:Int),())))∧(¬(∀x∈rest,x.1<at_)→c0f n f (c,s,(2:Int),l,len,ix,())=some (.inr 2)):=by
 intro rest;induction rest with
 | nil =>
  intro pre f ix len hl hi hn hf;obtain ⟨f,rfl⟩:∃g,f=g+1:=⟨f-1,by simp at hf;omega⟩;rw[e0j];exact ⟨fun _=>by simp only[tfd,if_neg (idxe hl hi hn)],fun k=>absurd (by simp) k⟩
 | cons x rest ih =>
  intro pre f ix len hl hi hn hf;obtain ⟨f,rfl⟩:∃g,f=g+1:=⟨f-1,by simp at hf;omega⟩;rw[e0j,decide_eq_true (idx hl hi hn),tft,b0s hl hi,obs];rw[show (decide ((2:Int)=0))=false from rfl,tff,show (decide ((2:Int)=1))=false from rfl,tff,show (decide ((2:Int)=2))=true from rfl,tft];simp only[tfd,if_neg (show ¬(c.2.1.2.2=0) by omega),hq,idxw hl hi (show l.length≤1000000000000 by omega)];have ih':=ih (pre++[x]) f (ix+1) len (idxl hl) (idxs hi) hn (by simp at hf;omega);by_cases h1:at_≤x.1
  ·rw[if_pos h1];exact ⟨fun k=>by have:=k x (by simp);omega,fun _=>rfl⟩
  ·rw[if_neg h1];exact ⟨fun k=>ih'.1 fun y hy=>k y (by simp[hy]),fun k=>ih'.2 fun q=>k fun y hy=>by
    rcases List.mem_cons.1 hy with rfl | hy
    ·omega
    ·exact q y hy⟩
theorem e2y (n f:Nat) (c:Conf) (s:Ser):f0q n (f+1) (c,s,(3:Int),())=some (.inl ()):=by
 rw[i0d,show (decide ((3:Int)<3))=false from rfl,tff]
theorem r15_l16 (n f:Nat) (c:Conf) {s:Ser} (h:FoldOk c s.2.2.2.1) {e:Ev} (he:EvOk e) (hes:e.1=s.2.1):f0q (n+1) (f+4) (c,s,(0:Int),()) =
  some (if b0p s.2.2.2.1.1 (s.2.1 / c.2.1.1)∧b0p s.2.2.2.1.2.1 (s.2.1 / c.2.1.2.1)∧b0p s.2.2.2.1.2.2 (s.2.1 / c.2.1.2.2) then .inl () else .inr 2):=by
 have n0:=o0h h.t0 (s.2.1 / c.2.1.1);have n1:=o0h h.t1 (s.2.1 / c.2.1.2.1);have n2:=o0h h.t2 (s.2.1 / c.2.1.2.2);have hg:=h.cok.rng;have q0:=k1l he hg.w0.1;have q1:=k1l he hg.w1.1;have q2:=k1l he hg.w2.1;rw[hes] at q0 q1 q2;obtain ⟨l0,l1,l2⟩:=h.lens;have t0:=l1v (l:=s.2.2.2.1.1);have t1:=l1v (l:=s.2.2.2.1.2.1);have t2:=l1v (l:=s.2.2.2.1.2.2);have k0:=e2x (n+1) c s _ hg.w0.1 q0 (tall s.2.2.2.1.1) (by omega) (tall s.2.2.2.1.1) [] a0b 0 ((tall s.2.2.2.1.1).length:Int) rfl rfl rfl (by unfold a0b;omega)
 have k1:=e2w (n+1) c s _ hg.w1.1 q1 (tall s.2.2.2.1.2.1) (by omega) (tall s.2.2.2.1.2.1) [] a0b 0 ((tall s.2.2.2.1.2.1).length:Int) rfl rfl rfl (by unfold a0b;omega);have k2:=e2v (n+1) c s _ hg.w2.1 q2 (tall s.2.2.2.1.2.2) (by omega) (tall s.2.2.2.1.2.2) [] a0b 0 ((tall s.2.2.2.1.2.2).length:Int) rfl rfl rfl (by unfold a0b;omega);rw[←n0] at k0;rw[←n1] at k1;rw[←n2] at k2;rw[i0d,show (decide ((0:Int)<3))=true from rfl,tft,show (decide ((0:Int)=0))=true from rfl,tft,a1k n h.t0,obs];by_cases c0:b0p s.2.2.2.1.1 (s.2.1 / c.2.1.1)
 case neg=>rw[k0.2 c0,if_neg (fun k=>c0 k.1)];rfl
 rw[k0.1 c0];simp only[obs,a0r];rw[show IntKind.wrap .i64 ((0:Int)+1)=1 from rfl,i0d,show (decide ((1:Int)<3))=true from rfl,tft,show (decide ((1:Int)=0))=false from rfl,tff,show (decide ((1:Int)=1))=true from rfl,tft,a1k n h.t1,obs];by_cases c1:b0p s.2.2.2.1.2.1 (s.2.1 / c.2.1.2.1)
 case neg=>rw[k1.2 c1,if_neg (fun k=>c1 k.2.1)];rfl
 rw[k1.1 c1];simp only[obs,a0r];rw[show IntKind.wrap .i64 ((1:Int)+1)=2 from rfl,i0d,show (decide ((2:Int)<3))=true from rfl,tft,show (decide ((2:Int)=0))=false from rfl,tff,show (decide ((2:Int)=1))=false from rfl,tff,show (decide ((2:Int)=2))=true from rfl,tft,a1k n h.t2,obs];by_cases c2:b0p s.2.2.2.1.2.2 (s.2.1 / c.2.1.2.2)
 case neg=>rw[k2.2 c2,if_neg (fun k=>c2 k.2.2)];rfl
 rw[k2.1 c2];simp only[obs,a0r];rw[show IntKind.wrap .i64 ((2:Int)+1)=3 from rfl,e2y,if_pos ⟨c0,c1,c2⟩]
theorem q1p (n:Nat) (c:Conf) {s:Ser} (hw:SerW s):y0i (n+8) c s=some (if SerOk c s then 0 else 2):=by
 rw[q1q,y0n (n+4),r1f (n+5),f2a (n+5) _ _ hw.raw,e2z n c hw.trs];simp only[obs,tfn,tfd,p1u];by_cases h0:OkC c
 case neg=>rw[if_neg (mt (z02 _).1 h0),if_neg (fun k:SerOk c s=>h0 k.fold.cok)]
 by_cases h2:LabOk s.1
 case neg=>rw[if_pos ((z02 _).2 h0),if_neg (mt (z08 _).1 h2),if_neg (fun k:SerOk c s=>h2 k.lab)]
 by_cases h3:RawOk s.2.2.1 c.1
 case neg=>rw[if_pos ((z02 _).2 h0),if_pos ((z08 _).2 h2),if_neg (mt (z02 _).1 h3),if_neg (fun k:SerOk c s=>h3 k.raw)]
 by_cases h1:FoldOk c s.2.2.2.1
 case neg=>rw[if_pos ((z02 _).2 h0),if_pos ((z08 _).2 h2),if_pos ((z02 _).2 h3),if_neg (mt (z02 _).1 h1),if_neg (fun k:SerOk c s=>h1 k.fold)]
 have hlen:=h3.len;have hm1:=h3.m1;rw[if_pos ((z02 _).2 h0),if_pos ((z08 _).2 h2),if_pos ((z02 _).2 h3),if_pos ((z02 _).2 h1),show a0b=(2^70-4)+4 from by decide,r15_l7 (n+6) _ c h1,r12_last _ _ (by omega),y1c (n+2) hw.opn.c];by_cases h4:s.2.1 = -1
 ·rw[if_pos h4];by_cases h5:(0:Int)<s.2.2.1.2.2.length
  ·rw[if_pos h5,if_neg (fun k:SerOk c s=>by
    rcases k.st with q | q
    ·rw[q.2.raw] at h5;simp at h5
    ·exact q.1 h4)]
  rw[if_neg h5];by_cases h6:s.2.2.2.2=s0
  case neg=>rw[if_neg h6,if_neg (fun k:SerOk c s=>by
    rcases k.st with q | q
    ·exact h6 q.2.opn
    ·exact q.1 h4)]
  rw[if_pos h6,obs];by_cases h7:b0p s.2.2.2.1.1 0∧b0p s.2.2.2.1.2.1 0∧b0p s.2.2.2.1.2.2 0
  ·rw[if_pos h7,if_pos (⟨h1,h2,h3,.inl ⟨h4,⟨List.length_eq_zero_iff.1 (by omega),h6,h7.1,h7.2.1,h7.2.2⟩⟩⟩:SerOk c s)];rfl
  ·rw[if_neg h7,if_neg (fun k:SerOk c s=>by
    rcases k.st with q | q
    ·exact h7 ⟨q.2.b0,q.2.b1,q.2.b2⟩
    ·exact q.1 h4)];rfl
 ·rw[if_neg h4];have no:∀ {p:Prop},(EndsP c s→p)→¬p→(if SerOk c s then (0:Int) else 2)=2:=fun hp hn=>if_neg (fun k:SerOk c s=>by
   rcases k.st with q | q
   ·exact h4 q.1
   ·exact hn (hp q.2))
  cases hl:s.2.2.1.2.2.getLast? with
  | none =>
   simp only[obs];rw[if_neg (by decide),no (fun k=>k.last) (fun ⟨e,he,_⟩=>by rw[hl] at he;cases he)]
  | some e =>
   have heo:=g2m h3 hl;simp only[obs,if_true,tfd];by_cases h5:e.1=s.2.1
   case neg=>rw[if_neg h5,no (fun k=>k.last) (fun ⟨e',he,hq⟩=>by rw[hl] at he;injection he with he;subst he;exact h5 hq)]
   rw[if_pos h5];by_cases h6:FitsP s.2.2.2.2.2 c.2.1.1 s.2.2.2.2.1
   case neg=>rw[if_neg h6,no (fun k=>k.fit) h6]
   rw[if_pos h6];by_cases h7:s.2.2.2.2.2.2.2.1.1=s.2.1
   case neg=>rw[if_neg h7,no (fun k=>k.ol) h7]
   rw[if_pos h7,r15_l16 (n+6) _ c h1 heo h5,obs];by_cases h8:b0p s.2.2.2.1.1 (s.2.1 / c.2.1.1)∧b0p s.2.2.2.1.2.1 (s.2.1 / c.2.1.2.1)∧b0p s.2.2.2.1.2.2 (s.2.1 / c.2.1.2.2)
   ·rw[if_pos h8,if_pos (⟨h1,h2,h3,.inr ⟨h4,⟨⟨e,hl,h5⟩,h7,h6,h8.1,h8.2.1,h8.2.2⟩⟩⟩:SerOk c s)];rfl
   ·rw[if_neg h8,no (fun k=>And.intro k.b0 (And.intro k.b1 k.b2)) h8];rfl
theorem nn {α:Type} {a b:α} (h:a=b):¬(a≠b):=fun k=>k h
def ser0:Ser:=([],(0,(r0w,(([],([],[])),s0))))
end Go.Proofs.YtagnkfbpgkckiaaGreat

namespace Go.Plim
set_option linter.unusedVariables false
def below (w:Int) (l:List Ev) (t:Int):List Ev:=l.filter fun e=>decide (e.1 / w<t / w)
structure EndsAt (l:List Ev) (t:Int):Prop where
 foll:Foll l
 le:∀e∈l,e.1≤t
 last:∃e∈l,e.1=t
end Go.Plim
namespace Go.Proofs.YtagnkfbpgkckiaaGreat
open Go.Flat Go.Plim
structure FInv (c:Conf) (s:Trs) (l:List Ev) (t:Int):Prop where
 ok:FoldOk c s
 i0:TierInv s.1 c.2.1.1 (below c.2.1.1 l t)
 i1:TierInv s.2.1 c.2.1.2.1 (below c.2.1.2.1 l t)
 i2:TierInv s.2.2 c.2.1.2.2 (below c.2.1.2.2 l t)
end Go.Proofs.YtagnkfbpgkckiaaGreat
namespace Go.Proofs.YtagnkfbpgkckiaaGreat
open Go.Flat Go.Plim
set_option linter.unusedVariables false
set_option linter.unusedSimpArgs false
structure At (c:Conf) (s:Ser):Prop where
 l0:0≤s.2.1
 l1:s.2.1<35184372088832
theorem quo_at {t:Int} (ht:0≤t∧t<35184372088832) {w:Int} (hw:1≤w):IntKind.wrap .i64 (Int.tdiv t w)=t / w:=by
 have:0≤t / w:=Int.ediv_nonneg ht.1 (by omega);have:t / w≤t:=Int.ediv_le_self _ ht.1;rw[o0s ht.1,w64 (by omega) (by omega)]
theorem a2e (n f:Nat) (s:Trs):e0q n (f+1) (s,(3:Int),())=some (.inl ()):=by
 rw[j0h,show (decide ((3:Int)<3))=false from rfl,tff]
theorem a2f (n f:Nat) (s:Trs):e0q n (f+2) (s,(2:Int),())=some (if (40:Int)<s.2.2.length then .inr 0 else .inl ()):=by
 rw[j0h,show (decide ((2:Int)<3))=true from rfl,tft,show (decide ((2:Int)=0))=false from rfl,tff,show (decide ((2:Int)=1))=false from rfl,tff,show (decide ((2:Int)=2))=true from rfl,tft];rw[show IntKind.wrap .i64 ((2:Int)+1)=3 from rfl,a2e];simp only[tfd];split<;>rfl
theorem a2g (n f:Nat) (s:Trs):e0q n (f+3) (s,(1:Int),())=some (if (40:Int)<s.2.1.length∨(40:Int)<s.2.2.length then .inr 0 else .inl ()):=by
 rw[j0h,show (decide ((1:Int)<3))=true from rfl,tft,show (decide ((1:Int)=0))=false from rfl,tff,show (decide ((1:Int)=1))=true from rfl,tft];rw[show IntKind.wrap .i64 ((1:Int)+1)=2 from rfl,a2f];simp only[tfd];by_cases h:(40:Int)<s.2.1.length
 ·rw[if_pos h,if_pos (.inl h)]
 ·rw[if_neg h];by_cases h':(40:Int)<s.2.2.length
  ·rw[if_pos h',if_pos (.inr h')]
  ·rw[if_neg h',if_neg (fun k=>k.elim h h')]
theorem a2h (n f:Nat) (s:Trs):e0q n (f+4) (s,(0:Int),())=some (if (40:Int)<s.1.length∨(40:Int)<s.2.1.length∨(40:Int)<s.2.2.length then .inr 0 else .inl ()):=by
 rw[j0h,show (decide ((0:Int)<3))=true from rfl,tft,show (decide ((0:Int)=0))=true from rfl,tft];rw[show IntKind.wrap .i64 ((0:Int)+1)=1 from rfl,a2g];simp only[tfd];by_cases h:(40:Int)<s.1.length
 ·rw[if_pos h,if_pos (.inl h)]
 ·rw[if_neg h];by_cases h':(40:Int)<s.2.1.length∨(40:Int)<s.2.2.length
  ·rw[if_pos h',if_pos (.inr h')]
  ·rw[if_neg h',if_neg (fun k=>k.elim h h')]
def b1q (s:Trs):Prop:=s.1.length≤40∧s.2.1.length≤40∧s.2.2.length≤40
instance (s:Trs):Decidable (b1q s):=by unfold b1q;infer_instance
theorem g2q (n:Nat) (s:Trs):g1d (n+1) s=some (if b1q s then 1 else 0):=by
 rw[s1j,show a0b=(2^70-4)+4 from by decide,a2h];by_cases h:b1q s
 ·rw[if_pos h,if_neg (by unfold b1q at h;omega)];rfl
 ·rw[if_neg h,if_pos (by unfold b1q at h;omega)];rfl
theorem r05_same_l (n:Nat) (l:List Lab) (hL:l.length≤1000000):∀(rest pre:List Lab) (f:Nat) (ix len:Int),l=pre++rest→ix=pre.length→len=l.length→rest.length<f→m0y n f (l,l,len,ix,())=some (.inl ()):=by
 intro rest;induction rest with
 | nil =>
  intro pre f ix len hl hi hn hf;obtain ⟨f,rfl⟩:∃g,f=g+1:=⟨f-1,by simp at hf;omega⟩;rw[k0h];simp only[tfd,if_neg (idxe hl hi hn)]
 | cons x rest ih =>
  intro pre f ix len hl hi hn hf;obtain ⟨f,rfl⟩:∃g,f=g+1:=⟨f-1,by simp at hf;omega⟩;rw[k0h];simp only[tfd,if_pos (idx hl hi hn),b0s hl hi,obs,labEq,decide_true,Bool.not_true,tff,idxw hl hi (by omega)];exact ih (pre++[x]) f (ix+1) len (idxl hl) (idxs hi) hn (by simp at hf;omega)
structure SerL (s:Ser):Prop where
 l:s.1.length≤1000000
 r:s.2.2.1.2.2.length≤1000000
 a:s.2.2.2.1.1.length≤1000000
 b:s.2.2.2.1.2.1.length≤1000000
 d:s.2.2.2.1.2.2.length≤1000000
theorem b1u (n:Nat) (c:Conf) {s:Ser} (hw:SerW s):n0y (n+11) c s=some (if SerOk c s then 0 else 2):=by
 rw[e1t,e1r n c hw];by_cases h:SerOk c s
 ·rw[if_pos h,if_pos h];rfl
 ·rw[if_neg h,if_neg h];rfl
theorem d2z (n:Nat) (l:List Lab) (hL:l.length≤9223372036854775807):∀(rest pre:List Lab) (f:Nat) (ix len:Int),l=pre++rest→ix=pre.length→len=l.length→rest.length<f →
  k0w n f (l,len,ix,())=some (.inl ())∨k0w n f (l,len,ix,())=some (.inr 0):=by
 intro rest;induction rest with
 | nil =>
  intro pre f ix len hl hi hn hf;obtain ⟨f,rfl⟩:∃g,f=g+1:=⟨f-1,by simp at hf;omega⟩;left;rw[t0s];simp only[tfd,if_neg (idxe hl hi hn)]
 | cons x rest ih =>
  intro pre f ix len hl hi hn hf;obtain ⟨f,rfl⟩:∃g,f=g+1:=⟨f-1,by simp at hf;omega⟩;have hlen:=congrArg List.length hl;simp at hlen;rw[t0s];simp only[tfd,if_pos (idx hl hi hn),b0s hl hi,obs];rw[w64 (x:=ix+1) (by omega) (by omega)];by_cases h1:ix=40
  ·right;rw[if_pos h1]
  rw[if_neg h1];by_cases h2:(1000:Int)<x.1.length
  ·right;rw[if_pos h2]
  rw[if_neg h2];by_cases h3:(1000:Int)<x.2.length
  ·right;rw[if_pos h3]
  rw[if_neg h3];exact ih (pre++[x]) f (ix+1) len (idxl hl) (idxs hi) hn (by simp at hf;omega)
theorem g2s (n:Nat) (l:List Lab) (hL:l.length≤9223372036854775807):z0f (n+1) l=some 0∨z0f (n+1) l=some 1:=by
 rw[s1k];rcases d2z n l hL l [] a0b 0 _ rfl rfl rfl (by unfold a0b;omega) with h | h
 ·right;rw[h];rfl
 ·left;rw[h];rfl
theorem g2p (n:Nat) (s:Ser) (hL:s.1.length≤9223372036854775807):z0e (n+2) s=some 0∨z0e (n+2) s=some 1:=by
 rw[s1i];rcases g2s n s.1 hL with h | h
 ·left;rw[h];rfl
 ·rw[h];simp only[obs,tfd,if_neg (show ¬((1:Int)=0) by omega)];by_cases h1:(60:Int)<s.2.2.1.2.2.length
  ·left;rw[if_pos h1]
  rw[if_neg h1,g2q];simp only[obs];split
  ·right;rfl
  ·left;rfl
theorem ser_wf {s:Ser} (h:Wf a0i s):SerW s:=by
 obtain ⟨h1,h2,h3,h4,h5⟩:=h;refine ⟨h2,?_,trs_wf h4,e2a h5⟩;intro e he;exact ev_wf (h3.2.2.2 e he)
theorem w0o (n:Nat) (a b:List Lab) (hL:a.length≤9223372036854775807):∀(ra rb pa pb:List Lab) (f:Nat) (ix len:Int),a=pa++ra→b=pb++rb→pa.length=pb.length→ra.length=rb.length→ix=pa.length→len=a.length→ra.length<f →
  g0u n f (a,b,len,ix,())=some (if ra=rb then .inl () else .inr false):=by
 intro ra;induction ra with
 | nil =>
  intro rb pa pb f ix len ha hb hp hr hi hn hf;obtain ⟨f,rfl⟩:∃g,f=g+1:=⟨f-1,by simp at hf;omega⟩;have e:rb=[]:=List.length_eq_zero_iff.1 (by simpa using hr.symm);subst e;rw[l0m,decide_eq_false (idxe ha hi hn),tff,if_pos rfl]
 | cons x ra ih =>
  intro rb pa pb f ix len ha hb hp hr hi hn hf;obtain ⟨f,rfl⟩:∃g,f=g+1:=⟨f-1,by simp at hf;omega⟩;cases rb with
  | nil=>simp at hr
  | cons y rb =>
   have hlen:=congrArg List.length ha;simp at hlen;rw[l0m,decide_eq_true (idx ha hi hn),tft,b0s ha hi,b0s hb (by omega)];simp only[obs,labEq];rw[w64 (x:=ix+1) (by omega) (by omega)];by_cases h:x=y
   ·subst h;simp only[decide_true,Bool.not_true,tff];rw[ih rb (pa++[x]) (pb++[x]) f (ix+1) len (idxl ha) (idxl hb) (by simp;omega) (by simpa using hr) (idxs hi) hn (by simp at hf;omega)];simp
   ·rw[if_neg (by simp[h])];simp only[decide_eq_false h,Bool.not_false,tft]
theorem q0a (n:Nat) (a b:List Lab) (hL:a.length≤9223372036854775807):o0x (n+1) a b=some (decide (a=b)):=by
 rw[a1b];by_cases h:a.length=b.length
 ·rw[decide_eq_true (show ((a.length:Nat):Int)=(b.length:Nat) by omega)];simp only[Bool.not_true,tff];rw[w0o n a b hL a b [] [] a0b 0 _ rfl rfl rfl h rfl rfl (by unfold a0b;omega)];by_cases h':a=b
  ·rw[if_pos h',decide_eq_true h'];rfl
  ·rw[if_neg h',decide_eq_false h'];rfl
 ·rw[decide_eq_false (show ¬((a.length:Nat):Int)=(b.length:Nat) by omega),decide_eq_false (fun k:a=b=>h (by rw[k]))];rfl
theorem w0p (n:Nat) (a b:List Ev) (hL:a.length≤9223372036854775807):∀(ra rb pa pb:List Ev) (f:Nat) (ix len:Int),a=pa++ra→b=pb++rb→pa.length=pb.length→ra.length=rb.length→ix=pa.length→len=a.length→ra.length<f →
  g0v n f (a,b,len,ix,())=some (if ra=rb then .inl () else .inr false):=by
 intro ra;induction ra with
 | nil =>
  intro rb pa pb f ix len ha hb hp hr hi hn hf;obtain ⟨f,rfl⟩:∃g,f=g+1:=⟨f-1,by simp at hf;omega⟩;have e:rb=[]:=List.length_eq_zero_iff.1 (by simpa using hr.symm);subst e;rw[l0n,decide_eq_false (idxe ha hi hn),tff,if_pos rfl]
 | cons x ra ih =>
  intro rb pa pb f ix len ha hb hp hr hi hn hf;obtain ⟨f,rfl⟩:∃g,f=g+1:=⟨f-1,by simp at hf;omega⟩;cases rb with
  | nil=>simp at hr
  | cons y rb =>
   have hlen:=congrArg List.length ha;simp at hlen;rw[l0n,decide_eq_true (idx ha hi hn),tft,b0s ha hi,b0s hb (by omega)];simp only[obs,evEq];rw[w64 (x:=ix+1) (by omega) (by omega)];by_cases h:x=y
   ·subst h;simp only[decide_true,Bool.not_true,tff];rw[ih rb (pa++[x]) (pb++[x]) f (ix+1) len (idxl ha) (idxl hb) (by simp;omega) (by simpa using hr) (idxs hi) hn (by simp at hf;omega)];simp
   ·rw[if_neg (by simp[h])];simp only[decide_eq_false h,Bool.not_false,tft]
theorem b1d (n:Nat) (a b:List Ev) (hL:a.length≤9223372036854775807):o0y (n+1) a b=some (decide (a=b)):=by
 rw[a1c];by_cases h:a.length=b.length
 ·rw[decide_eq_true (show ((a.length:Nat):Int)=(b.length:Nat) by omega)];simp only[Bool.not_true,tff];rw[w0p n a b hL a b [] [] a0b 0 _ rfl rfl rfl h rfl rfl (by unfold a0b;omega)];by_cases h':a=b
  ·rw[if_pos h',decide_eq_true h'];rfl
  ·rw[if_neg h',decide_eq_false h'];rfl
 ·rw[decide_eq_false (show ¬((a.length:Nat):Int)=(b.length:Nat) by omega),decide_eq_false (fun k:a=b=>h (by rw[k]))];rfl
theorem z0l (n:Nat) (a b:List Slo) (hL:a.length≤9223372036854775807):∀(ra rb pa pb:List Slo) (f:Nat) (ix len:Int),a=pa++ra→b=pb++rb→pa.length=pb.length→ra.length=rb.length→ix=pa.length→len=a.length→ra.length<f →
  i0a n f (a,b,len,ix,())=some (if ra=rb then .inl () else .inr false):=by
 intro ra;induction ra with
 | nil =>
  intro rb pa pb f ix len ha hb hp hr hi hn hf;obtain ⟨f,rfl⟩:∃g,f=g+1:=⟨f-1,by simp at hf;omega⟩;have e:rb=[]:=List.length_eq_zero_iff.1 (by simpa using hr.symm);subst e;rw[m0q,decide_eq_false (idxe ha hi hn),tff,if_pos rfl]
 | cons x ra ih =>
  intro rb pa pb f ix len ha hb hp hr hi hn hf;obtain ⟨f,rfl⟩:∃g,f=g+1:=⟨f-1,by simp at hf;omega⟩;cases rb with
  | nil=>simp at hr
  | cons y rb =>
   have hlen:=congrArg List.length ha;simp at hlen;rw[m0q,decide_eq_true (idx ha hi hn),tft,b0s ha hi,b0s hb (by omega)];simp only[obs,e2c];rw[w64 (x:=ix+1) (by omega) (by omega)];by_cases h:x=y
   ·subst h;simp only[decide_true,Bool.not_true,tff];rw[ih rb (pa++[x]) (pb++[x]) f (ix+1) len (idxl ha) (idxl hb) (by simp;omega) (by simpa using hr) (idxs hi) hn (by simp at hf;omega)];simp
   ·rw[if_neg (by simp[h])];simp only[decide_eq_false h,Bool.not_false,tft]
theorem l0f (n:Nat) (a b:List Slo) (hL:a.length≤9223372036854775807):i0z (n+1) a b=some (decide (a=b)):=by
 rw[c1r];by_cases h:a.length=b.length
 ·rw[decide_eq_true (show ((a.length:Nat):Int)=(b.length:Nat) by omega)];simp only[Bool.not_true,tff];rw[z0l n a b hL a b [] [] a0b 0 _ rfl rfl rfl h rfl rfl (by unfold a0b;omega)];by_cases h':a=b
  ·rw[if_pos h',decide_eq_true h'];rfl
  ·rw[if_neg h',decide_eq_false h'];rfl
 ·rw[decide_eq_false (show ¬((a.length:Nat):Int)=(b.length:Nat) by omega),decide_eq_false (fun k:a=b=>h (by rw[k]))];rfl
theorem o1d (n:Nat) (a b:List Lab) (hL:a.length≤9223372036854775807):∀(ra rb pa pb:List Lab) (f:Nat) (ix len:Int),a=pa++ra→b=pb++rb→pa.length=pb.length→ra.length=rb.length→ix=pa.length→len=a.length→ra.length<f →
  m0y n f (a,b,len,ix,())=some (if ra=rb then .inl () else .inr false):=by
 intro ra;induction ra with
 | nil =>
  intro rb pa pb f ix len ha hb hp hr hi hn hf;obtain ⟨f,rfl⟩:∃g,f=g+1:=⟨f-1,by simp at hf;omega⟩;have e:rb=[]:=List.length_eq_zero_iff.1 (by simpa using hr.symm);subst e;rw[k0h,decide_eq_false (idxe ha hi hn),tff,if_pos rfl]
 | cons x ra ih =>
  intro rb pa pb f ix len ha hb hp hr hi hn hf;obtain ⟨f,rfl⟩:∃g,f=g+1:=⟨f-1,by simp at hf;omega⟩;cases rb with
  | nil=>simp at hr
  | cons y rb =>
   have hlen:=congrArg List.length ha;simp at hlen;rw[k0h,decide_eq_true (idx ha hi hn),tft,b0s ha hi,b0s hb (by omega)];simp only[obs,labEq];rw[w64 (x:=ix+1) (by omega) (by omega)];by_cases h:x=y
   ·subst h;simp only[decide_true,Bool.not_true,tff];rw[ih rb (pa++[x]) (pb++[x]) f (ix+1) len (idxl ha) (idxl hb) (by simp;omega) (by simpa using hr) (idxs hi) hn (by simp at hf;omega)];simp
   ·rw[if_neg (by simp[h])];simp only[decide_eq_false h,Bool.not_false,tft]
theorem g1r (n:Nat) (a b:List Lab) (hL:a.length≤9223372036854775807):d1i (n+1) a b=some (decide (a=b)):=by
 rw[v1v];by_cases h:a.length=b.length
 ·rw[decide_eq_true (show ((a.length:Nat):Int)=(b.length:Nat) by omega)];simp only[Bool.not_true,tff];rw[o1d n a b hL a b [] [] a0b 0 _ rfl rfl rfl h rfl rfl (by unfold a0b;omega)];by_cases h':a=b
  ·rw[if_pos h',decide_eq_true h'];rfl
  ·rw[if_neg h',decide_eq_false h'];rfl
 ·rw[decide_eq_false (show ¬((a.length:Nat):Int)=(b.length:Nat) by omega),decide_eq_false (fun k:a=b=>h (by rw[k]))];rfl
theorem b1e (n:Nat) (a b:List Ev) (hL:a.length≤9223372036854775807):∀(ra rb pa pb:List Ev) (f:Nat) (ix len:Int),a=pa++ra→b=pb++rb→pa.length=pb.length→ra.length=rb.length→ix=pa.length→len=a.length→ra.length<f →
  j0e n f (a,b,len,ix,())=some (if ra=rb then .inl () else .inr false):=by
 intro ra;induction ra with
 | nil =>
  intro rb pa pb f ix len ha hb hp hr hi hn hf;obtain ⟨f,rfl⟩:∃g,f=g+1:=⟨f-1,by simp at hf;omega⟩;have e:rb=[]:=List.length_eq_zero_iff.1 (by simpa using hr.symm);subst e;rw[o0c,decide_eq_false (idxe ha hi hn),tff,if_pos rfl]
 | cons x ra ih =>
  intro rb pa pb f ix len ha hb hp hr hi hn hf;obtain ⟨f,rfl⟩:∃g,f=g+1:=⟨f-1,by simp at hf;omega⟩;cases rb with
  | nil=>simp at hr
  | cons y rb =>
   have hlen:=congrArg List.length ha;simp at hlen;rw[o0c,decide_eq_true (idx ha hi hn),tft,b0s ha hi,b0s hb (by omega)];simp only[obs,evEq];rw[w64 (x:=ix+1) (by omega) (by omega)];by_cases h:x=y
   ·subst h;simp only[decide_true,Bool.not_true,tff];rw[ih rb (pa++[x]) (pb++[x]) f (ix+1) len (idxl ha) (idxl hb) (by simp;omega) (by simpa using hr) (idxs hi) hn (by simp at hf;omega)];simp
   ·rw[if_neg (by simp[h])];simp only[decide_eq_false h,Bool.not_false,tft]
theorem g1q (n:Nat) (a b:List Ev) (hL:a.length≤9223372036854775807):t0c (n+1) a b=some (decide (a=b)):=by
 rw[f1e];by_cases h:a.length=b.length
 ·rw[decide_eq_true (show ((a.length:Nat):Int)=(b.length:Nat) by omega)];simp only[Bool.not_true,tff];rw[b1e n a b hL a b [] [] a0b 0 _ rfl rfl rfl h rfl rfl (by unfold a0b;omega)];by_cases h':a=b
  ·rw[if_pos h',decide_eq_true h'];rfl
  ·rw[if_neg h',decide_eq_false h'];rfl
 ·rw[decide_eq_false (show ¬((a.length:Nat):Int)=(b.length:Nat) by omega),decide_eq_false (fun k:a=b=>h (by rw[k]))];rfl
theorem o1c (n:Nat) (a b:List Slo) (hL:a.length≤9223372036854775807):∀(ra rb pa pb:List Slo) (f:Nat) (ix len:Int),a=pa++ra→b=pb++rb→pa.length=pb.length→ra.length=rb.length→ix=pa.length→len=a.length→ra.length<f →
  r0c n f (a,b,len,ix,())=some (if ra=rb then .inl () else .inr false):=by
 intro ra;induction ra with
 | nil =>
  intro rb pa pb f ix len ha hb hp hr hi hn hf;obtain ⟨f,rfl⟩:∃g,f=g+1:=⟨f-1,by simp at hf;omega⟩;have e:rb=[]:=List.length_eq_zero_iff.1 (by simpa using hr.symm);subst e;rw[v0o,decide_eq_false (idxe ha hi hn),tff,if_pos rfl]
 | cons x ra ih =>
  intro rb pa pb f ix len ha hb hp hr hi hn hf;obtain ⟨f,rfl⟩:∃g,f=g+1:=⟨f-1,by simp at hf;omega⟩;cases rb with
  | nil=>simp at hr
  | cons y rb =>
   have hlen:=congrArg List.length ha;simp at hlen;rw[v0o,decide_eq_true (idx ha hi hn),tft,b0s ha hi,b0s hb (by omega)];simp only[obs,e2c];rw[w64 (x:=ix+1) (by omega) (by omega)];by_cases h:x=y
   ·subst h;simp only[decide_true,Bool.not_true,tff];rw[ih rb (pa++[x]) (pb++[x]) f (ix+1) len (idxl ha) (idxl hb) (by simp;omega) (by simpa using hr) (idxs hi) hn (by simp at hf;omega)];simp
   ·rw[if_neg (by simp[h])];simp only[decide_eq_false h,Bool.not_false,tft]
theorem w0q (n:Nat) (a b:List Slo) (hL:a.length≤9223372036854775807):y0j (n+1) a b=some (decide (a=b)):=by
 rw[v1l];by_cases h:a.length=b.length
 ·rw[decide_eq_true (show ((a.length:Nat):Int)=(b.length:Nat) by omega)];simp only[Bool.not_true,tff];rw[o1c n a b hL a b [] [] a0b 0 _ rfl rfl rfl h rfl rfl (by unfold a0b;omega)];by_cases h':a=b
  ·rw[if_pos h',decide_eq_true h'];rfl
  ·rw[if_neg h',decide_eq_false h'];rfl
 ·rw[decide_eq_false (show ¬((a.length:Nat):Int)=(b.length:Nat) by omega),decide_eq_false (fun k:a=b=>h (by rw[k]))];rfl
noncomputable instance decSer (a b:Ser):Decidable (a=b):=Classical.propDecidable _
structure SerM (s:Ser):Prop where
 l:s.1.length≤9223372036854775807
 r:s.2.2.1.2.2.length≤9223372036854775807
 a:s.2.2.2.1.1.length≤9223372036854775807
 b:s.2.2.2.1.2.1.length≤9223372036854775807
 d:s.2.2.2.1.2.2.length≤9223372036854775807
theorem v0z (n:Nat) (a b:Ser) (h:SerM a):e0b (n+3) a b=some (decide (a=b)):=by
 rw[i1f,z0b,u1z,q0a n _ _ h.l,b1d n _ _ h.r,l0f (n+1) _ _ h.a,l0f (n+1) _ _ h.b,l0f (n+1) _ _ h.d];obtain ⟨a1,a2,⟨r1,r2,r3⟩,⟨t1,t2,t3⟩,a5⟩:=a;obtain ⟨b1,b2,⟨q1,q2,q3⟩,⟨u1,u2,u3⟩,b5⟩:=b;simp only[obs,e2c,tfd];by_cases h1:a1=b1
 case neg=>simp[h1]
 by_cases h2:a2=b2
 case neg=>simp[h1,h2]
 by_cases h3:r1=q1
 case neg=>simp[h1,h2,h3]
 by_cases h4:r2=q2
 case neg=>simp[h1,h2,h3,h4]
 by_cases h5:r3=q3
 case neg=>simp[h1,h2,h3,h4,h5]
 by_cases h6:t1=u1
 case neg=>simp[h1,h2,h3,h4,h5,h6]
 by_cases h7:t2=u2
 case neg=>simp[h1,h2,h3,h4,h5,h6,h7]
 by_cases h8:t3=u3
 case neg=>simp[h1,h2,h3,h4,h5,h6,h7,h8]
 by_cases h9:a5=b5
 case neg=>simp[h1,h2,h3,h4,h5,h6,h7,h8,h9]
 simp[h1,h2,h3,h4,h5,h6,h7,h8,h9]
theorem r15_same (n:Nat) (a b:Ser) (h:SerM a):y0h (n+3) a b=some (decide (a=b)):=by
 rw[v1h,v1o,v1j,g1r (n+1) _ _ h.l,g1q n _ _ h.r,w0q n _ _ h.a,w0q n _ _ h.b,w0q n _ _ h.d];obtain ⟨a1,a2,⟨r1,r2,r3⟩,⟨t1,t2,t3⟩,a5⟩:=a;obtain ⟨b1,b2,⟨q1,q2,q3⟩,⟨u1,u2,u3⟩,b5⟩:=b;simp only[obs,e2c,tfd,tfn];by_cases h1:a1=b1
 case neg=>simp[h1]
 by_cases h2:a2=b2
 case neg=>simp[h1,h2]
 by_cases h3:r1=q1
 case neg=>simp[h1,h2,h3]
 by_cases h4:r2=q2
 case neg=>simp[h1,h2,h3,h4]
 by_cases h5:r3=q3
 case neg=>simp[h1,h2,h3,h4,h5]
 by_cases h6:t1=u1
 case neg=>simp[h1,h2,h3,h4,h5,h6]
 by_cases h7:t2=u2
 case neg=>simp[h1,h2,h3,h4,h5,h6,h7]
 by_cases h8:t3=u3
 case neg=>simp[h1,h2,h3,h4,h5,h6,h7,h8]
 by_cases h9:a5=b5
 case neg=>simp[h1,h2,h3,h4,h5,h6,h7,h8,h9]
 simp[h1,h2,h3,h4,h5,h6,h7,h8,h9]
def oldV (now w m:Int):Int×Int:=if OfP now w∧1≤m∧m≤4096 then (if 0<now / w+1-m then now / w+1-m else 0,0) else (0,1)
theorem d2e (n:Nat) (now w m:Int):d1z (n+4) now w m=some (oldV now w m):=by
 rw[p1c,wi_of n now w,p1a];unfold oldV;by_cases h:OfP now w
 case neg=>rw[if_neg h,if_neg (fun k=>h k.1)];rfl
 rw[if_pos h];have hq:=y0r h;simp only[obs,decide_true,Bool.not_true,tff];by_cases h1:1≤m
 case neg=>simp[h,h1]
 by_cases h2:m≤4096
 case neg=>simp[h,h1,h2]
 rw[w64 (x:=now / w+1) (by omega) (by omega),w64 (x:=now / w+1-m) (by omega) (by omega)];simp[h,h1,h2]
theorem b2a (n:Nat) (now w m:Int):a1l (n+3) now w m=some (oldV now w m):=by
 rw[m1n,y1e n now w];unfold oldV;by_cases h:OfP now w
 case neg=>rw[if_neg h,if_neg (fun k=>h k.1)];rfl
 rw[if_pos h];have hq:=y0r h;simp only[obs,decide_true,Bool.not_true,tff,tfd];by_cases h1:m<1
 ·rw[if_pos h1,if_neg (by omega)]
 rw[if_neg h1];by_cases h2:4096<m
 ·rw[if_pos h2,if_neg (by omega)]
 rw[if_neg h2,w64 (x:=now / w-m) (by omega) (by omega),w64 (x:=now / w-m+1) (by omega) (by omega),if_pos (show OfP now w∧1≤m∧m≤4096 from ⟨h,by omega,by omega⟩)];have e:(if now / w-m+1<0 then (0:Int) else now / w-m+1)=if 0<now / w+1-m then now / w+1-m else 0:=by
  split<;>split<;>omega
 rw[e]
noncomputable def b1a (t now w m:Int):Bool:=decide (OfP t w∧(oldV now w m).2=0∧t / w<(oldV now w m).1)
theorem t1y (n:Nat) (t now w m:Int):e1a (n+5) t now w m=some (b1a t now w m):=by
 rw[z1y,wi_of (n+1) t w,d2e n now w m];unfold b1a;simp only[obs,tfd];by_cases h:OfP t w
 case neg=>rw[if_neg h,if_neg (by simp),decide_eq_false (fun k=>h k.1)]
 rw[if_pos h,if_pos rfl];by_cases h1:(oldV now w m).2=0
 ·rw[if_pos h1];exact congrArg some (decide_eq_decide.2 ⟨fun k=>⟨h,h1,k⟩,fun k=>k.2.2⟩)
 ·rw[if_neg h1,decide_eq_false (fun k=>h1 k.2.1)]
theorem m1l (n:Nat) (t now w m:Int):y0o (n+4) t now w m=some (b1a t now w m):=by
 rw[v1r,y1e (n+1) t w,b2a n now w m];unfold b1a;simp only[obs,tfd];by_cases h:OfP t w
 case neg=>rw[if_neg h,if_neg (by simp),decide_eq_false (fun k=>h k.1)]
 rw[if_pos h,if_pos rfl];by_cases h1:(oldV now w m).2=0
 ·rw[if_pos h1];exact congrArg some (decide_eq_decide.2 ⟨fun k=>⟨h,h1,k⟩,fun k=>k.2.2⟩)
 ·rw[if_neg h1,decide_eq_false (fun k=>h1 k.2.1)]
noncomputable def x1c (c:Conf) (last now:Int):Bool :=
 decide (OkC c)&&(b1a last now c.2.1.1 c.2.2.1.1&&(b1a last now c.2.1.2.1 c.2.2.1.2.1&&b1a last now c.2.1.2.2 c.2.2.1.2.2))
theorem u1s (n:Nat) (c:Conf) (last now:Int):w0b (n+6) c last now=some (x1c c last now):=by
 rw[i1g,b1g (n+2) c,t1y n,t1y n,t1y n];unfold x1c;by_cases h:OkC c
 case neg=>rw[if_neg h,decide_eq_false h];rfl
 rw[if_pos h,decide_eq_true h];simp only[obs,decide_true,tft,Bool.true_and];cases b1a last now c.2.1.1 c.2.2.1.1<;>cases b1a last now c.2.1.2.1 c.2.2.1.2.1<;>cases b1a last now c.2.1.2.2 c.2.2.1.2.2<;>rfl
theorem r15_dead (n:Nat) (c:Conf) (last now:Int):m1j (n+5) c last now=some (x1c c last now):=by
 rw[v1i,y0n (n+1) c,m1l n,m1l n,m1l n];unfold x1c;by_cases h:OkC c
 case neg=>rw[if_neg h,decide_eq_false h];rfl
 rw[if_pos h,decide_eq_true h];simp only[obs,decide_true,Bool.not_true,tff,Bool.true_and];cases b1a last now c.2.1.1 c.2.2.1.1<;>cases b1a last now c.2.1.2.1 c.2.2.1.2.1<;>cases b1a last now c.2.1.2.2 c.2.2.1.2.2<;>rfl
abbrev Sta:=Conf×(Int×(Int×List Ser))
structure StaW (s:Sta):Prop where
 len:s.2.2.2.length≤9223372036854775807
 ser:∀x∈s.2.2.2,SerW x∧SerM x
def Whole (s:Sta):Prop:=OkC s.1∧(s.2.2.2.length:Int)=s.1.2.2.2.1
noncomputable instance (s):Decidable (Whole s):=Classical.propDecidable _
def LvX (s:Sta) (x:Ser):Prop:=x≠ser0∧(s.2.2.1 = -1∨x1c s.1 x.2.1 s.2.2.1=false)
noncomputable instance (s x):Decidable (LvX s x):=Classical.propDecidable _
def s0l (t:Int):Prop:=0≤t∧t<35184372088832
instance (t):Decidable (s0l t):=by unfold s0l;infer_instance
def Clock (s:Sta):Prop:=s0l s.2.1∧(s.2.2.1 = -1∨s0l s.2.2.1)∧s.2.2.1≤s.2.1
instance (s):Decidable (Clock s):=by unfold Clock;infer_instance
def mk (s:Sta):Int:=s.2.1 / s.1.2.1.1*s.1.2.1.1
def Twin (s:Sta) (i:Nat) (x:Ser):Prop:=LvX s x∧∃k,k<i∧∃y,s.2.2.2[k]? = some y∧LvX s y∧y.1=x.1
noncomputable instance (s i x):Decidable (Twin s i x):=Classical.propDecidable _
def i0t (s:Sta) (i:Nat) (x:Ser):Prop:=x=ser0∨(SerOk s.1 x∧0≤x.2.1∧x.2.1<mk s+s.1.2.1.1∧¬Twin s i x)
noncomputable instance (s i x):Decidable (i0t s i x):=Classical.propDecidable _
structure StaOk (s:Sta):Prop where
 whole:Whole s
 clock:Clock s
 right:∀(i:Nat) x,s.2.2.2[i]? = some x→i0t s i x
noncomputable instance (s):Decidable (StaOk s):=Classical.propDecidable _
theorem Whole.len {s:Sta} (h:Whole s):s.2.2.2.length≤65536:=by
 have:=h.1.rng.cap;have:=h.2;omega
theorem j1j {α:Type} {l:List α} {i:Nat} {x:α} (h:l[i]? = some x):at? l (i:Int)=some x:=by
 unfold at?;rw[decide_eq_true (show (0:Int)≤(i:Int) by omega),Int.toNat_natCast];exact h
theorem StaW.at {s:Sta} (h:StaW s) {i:Nat} {x:Ser} (hx:s.2.2.2[i]? = some x):SerW x∧SerM x:=h.ser x (List.mem_of_getElem? hx)
theorem e2g:SerM ser0:=⟨by simp[ser0],by simp[ser0,r0w],by simp[ser0],by simp[ser0],by simp[ser0]⟩
theorem x1t (n:Nat) {x:Ser} (h:SerM x):x0h (n+4) x=some (decide (x=ser0)):=by
 have:=v0z n x ser0 h;rw[p1o];have e:e0b (n+3) x ([],((0:Int),(((0:Int),((0:Int),[])),(([],([],[])),((0:Int),z0)))))=some (decide (x=ser0)):=this
 change a0a (e0b (n+3) x ([],((0:Int),(((0:Int),((0:Int),[])),(([],([],[])),((0:Int),z0)))))) _=_
 rw[e];rfl
theorem e1z (n:Nat) {x:Ser} (h:SerM x):s0x (n+4) x=some (decide (x=ser0)):=by
 have:=r15_same n x ser0 h;rw[q1m];have e:y0h (n+3) x ([],((0:Int),(((0:Int),((0:Int),[])),(([],([],[])),((0:Int),z0)))))=some (decide (x=ser0)):=this
 change a0a (y0h (n+3) x ([],((0:Int),(((0:Int),((0:Int),[])),(([],([],[])),((0:Int),z0)))))) _=_
 rw[e];rfl
theorem x1s (n:Nat) {s:Sta} {i:Nat} {x:Ser} (hx:s.2.2.2[i]? = some x) (hm:SerM x):k0g (n+7) s (i:Int)=some (decide (LvX s x)):=by
 rw[z0z,j1j hx,obs,x1t (n+2) hm,obs,tfn,tfd,u1s n];by_cases h:x=ser0
 ·rw[if_pos h,decide_eq_false (fun k:LvX s x=>k.1 h)]
 rw[if_neg h,tfd];by_cases h1:s.2.2.1 = -1
 ·rw[if_pos h1,decide_eq_true (show LvX s x from ⟨h,.inl h1⟩)]
 ·rw[if_neg h1];cases hd:x1c s.1 x.2.1 s.2.2.1
  ·rw[decide_eq_true (show LvX s x from ⟨h,.inr hd⟩)];rfl
  ·rw[decide_eq_false (fun k:LvX s x=>by rcases k.2 with k | k;exact h1 k;rw[hd] at k;cases k)];rfl
theorem y0e (n:Nat) {s:Sta} {i:Nat} {x:Ser} (hx:s.2.2.2[i]? = some x) (hm:SerM x):y0f (n+6) s (i:Int)=some (decide (LvX s x)):=by
 rw[q1l,j1j hx,obs,e1z (n+1) hm,obs,tfn,tfd,obs,r15_dead n];by_cases h:x=ser0
 ·rw[if_pos h,decide_eq_false (fun k:LvX s x=>k.1 h)]
 rw[if_neg h,tfd];by_cases h1:s.2.2.1 = -1
 ·rw[if_pos h1,decide_eq_true (show LvX s x from ⟨h,.inl h1⟩)]
 ·rw[if_neg h1];cases hd:x1c s.1 x.2.1 s.2.2.1
  ·rw[decide_eq_true (show LvX s x from ⟨h,.inr hd⟩)];rfl
  ·rw[decide_eq_false (fun k:LvX s x=>by rcases k.2 with k | k;exact h1 k;rw[hd] at k;cases k)];rfl
theorem place_l (n:Nat) (is:(Int×Unit)→Option Bool) (p:Nat→Bool) (L:Nat) (hL:L≤1000000) (his:∀k:Nat,k<L→is ((k:Int),())=some (p k)):∀(d k f:Nat),k+d=L→d<f →
  (∃m:Nat,k≤m∧m<L∧p m=true∧(∀j,k≤j→j<m→p j=false)∧d0d n f (is,(L:Int),(k:Int),())=some (.inr (m:Int))) ∨
  ((∀j,k≤j→j<L→p j=false)∧d0d n f (is,(L:Int),(k:Int),())=some (.inl ())):=by
 intro d;induction d with
 | zero =>
  intro k f hk hf;obtain ⟨f,rfl⟩:∃g,f=g+1:=⟨f-1,by omega⟩;refine .inr ⟨fun j h1 h2=>by omega,?_⟩;rw[l0k,decide_eq_false (by omega),tff]
 | succ d ih =>
  intro k f hk hf;obtain ⟨f,rfl⟩:∃g,f=g+1:=⟨f-1,by omega⟩;rw[l0k,decide_eq_true (by omega),tft,his k (by omega),obs];cases hp:p k
  ·rw[tff,w64 (by omega) (by omega),show ((k:Int)+1)=((k+1:Nat):Int) by omega];rcases ih (k+1) f (by omega) (by omega) with ⟨m,h1,h2,h3,h4,h5⟩ | ⟨h1,h2⟩
   ·exact .inl ⟨m,by omega,h2,h3,fun j q1 q2=>by
     rcases Nat.lt_or_ge k j with q | q
     ·exact h4 j (by omega) q2
     ·rw[show j=k by omega];exact hp,h5⟩
   ·exact .inr ⟨fun j q1 q2=>by
     rcases Nat.lt_or_ge k j with q | q
     ·exact h1 j (by omega) q2
     ·rw[show j=k by omega];exact hp,h2⟩
  ·rw[tft];exact .inl ⟨k,Nat.le_refl _,by omega,hp,fun j q1 q2=>by omega,rfl⟩
theorem s1z (n:Nat) (s:Sta) (is:(Int×Unit)→Option Bool) (p:Nat→Bool) (hL:s.2.2.2.length≤1000000) (his:∀k:Nat,k<s.2.2.2.length→is ((k:Int),())=some (p k)) :
  (∃m:Nat,m<s.2.2.2.length∧p m=true∧(∀j,j<m→p j=false)∧h0w (n+1) s is=some (m:Int)) ∨
  ((∀j,j<s.2.2.2.length→p j=false)∧h0w (n+1) s is=some (-1)):=by
 rw[z0y];rcases place_l n is p _ hL his s.2.2.2.length 0 a0b (by omega) (by unfold a0b;omega) with ⟨m,h1,h2,h3,h4,h5⟩ | ⟨h1,h2⟩
 ·refine .inl ⟨m,h2,h3,fun j q=>h4 j (by omega) q,?_⟩;have h5':d0d n a0b (is,(s.2.2.2.length:Int),(0:Int),())=some (.inr (m:Int)):=h5;rw[h5'];rfl
 ·refine .inr ⟨fun j q=>h1 j (by omega) q,?_⟩;have h2':d0d n a0b (is,(s.2.2.2.length:Int),(0:Int),())=some (.inl ()):=h2;rw[h2'];rfl
theorem b2t (n:Nat) (a b:List Lab) (h:a.length≤9223372036854775807):u0u (n+2) a b=some (decide (a=b)):=by
 rw[z0b,q0a n a b h];rfl
def IsTw (s:Sta) (i k:Nat) (x:Ser):Prop:=k=i∨∃y,s.2.2.2[k]? = some y∧LvX s y∧y.1=x.1
noncomputable instance (s i k x):Decidable (IsTw s i k x):=Classical.propDecidable _
theorem st_twin (n:Nat) {s:Sta} (hw:StaW s) (hL:s.2.2.2.length≤1000000) {i:Nat} {x:Ser} (hx:s.2.2.2[i]? = some x):q0m (n+9) s (i:Int)=some (decide (Twin s i x)):=by
 have hil:i<s.2.2.2.length:=(List.getElem?_eq_some_iff.1 hx).1;have hm:=(hw.at hx).2;rw[c1p];have his:∀k:Nat,k<s.2.2.2.length→(fun y0:Int×Unit=>g0j (n+8) y0.1 (i:Int) s) ((k:Int),())=some (decide (IsTw s i k x)):=by
  intro k hk;have hy:s.2.2.2[k]? = some s.2.2.2[k]:=List.getElem?_eq_getElem hk;generalize s.2.2.2[k]=y at hy;have hmy:=(hw.at hy).2;show g0j (n+8) (k:Int) (i:Int) s=_;rw[x0g,tfd,x1s n hy hmy,obs,j1j hy,obs,j1j hx,obs,b2t (n+5) _ _ hmy.l,obs,tfd];by_cases h1:k=i
  ·rw[if_pos (by rw[h1]),decide_eq_true (show IsTw s i k x from .inl h1)]
  rw[if_neg (by omega)];by_cases h2:LvX s y
  ·rw[if_pos h2];refine congrArg some (decide_eq_decide.2 ⟨fun h3 => .inr ⟨y,hy,h2,h3⟩,fun h3 => ?_⟩);rcases h3 with h3 | ⟨z,z1,z2,z3⟩
   ·exact absurd h3 h1
   ·rw[hy] at z1;cases z1;exact z3
  ·rw[if_neg h2,decide_eq_false];rintro (h3 | ⟨z,z1,z2,z3⟩)
   ·exact h1 h3
   ·rw[hy] at z1;cases z1;exact h2 z2
 rcases s1z (n+7) s (fun y0:Int×Unit=>g0j (n+8) y0.1 (i:Int) s) (fun k=>decide (IsTw s i k x)) hL his with ⟨m,h1,h2,h3,h4⟩ | ⟨h1,h2⟩
 ·rw[h4,obs,tfd,x1s (n+1) hx hm];have h2:=of_decide_eq_true h2;have hmi:m≤i:=by
   rcases Nat.lt_or_ge i m with q | q
   ·have:=of_decide_eq_false (h3 i q);exact absurd (.inl rfl) this
   ·exact q
  by_cases q:m<i
  ·rw[if_pos (by omega),obs];refine congrArg some (decide_eq_decide.2 ⟨fun k=>⟨k,m,q,?_⟩,fun k=>k.1⟩);exact h2.resolve_left (by omega)
  ·rw[if_neg (by omega),decide_eq_false];rintro ⟨k1,k,k2,k3⟩;exact of_decide_eq_false (h3 k (by omega)) (.inr k3)
 ·exact absurd (.inl rfl) (of_decide_eq_false (h1 i hil))
theorem y0y {s:Sta} (h:s0l s.2.1) (hw:1≤s.1.2.1.1∧s.1.2.1.1≤1099511627776):0≤mk s∧mk s≤s.2.1∧s.2.1<mk s+s.1.2.1.1∧s.2.1-s.2.1 % s.1.2.1.1=mk s:=by
 have e:=Int.mul_ediv_add_emod s.2.1 s.1.2.1.1;have e1:=Int.emod_nonneg s.2.1 (show s.1.2.1.1≠0 by omega);have e2:=Int.emod_lt_of_pos s.2.1 (show 0<s.1.2.1.1 by omega);rw[Int.mul_comm] at e;have e3:0≤mk s:=Int.mul_nonneg (Int.ediv_nonneg h.1 (by omega)) (by omega);unfold mk at *
 exact ⟨e3,by omega,by omega,by omega⟩
theorem st_mark (n:Nat) {s:Sta} (h:s0l s.2.1) (hw:1≤s.1.2.1.1∧s.1.2.1.1≤1099511627776):q0o (n+1) s=some (mk s):=by
 have:=y0y h hw;have:=h.1;have:=h.2;rw[c1q,tfd,if_neg (by omega),h0h h.1,w64 (by omega) (by omega),(y0y h hw).2.2.2]
theorem st_right (n:Nat) {s:Sta} (hw:StaW s) (hh:Whole s) (ht:s0l s.2.1) {i:Nat} {x:Ser} (hx:s.2.2.2[i]? = some x):o0t (n+12) s (i:Int)=some (decide (i0t s i x)):=by
 have hm:=hw.at hx;have hr:=hh.1.rng;have hL:=hh.len;have hmk:=y0y ht hr.w0;have ht1:=ht.1;have ht2:=ht.2;have hw0:=hr.w0;obtain ⟨m1,m2,m3,m4⟩:=hmk;rw[z0x,j1j hx,obs,x1t (n+7) hm.2,obs,tfd,b1u n s.1 hm.1,obs,st_mark (n+10) ht hr.w0,obs,w64 (by omega) (by omega),st_twin (n+2) hw (by omega) hx,obs];simp only[tfd];by_cases h0:x=ser0
 ·rw[if_pos h0,decide_eq_true (show i0t s i x from .inl h0)]
 rw[if_neg h0];by_cases h1:SerOk s.1 x
 case neg=>rw[if_neg h1,if_neg (by decide),decide_eq_false (fun q:i0t s i x=>by rcases q with k | k;exact h0 k;exact h1 k.1)]
 rw[if_pos h1,if_pos rfl];by_cases h2:0≤x.2.1
 case neg=>rw[if_neg h2,decide_eq_false (fun q:i0t s i x=>by rcases q with k | k;exact h0 k;exact h2 k.2.1)]
 rw[if_pos h2];by_cases h3:x.2.1<mk s+s.1.2.1.1
 case neg=>rw[if_neg h3,decide_eq_false (fun q:i0t s i x=>by rcases q with k | k;exact h0 k;exact h3 k.2.2.1)]
 rw[if_pos h3];by_cases h4:Twin s i x
 ·rw[decide_eq_true h4,decide_eq_false (fun q:i0t s i x=>by rcases q with k | k;exact h0 k;exact k.2.2.2 h4)];rfl
 ·rw[decide_eq_false h4,decide_eq_true (show i0t s i x from .inr ⟨h1,h2,h3,h4⟩)];rfl
def sta0:Sta:=(((0:Int),(((0:Int),((0:Int),(0:Int))),(((0:Int),((0:Int),(0:Int))),((0:Int),(0:Int))))),((0:Int),((0:Int),[])))
theorem st_open (n:Nat) (s:Sta):l1x (n+4) s=some (if Whole s then (s,0) else (sta0,2)):=by
 rw[u1j,b1g n s.1,obs,tfn,tfd,tfn,tfd];by_cases h:OkC s.1
 case neg=>rw[if_neg h,if_neg (show ¬((2:Int)=0) by decide),if_neg (fun k:Whole s=>h k.1)];rfl
 rw[if_pos h,if_pos rfl];by_cases h1:(s.2.2.2.length:Int)=s.1.2.2.2.1
 ·rw[if_pos h1,if_pos (show Whole s from ⟨h,h1⟩)]
 ·rw[if_neg h1,if_neg (fun k:Whole s=>h1 k.2)];rfl
theorem d2y (n:Nat) (t:Int):d1c (n+1) t=some (decide (s0l t)):=by
 rw[u1i,tfd];by_cases h:0≤t
 ·rw[if_pos h];exact congrArg some (decide_eq_decide.2 ⟨fun k=>⟨h,k⟩,fun k=>k.2⟩)
 ·rw[if_neg h,decide_eq_false (fun k:s0l t=>h k.1)]
theorem s0w (n:Nat) (t:Int):y0d (n+1) t=some (decide (s0l t)):=by
 rw[v1f,tfd];by_cases h:0≤t
 ·rw[if_pos h];exact congrArg some (decide_eq_decide.2 ⟨fun k=>⟨h,k⟩,fun k=>k.2⟩)
 ·rw[if_neg h,decide_eq_false (fun k:s0l t=>h k.1)]
theorem st_clock (n:Nat) (s:Sta):o0u (n+2) s=some (decide (Clock s)):=by
 rw[a1a,d2y n,d2y n,obs,obs];simp only[tfd];by_cases h:s0l s.2.1
 case neg=>rw[if_neg h,decide_eq_false (fun k:Clock s=>h k.1)]
 rw[if_pos h];by_cases h1:s.2.2.1 = -1
 ·rw[if_pos h1];exact congrArg some (decide_eq_decide.2 ⟨fun k=>⟨h,.inl h1,k⟩,fun k=>k.2.2⟩)
 rw[if_neg h1];by_cases h2:s0l s.2.2.1
 ·rw[if_pos h2];exact congrArg some (decide_eq_decide.2 ⟨fun k=>⟨h,.inr h2,k⟩,fun k=>k.2.2⟩)
 ·rw[if_neg h2,decide_eq_false (fun k:Clock s=>by rcases k.2.1 with q | q;exact h1 q;exact h2 q)]
def Wrong (s:Sta) (k:Nat):Prop:=∃x,s.2.2.2[k]? = some x∧¬i0t s k x
noncomputable instance (s k):Decidable (Wrong s k):=Classical.propDecidable _
theorem p1p (n:Nat) {s:Sta} (hw:StaW s):x0i (n+14) s=some (if StaOk s then 0 else 2):=by
 rw[p1q,st_open (n+9) s,obs,tfn,tfd];by_cases h:Whole s
 case neg=>rw[if_neg h,if_neg (show ¬((sta0,(2:Int)).2=0) by decide),if_neg (fun k:StaOk s=>h k.whole)]
 rw[if_pos h,if_pos rfl,st_clock (n+11) s,obs,tfn,tfd];by_cases h1:Clock s
 case neg=>rw[if_neg h1,if_neg (fun k:StaOk s=>h1 k.clock)]
 rw[if_pos h1];have hL:=h.len;have his:∀k:Nat,k<s.2.2.2.length→(fun y2:Int×Unit=>f0m (n+13) y2.1 s) ((k:Int),())=some (decide (Wrong s k)):=by
  intro k hk;have hy:s.2.2.2[k]? = some s.2.2.2[k]:=List.getElem?_eq_getElem hk;generalize s.2.2.2[k]=y at hy;show f0m (n+13) (k:Int) s=_;rw[i1d,st_right n hw h h1.1 hy,obs];by_cases q:i0t s k y
  ·rw[decide_eq_true q,decide_eq_false (fun z:Wrong s k=>by obtain ⟨x,x1,x2⟩:=z;rw[hy] at x1;cases x1;exact x2 q)];rfl
  ·rw[decide_eq_false q,decide_eq_true (show Wrong s k from ⟨y,hy,q⟩)];rfl
 rcases s1z (n+12) s (fun y2:Int×Unit=>f0m (n+13) y2.1 s) (fun k=>decide (Wrong s k)) (by omega) his with ⟨m,q1,q2,q3,q4⟩ | ⟨q1,q2⟩
 ·rw[show (fun y2:Int×Unit=>f0m (n+13) y2.1 (s,(0:Int)).1)=fun y2:Int×Unit=>f0m (n+13) y2.1 s from rfl];obtain ⟨x,x1,x2⟩:=of_decide_eq_true q2;rw[q4,obs,tfd,if_pos (by omega),if_neg (fun k:StaOk s=>x2 (k.right m x x1))]
 ·rw[show (fun y2:Int×Unit=>f0m (n+13) y2.1 (s,(0:Int)).1)=fun y2:Int×Unit=>f0m (n+13) y2.1 s from rfl];rw[q2,obs,tfd,if_neg (by decide),if_pos];refine ⟨h,h1,fun i x hx => ?_⟩;have:=of_decide_eq_false (q1 i (List.getElem?_eq_some_iff.1 hx).1);exact Decidable.byContradiction fun k=>this ⟨x,hx,k⟩
def cutB {α:Type} (m:Nat) (f:α→List UInt8) (l:List α):List (List UInt8):=(c0k l.length m l).map fun p=>padB (p.flatMap f) 512
def cutS (s:List UInt8):List (List UInt8):=(c0k s.length 512 s).map fun p=>padB p 512
theorem d1p {α:Type} {m:Nat} {f:α→List UInt8} {l:List α}:(cutB m f l).length=(c0k l.length m l).length:=by simp[cutB]
theorem m0h {α:Type} {m:Nat} (hm:1≤m) (xs:List α):(c0k xs.length m xs).length≤xs.length:=by
 apply Nat.le_of_not_lt;intro h;have:=(m0i hm xs xs.length).1 h;have:xs.length*1≤xs.length*m:=Nat.mul_le_mul_left _ hm;omega
theorem g1x {α:Type} {m:Nat} (hm:1≤m) {xs:List α} {p:List α} (h:p∈c0k xs.length m xs):p.length≤m∧∀x∈p,x∈xs:=by
 obtain ⟨k,hk⟩:=List.getElem?_of_mem h;rw[d0r hm _ _ (Nat.le_refl _)] at hk;split at hk
 ·injection hk with hk;subst hk;exact ⟨by rw[List.length_take];omega,fun x hx=>List.mem_of_mem_drop (List.mem_of_mem_take hx)⟩
 ·cases hk
theorem o0m {α:Type} {w:Nat} {f:α→List UInt8}:∀l:List α,(∀x∈l,(f x).length=w)→(l.flatMap f).length=l.length*w
 | [],_=>by simp
 | x::l,h=>by
  rw[List.flatMap_cons,List.length_append,h x List.mem_cons_self,o0m l fun y hy=>h y (List.mem_cons_of_mem _ hy),List.length_cons,Nat.add_mul];omega
theorem g1l {α:Type} {w:Nat} {f:α→List UInt8}:∀(k:Nat) (l:List α),(∀x∈l,(f x).length=w)→(l.flatMap f).drop (k*w)=(l.drop k).flatMap f
 | 0,l,_=>by simp
 | k+1,[],_=>by simp
 | k+1,x::l,h=>by
  have hx:=h x List.mem_cons_self;rw[List.flatMap_cons,List.drop_succ_cons,←g1l k l fun y hy=>h y (List.mem_cons_of_mem _ hy),show (k+1)*w=(f x).length+k*w by rw[hx,Nat.add_mul];omega,List.drop_append,List.drop_eq_nil_of_le (by omega),List.nil_append,show (f x).length+k*w-(f x).length=k*w by omega]
theorem s1x {α:Type} {w:Nat} {f:α→List UInt8}:∀(k:Nat) (l:List α),(∀x∈l,(f x).length=w)→(l.flatMap f).take (k*w)=(l.take k).flatMap f
 | 0,l,_=>by simp
 | k+1,[],_=>by simp
 | k+1,x::l,h=>by
  have hx:=h x List.mem_cons_self;rw[List.flatMap_cons,List.take_succ_cons,List.flatMap_cons,←s1x k l fun y hy=>h y (List.mem_cons_of_mem _ hy),show (k+1)*w=(f x).length+k*w by rw[hx,Nat.add_mul];omega,List.take_append,List.take_of_length_le (by omega),show (f x).length+k*w-(f x).length=k*w by omega]
theorem z1g {α:Type} {m w:Nat} (hm:1≤m) (hw:1≤w) (hmw:m*w=512) {f:α→List UInt8} (l:List α) (h:∀x∈l,(f x).length=w):cutS (l.flatMap f)=cutB m f l:=by
 unfold cutS cutB;apply List.ext_getElem?;intro k;rw[List.getElem?_map,List.getElem?_map,d0r (by omega) _ _ (Nat.le_refl _),d0r hm _ _ (Nat.le_refl _),o0m l h];have hk:k*512=(k*m)*w:=by rw[←hmw,Nat.mul_assoc]
 by_cases hc:k*m<l.length
 ·rw[if_pos hc,if_pos (by rw[hk];exact Nat.mul_lt_mul_of_pos_right hc hw)];rw[hk,g1l _ _ h,←hmw,s1x _ _ fun x hx=>h x (List.mem_of_mem_drop hx)];rfl
 ·rw[if_neg hc,if_neg (by rw[hk];exact fun q=>hc (Nat.lt_of_mul_lt_mul_right q))];rfl
theorem g1w {α:Type} (xs:List α) (m:Nat) (hm:1≤m) (hx:xs.length+m≤1000000000):i0p xs (m:Int)=some ((c0k xs.length m xs).map fun l=>(l,())):=by
 unfold i0p;rw[show (decide (1≤(m:Int))&&decide ((xs.length:Int)+(m:Int)≤4611686018427387904))=true by rw[Bool.and_eq_true,decide_eq_true_eq,decide_eq_true_eq];omega,tft,Int.toNat_natCast]
theorem t0k (n:Nat) (s:List UInt8) (k:Nat) (hs:s.length≤1000000000) (hk:k≤8000):g0o (n+5) s (k:Int)=some (padB s k):=by
 rw[s1p,w64 (by omega) (by omega)];have e:(if (k:Int)-((s.length:Nat):Int)<0 then (0:Int) else (k:Int)-((s.length:Nat):Int))=((k-s.length:Nat):Int):=by split<;>omega
 rw[e,rep_val n (k-s.length) (by omega),obs,tfd,if_pos (by simp;omega)];rfl
theorem g1m (n:Nat) (e:Ev):j0z (n+6) e=some (c0y e):=by
 have hl:=p0l e;rw[j1a,e1p (n+2) [] e (by simp),obs,f1u (n+4),obs,List.nil_append];dsimp only;rw[show ((32:Int))=((32:Nat):Int) from rfl,t0k n _ 32 (by rw[c0i];omega) (by omega),obs];rfl
theorem d1e (n:Nat) (s:Slo):g0z (n+6) s=some (b0w s):=by
 have e1:=p0l s.2.2.1;have e2:=p0l s.2.2.2.1;have hl:=x1u s;have h1:∀x y:Int,[x,y].flatMap n8I=n8I x++n8I y:=fun x y=>by simp
 have h5:∀a b x y z:Int,[IntKind.wrap .i64 a,IntKind.wrap .i64 b,x,y,z].flatMap n8I=n8I a++(n8I b++(n8I x++(n8I y++n8I z))):=fun a b x y z=>by simp[g2b]
 have l1:∀x y:Int,(n8I x++n8I y).length=16:=fun x y=>by simp[w0f]
 rw[n1o,y0v (n+3) [] _ (by simp) (by simp),obs,h1,List.nil_append,e1p (n+2) _ _ (by rw[l1];omega),obs,e1p (n+2) _ _ (by rw[List.length_append,l1];omega),obs,
  y0v (n+3) _ _ (by simp) (by rw[List.length_append,List.length_append,l1,e1,e2];simp),obs,h5,f1u (n+4),obs]
 dsimp only;have es:n8I s.1++n8I s.2.1++s0s s.2.2.1++s0s s.2.2.2.1++(n8I s.2.2.2.2.1.1++(n8I s.2.2.2.2.1.2++(n8I s.2.2.2.2.2.1++(n8I s.2.2.2.2.2.2.1++n8I s.2.2.2.2.2.2.2))))=sloI s:=by
  unfold sloI;simp only[List.append_assoc]
 rw[es,show ((128:Int))=((128:Nat):Int) from rfl,t0k n _ 128 (by rw[c0i];omega) (by omega),obs];rfl
theorem x1f (n:Nat) (g:Ev→List UInt8) (bytes:(Ev×Unit)→Option (List UInt8)) (hb:∀x,bytes (x,())=some (g x)) (hg:∀x,(g x).length≤512) (out:List (List UInt8)) (l:List Ev) (hl:l.length≤100000):∀(rest pre:List Ev) (f:Nat) (b:List UInt8) (i:Int),l=pre++rest→i=pre.length→b.length+512*rest.length≤1000000000 →
  g0f (n+1) (f+rest.length+1) (out,bytes,b,l,(l.length:Int),i,())=some (.inl (out,bytes,b++rest.flatMap g,())):=by
 intro rest;induction rest with
 | nil =>
  intro pre f b i h hi hw;rw[k0z];simp only[tfd,if_neg (idxe h hi rfl)];simp
 | cons a rest ih =>
  intro pre f b i h hi hw;have hlen:=congrArg List.length h;simp at hlen hw;have ha:=hg a;rw[show f+(a::rest).length+1=(f+rest.length+1)+1 by simp;omega,k0z];simp only[tfd,if_pos (idx h hi rfl)];rw[b0s h hi,obs,hb,obs,wst n b (g a) (by omega),obs];dsimp only;rw[w64 (x:=i+1) (by omega) (by omega),ih (pre++[a]) f _ (i+1) (idxl h) (idxs hi) (by simp;omega)];simp
theorem x1e (n:Nat) (g:Ev→List UInt8) (bytes:(Ev×Unit)→Option (List UInt8)) (hb:∀x,bytes (x,())=some (g x)) (hg:∀x,(g x).length≤512):∀(P:List (List Ev)) (out:List (List UInt8)),(∀p∈P,p.length≤1000)→out.length+P.length≤1000000 →
  e0s (n+5) (P.map fun p=>(p,())) (out,bytes,())=some (out++P.map (fun p=>padB (p.flatMap g) 512),bytes,()):=by
 intro P;induction P with
 | nil=>intro out _ _;rw[List.map_nil,s0k];simp
 | cons p P ih =>
  intro out hp ho;simp only[List.length_cons] at ho;have h1:=hp p List.mem_cons_self;have:=x1f (n+4) g bytes hb hg out p (by omega) p [] (a0b-p.length-1) [] 0 rfl rfl (by simp;omega);rw[←lfu (by omega)] at this;have hfl:(p.flatMap g).length≤1000000:=by
   have key:∀q:List Ev,(q.flatMap g).length≤512*q.length:=by
    intro q;induction q with
    | nil=>simp
    | cons x q ih=>have:=hg x;rw[List.flatMap_cons,List.length_append,List.length_cons];omega
   have:=key p;omega
  rw[List.map_cons,r0m];dsimp only;rw[this,obs,a0r];dsimp only;rw[c0j,obs,List.nil_append];dsimp only;rw[show ((512:Int))=((512:Nat):Int) from rfl,t0k n _ 512 (by omega) (by omega),obs,tfd,if_pos (by omega),obs,ih (out++[padB (p.flatMap g) 512]) (fun q hq=>hp q (List.mem_cons_of_mem _ hq)) (by simp;omega)];simp
theorem t1i (n:Nat) (g:Ev→List UInt8) (bytes:(Ev×Unit)→Option (List UInt8)) (hb:∀x,bytes (x,())=some (g x)) (hg:∀x,(g x).length≤512) (out:List (List UInt8)) (l:List Ev) (m:Nat) (hm:1≤m) (hm':m≤1000) (hl:l.length≤100000) (ho:out.length≤100000) :
  n0j (n+6) out l (m:Int) bytes=some (out++cutB m g l):=by
 have hc:=m0h hm l;rw[z0j,a1d,g1w l m hm (by omega),obs,x1e n g bytes hb hg _ out (fun p hp=>by have:=(g1x hm hp).1;omega) (by omega),obs];rfl
theorem c2j (n:Nat) (g:Slo→List UInt8) (bytes:(Slo×Unit)→Option (List UInt8)) (hb:∀x,bytes (x,())=some (g x)) (hg:∀x,(g x).length≤512) (out:List (List UInt8)) (l:List Slo) (hl:l.length≤100000):∀(rest pre:List Slo) (f:Nat) (b:List UInt8) (i:Int),l=pre++rest→i=pre.length→b.length+512*rest.length≤1000000000 →
  g0y (n+1) (f+rest.length+1) (out,bytes,b,l,(l.length:Int),i,())=some (.inl (out,bytes,b++rest.flatMap g,())):=by
 intro rest;induction rest with
 | nil =>
  intro pre f b i h hi hw;rw[l0q];simp only[tfd,if_neg (idxe h hi rfl)];simp
 | cons a rest ih =>
  intro pre f b i h hi hw;have hlen:=congrArg List.length h;simp at hlen hw;have ha:=hg a;rw[show f+(a::rest).length+1=(f+rest.length+1)+1 by simp;omega,l0q];simp only[tfd,if_pos (idx h hi rfl)];rw[b0s h hi,obs,hb,obs,wst n b (g a) (by omega),obs];dsimp only;rw[w64 (x:=i+1) (by omega) (by omega),ih (pre++[a]) f _ (i+1) (idxl h) (idxs hi) (by simp;omega)];simp
theorem c2i (n:Nat) (g:Slo→List UInt8) (bytes:(Slo×Unit)→Option (List UInt8)) (hb:∀x,bytes (x,())=some (g x)) (hg:∀x,(g x).length≤512):∀(P:List (List Slo)) (out:List (List UInt8)),(∀p∈P,p.length≤1000)→out.length+P.length≤1000000 →
  f0e (n+5) (P.map fun p=>(p,())) (out,bytes,())=some (out++P.map (fun p=>padB (p.flatMap g) 512),bytes,()):=by
 intro P;induction P with
 | nil=>intro out _ _;rw[List.map_nil,t0u];simp
 | cons p P ih =>
  intro out hp ho;simp only[List.length_cons] at ho;have h1:=hp p List.mem_cons_self;have:=c2j (n+4) g bytes hb hg out p (by omega) p [] (a0b-p.length-1) [] 0 rfl rfl (by simp;omega);rw[←lfu (by omega)] at this;have hfl:(p.flatMap g).length≤1000000:=by
   have key:∀q:List Slo,(q.flatMap g).length≤512*q.length:=by
    intro q;induction q with
    | nil=>simp
    | cons x q ih=>have:=hg x;rw[List.flatMap_cons,List.length_append,List.length_cons];omega
   have:=key p;omega
  rw[List.map_cons,s0j];dsimp only;rw[this,obs,a0r];dsimp only;rw[c0j,obs,List.nil_append];dsimp only;rw[show ((512:Int))=((512:Nat):Int) from rfl,t0k n _ 512 (by omega) (by omega),obs,tfd,if_pos (by omega),obs,ih (out++[padB (p.flatMap g) 512]) (fun q hq=>hp q (List.mem_cons_of_mem _ hq)) (by simp;omega)];simp
theorem x1d (n:Nat) (g:Slo→List UInt8) (bytes:(Slo×Unit)→Option (List UInt8)) (hb:∀x,bytes (x,())=some (g x)) (hg:∀x,(g x).length≤512) (out:List (List UInt8)) (l:List Slo) (m:Nat) (hm:1≤m) (hm':m≤1000) (hl:l.length≤100000) (ho:out.length≤100000) :
  h0y (n+6) out l (m:Int) bytes=some (out++cutB m g l):=by
 have hc:=m0h hm l;rw[a1z,c1t,g1w l m hm (by omega),obs,c2i n g bytes hb hg _ out (fun p hp=>by have:=(g1x hm hp).1;omega) (by omega),obs];rfl
def r0x (lost room:Nat):Nat→List Ev→List Ev→List Ev
 | _,[],out=>out
 | k,e::L,out=>r0x lost room (k+1) L (out.set ((lost+k) % room) e)
def e0x (r:Rw) (room:Int):List Ev:=r0x r.1.toNat room.toNat 0 r.2.2 (List.replicate room.toNat e0)
theorem a1g (lost room:Nat):∀(L:List Ev) (k:Nat) (out:List Ev),(r0x lost room k L out).length=out.length
 | [],_,_=>rfl
 | e::L,k,out=>by rw[r0x,a1g lost room L];simp
theorem round_l3 (n:Nat) (room:Int) (r:Rw) (h1:1≤room) (h2:room≤4096) (h3:0≤r.1) (h4:r.1≤70368744177664) (hL:r.2.2.length≤100000):∀(rest pre:List Ev) (f:Nat) (out:List Ev) (i:Int),r.2.2=pre++rest→i=pre.length→(out.length:Int)=room →
  k0k n (f+rest.length+1) (room,r,out,r.2.2,(r.2.2.length:Int),i,())=some (.inl (r0x r.1.toNat room.toNat pre.length rest out,())):=by
 intro rest;induction rest with
 | nil =>
  intro pre f out i h hi ho;rw[p0x];simp only[tfd,if_neg (idxe h hi rfl)];rfl
 | cons a rest ih =>
  intro pre f out i h hi ho;have hlen:=congrArg List.length h;simp at hlen;have hpos:Int.tmod (IntKind.wrap .i64 (r.1+i)) room=(((r.1.toNat+pre.length) % room.toNat:Nat):Int):=by
   rw[w64 (by omega) (by omega),Int.tmod_eq_emod_of_nonneg (by omega),Int.natCast_emod,hi,Int.natCast_add,Int.toNat_of_nonneg h3,Int.toNat_of_nonneg (by omega)]
  have hlt:(r.1.toNat+pre.length) % room.toNat<out.length:=by
   have:=Nat.mod_lt (r.1.toNat+pre.length) (show 0<room.toNat by omega);omega
  rw[show f+(a::rest).length+1=(f+rest.length+1)+1 by simp;omega,p0x];simp only[tfd,if_pos (idx h hi rfl)];rw[b0s h hi,obs,if_neg (by omega),hpos,Int.toNat_natCast,j1j (List.getElem?_eq_getElem hlt),obs,List.getElem?_eq_getElem hlt,obs,w64 (x:=i+1) (by omega) (by omega),
   ih (pre++[a]) f _ (i+1) (idxl h) (idxs hi) (by simpa using ho)]
  simp[r0x]
theorem e2l (n:Nat) {r:Rw} {room:Int} (h:RawOk r room):w0i (n+1) r room=some (e0x r room):=by
 have h1:=h.m0;have h2:=h.m1;have h3:=h.len;rw[i1w];have c1:(decide ((0:Int)≤room)&&(decide (room≤room)&&decide (room*(32:Int)≤(140737488355328:Int))))=true:=by
  rw[Bool.and_eq_true,Bool.and_eq_true,decide_eq_true_eq,decide_eq_true_eq,decide_eq_true_eq];omega
 have:=round_l3 n room r h1 h2 h.l0 h.l1 (by omega) r.2.2 [] (a0b-r.2.2.length-1) (List.replicate room.toNat e0) 0 rfl rfl (by simp;omega);rw[←lfu (by omega)] at this;rw[c1,tft];have e:List.replicate (Int.toNat room) ((0:Int),((0:Int),((0:Int),false)))=List.replicate room.toNat e0:=rfl;rw[e,this,obs,a0r];rfl
def r1q (lost room i:Nat):Nat→List Ev→List UInt8→List UInt8
 | _,[],acc=>acc
 | k,y::L,acc=>r1q lost room i (k+1) L (if (lost+k) % room=i then c0y y else acc)
theorem m1r (lost room i:Nat):∀(L:List Ev) (k:Nat) (out:List Ev) (x:Ev),out[i]? = some x→∃y,(r0x lost room k L out)[i]? = some y∧r1q lost room i k L (c0y x)=c0y y
 | [],k,out,x,h=>⟨x,h,rfl⟩
 | e::L,k,out,x,h=>by
  have hi:=(List.getElem?_eq_some_iff.1 h).1;by_cases hc:(lost+k) % room=i
  ·obtain ⟨y,h1,h2⟩:=m1r lost room i L (k+1) (out.set ((lost+k) % room) e) e (by rw[hc];simp[hi]);exact ⟨y,h1,by rw[r1q,if_pos hc,h2]⟩
  ·obtain ⟨y,h1,h2⟩:=m1r lost room i L (k+1) (out.set ((lost+k) % room) e) x (by rw[List.getElem?_set,if_neg hc];exact h);exact ⟨y,h1,by rw[r1q,if_neg hc,h2]⟩
theorem c2d:c0y e0=List.replicate 32 0:=by decide
theorem b2g (r:Rw) (room:Int) (i:Nat) (hi:i<room.toNat):∃y,(e0x r room)[i]? = some y∧r1q r.1.toNat room.toNat i 0 r.2.2 (List.replicate 32 0)=c0y y:=by
 rw[←c2d];exact m1r _ _ _ _ _ _ _ (by simp[hi])
theorem rplace16 (n:Nat) (c:Conf) (x:Ser) (out:List (List UInt8)) (raw:List UInt8) (i:Nat) (h1:1≤c.1) (h2:c.1≤4096) (h3:0≤x.2.2.1.1) (h4:x.2.2.1.1≤70368744177664) (hL:x.2.2.1.2.2.length≤100000) (hw:∀e∈x.2.2.1.2.2,EvW e):∀(rest pre:List Ev) (f:Nat) (e:List UInt8) (k:Int),x.2.2.1.2.2=pre++rest→k=pre.length →
  j0b (n+4) (f+rest.length+1) (c,x,out,raw,(i:Int),e,x.2.2.1.2.2,(x.2.2.1.2.2.length:Int),k,())=some (.inl (c,x,out,raw,(i:Int),r1q x.2.2.1.1.toNat c.1.toNat i pre.length rest e,())):=by
 intro rest;induction rest with
 | nil =>
  intro pre f e k h hi;rw[s0b];simp only[tfd,if_neg (idxe h hi rfl)];rfl
 | cons a rest ih =>
  intro pre f e k h hi;have hlen:=congrArg List.length h;simp at hlen;have hpos:Int.tmod (IntKind.wrap .i64 (x.2.2.1.1+k)) c.1=(((x.2.2.1.1.toNat+pre.length) % c.1.toNat:Nat):Int):=by
   rw[w64 (by omega) (by omega),Int.tmod_eq_emod_of_nonneg (by omega),Int.natCast_emod,hi,Int.natCast_add,Int.toNat_of_nonneg h3,Int.toNat_of_nonneg (by omega)]
  rw[show f+(a::rest).length+1=(f+rest.length+1)+1 by simp;omega,s0b];simp only[tfd,if_pos (idx h hi rfl)];rw[b0s h hi,obs,if_neg (by omega),hpos,w64 (x:=k+1) (by omega) (by omega)];by_cases hc:(x.2.2.1.1.toNat+pre.length) % c.1.toNat=i
  ·rw[if_pos (by omega),k1i n a (hw a (by rw[h];simp)),obs,ih (pre++[a]) f _ (k+1) (idxl h) (idxs hi)];simp[r1q,hc]
  ·rw[if_neg (by omega),ih (pre++[a]) f e (k+1) (idxl h) (idxs hi)];simp[r1q,hc]
theorem rplace12 (n:Nat) (c:Conf) (x:Ser) (out:List (List UInt8)) (h:RawOk x.2.2.1 c.1) (hw:∀e∈x.2.2.1.2.2,EvW e):∀(m i f:Nat) (raw:List UInt8),i+m=c.1.toNat→raw=((e0x x.2.2.1 c.1).take i).flatMap c0y →
  j0c (n+4) (f+m+1) (c,x,out,raw,(i:Int),())=some (.inl (x,out,(e0x x.2.2.1 c.1).flatMap c0y,())):=by
 have h1:=h.m0;have h2:=h.m1;have h3:=h.len;have hrl:(e0x x.2.2.1 c.1).length=c.1.toNat:=by unfold e0x;rw[a1g];simp
 intro m;induction m with
 | zero =>
  intro i f raw hi hr;rw[s0c,tfd,if_neg (by omega),hr,List.take_of_length_le (by omega)]
 | succ m ih =>
  intro i f raw hi hr;have hrlen:raw.length=i*32:=by
   rw[hr,o0m _ fun y _=>g0a y,List.length_take];congr 1;omega
  obtain ⟨y,hy1,hy2⟩:=b2g x.2.2.1 c.1 i (by omega);have e1:=rplace16 n c x out raw i h1 h2 h.l0 h.l1 (by omega) hw x.2.2.1.2.2 [] (a0b-x.2.2.1.2.2.length-1) (List.replicate 32 0) 0 rfl rfl;rw[←lfu (by omega)] at e1;rw[show f+(m+1)+1=(f+m+1)+1 by omega,s0c,tfd,if_pos (by omega),w0e (n+3) 32 (by omega),obs,show Int.toNat 32=32 from rfl,e1,obs,a0r];dsimp only;rw[List.length_nil,hy2,tfd,if_pos (by rw[hrlen,g0a];omega),w64 (by omega) (by omega),show ((i:Int)+1)=((i+1:Nat):Int) by omega];refine ih (i+1) f _ (by omega) ?_
  rw[hr,List.take_add_one,hy1,List.flatMap_append];simp
theorem rcut_l2 (n:Nat):∀(m f:Nat) (s:List UInt8) (out:List (List UInt8)),s.length≤m→m<f→s.length≤100000000→out.length+s.length≤1000000000 →
  u0n (n+2) f (s,out,())=some (.inl (out++(c0k m 512 s).map fun p=>padB p 512,())):=by
 intro m;induction m with
 | zero =>
  intro f s out hs hf hl ho;obtain ⟨f,rfl⟩:=n0o hf;have:s=[]:=List.eq_nil_of_length_eq_zero (by omega);subst this;rw[r0a,tfd,if_neg (by simp)];simp[c0k]
 | succ m ih =>
  intro f s out hs hf hl ho;obtain ⟨f,rfl⟩:=n0o hf;cases s with
  | nil =>
   rw[r0a,tfd,if_neg (by simp)];simp[c0k]
  | cons a t =>
   obtain ⟨N,hN⟩:∃N,N=(a::t).length:=⟨_,rfl⟩;have hN1:1≤N:=by rw[hN];simp
   have hmn:(if (512:Int)<(((a::t).length:Nat):Int) then (512:Int) else (((a::t).length:Nat):Int))=((min 512 N:Nat):Int):=by rw[←hN];split<;>omega
   have ht:List.take (min 512 N) (a::t)=List.take 512 (a::t):=by
    rcases Nat.le_total 512 N with h | h
    ·rw[Nat.min_eq_left h]
    ·rw[Nat.min_eq_right h,List.take_of_length_le (by omega),List.take_of_length_le (by omega)]
   have hd:List.drop (min 512 N) (a::t)=List.drop 512 (a::t):=by
    rcases Nat.le_total 512 N with h | h
    ·rw[Nat.min_eq_left h]
    ·rw[Nat.min_eq_right h,List.drop_of_length_le (by omega),List.drop_of_length_le (by omega)]
   have hdl:((a::t).drop 512).length≤m:=by rw[List.length_drop];omega
   rw[r0a,hmn,tfd,if_pos (by rw[←hN];omega),Int.toNat_natCast,ht];have c1:(decide ((0:Int)≤((min 512 N:Nat):Int))&&decide (((min 512 N:Nat):Int)≤(((a::t).length:Nat):Int)))=true:=by
    rw[Bool.and_eq_true,decide_eq_true_eq,decide_eq_true_eq,←hN];omega
   rw[c1,tft,List.drop_zero,show ((512:Int))=((512:Nat):Int) from rfl,u0l n _ 512 (by rw[List.length_take];omega) (by omega),obs,tfd,if_pos (by omega),tfd,if_pos (by omega),tfd,if_pos (by rw[←hN];omega),List.take_length,hd,
    ih f _ _ hdl (by omega) (by rw[List.length_drop];omega) (by rw[List.length_drop,List.length_append,List.length_singleton];omega),u0a]
   simp
theorem d1f (n:Nat) (s:List UInt8) (hs:s.length≤100000000):m0x (n+3) s=some (cutS s):=by
 rw[a2v,rcut_l2 n s.length a0b s [] (Nat.le_refl _) (by unfold a0b;omega) hs (by simp;omega),obs,a0r,List.nil_append];rfl
theorem s0m {n:Nat} (h:n<128):(uvB n).length=1:=by rw[p0e h];rfl
theorem e1c {n:Nat} (h:n<16384):(uvB n).length≤2:=by
 by_cases h1:n<128
 ·rw[s0m h1];omega
 ·rw[c1z h1,List.length_cons,s0m (by omega)];omega
theorem g2n:∀(l:List Lab),(∀x∈l,x.1.length≤64∧x.2.length≤128)→((l.flatMap fun x=>txB x.1++txB x.2).length:Int)≤3*(l.length:Int)+sumL l
 | [],_=>by simp[sumL]
 | x::l,h=>by
  have ih:=g2n l fun y hy=>h y (List.mem_cons_of_mem _ hy)
  obtain ⟨h1,h2⟩:=h x List.mem_cons_self;have e1:=s0m (n:=x.1.length) (by omega);have e2:=e1c (n:=x.2.length) (by omega);rw[x0f,List.flatMap_cons];simp only[txB,List.length_append,List.length_cons] at ih ⊢;omega
theorem a1w {l:List Lab} (h:LabOk l):(labB l).length≤320:=by
 have h1:=g2n l (d1q l none h.c);have h2:=h.n1;have h3:=h.t;have e1:=s0m (n:=l.length) (by omega);have h4:(labB l).length=1+(l.flatMap fun x=>txB x.1++txB x.2).length:=by unfold labB;rw[List.length_append,e1]
 omega
theorem b2c:∀(k n:Nat) (v:Int),0≤v→v≤1000000→v.toNat<128^(k+1)→u0q (n+(k+1)) v=some (uvB v.toNat):=by
 intro k;induction k with
 | zero =>
  intro n v h0 h1 h2;have h2:v.toNat<128:=by simpa using h2
  rw[f1l,tfd,if_pos (by omega),p0e h2];have:IntKind.wrap .u8 v=v:=by rw[IntKind.wrap_u8];omega
  rw[this]
 | succ k ih =>
  intro n v h0 h1 h2;rw[show n+(k+1+1)=(n+(k+1))+1 by omega,f1l,tfd];by_cases h:v<128
  ·rw[if_pos h,p0e (by omega)];have:IntKind.wrap .u8 v=v:=by rw[IntKind.wrap_u8];omega
   rw[this]
  ·have hd:Int.tdiv v 128=((v.toNat / 128:Nat):Int):=by
    rw[Int.tdiv_eq_ediv_of_nonneg h0];omega
   have hm:Int.tmod v 128=((v.toNat % 128:Nat):Int):=by
    rw[Int.tmod_eq_emod_of_nonneg h0];omega
   have hp:v.toNat / 128<128^(k+1):=by
    rw[Nat.div_lt_iff_lt_mul (by omega)];rw[Nat.pow_succ] at h2;exact h2
   have hle:(uvB (v.toNat / 128)).length≤v.toNat+1:=by
    have:=l1o (v.toNat / 128) ((v.toNat / 128:Nat):Int) (by simp) (by omega);rw[l1m,i0s] at this;omega
   rw[if_neg h,hd,wu64 (by omega) (by omega),ih n _ (by omega) (by omega) (by rw[Int.toNat_natCast];exact hp),obs,Int.toNat_natCast,tfd,if_pos (by omega),c1z (n:=v.toNat) (by omega),hm,wu64 (by omega) (by omega)];have:IntKind.wrap .u8 (((v.toNat % 128:Nat):Int)+128)=((v.toNat % 128+128:Nat):Int):=by rw[IntKind.wrap_u8];omega
   rw[this,Int.toNat_natCast];rfl
theorem r1i (n:Nat) {k:Nat} (h:k<16384):u0q (n+2) (k:Int)=some (uvB k):=by
 have:=b2c 1 n (k:Int) (by omega) (by omega) (by rw[Int.toNat_natCast];exact h)
 rwa [Int.toNat_natCast] at this
theorem y1f (n:Nat) {s:List UInt8} (h:s.length<16384):d1j (n+3) s=some (txB s):=by
 have:=e1c h;rw[v1w,wu64 (by omega) (by omega),r1i n h,obs,tfd,if_pos (by omega)];rfl
theorem v1u (n:Nat) {l:List Lab} (hx:∀x∈l,x.1.length≤64∧x.2.length≤128) (hl:l.length≤16):∀(rest pre:List Lab) (f:Nat) (w:List UInt8) (i:Int),l=pre++rest→i=pre.length→w.length≤10+300*pre.length →
  o0f (n+3) (f+rest.length+1) (w,l,(l.length:Int),i,())=some (.inl (w++rest.flatMap fun x=>txB x.1++txB x.2,())):=by
 intro rest;induction rest with
 | nil =>
  intro pre f w i h hi hw;rw[t0h];simp only[tfd,if_neg (idxe h hi rfl)];simp
 | cons a rest ih =>
  intro pre f w i h hi hw;have hlen:=congrArg List.length h;simp at hlen;obtain ⟨k1,k2⟩:=hx a (by rw[h];simp);have e1:=s0m (n:=a.1.length) (by omega);have e2:=e1c (n:=a.2.length) (by omega);have t1:(txB a.1).length≤65:=by unfold txB;rw[List.length_append];omega
  have t2:(txB a.2).length≤130:=by unfold txB;rw[List.length_append];omega
  rw[show f+(a::rest).length+1=(f+rest.length+1)+1 by simp;omega,t0h];simp only[tfd,if_pos (idx h hi rfl)];rw[b0s h hi,obs,y1f n (by omega),obs,y1f n (by omega),obs,if_pos (by omega),if_pos (by rw[List.length_append];omega),w64 (x:=i+1) (by omega) (by omega),
   ih (pre++[a]) f _ (i+1) (idxl h) (idxs hi) (by simp only[List.length_append,List.length_singleton];omega)]
  simp
theorem f2d (n:Nat) {l:List Lab} (h:LabOk l):f1k (n+8) l=some (labB l,0):=by
 have hn:=h.n1;rw[r1h,r1f (n+5) l,if_pos h,obs,decide_eq_true (rfl:(0:Int)=0),Bool.not_true,tff,wu64 (by omega) (by omega),r1i (n+5) (by omega),obs];have:=v1u (n+4) (d1q l none h.c) hn l [] (a0b-l.length-1) (uvB l.length) 0 rfl rfl (by rw[s0m (by omega)];simp);rw[←lfu (by omega)] at this;rw[this,obs,a0r];rfl
end Go.Proofs.YtagnkfbpgkckiaaGreat
namespace Go.Proofs.YtagnkfbpgkckiaaGreat
open Go.Flat
def idxC (c:Conf):Int:=prt c.2.2.2.2 120
def hom (c:Conf):Int:=1+idxC c+c.2.2.2.2
theorem o1v (n:Nat) {c:Conf} (h:OkC c):q0c (n+4) c=some (plc c)∧f1g (n+4) c=some (plc c):=by
 rw[o1k,q1x,z0q n h,o0e n h,f1n (n+1) h.rng,r0d (n+1) h.rng];simp only[obs,tfd,tfn];rw[if_pos trivial];exact ⟨rfl,rfl⟩
end Go.Proofs.YtagnkfbpgkckiaaGreat
namespace Go.Proofs.YtagnkfbpgkckiaaGreat
open Go.Flat Go.Plim
set_option linter.unusedVariables false
set_option linter.unusedSimpArgs false
theorem y0b (n:Nat) (s:Sta):y0c (n+4) s=some (decide (Whole s)):=by
 rw[q1k,y0n n s.1,obs,tfd];by_cases h:OkC s.1
 case neg=>rw[if_neg h,if_neg (show ¬((2:Int)=0) by decide),decide_eq_false (fun k:Whole s=>h k.1)]
 rw[if_pos h,if_pos rfl];exact congrArg some (decide_eq_decide.2 ⟨fun k=>⟨h,k⟩,fun k=>k.2⟩)
theorem r17_mark (n:Nat) {s:Sta} (hh:Whole s) (h:s0l s.2.1):y0g (n+5) s=some (mk s):=by
 have hw:=hh.1.rng.w0;obtain ⟨m1,m2,m3,m4⟩:=y0y h hw;have h1:=h.1;have h2:=h.2;rw[v1g,y0b n s,obs,tfn,tfd,if_pos hh,s0w (n+3),obs,tfn,tfd,if_pos h,tfd,if_neg (by omega),quo_at h hw.1];rw[w64 (show -9223372036854775808≤s.2.1 / s.1.2.1.1*s.1.2.1.1 from by unfold mk at m1;omega) (by unfold mk at m2;omega)];rfl
theorem r17_l11 (n:Nat) {s:Sta} (hw:StaW s) (hL:s.2.2.2.length≤1000000) (i:Nat) (x:Ser) (hx:s.2.2.2[i]? = some x) (e:Int) (p:List Ser) (q r:Int):∀(d k f:Nat),k+d=i→d<f →
  ((∃j,k≤j∧j<i∧LvX s x∧∃y,s.2.2.2[j]? = some y∧LvX s y∧y.1=x.1)∧d0x (n+6) f (s,e,(i:Int),x,p,q,r,(i:Int),(k:Int),())=some (.inr 2)) ∨
  (¬(∃j,k≤j∧j<i∧LvX s x∧∃y,s.2.2.2[j]? = some y∧LvX s y∧y.1=x.1)∧d0x (n+6) f (s,e,(i:Int),x,p,q,r,(i:Int),(k:Int),())=some (.inl (s,e,p,q,r,()))):=by
 have hil:i<s.2.2.2.length:=(List.getElem?_eq_some_iff.1 hx).1;have hm:=(hw.at hx).2;intro d;induction d with
 | zero =>
  intro k f hk hf;obtain ⟨f,rfl⟩:∃g,f=g+1:=⟨f-1,by omega⟩;refine .inr ⟨fun ⟨j,h1,h2,_⟩=>by omega,?_⟩;rw[s0d,decide_eq_false (by omega),tff]
 | succ d ih =>
  intro k f hk hf;obtain ⟨f,rfl⟩:∃g,f=g+1:=⟨f-1,by omega⟩;have hkl:k<s.2.2.2.length:=by omega
  have hy:s.2.2.2[k]? = some s.2.2.2[k]:=List.getElem?_eq_getElem hkl;generalize s.2.2.2[k]=y at hy;have hmy:=(hw.at hy).2;have ih':=ih (k+1) f (by omega) (by omega);have step:¬(LvX s x∧LvX s y∧y.1=x.1)→((∃j,k+1≤j∧j<i∧LvX s x∧∃y,s.2.2.2[j]? = some y∧LvX s y∧y.1=x.1)↔(∃j,k≤j∧j<i∧LvX s x∧∃y,s.2.2.2[j]? = some y∧LvX s y∧y.1=x.1)):=by
   intro hn;constructor
   ·rintro ⟨j,h1,h2⟩;exact ⟨j,by omega,h2⟩
   ·rintro ⟨j,h1,h2,h3,z,h4,h5,h6⟩;rcases Nat.lt_or_ge k j with g | g
    ·exact ⟨j,by omega,h2,h3,z,h4,h5,h6⟩
    ·obtain rfl:j=k:=by omega
     rw[hy] at h4;cases h4;exact absurd ⟨h3,h5,h6⟩ hn
  rw[s0d,decide_eq_true (by omega),tft,y0e n hx hm,obs,tfd,y0e n hy hmy,obs,tfd,j1j hy,obs,g1r (n+5) _ _ hmy.l,obs,tfd,w64 (by omega) (by omega),show ((k:Int)+1)=((k+1:Nat):Int) by omega];by_cases h1:LvX s x
  case neg=>rw[if_neg h1,←step (fun z=>h1 z.1)];exact ih'
  rw[if_pos h1];by_cases h2:LvX s y
  case neg=>rw[if_neg h2,←step (fun z=>h2 z.2.1)];exact ih'
  rw[if_pos h2];by_cases h3:y.1=x.1
  case neg=>rw[if_neg h3,←step (fun z=>h3 z.2.2)];exact ih'
  rw[if_pos h3];exact .inl ⟨⟨k,Nat.le_refl _,by omega,h1,y,hy,h2,h3⟩,rfl⟩
theorem r17_l5 (n:Nat) {s:Sta} (hw:StaW s) (hh:Whole s) (ht:s0l s.2.1):∀(d i f:Nat),i+d=s.2.2.2.length→d<f →
  ((∀(j:Nat) x,i≤j→s.2.2.2[j]? = some x→i0t s j x)∧d0y (n+8) f (s,mk s+s.1.2.1.1,s.2.2.2,(s.2.2.2.length:Int),(i:Int),())=some (.inl ())) ∨
  (¬(∀(j:Nat) x,i≤j→s.2.2.2[j]? = some x→i0t s j x)∧d0y (n+8) f (s,mk s+s.1.2.1.1,s.2.2.2,(s.2.2.2.length:Int),(i:Int),())=some (.inr 2)):=by
 have hL:=hh.len;intro d;induction d with
 | zero =>
  intro i f hi hf;obtain ⟨f,rfl⟩:∃g,f=g+1:=⟨f-1,by omega⟩;refine .inl ⟨fun j x h1 h2 => ?_,?_⟩
  ·have:=(List.getElem?_eq_some_iff.1 h2).1;omega
  ·rw[s0y,decide_eq_false (by omega),tff]
 | succ d ih =>
  intro i f hi hf;obtain ⟨f,rfl⟩:∃g,f=g+1:=⟨f-1,by omega⟩;have hx:s.2.2.2[i]? = some (s.2.2.2[i]'(by omega)):=List.getElem?_eq_getElem (by omega);generalize s.2.2.2[i]'(by omega)=x at hx;have hm:=hw.at hx;have ih':=ih (i+1) f (by omega) (by omega);have step:i0t s i x→((∀(j:Nat) x,i+1≤j→s.2.2.2[j]? = some x→i0t s j x)↔(∀(j:Nat) x,i≤j→s.2.2.2[j]? = some x→i0t s j x)):=by
   intro hr;constructor
   ·intro h j y h1 h2;rcases Nat.lt_or_ge i j with g | g
    ·exact h j y (by omega) h2
    ·obtain rfl:j=i:=by omega
     rw[hx] at h2;cases h2;exact hr
   ·intro h j y h1 h2;exact h j y (by omega) h2
  have bad:¬i0t s i x→¬(∀(j:Nat) x,i≤j→s.2.2.2[j]? = some x→i0t s j x):=fun h k=>h (k i x (Nat.le_refl _) hx)
  rw[s0y,decide_eq_true (by omega),tft,j1j hx,obs,e1z (n+4) hm.2,obs,tfd,q1p n s.1 hm.1,obs,w64 (by omega) (by omega),show ((i:Int)+1)=((i+1:Nat):Int) by omega];by_cases h0:x=ser0
  ·rw[if_pos h0,←step (.inl h0)];exact ih'
  rw[if_neg h0,tfn,tfd];by_cases h1:SerOk s.1 x
  case neg=>rw[if_neg h1,if_neg (show ¬((2:Int)=0) by decide)];exact .inr ⟨bad fun k=>by rcases k with k | k;exact h0 k;exact h1 k.1,rfl⟩
  rw[if_pos h1,if_pos rfl,tfd];by_cases h2:x.2.1<0
  ·rw[if_pos h2];exact .inr ⟨bad fun k=>by rcases k with k | k;exact h0 k;have:=k.2.1;omega,rfl⟩
  rw[if_neg h2,tfd];by_cases h3:mk s+s.1.2.1.1≤x.2.1
  ·rw[if_pos h3];exact .inr ⟨bad fun k=>by rcases k with k | k;exact h0 k;have:=k.2.2.1;omega,rfl⟩
  rw[if_neg h3,decide_eq_true (show (0:Int)≤(i:Int) by omega),decide_eq_true (show (i:Int)≤(s.2.2.2.length:Int) by omega),Bool.and_self,tft,show (List.drop 0 (List.take (Int.toNat (i:Int)) s.2.2.2)).length=i by simp;omega];rcases r17_l11 (n+2) hw (by omega) i x hx (mk s+s.1.2.1.1) s.2.2.2 (s.2.2.2.length:Int) (i:Int) i 0 a0b (by omega) (by unfold a0b;omega) with ⟨q1,q2⟩ | ⟨q1,q2⟩
  ·have q2':d0x (n+8) a0b (s,mk s+s.1.2.1.1,(i:Int),x,s.2.2.2,(s.2.2.2.length:Int),(i:Int),(i:Int),(0:Int),())=some (.inr 2):=q2;rw[q2',obs,m0t];obtain ⟨j,j1,j2,j3,j4⟩:=q1;exact .inr ⟨bad fun k=>by rcases k with k | k;exact h0 k;exact k.2.2.2 ⟨j3,j,j2,j4⟩,rfl⟩
  ·have q2':d0x (n+8) a0b (s,mk s+s.1.2.1.1,(i:Int),x,s.2.2.2,(s.2.2.2.length:Int),(i:Int),(i:Int),(0:Int),())=some (.inl (s,mk s+s.1.2.1.1,s.2.2.2,(s.2.2.2.length:Int),(i:Int),())):=q2;rw[q2',obs,a0r];have hr:i0t s i x := .inr ⟨h1,by omega,by omega,fun ⟨k1,j,k2,k3⟩=>q1 ⟨j,by omega,k2,k1,k3⟩⟩;rw[←step hr,show IntKind.wrap .i64 ((i:Int)+1)=((i+1:Nat):Int) by rw[w64 (by omega) (by omega)];omega];exact ih'
theorem e2u (n:Nat) {s:Sta} (hw:StaW s):f1b (n+9) s=some (if StaOk s then 0 else 2):=by
 rw[q1o,y0b (n+4) s,obs,tfn,tfd];by_cases h:Whole s
 case neg=>rw[if_neg h,if_neg (fun k:StaOk s=>h k.whole)]
 rw[if_pos h,s0w,obs,tfn,tfd];by_cases h1:s0l s.2.1
 case neg=>rw[if_neg h1,if_neg (fun k:StaOk s=>h1 k.clock.1)]
 have tail:(Clock s)→(a0a (y0g (n+8) s) fun r3 =>
   a0a (d0y (n+8) a0b (s,((IntKind.wrap .i64 (r3+s.1.2.1.1)),(s.2.2.2,((((List.length s.2.2.2):Nat):Int),((0:Int),())))))) fun r4 =>
   b0m (fun y5=>some (0:Int)) (fun z6=>some z6) r4)=some (if StaOk s then 0 else 2):=by
  intro hcl;have hr:=h.1.rng;obtain ⟨m1,m2,m3,m4⟩:=y0y h1 hr.w0;have t2:=h1.2;have w0:=hr.w0;rw[r17_mark (n+3) h h1,obs,w64 (by omega) (by omega)];rcases r17_l5 n hw h h1 s.2.2.2.length 0 a0b (by omega) (by have:=h.len;unfold a0b;omega) with ⟨q1,q2⟩ | ⟨q1,q2⟩
  ·have q2':d0y (n+8) a0b (s,mk s+s.1.2.1.1,s.2.2.2,(s.2.2.2.length:Int),(0:Int),())=some (.inl ()):=q2;rw[q2',obs,a0r,if_pos (show StaOk s from ⟨h,hcl,fun i x hx=>q1 i x (by omega) hx⟩)]
  ·have q2':d0y (n+8) a0b (s,mk s+s.1.2.1.1,s.2.2.2,(s.2.2.2.length:Int),(0:Int),())=some (.inr 2):=q2;rw[q2',obs,m0t,if_neg (fun k:StaOk s=>q1 fun j x _ hx=>k.right j x hx)]
 rw[if_pos h1,tfn,tfd];by_cases h2:s.2.2.1 = -1
 ·rw[if_pos h2,tfd];by_cases h3:s.2.1<s.2.2.1
  ·have:=h1.1;omega
  ·rw[if_neg h3];exact tail ⟨h1,.inl h2,by omega⟩
 ·rw[if_neg h2,s0w,obs,tfn,tfd];by_cases h3:s0l s.2.2.1
  case neg=>rw[if_neg h3,if_neg (fun k:StaOk s=>by rcases k.clock.2.1 with q | q;exact h2 q;exact h3 q)]
  rw[if_pos h3,tfd];by_cases h4:s.2.1<s.2.2.1
  ·rw[if_pos h4,if_neg (fun k:StaOk s=>by have:=k.clock.2.2;omega)]
  ·rw[if_neg h4];exact tail ⟨h1,.inr h3,by omega⟩
theorem confEq (a b:Conf):((decide (a.1=b.1))&&((decide (a.2.1.1=b.2.1.1))&&((decide (a.2.1.2.1=b.2.1.2.1))&&((decide (a.2.1.2.2=b.2.1.2.2))&&((decide (a.2.2.1.1=b.2.2.1.1))&&((decide (a.2.2.1.2.1=b.2.2.1.2.1))&&((decide (a.2.2.1.2.2=b.2.2.1.2.2))&&((decide (a.2.2.2.1=b.2.2.2.1))&&(decide (a.2.2.2.2=b.2.2.2.2))))))))))=decide (a=b):=by
 rw[Bool.eq_iff_iff];simp[Prod.ext_iff,and_assoc]
theorem a2i (n:Nat) (l:List Ser) (hL:l.length≤1000000) (hm:∀x∈l,SerM x):∀(rest pre:List Ser) (f:Nat) (ix len:Int),l=pre++rest→ix=pre.length→len=l.length→rest.length<f →
  k0v (n+2) f (l,len,ix,())=some (.inl ())∨k0v (n+2) f (l,len,ix,())=some (.inr 0):=by
 intro rest;induction rest with
 | nil =>
  intro pre f ix len hl hi hn hf;obtain ⟨f,rfl⟩:∃g,f=g+1:=⟨f-1,by simp at hf;omega⟩;left;rw[t0r];simp only[tfd,if_neg (idxe hl hi hn)]
 | cons x rest ih =>
  intro pre f ix len hl hi hn hf;obtain ⟨f,rfl⟩:∃g,f=g+1:=⟨f-1,by simp at hf;omega⟩;have hx:SerM x:=hm x (by rw[hl];simp);rw[t0r];simp only[tfd,if_pos (idx hl hi hn),b0s hl hi,obs,idxw hl hi (show l.length≤1000000000000 by omega)];rcases g2p n x hx.l with h | h
  ·rw[h];right;rfl
  ·rw[h];simp only[obs,if_neg (show ¬((1:Int)=0) by decide)];exact ih (pre++[x]) f (ix+1) len (idxl hl) (idxs hi) hn (by simp at hf;omega)
theorem g2o (n:Nat) {s:Sta} (hw:StaW s):z0d (n+3) s=some 0∨(z0d (n+3) s=some 1∧s.2.2.2.length≤8):=by
 rw[s1h];simp only[tfd];by_cases h:(8:Int)<(s.2.2.2.length:Int)
 ·rw[if_pos h];exact .inl rfl
 ·rw[if_neg h];rcases a2i n s.2.2.2 (by omega) (fun x hx=>(hw.ser x hx).2) s.2.2.2 [] a0b 0 _ rfl rfl rfl (by unfold a0b;omega) with h1 | h1
  ·rw[h1];exact .inr ⟨rfl,by omega⟩
  ·rw[h1];exact .inl rfl
theorem ser_m' {s:Ser} (h:Wf a0i s):SerM s:=by
 obtain ⟨h1,h2,h3,⟨h4,h5,h6⟩,h7⟩:=h;have e1:=h1.1;have e3:=h3.2.2.1;have e4:=h4.1;have e5:=h5.1;have e6:=h6.1;simp only[maxLen] at e1 e3 e4 e5 e6;exact ⟨e1,e3,e4,e5,e6⟩
theorem sta_wf {s:Sta} (h:Wf a0w s):StaW s:=by
 obtain ⟨h1,h2,h3,h4⟩:=h;have e:=h4.1;simp only[maxLen] at e;exact ⟨e,fun x hx=>⟨ser_wf (h4.2 x hx),ser_m' (h4.2 x hx)⟩⟩
end Go.Proofs.YtagnkfbpgkckiaaGreat
