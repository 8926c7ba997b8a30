/-
 Plain proofs about the functions of this seat, part 2 of 4.
-/
import Derived.Test.YtgkpkajaepphjaaGreatDoorQ1
import Derived.Test.YtgkpkajaepphjaaGreatDoorTr
import Derived.Test.YtgkpkajaepphjaaGreatDoorFlatM3
namespace Go.Proofs.YtgkpkajaepphjaaGreatDoor
open Go.Flat Go.Plim
set_option linter.unusedVariables false
set_option linter.unusedSimpArgs false
structure SloW (s:Slo):Prop where
 i:I64 s.1
 c:CelW s.2
theorem f2d (a b:Slo):((decide (a.1=b.1))&&((decide (a.2.1=b.2.1))&&((decide (a.2.2.1.1=b.2.2.1.1))&&((decide (a.2.2.1.2.1=b.2.2.1.2.1))&&((decide (a.2.2.1.2.2.1=b.2.2.1.2.2.1))&&((a.2.2.1.2.2.2==b.2.2.1.2.2.2)&&((decide (a.2.2.2.1.1=b.2.2.2.1.1))&&((decide (a.2.2.2.1.2.1=b.2.2.2.1.2.1))&&((decide (a.2.2.2.1.2.2.1=b.2.2.2.1.2.2.1))&&((a.2.2.2.1.2.2.2==b.2.2.2.1.2.2.2)&&((decide (a.2.2.2.2.1.1=b.2.2.2.2.1.1))&&((decide (a.2.2.2.2.1.2=b.2.2.2.2.1.2))&&((decide (a.2.2.2.2.2.1=b.2.2.2.2.2.1))&&((decide (a.2.2.2.2.2.2.1=b.2.2.2.2.2.2.1))&&(decide (a.2.2.2.2.2.2.2=b.2.2.2.2.2.2.2))))))))))))))))=decide (a=b):=by
 rw[celEq a.2 b.2,Bool.eq_iff_iff];simp[Prod.ext_iff]
theorem q1s (a:Slo):((decide (a.1=(0:Int)))&&((decide (a.2.1=(0:Int)))&&((decide (a.2.2.1.1=(0:Int)))&&((decide (a.2.2.1.2.1=(0:Int)))&&((decide (a.2.2.1.2.2.1=(0:Int)))&&((a.2.2.1.2.2.2==false)&&((decide (a.2.2.2.1.1=(0:Int)))&&((decide (a.2.2.2.1.2.1=(0:Int)))&&((decide (a.2.2.2.1.2.2.1=(0:Int)))&&((a.2.2.2.1.2.2.2==false)&&((decide (a.2.2.2.2.1.1=(0:Int)))&&((decide (a.2.2.2.2.1.2=(0:Int)))&&((decide (a.2.2.2.2.2.1=(0:Int)))&&((decide (a.2.2.2.2.2.2.1=(0:Int)))&&(decide (a.2.2.2.2.2.2.2=(0:Int)))))))))))))))))=decide (a=s0):=f2d a s0
theorem wi_in (n:Nat) (x a b:Int):o0k (n+1) x a b=some (decide (a≤x∧x≤b)):=by
 rw[e1w];by_cases h1:a≤x<;>by_cases h2:x≤b<;>simp[h1,h2]
def OfP (t w:Int):Prop:=0≤t∧t<35184372088832∧1≤w∧w≤1099511627776
instance (t w:Int):Decidable (OfP t w):=by unfold OfP;infer_instance
theorem v0z {t w:Int} (h:OfP t w):0≤t / w∧t / w<35184372088832:=by
 obtain ⟨h1,h2,h3,h4⟩:=h;have:0≤t / w:=Int.ediv_nonneg h1 (by omega);have:t / w≤t:=Int.ediv_le_self _ h1;omega
theorem wi_of (n:Nat) (t w:Int):a2t (n+3) t w=some (if OfP t w then (t / w,0) else (0,1)):=by
 rw[wi_Of_eq,b1c,wi_in,wi_in];simp only[obs,tfn,tfd];by_cases h:OfP t w
 ·have hq:=v0z h;rw[if_pos h];obtain ⟨h1,h2,h3,h4⟩:=h;rw[if_pos (show (0:Int)≤t∧t≤35184372088831 by omega),if_pos (And.intro h3 h4),if_neg (show ¬(w=0) by omega),j0j h1,w64 (by omega) (by omega)]
 ·rw[if_neg h];by_cases h1:(0:Int)≤t∧t≤35184372088831
  ·rw[if_pos h1,if_neg (fun k=>h ⟨h1.1,by omega,k.1,k.2⟩)]
  ·rw[if_neg h1]
theorem y1o (n:Nat) (t w:Int):k1v (n+2) t w=some (if OfP t w then (t / w,0) else (0,1)):=by
 rw[f2v,r1o];simp only[tfd];by_cases h:OfP t w
 ·have hq:=v0z h;rw[if_pos h];obtain ⟨h1,h2,h3,h4⟩:=h;rw[if_neg (show ¬(t<0) by omega),if_neg (show ¬((35184372088832:Int)≤t) by omega),if_pos h3,decide_eq_true h4];simp only[obs,Bool.not_true,tff];rw[if_neg (show ¬(w=0) by omega),e0u h1];have e:t-t % w=w*(t / w):=by have:=Int.mul_ediv_add_emod t w;omega
  have m0:=Int.emod_nonneg t (show w≠0 by omega);have m1:t % w≤t:=by
   have:=Int.mul_nonneg (show 0≤w by omega) hq.1;omega
  rw[w64 (x:=t-t % w) (by omega) (by omega),j0j (by omega),e,Int.mul_ediv_cancel_left _ (show w≠0 by omega),w64 (by omega) (by omega),if_neg (show ¬(w=0) by omega)]
 ·rw[if_neg h];by_cases h1:t<0
  ·rw[if_pos h1]
  by_cases h2:(35184372088832:Int)≤t
  ·rw[if_neg h1,if_pos h2]
  rw[if_neg h1,if_neg h2];by_cases h3:(1:Int)≤w
  ·have h4:¬(w≤1099511627776):=fun k=>h ⟨by omega,by omega,h3,k⟩
   rw[if_pos h3,decide_eq_false h4];rfl
  ·rw[if_neg h3];rfl
def v0d (i n:Int):Int:=if i<0 then 0 else if n<1 then 0 else i % n
theorem e2h (n:Nat) (i m:Int):l1q (n+1) i m=some (v0d i m):=by
 rw[a2s];simp only[tfd];unfold v0d;by_cases h1:i<0
 ·rw[if_pos h1,if_pos h1]
 by_cases h2:m<1
 ·rw[if_neg h1,if_neg h1,if_pos h2,if_pos h2]
 rw[if_neg h1,if_neg h1,if_neg h2,if_neg h2,if_neg (by omega),e0u (by omega)]
theorem y1n (n:Nat) (i m:Int):a1p (n+1) i m=some (v0d i m):=by
 rw[w1h];simp only[tfd];unfold v0d;by_cases h1:i<0
 ·rw[if_pos h1,if_pos h1]
 by_cases h2:m<1
 ·rw[if_neg h1,if_neg h1,if_pos h2,if_pos h2]
 rw[if_neg h1,if_neg h1,if_neg h2,if_neg h2,if_neg (by omega),e0u (by omega)]
theorem s0c {i n:Int} (hi:0≤i) (hn:1≤n):v0d i n=i % n:=by
 unfold v0d;rw[if_neg (by omega),if_neg (by omega)]
theorem t1m (c:Cel) (w i:Int):FitsP c w i↔c≠z0∧b0f c∧OfP c.2.1.1 w∧c.2.1.1 / w=i∧OfP c.2.2.1.1 w∧c.2.2.1.1 / w=i:=by
 constructor
 ·rintro ⟨n,w0,w1,f,l⟩;exact ⟨n.ne,n.ok,⟨n.f.t0,n.f.t1,w0,w1⟩,f,⟨n.l.t0,n.l.t1,w0,w1⟩,l⟩
 ·rintro ⟨h1,h2,h3,h4,h5,h6⟩;exact ⟨h2.n h1,h3.2.2.1,h3.2.2.2,h4,h6⟩
theorem of01 (p:Prop) [Decidable p] (x:Int):((if p then (x,(0:Int)) else (0,1)).2=0)↔p:=by by_cases h:p<;>simp[h]
theorem i2b (n f:Nat) (w i:Int) (s:Int×Int):f0c n (f+1) (w,i,s,(2:Int),())=some (.inl ()):=by
 rw[k0y,show (decide ((2:Int)<2))=false from rfl,tff]
theorem i2c (n f:Nat) (w i:Int) (s:Int×Int):f0c (n+3) (f+2) (w,i,s,(1:Int),())=some (if OfP s.2 w∧s.2 / w=i then .inl () else .inr false):=by
 rw[k0y,show (decide ((1:Int)<2))=true from rfl,tft,show (decide ((1:Int)=0))=false from rfl,tff,show (decide ((1:Int)=1))=true from rfl,tft,wi_of];simp only[tfd,tfn,obs,of01];rw[show IntKind.wrap .i64 ((1:Int)+1)=2 from rfl,i2b];by_cases h3:OfP s.2 w
 ·rw[if_pos h3,if_pos h3];by_cases h4:s.2 / w=i
  ·rw[if_pos h4,if_pos (And.intro h3 h4)]
  ·rw[if_neg h4,if_neg (fun k=>h4 k.2)]
 ·rw[if_neg h3,if_neg (fun k=>h3 k.1)]
theorem i2d (n f:Nat) (w i:Int) (s:Int×Int):f0c (n+3) (f+3) (w,i,s,(0:Int),())=some (if (OfP s.1 w∧s.1 / w=i)∧(OfP s.2 w∧s.2 / w=i) then .inl () else .inr false):=by
 rw[k0y,show (decide ((0:Int)<2))=true from rfl,tft,show (decide ((0:Int)=0))=true from rfl,tft,wi_of];simp only[tfd,tfn,obs,of01];rw[show IntKind.wrap .i64 ((0:Int)+1)=1 from rfl,i2c];by_cases h3:OfP s.1 w
 ·rw[if_pos h3,if_pos h3];by_cases h4:s.1 / w=i
  ·rw[if_pos h4];by_cases h5:OfP s.2 w∧s.2 / w=i
   ·rw[if_pos h5,if_pos (And.intro (And.intro h3 h4) h5)]
   ·rw[if_neg h5,if_neg (fun k=>h5 k.2)]
  ·rw[if_neg h4,if_neg (fun k=>h4 k.1.2)]
 ·rw[if_neg h3,if_neg (fun k=>h3 k.1.1)]
theorem q1c (n:Nat) {c:Cel} (hc:CelW c) (w i:Int):u0w (n+6) c w i=some (decide (FitsP c w i)):=by
 rw[q1f,y0s n hc];simp only[tfd,obs,tfn,z02];have e:a0c=(2^70-3)+3:=by decide
 rw[e,i2d];have hiff:=t1m c w i;by_cases h1:c.1=0
 ·rw[if_pos h1,decide_eq_false];intro k;have:=k.n.n1;omega
 rw[if_neg h1];by_cases h2:b0f c
 case neg=>rw[if_neg h2,decide_eq_false (fun k=>h2 (hiff.1 k).2.1)]
 rw[if_pos h2];by_cases h3:(OfP c.2.1.1 w∧c.2.1.1 / w=i)∧(OfP c.2.2.1.1 w∧c.2.2.1.1 / w=i)
 ·rw[if_pos h3,decide_eq_true (hiff.2 ⟨mt h2.count.1.2 h1,h2,h3.1.1,h3.1.2,h3.2.1,h3.2.2⟩)];rfl
 ·rw[if_neg h3,decide_eq_false (fun k=>h3 (by have:=hiff.1 k;exact ⟨⟨this.2.2.1,this.2.2.2.1⟩,this.2.2.2.2⟩))];rfl
theorem y1l (n:Nat) {c:Cel} (hc:CelW c) (w i:Int):a1o (n+5) c w i=some (decide (FitsP c w i)):=by
 rw[w1c,c1k n hc,y1o,y1o];simp only[tfd,obs,tfn,z02,of01];have hiff:=t1m c w i;by_cases h2:b0f c
 case neg=>rw[if_neg h2,decide_eq_false (fun k=>h2 (hiff.1 k).2.1)]
 rw[if_pos h2];by_cases h1:c.1=0
 ·rw[if_pos h1,decide_eq_false];intro k;have:=k.n.n1;omega
 rw[if_neg h1];by_cases h3:OfP c.2.1.1 w
 case neg=>rw[if_neg h3,decide_eq_false (fun k=>h3 (hiff.1 k).2.2.1)]
 rw[if_pos h3,if_pos h3];by_cases h5:OfP c.2.2.1.1 w
 case neg=>rw[if_neg h5,decide_eq_false (fun k=>h5 (hiff.1 k).2.2.2.2.1)]
 rw[if_pos h5,if_pos h5];by_cases h4:c.2.1.1 / w=i
 case neg=>rw[if_neg h4,decide_eq_false (fun k=>h4 (hiff.1 k).2.2.2.1)]
 rw[if_pos h4];congr 1;exact decide_eq_decide.2 ⟨fun h6=>hiff.2 ⟨mt h2.count.1.2 h1,h2,h3,h4,h5,h6⟩,fun k=>(hiff.1 k).2.2.2.2.2⟩
theorem u0v (n:Nat) (s:Slo):q0d (n+1) s=some (decide (s=s0)):=by rw[q1b,q1s]
def u0l (m w:Int) (j:Int) (s:Slo):Prop:=s=s0∨(v0d s.1 m=j∧FitsP s.2 w s.1)
theorem q1d (n:Nat) (l:List Slo) (w:Int) (hL:l.length≤4096) (hw:∀s∈l,SloW s):∀(rest pre:List Slo) (f:Nat) (i len:Int),l=pre++rest→i=pre.length→len=l.length→rest.length<f →
  ((∀(j:Nat) s,rest[j]? = some s→u0l l.length w (i+j) s)→f0l (n+6) f (l,w,l,len,i,())=some (.inl ())) ∧
  (¬(∀(j:Nat) s,rest[j]? = some s→u0l l.length w (i+j) s)→f0l (n+6) f (l,w,l,len,i,())=some (.inr 2)):=by
 intro rest;induction rest with
 | nil =>
  intro pre f i len hl hi hn hf;obtain ⟨f,rfl⟩:∃g,f=g+1:=⟨f-1,by simp at hf;omega⟩;rw[p0s];refine ⟨fun _=>by simp only[tfd,if_neg (idxe hl hi hn)],fun h=>absurd ?_ h⟩;intro j s hs;simp at hs
 | cons x rest ih =>
  intro pre f i len hl hi hn hf;obtain ⟨f,rfl⟩:∃g,f=g+1:=⟨f-1,by simp at hf;omega⟩;rw[p0s];have hx:SloW x:=hw x (by rw[hl];simp);have ih':=ih (pre++[x]) f (i+1) len (idxl hl) (idxs hi) hn (by simp at hf;omega);simp only[tfd,tfn,if_pos (idx hl hi hn),b0o hl hi,obs,u0v,e2h,q1c n hx.c,idxw hl hi (by omega)];have split:(∀(j:Nat) s,(x::rest)[j]? = some s→u0l l.length w (i+j) s)↔u0l l.length w i x∧(∀(j:Nat) s,rest[j]? = some s→u0l l.length w (i+1+j) s):=by
   constructor
   ·intro h;refine ⟨by simpa using h 0 x rfl,fun j s hs => ?_⟩;have:=h (j+1) s hs
    rwa [show i+((j+1:Nat):Int)=i+1+j by omega] at this
   ·rintro ⟨h1,h2⟩ j s hs;cases j with
    | zero=>simp at hs;subst hs;simpa using h1
    | succ j =>
     have:=h2 j s hs
     rwa [show i+((j+1:Nat):Int)=i+1+j by omega]
  rw[split];by_cases h0:x=s0
  ·rw[if_pos h0];have hp:u0l l.length w i x := .inl h0;exact ⟨fun h=>ih'.1 h.2,fun h=>ih'.2 (fun k=>h ⟨hp,k⟩)⟩
  ·rw[if_neg h0];by_cases h1:v0d x.1 l.length=i
   ·rw[if_pos h1];by_cases h2:FitsP x.2 w x.1
    ·rw[if_pos h2];have hp:u0l l.length w i x := .inr ⟨h1,h2⟩;exact ⟨fun h=>ih'.1 h.2,fun h=>ih'.2 (fun k=>h ⟨hp,k⟩)⟩
    ·rw[if_neg h2];exact ⟨fun h=>absurd (h.1.resolve_left h0).2 h2,fun _=>rfl⟩
   ·rw[if_neg h1];exact ⟨fun h=>absurd (h.1.resolve_left h0).1 h1,fun _=>rfl⟩
theorem v1z (n:Nat) (l:List Slo) (w:Int) (hL:l.length≤4096) (hw:∀s∈l,SloW s):∀(rest pre:List Slo) (f:Nat) (i len:Int),l=pre++rest→i=pre.length→len=l.length→rest.length<f →
  ((∀(j:Nat) s,rest[j]? = some s→u0l l.length w (i+j) s)→g0v (n+5) f (l,w,l,len,i,())=some (.inl ())) ∧
  (¬(∀(j:Nat) s,rest[j]? = some s→u0l l.length w (i+j) s)→g0v (n+5) f (l,w,l,len,i,())=some (.inr 2)):=by
 intro rest;induction rest with
 | nil =>
  intro pre f i len hl hi hn hf;obtain ⟨f,rfl⟩:∃g,f=g+1:=⟨f-1,by simp at hf;omega⟩;rw[q0s];refine ⟨fun _=>by simp only[tfd,if_neg (idxe hl hi hn)],fun h=>absurd ?_ h⟩;intro j s hs;simp at hs
 | cons x rest ih =>
  intro pre f i len hl hi hn hf;obtain ⟨f,rfl⟩:∃g,f=g+1:=⟨f-1,by simp at hf;omega⟩;rw[q0s];have hx:SloW x:=hw x (by rw[hl];simp);have ih':=ih (pre++[x]) f (i+1) len (idxl hl) (idxs hi) hn (by simp at hf;omega);simp only[tfd,tfn,if_pos (idx hl hi hn),b0o hl hi,obs,q1s,y1n,y1l n hx.c,idxw hl hi (by omega)];have split:(∀(j:Nat) s,(x::rest)[j]? = some s→u0l l.length w (i+j) s)↔u0l l.length w i x∧(∀(j:Nat) s,rest[j]? = some s→u0l l.length w (i+1+j) s):=by
   constructor
   ·intro h;refine ⟨by simpa using h 0 x rfl,fun j s hs => ?_⟩;have:=h (j+1) s hs
    rwa [show i+((j+1:Nat):Int)=i+1+j by omega] at this
   ·rintro ⟨h1,h2⟩ j s hs;cases j with
    | zero=>simp at hs;subst hs;simpa using h1
    | succ j =>
     have:=h2 j s hs
     rwa [show i+((j+1:Nat):Int)=i+1+j by omega]
  rw[split];by_cases h0:x=s0
  ·rw[if_pos h0];have hp:u0l l.length w i x := .inl h0;exact ⟨fun h=>ih'.1 h.2,fun h=>ih'.2 (fun k=>h ⟨hp,k⟩)⟩
  ·rw[if_neg h0];by_cases h2:FitsP x.2 w x.1
   ·rw[if_pos h2];by_cases h1:v0d x.1 l.length=i
    ·rw[if_pos h1];have hp:u0l l.length w i x := .inr ⟨h1,h2⟩;exact ⟨fun h=>ih'.1 h.2,fun h=>ih'.2 (fun k=>h ⟨hp,k⟩)⟩
    ·rw[if_neg h1];exact ⟨fun h=>absurd (h.1.resolve_left h0).1 h1,fun _=>rfl⟩
   ·rw[if_neg h2];exact ⟨fun h=>absurd (h.1.resolve_left h0).2 h2,fun _=>rfl⟩
theorem q1r {l:List Slo} {w:Int} (h0:1≤l.length):(∀(j:Nat) s,l[j]? = some s→u0l l.length w (0+j) s)↔(∀(j:Nat) s,l[j]? = some s→s=s0∨(s.1 % (l.length:Int)=j∧FitsP s.2 w s.1)):=by
 constructor
 ·intro h j s hs;rcases h j s hs with e | ⟨e,f⟩
  ·exact .inl e
  ·rw[s0c f.i0.1 (by omega)] at e;exact .inr ⟨by omega,f⟩
 ·intro h j s hs;rcases h j s hs with e | ⟨e,f⟩
  ·exact .inl e
  ·exact .inr ⟨by rw[s0c f.i0.1 (by omega)];omega,f⟩
theorem x0f (n:Nat) (l:List Slo) (w:Int) (hw:∀s∈l,SloW s):n0e (n+7) l w=some (if TierOk l w then 0 else 2):=by
 rw[l1u];simp only[tfd];by_cases h1:(l.length:Int)=0
 ·rw[if_pos h1,if_neg (fun k=>by have:=k.l0;omega)]
 by_cases h2:(4096:Int)<l.length
 ·rw[if_neg h1,if_pos h2,if_neg (fun k=>by have:=k.l1;omega)]
 by_cases h3:w<1
 ·rw[if_neg h1,if_neg h2,if_pos h3,if_neg (fun k=>by have:=k.w0;omega)]
 by_cases h4:(1099511627776:Int)<w
 ·rw[if_neg h1,if_neg h2,if_neg h3,if_pos h4,if_neg (fun k=>by have:=k.w1;omega)]
 rw[if_neg h1,if_neg h2,if_neg h3,if_neg h4];have hl:=q1d n l w (by omega) hw l [] a0c 0 l.length rfl rfl rfl (by unfold a0c;omega);rw[q1r (by omega)] at hl;by_cases h5:∀(j:Nat) s,l[j]? = some s→s=s0∨(s.1 % (l.length:Int)=j∧FitsP s.2 w s.1)
 ·rw[hl.1 h5,if_pos ⟨by omega,by omega,by omega,by omega,h5⟩];rfl
 ·rw[hl.2 h5,if_neg (fun k=>h5 k.s)];rfl
theorem c1f (n:Nat) (l:List Slo) (w:Int) (hw:∀s∈l,SloW s):q0t (n+6) l w=some (if TierOk l w then 0 else 2):=by
 rw[r1i];simp only[tfd];by_cases h1:(l.length:Int)<1
 ·rw[if_pos h1,if_neg (fun k=>by have:=k.l0;omega)]
 by_cases h2:(4096:Int)<l.length
 ·rw[if_neg h1,if_pos h2,if_neg (fun k=>by have:=k.l1;omega)]
 by_cases h3:w<1
 ·rw[if_neg h1,if_neg h2,if_pos h3,if_neg (fun k=>by have:=k.w0;omega)]
 by_cases h4:(1099511627776:Int)<w
 ·rw[if_neg h1,if_neg h2,if_neg h3,if_pos h4,if_neg (fun k=>by have:=k.w1;omega)]
 rw[if_neg h1,if_neg h2,if_neg h3,if_neg h4];have hl:=v1z n l w (by omega) hw l [] a0c 0 l.length rfl rfl rfl (by unfold a0c;omega);rw[q1r (by omega)] at hl;by_cases h5:∀(j:Nat) s,l[j]? = some s→s=s0∨(s.1 % (l.length:Int)=j∧FitsP s.2 w s.1)
 ·rw[hl.1 h5,if_pos ⟨by omega,by omega,by omega,by omega,h5⟩];rfl
 ·rw[hl.2 h5,if_neg (fun k=>h5 k.s)];rfl
theorem d2v (n:Nat) (l:List Slo) (h:l.length≤1000000):o0v (n+1) l=some l:=by
 rw[z0w];simp only[tfd,if_pos (show (0+l.length)*120≤140737488355328 by omega),List.nil_append];by_cases h0:l.length=0
 ·obtain rfl:=List.length_eq_zero_iff.1 h0;simp
 ·rw[if_neg h0]
section
variable {del:a0d×Unit→Option Bool} {p:Slo→Bool} (hd:∀x,del (x,())=some (p x))
include hd
theorem h2o (n:Nat) (l:List Slo) (hL:l.length≤1000000):∀(rest pre:List Slo) (f:Nat) (i len:Int),l=pre++rest→i=pre.length→len=l.length→rest.length<f →
  (c0r n f (l,del,len,i,())=some (.inl ())∧∀x∈rest,p x=false) ∨
  (∃A x B,rest=A++x::B∧(∀y∈A,p y=false)∧p x=true∧c0r n f (l,del,len,i,())=some (.inr (i+A.length))):=by
 intro rest;induction rest with
 | nil =>
  intro pre f i len hl hi hn hf;obtain ⟨f,rfl⟩:∃g,f=g+1:=⟨f-1,by simp at hf;omega⟩;rw[h0f];exact .inl ⟨by simp only[tfd,if_neg (idxe hl hi hn)],by simp⟩
 | cons x rest ih =>
  intro pre f i len hl hi hn hf;obtain ⟨f,rfl⟩:∃g,f=g+1:=⟨f-1,by simp at hf;omega⟩;rw[h0f];simp only[tfd,if_pos (idx hl hi hn),b0o hl hi,obs,hd,idxw hl hi (by omega)];cases hp:p x with
  | true=>exact .inr ⟨[],x,rest,rfl,by simp,hp,by simp⟩
  | false =>
   rw[tff];rcases ih (pre++[x]) f (i+1) len (idxl hl) (idxs hi) hn (by simp at hf;omega) with ⟨h1,h2⟩ | ⟨A,y,B,h1,h2,h3,h4⟩
   ·exact .inl ⟨h1,by intro z hz;rcases List.mem_cons.1 hz with rfl | hz;exact hp;exact h2 z hz⟩
   ·refine .inr ⟨x::A,y,B,by rw[h1];rfl,?_,h3,by rw[h4,List.length_cons,show i+1+(A.length:Int)=i+((A.length+1:Nat):Int) by omega]⟩;intro z hz;rcases List.mem_cons.1 hz with rfl | hz
    ·exact hp
    ·exact h2 z hz
theorem delete_l (n:Nat) (l0:List Slo) (hL:l0.length≤1000000):∀(rest F G:List Slo) (f:Nat) (i j:Int),(F++(G++rest)).length=l0.length→G≠[]→i=F.length→j=F.length+G.length→rest.length<f →
  ∃G',c0k n f (F++(G++rest),del,i,j,())=some (.inl (F++rest.filter (fun x => !p x)++G',(F++rest.filter (fun x => !p x)).length,()))∧(F++rest.filter (fun x => !p x)++G').length=l0.length:=by
 intro rest;induction rest with
 | nil =>
  intro F G f i j hl hg hi hj hf;obtain ⟨f,rfl⟩:∃g,f=g+1:=⟨f-1,by simp at hf;omega⟩;rw[g0u];have:¬(j<((F++(G++[])).length:Int)):=by simp;omega
  simp only[tfd,if_neg this];exact ⟨G,by simp[hi],by simpa using hl⟩
 | cons x rest ih =>
  intro F G f i j hl hg hi hj hf;obtain ⟨f,rfl⟩:∃g,f=g+1:=⟨f-1,by simp at hf;omega⟩;rw[g0u];simp only[List.length_append,List.length_cons] at hl;have hlt:j<((F++(G++x::rest)).length:Int):=by simp;omega
  have hat:at? (F++(G++x::rest)) j=some x:=b0o (pre:=F++G) (rest:=rest) (by simp) (by simp;omega);have hget:(F++(G++x::rest))[j.toNat]? = some x:=by
   rw[show j.toNat=F.length+G.length by omega,List.getElem?_append_right (by omega),List.getElem?_append_right (by omega)];simp
  simp only[tfd,if_pos hlt,hat,hget,obs,hd];have wj:IntKind.wrap .i64 (j+1)=j+1:=by rw[w64 (by omega) (by omega)]
  have wi:IntKind.wrap .i64 (i+1)=i+1:=by rw[w64 (by omega) (by omega)]
  rw[wj,wi]
  match G,hg with
  | g::G,_ =>
  cases hp:p x with
  | false =>
   have hat':at? (F++(g::G++x::rest)) i=some g:=b0o (pre:=F) (rest:=G++x::rest) (by simp) hi;have hget':(F++(g::G++x::rest))[i.toNat]? = some g:=by
    rw[show i.toNat=F.length by omega];simp
   have hset:(F++(g::G++x::rest)).set i.toNat x=(F++[x])++((G++[x])++rest):=by
    rw[show i.toNat=F.length by omega,List.set_append_right _ _ (by omega)];simp
   simp only[Bool.not_false,tft,hat',hget',obs,hset];obtain ⟨G',h1,h2⟩:=ih (F++[x]) (G++[x]) f (i+1) (j+1) (by simp at hl ⊢;omega) (by simp) (by simp;omega) (by simp at hj ⊢;omega) (by simp at hf;omega);refine ⟨G',?_,?_⟩
   ·rw[h1];simp[List.filter_cons,hp]
   ·rw[←h2];simp[List.filter_cons,hp]
  | true =>
   simp only[Bool.not_true,tff];obtain ⟨G',h1,h2⟩:=ih F (g::G++[x]) f i (j+1) (by simp at hl ⊢;omega) (by simp) hi (by simp at hj ⊢;omega) (by simp at hf;omega);simp only[List.append_assoc,List.singleton_append] at h1;refine ⟨G',?_,?_⟩
   ·rw[h1];simp[List.filter_cons,hp]
   ·rw[←h2];simp[List.filter_cons,hp]
theorem x1p (n:Nat) (l:List Slo) (hL:l.length≤1000000):h0m (n+2) l del=some (l.filter fun x => !p x):=by
 rw[q0i,j0r];rcases h2o hd n l hL l [] a0c 0 l.length rfl rfl rfl (by unfold a0c;omega) with ⟨h1,h2⟩ | ⟨A,x,B,h1,h2,h3,h4⟩
 ·rw[h1];simp only[obs,a0v,tfd,if_pos trivial];exact congrArg some (List.filter_eq_self.2 fun y hy=>by simp[h2 y hy]).symm
 ·rw[h4];have hl:l.length=A.length+(B.length+1):=by rw[h1];simp
  simp only[obs,j0d,tfd,Int.zero_add];rw[if_neg (by omega),w64 (x:=(A.length:Int)+1) (by omega) (by omega)];obtain ⟨G',g1,g2⟩:=delete_l hd (n+1) l hL B A [x] a0c (A.length:Int) (A.length+1) (by rw[h1];simp) (by simp) rfl (by simp) (by unfold a0c;omega);rw[show A++([x]++B)=l by rw[h1];simp] at g1;rw[g1];have hF:A++B.filter (fun x => !p x)=l.filter fun x => !p x:=by
   rw[h1,List.filter_append,List.filter_cons];have:A.filter (fun x => !p x)=A:=List.filter_eq_self.2 fun y hy=>by simp[h2 y hy]
   simp[h3,this]
  rw[hF] at g2 ⊢;generalize (l.filter fun x => !p x)=F at *
  simp only[obs,a0v,x0e,tfd,Int.toNat_natCast];have hle:F.length≤(F++G').length:=by simp
  have k1:putRow (F++G') F.length (List.replicate ((F++G').length-F.length) s0)=F++List.replicate ((F++G').length-F.length) s0:=by
   unfold putRow;rw[List.drop_of_length_le (by simp)];simp
  have k2:=k1;simp only[s0,z0,e0] at k2;rw[k2,if_pos (by omega),if_pos hle,if_pos (by omega),if_pos (by omega),if_pos (by simp;omega)];simp
end
theorem j2b (n:Nat) (x y:Int):i0r (n+2) x y=some (if x<y then -1 else if y<x then 1 else 0):=by
 rw[s0w,m0f,m0f];simp only[decide_true,Bool.not_true,obs,tff,tfd];by_cases h1:x<y
 ·rw[if_pos h1,if_pos h1]
 ·rw[if_neg h1,if_neg h1];by_cases h2:y<x
  ·rw[if_pos h2,if_pos h2]
  ·rw[if_neg h2,if_neg h2]
theorem j2c (n:Nat):Cmp (fun y3=>r0z (n+3) y3.1 y3.2.1) (fun s=>s.1):=by
 intro x y;refine ⟨if x.1<y.1 then -1 else if y.1<x.1 then 1 else 0,?_,?_⟩
 ·show r0z (n+3) x y=_;rw[l1v,j2b];rfl
 ·by_cases h1:x.1<y.1
  ·simp[h1]
  ·by_cases h2:y.1<x.1
   ·simp[h1,h2]
   ·simp[h1,h2]
theorem c1r {l:List Slo} (h:Srt (fun s=>s.1) l 0 l.length):l.Pairwise fun a b=>a.1≤b.1:=by
 rw[List.pairwise_iff_getElem];intro i j hi hj hij;exact h i j _ _ (by omega) hij hj (List.getElem?_eq_getElem hi) (List.getElem?_eq_getElem hj)
theorem tier_all (n:Nat) {l:List Slo} {w:Int} (h:TierOk l w):l1w (n+17) l=some (tall l):=by
 have hl:=h.l1;rw[u1r,d2v _ l (by omega)];simp only[obs];rw[x1p (del:=fun y1=>q0d (n+16) y1.1) (p:=fun s=>decide (s=s0)) (fun x=>u0v (n+15) x) (n+14) l (by omega)];simp only[obs];have e:(l.filter fun x => !decide (x=s0))=g0s l:=by unfold g0s;congr 1;funext x;simp
 rw[e];have hle:(g0s l).length≤l.length:=List.length_filter_le _ _;obtain ⟨d',r1,r2,r3⟩:=m1e (j2c (n+13)) n 12 (g0s l) (by omega) (by omega);rw[r1];rw[←r2.length_eq] at r3;rw[e2p h r2 (c1r r3)];rfl
theorem b2z (n:Nat) (out:List Slo) (s:Slo) (s8:List Slo) (s9 s10:Int) (hL:out.length≤1000000) (hs:out.Pairwise fun a b=>a.1≤b.1):∀(k f:Nat),k≤out.length→k<f→(∀x∈out.drop k,s.1<x.1) →
  ∃k':Nat,s0k n f (out,s,(k:Int),s8,s9,s10,())=some (.inl (out,s,(k':Int),s8,s9,s10,()))∧k'≤out.length∧(∀x∈out.take k',x.1≤s.1)∧(∀x∈out.drop k',s.1<x.1):=by
 intro k;induction k with
 | zero =>
  intro f hk hf h;obtain ⟨f,rfl⟩:∃g,f=g+1:=⟨f-1,by omega⟩;rw[v0r];simp only[tfd,if_neg (show ¬((0:Int)<((0:Nat):Int)) by omega)];exact ⟨0,rfl,by omega,by simp,h⟩
 | succ k ih =>
  intro f hk hf h;obtain ⟨f,rfl⟩:∃g,f=g+1:=⟨f-1,by omega⟩;rw[v0r];have lk:k<out.length:=by omega
  rw[wn (x:=((k+1:Nat):Int)-1) (k:=k) (by omega) (by omega)];simp only[tfd,if_pos (show ((0:Int)<((k+1:Nat):Int)) by omega),at_some lk,Int.toNat_natCast,List.getElem?_eq_getElem lk,obs];by_cases hc:s.1<out[k].1
  ·rw[if_pos hc];refine ih f (by omega) (by omega) (fun x hx => ?_);rw[List.drop_eq_getElem_cons lk] at hx;rcases List.mem_cons.1 hx with rfl | hx
   ·exact hc
   ·exact h x hx
  ·rw[if_neg hc];refine ⟨k+1,rfl,hk,fun x hx => ?_,h⟩;obtain ⟨j,hj,rfl⟩:=List.mem_iff_getElem.1 hx;have hj':j<k+1:=by simp at hj;omega
   rw[List.getElem_take];rcases Nat.lt_or_eq_of_le (Nat.le_of_lt_succ hj') with hjk | rfl
   ·have:=List.pairwise_iff_getElem.1 hs j k (by omega) lk hjk;omega
   ·omega
theorem insert_sorted {out:List Slo} {s:Slo} {k:Nat} (hs:out.Pairwise fun a b=>a.1≤b.1) (h1:∀x∈out.take k,x.1≤s.1) (h2:∀x∈out.drop k,s.1<x.1) :
  (out.take k++s::out.drop k).Pairwise fun a b=>a.1≤b.1:=by
 rw[List.pairwise_append];refine ⟨hs.sublist (List.take_sublist _ _),List.pairwise_cons.2 ⟨fun x hx=>Int.le_of_lt (h2 x hx),hs.sublist (List.drop_sublist _ _)⟩,fun a ha b hb => ?_⟩;rcases List.mem_cons.1 hb with rfl | hb
 ·exact h1 a ha
 ·have:=h1 a ha;have:=h2 b hb;omega
theorem c2a (n:Nat) (l:List Slo) (hL:l.length≤1000000):∀(rest pre:List Slo) (f:Nat) (out:List Slo) (i len:Int),l=pre++rest→i=pre.length→len=l.length→rest.length<f→out.Pairwise (fun a b=>a.1≤b.1)→out.Perm (g0s pre) →
  ∃out',n0l n f (out,l,len,i,())=some (.inl (out',()))∧out'.Pairwise (fun a b=>a.1≤b.1)∧out'.Perm (g0s l):=by
 intro rest;induction rest with
 | nil =>
  intro pre f out i len hl hi hn hf hs hp;obtain ⟨f,rfl⟩:∃g,f=g+1:=⟨f-1,by simp at hf;omega⟩;rw[v0s];rw[List.append_nil] at hl;exact ⟨out,by simp only[tfd,if_neg (idxe (pre:=pre) (by rw[hl,List.append_nil]) hi hn)],hs,by rw[hl];exact hp⟩
 | cons x rest ih =>
  intro pre f out i len hl hi hn hf hs hp;obtain ⟨f,rfl⟩:∃g,f=g+1:=⟨f-1,by simp at hf;omega⟩;rw[v0s];have hlen:out.length≤l.length:=by
   rw[hp.length_eq,hl];have:(g0s pre).length≤pre.length:=List.length_filter_le _ _;simp;omega
  simp only[tfd,if_pos (idx hl hi hn),b0o hl hi,obs,q1s];by_cases h0:x=s0
  ·rw[if_pos h0,idxw hl hi (by omega)];exact ih (pre++[x]) f out (i+1) len (idxl hl) (idxs hi) hn (by simp at hf;omega) hs (by simpa [g0s,List.filter_append,h0] using hp)
  ·rw[if_neg h0];obtain ⟨k,r1,r2,r3,r4⟩:=b2z n out x l len i (by omega) hs out.length a0c (Nat.le_refl _) (by unfold a0c;omega) (by simp);rw[r1];have t1:(List.take ((k:Int).toNat-0) (List.drop 0 out))=out.take k:=by simp
   have t2:(List.take (out.length-(k:Int).toNat) (List.drop (k:Int).toNat out))=out.drop k:=by
    rw[Int.toNat_natCast,List.take_of_length_le (by simp)]
   simp only[obs,a0v,x0e,tfd];rw[t1,t2,List.nil_append];have l1:(out.take k).length=k:=by simp;omega
   rw[if_pos (by omega),if_pos (by omega),if_pos (by rw[l1];omega),if_pos (by rw[l1];omega),if_pos (by omega),if_pos (by simp;omega),if_pos (by simp;omega),idxw hl hi (by omega)];have e:out.take k++[x]++out.drop k=out.take k++x::out.drop k:=by simp
   rw[e];refine ih (pre++[x]) f _ (i+1) len (idxl hl) (idxs hi) hn (by simp at hf;omega) (insert_sorted hs r3 r4) ?_;have e2:g0s (pre++[x])=g0s pre++[x]:=by simp[g0s,List.filter_append,h0]
   rw[e2];refine (List.perm_middle).trans ?_;rw[List.take_append_drop];exact ((List.Perm.cons x hp)).trans (List.perm_append_comm (l₁:=[x]))
theorem t0x (n:Nat) {l:List Slo} {w:Int} (h:TierOk l w):p0b (n+1) l=some (tall l):=by
 have hl:=h.l1;rw[c2c];obtain ⟨out,r1,r2,r3⟩:=c2a n l (by omega) l [] a0c [] 0 l.length rfl rfl rfl (by unfold a0c;omega) .nil (by simp[g0s]);rw[r1];simp only[obs,a0v];rw[e2p h r3 r2]
theorem ev_wf {e:Ev} (h:Wf a0n e):EvW e:=by
 obtain ⟨h1,h2,h3,_⟩:=h;exact ⟨h1,h2,h3⟩
theorem cel_wf {c:Cel} (h:Wf a0q c):CelW c:=by
 obtain ⟨h1,h2,h3,⟨h4,h5⟩,h6,h7,h8⟩:=h;exact ⟨h1,ev_wf h2,ev_wf h3,⟨h4,h5⟩,h6,h7,h8⟩
theorem slo_wf {s:Slo} (h:Wf a0e s):SloW s:=by
 obtain ⟨h1,h2⟩:=h;exact ⟨h1,cel_wf h2⟩
theorem v1f {l:List Slo} (h:Wf (.slice a0e) l):∀s∈l,SloW s:=fun s hs=>slo_wf (h.2 s hs)
theorem tier_get (n:Nat) {l:List Slo} (h0:1≤l.length) (i:Int):y1d (n+2) l i=some (tget l i):=by
 rw[u1q];simp only[tfd];unfold tget;by_cases h1:i<0
 ·rw[if_pos h1,if_pos h1];rfl
 rw[if_neg h1,if_neg h1,if_neg (by omega),e2h,s0c (by omega) (by omega)];have hm:=Int.emod_nonneg i (show (l.length:Int)≠0 by omega);have hm':=Int.emod_lt_of_pos i (show (0:Int)<l.length by omega);have e:at? l (i % (l.length:Int))=l[(i % (l.length:Int)).toNat]? := by
  obtain ⟨k,hk⟩:=Int.eq_ofNat_of_zero_le hm;rw[hk];exact x0b l k
 have hlt:(i % (l.length:Int)).toNat<l.length:=by omega
 simp only[obs,e,List.getElem?_eq_getElem hlt];by_cases h2:l[(i % (l.length:Int)).toNat].1=i
 ·rw[if_pos h2,if_pos h2]
 ·rw[if_neg h2,if_neg h2];rfl
theorem v1y (n:Nat) {l:List Slo} (h0:1≤l.length) (i:Int):c1g (n+2) l i=some (tget l i):=by
 rw[c2b];simp only[tfd,tfn];unfold tget;by_cases h1:i<0
 ·rw[if_pos h1,if_pos h1];rfl
 rw[if_neg h1,if_neg h1,if_neg (by omega),y1n,s0c (by omega) (by omega)];have hm:=Int.emod_nonneg i (show (l.length:Int)≠0 by omega);have hm':=Int.emod_lt_of_pos i (show (0:Int)<l.length by omega);have e:at? l (i % (l.length:Int))=l[(i % (l.length:Int)).toNat]? := by
  obtain ⟨k,hk⟩:=Int.eq_ofNat_of_zero_le hm;rw[hk];exact x0b l k
 have hlt:(i % (l.length:Int)).toNat<l.length:=by omega
 simp only[obs,e,List.getElem?_eq_getElem hlt];by_cases h2:l[(i % (l.length:Int)).toNat].1=i
 ·rw[if_pos h2,if_pos h2]
 ·rw[if_neg h2,if_neg h2];rfl
def inW (i k:Int) (s:Slo):Bool:=decide (i≤s.1∧s.1<k)
theorem u1p (n:Nat) (i k:Int) (s6:Cel) (l:List Slo) (hL:l.length≤1000000):∀(rest pre:List Slo) (f:Nat) (cells:List Cel) (ix len:Int),l=pre++rest→ix=pre.length→len=l.length→rest.length<f→cells.length≤pre.length →
  g0q n f (i,k,s6,cells,l,len,ix,())=some (.inl (s6,cells++(rest.filter (inW i k)).map (·.2),())):=by
 intro rest;induction rest with
 | nil =>
  intro pre f cells ix len hl hi hn hf hc;obtain ⟨f,rfl⟩:∃g,f=g+1:=⟨f-1,by simp at hf;omega⟩;rw[q0f];simp only[tfd,if_neg (idxe hl hi hn),List.filter_nil,List.map_nil,List.append_nil]
 | cons x rest ih =>
  intro pre f cells ix len hl hi hn hf hc;obtain ⟨f,rfl⟩:∃g,f=g+1:=⟨f-1,by simp at hf;omega⟩;rw[q0f];have hp:pre.length+1≤l.length:=by have:=congrArg List.length hl;simp at this;omega
  simp only[tfd,if_pos (idx hl hi hn),b0o hl hi,obs,idxw hl hi (by omega)];by_cases h1:i≤x.1
  ·rw[if_pos h1];by_cases h2:x.1<k
   ·rw[if_pos h2,if_pos (by omega),ih (pre++[x]) f _ (ix+1) len (idxl hl) (idxs hi) hn (by simp at hf;omega) (by simp;omega)];have:inW i k x=true:=by simp[inW,h1,h2]
    rw[List.filter_cons_of_pos this];simp
   ·rw[if_neg h2,ih (pre++[x]) f _ (ix+1) len (idxl hl) (idxs hi) hn (by simp at hf;omega) (by simp;omega)];rw[List.filter_cons_of_neg (by simp[inW,h2])]
  ·rw[if_neg h1,ih (pre++[x]) f _ (ix+1) len (idxl hl) (idxs hi) hn (by simp at hf;omega) (by simp;omega)];rw[List.filter_cons_of_neg (by simp[inW,h1])]
theorem x1z {l:List Slo} {w:Int} (h:TierOk l w) (i k:Int):∀c∈within l i k,CellN c:=by
 intro c hc;simp only[within,List.mem_map,List.mem_filter] at hc;obtain ⟨s,⟨hs,_⟩,rfl⟩:=hc;exact (k0z h hs).1.n
theorem s0a {l:List Slo}:(tall l).length≤l.length:=by
 rw[(u0y l).length_eq];exact List.length_filter_le _ _
theorem j1z (l:List Slo) (i k:Int):(within l i k).length≤l.length:=by
 unfold within;rw[List.length_map];exact Nat.le_trans (List.length_filter_le _ _) s0a
theorem q0e (n:Nat) {l:List Slo} {w:Int} (h:TierOk l w) (i k:Int):k0x (n+18) l i k=some (g0k l i k):=by
 have l1:=h.l1;have ht:=s0a (l:=l);rw[q1e];simp only[tfd];unfold g0k;by_cases h1:i<0
 ·rw[if_pos h1,if_pos (.inl h1)];rfl
 by_cases h2:k<i
 ·rw[if_neg h1,if_pos h2,if_pos (.inr h2)];rfl
 rw[if_neg h1,if_neg h2,if_neg (by omega),tier_all n h];simp only[obs];rw[u1p (n+17) i k _ (tall l) (by omega) (tall l) [] a0c [] 0 _ rfl rfl rfl (by unfold a0c;omega) (by simp)];simp only[obs,a0v,List.nil_append];have e:List.map (·.2) (List.filter (inW i k) (tall l))=within l i k:=rfl;rw[e,cell_all (n+10) _ (by have:=j1z l i k;omega) (fun c hc => .ofN (x1z h i k c hc))];rfl
theorem b2y (n:Nat) (i k:Int) (s6:Cel) (l0:List Slo) (hl0:1≤l0.length) (l:List Slo) (hL:l.length≤1000000) (hg:∀s∈l,tget l0 s.1=s.2):∀(rest pre:List Slo) (f:Nat) (cells:List Cel) (ix len:Int),l=pre++rest→ix=pre.length→len=l.length→rest.length<f→cells.length≤pre.length →
  g0m (n+2) f (l0,i,k,s6,cells,l,len,ix,())=some (.inl (s6,cells++(rest.filter (inW i k)).map (·.2),())):=by
 intro rest;induction rest with
 | nil =>
  intro pre f cells ix len hl hi hn hf hc;obtain ⟨f,rfl⟩:∃g,f=g+1:=⟨f-1,by simp at hf;omega⟩;rw[t0h];simp only[tfd,if_neg (idxe hl hi hn),List.filter_nil,List.map_nil,List.append_nil]
 | cons x rest ih =>
  intro pre f cells ix len hl hi hn hf hc;obtain ⟨f,rfl⟩:∃g,f=g+1:=⟨f-1,by simp at hf;omega⟩;rw[t0h];have hp:pre.length+1≤l.length:=by have:=congrArg List.length hl;simp at this;omega
  have hx:=hg x (by rw[hl];simp);simp only[tfd,if_pos (idx hl hi hn),b0o hl hi,obs,idxw hl hi (by omega),v1y n hl0,hx,celEq];by_cases h1:i≤x.1
  ·rw[if_pos h1];by_cases h2:x.1<k
   ·rw[if_pos h2,if_pos trivial,if_pos (by omega),ih (pre++[x]) f _ (ix+1) len (idxl hl) (idxs hi) hn (by simp at hf;omega) (by simp;omega)];have:inW i k x=true:=by simp[inW,h1,h2]
    rw[List.filter_cons_of_pos this];simp
   ·rw[if_neg h2,ih (pre++[x]) f _ (ix+1) len (idxl hl) (idxs hi) hn (by simp at hf;omega) (by simp;omega)];rw[List.filter_cons_of_neg (by simp[inW,h2])]
  ·rw[if_neg h1,ih (pre++[x]) f _ (ix+1) len (idxl hl) (idxs hi) hn (by simp at hf;omega) (by simp;omega)];rw[List.filter_cons_of_neg (by simp[inW,h1])]
theorem r13_fold (n:Nat) {l:List Slo} {w:Int} (h:TierOk l w) (i k:Int):n1a (n+7) l i k=some (g0k l i k):=by
 have l1:=h.l1;have ht:=s0a (l:=l);rw[w1b];simp only[tfd];unfold g0k;by_cases h1:i<0
 ·rw[if_pos h1,if_pos (.inl h1)];rfl
 by_cases h2:k<i
 ·rw[if_neg h1,if_pos h2,if_pos (.inr h2)];rfl
 rw[if_neg h1,if_neg h2,if_neg (by omega),t0x _ h];simp only[obs];rw[b2y (n+4) i k _ l h.l0 (tall l) (by omega) (fun s hs=>tget_mem h hs) (tall l) [] a0c [] 0 _ rfl rfl rfl (by unfold a0c;omega) (by simp)];simp only[obs,a0v,List.nil_append];have e:List.map (·.2) (List.filter (inW i k) (tall l))=within l i k:=rfl;rw[e,r08_all n _ (by have:=j1z l i k;omega) (fun c hc => .ofN (x1z h i k c hc))];rfl
theorem slow_s0:SloW s0:=⟨by simp[I64,s0],u0k⟩
theorem l1x {l:List Slo} {w:Int} (h:TierOk l w):∀s∈l,SloW s:=by
 intro s hs;obtain ⟨j,hj⟩:=List.getElem?_of_mem hs;rcases h.s j s hj with rfl | ⟨_,hf⟩
 ·exact slow_s0
 ·have:=hf.i0;exact ⟨by unfold I64;omega,.ofN hf.n⟩
theorem k1w {e:Ev} (h:EvOk e) {w:Int} (hw:1≤w):IntKind.wrap .i64 (Int.tdiv e.1 w)=e.1 / w:=by
 have h0:=h.t0;have h1:=h.t1;have:0≤e.1 / w:=Int.ediv_nonneg h0 (by omega);have:e.1 / w≤e.1:=Int.ediv_le_self _ h0;rw[j0j h0,w64 (by omega) (by omega)]
end Go.Proofs.YtgkpkajaepphjaaGreatDoor

namespace Go.Plim
set_option linter.unusedVariables false
def rng (w:Int) (l:List Ev) (i k:Int):List Ev:=l.filter fun e=>decide (i≤e.1 / w∧e.1 / w<k)
def win (w:Int) (l:List Ev) (i:Int):List Ev:=l.filter fun e=>decide (e.1 / w=i)
theorem tall_N {l:List Slo} {w:Int} (h:TierOk l w) {s:Slo} (hs:s∈tall l):CellN s.2:=(k0z h hs).1.n
structure TierInv (t:List Slo) (w:Int) (l:List Ev):Prop where
 ok:TierOk t w
 cells:∀s∈tall t,s.2=cellOf (win w l s.1)
 kept:∀i,(∃e∈l,e.1 / w=i)→(∀e∈l,e.1 / w<i+(t.length:Int))→(i,cellOf (win w l i))∈tall t
end Go.Plim

namespace Go.Proofs.YtgkpkajaepphjaaGreatDoor
open Go.Flat
abbrev Conf:=Int×((Int×(Int×Int))×((Int×(Int×Int))×(Int×Int)))
def prt (n e:Int):Int:=(n+e-1) / e
def plc (c:Conf):Int:=1+prt c.1 16+prt c.2.2.1.1 4+prt c.2.2.1.2.1 4+prt c.2.2.1.2.2 4
structure Rng (c:Conf):Prop where
 raw:1≤c.1∧c.1≤4096
 cap:1≤c.2.2.2.1∧c.2.2.2.1≤65536
 log:1≤c.2.2.2.2∧c.2.2.2.2≤8192
 w0:1≤c.2.1.1∧c.2.1.1≤1099511627776
 w1:1≤c.2.1.2.1∧c.2.1.2.1≤1099511627776
 w2:1≤c.2.1.2.2∧c.2.1.2.2≤1099511627776
 n0:1≤c.2.2.1.1∧c.2.2.1.1≤4096
 n1:1≤c.2.2.1.2.1∧c.2.2.1.2.1≤4096
 n2:1≤c.2.2.1.2.2∧c.2.2.1.2.2≤4096
structure OkC (c:Conf):Prop where
 rng:Rng c
 m1:c.2.1.2.1 % c.2.1.1=0
 d1:c.2.1.2.1 / c.2.1.1≤c.2.2.1.1
 m2:c.2.1.2.2 % c.2.1.2.1=0
 d2:c.2.1.2.2 / c.2.1.2.1≤c.2.2.1.2.1
 pl:plc c<c.2.2.2.2
theorem w0g (n:Nat) (x e:Int) (he:1≤e) (he':e≤1000) (hx:0≤x) (hx':x≤1000000000):k0p (n+1) x e=some (prt x e):=by
 rw[p1d];have h1:¬(e=0):=by omega
 simp only[tfd,if_neg h1];rw[w64 (x:=x+e) (by omega) (by omega),w64 (x:=x+e-1) (by omega) (by omega),j0j (by omega)];have h2:0≤(x+e-1) / e:=Int.ediv_nonneg (by omega) (by omega);have h3:(x+e-1) / e≤x+e-1:=Int.ediv_le_self _ (by omega);rw[w64 (by omega) (by omega)];rfl
theorem prt_step (x e:Int) (he:1≤e):prt x e=1+prt (x-e) e:=by
 unfold prt;rw[show x+e-1=(x-e+e-1)+1*e by omega,Int.add_mul_ediv_right _ _ (by omega)];omega
theorem y1t (x e:Int) (h1 : -e<x) (hx:x≤0):prt x e=0:=Int.ediv_eq_zero_of_lt (by omega) (by omega)
theorem f1i (n:Nat) (e:Int) (he:1≤e) (he':e≤1000):∀(m f:Nat) (x k:Int),x≤m → -e<x→m<f→0≤k→k+m≤1000000000→m≤1000000000→m0b n f (x,e,k,())=some (.inl (k+prt x e,())):=by
 intro m;induction m with
 | zero =>
  intro f x k hx hx' hf hk hkm hm;obtain ⟨f,rfl⟩:∃g,f=g+1:=⟨f-1,by omega⟩;rw[q0w];have h1:¬((0:Int)<x):=by omega
  simp only[tfd,if_neg h1];rw[y1t x e hx' (by omega),Int.add_zero]
 | succ m ih =>
  intro f x k hx hx' hf hk hkm hm;obtain ⟨f,rfl⟩:∃g,f=g+1:=⟨f-1,by omega⟩;rw[q0w];by_cases h1:(0:Int)<x
  ·simp only[tfd,if_pos h1];rw[w64 (x:=x-e) (by omega) (by omega),w64 (x:=k+1) (by omega) (by omega),ih f (x-e) (k+1) (by omega) (by omega) (by omega) (by omega) (by omega) (by omega),prt_step x e he];congr 3;omega
  ·simp only[tfd,if_neg h1];rw[y1t x e hx' (by omega),Int.add_zero]
theorem k0a (n:Nat) (x e:Int) (he:1≤e) (he':e≤1000) (hx:0≤x) (hx':x≤100000000):n0m (n+1) x e=some (prt x e):=by
 rw[r1l,f1i n e he he' x.toNat a0c x 0 (by omega) (by omega) (by unfold a0c;omega) (by omega) (by omega) (by omega)];simp
theorem e0n {x e:Int} (he:1≤e) (hx:0≤x):0≤prt x e∧prt x e≤x:=by
 unfold prt;refine ⟨Int.ediv_nonneg (by omega) (by omega),?_⟩;have:x+e-1<(x+1)*e:=by
  have:=Int.mul_le_mul_of_nonneg_left he (show 0≤x by omega);rw[Int.add_mul];omega
 have:=Int.ediv_lt_of_lt_mul (by omega) this;omega
theorem plc_range {c:Conf} (h:Rng c):1≤plc c∧plc c≤20000:=by
 have a:=e0n (x:=c.1) (e:=16) (by omega) (by have:=h.raw;omega);have b:=e0n (x:=c.2.2.1.1) (e:=4) (by omega) (by have:=h.n0;omega);have d:=e0n (x:=c.2.2.1.2.1) (e:=4) (by omega) (by have:=h.n1;omega);have f:=e0n (x:=c.2.2.1.2.2) (e:=4) (by omega) (by have:=h.n2;omega);have:=h.raw;have:=h.n0;have:=h.n1;have:=h.n2;unfold plc;omega
theorem s1e (n:Nat) {c:Conf} (h:Rng c):k0o (n+2) c=some (plc c):=by
 have h0:=h.raw;have h1:=h.n0;have h2:=h.n1;have h3:=h.n2;rw[p1c,w0g n _ 16 (by omega) (by omega) (by omega) (by omega),w0g n _ 4 (by omega) (by omega) (by omega) (by omega),w0g n _ 4 (by omega) (by omega) (by omega) (by omega),w0g n _ 4 (by omega) (by omega) (by omega) (by omega)];simp only[obs];have a:=e0n (x:=c.1) (e:=16) (by omega) (by omega);have b:=e0n (x:=c.2.2.1.1) (e:=4) (by omega) (by omega);have d:=e0n (x:=c.2.2.1.2.1) (e:=4) (by omega) (by omega);have f:=e0n (x:=c.2.2.1.2.2) (e:=4) (by omega) (by omega)
 rw[w64 (x:=1+_) (by omega) (by omega),w64 (x:=1+_+_) (by omega) (by omega),w64 (x:=1+_+_+_) (by omega) (by omega),w64 (by omega) (by omega)];rfl
theorem v0t (n:Nat) {c:Conf} (h:Rng c):c1j (n+2) c=some (plc c):=by
 have h0:=h.raw;have h1:=h.n0;have h2:=h.n1;have h3:=h.n2;rw[r1k,k0a n _ 16 (by omega) (by omega) (by omega) (by omega),k0a n _ 4 (by omega) (by omega) (by omega) (by omega),k0a n _ 4 (by omega) (by omega) (by omega) (by omega),k0a n _ 4 (by omega) (by omega) (by omega) (by omega)];simp only[obs];have a:=e0n (x:=c.1) (e:=16) (by omega) (by omega);have b:=e0n (x:=c.2.2.1.1) (e:=4) (by omega) (by omega);have d:=e0n (x:=c.2.2.1.2.1) (e:=4) (by omega) (by omega);have f:=e0n (x:=c.2.2.1.2.2) (e:=4) (by omega) (by omega)
 rw[w64 (x:=1+_) (by omega) (by omega),w64 (x:=1+_+_) (by omega) (by omega),w64 (x:=1+_+_+_) (by omega) (by omega),w64 (by omega) (by omega)];rfl
theorem in_int (n:Nat) (x a b:Int):f0j (n+1) x a b=some (decide (a≤x∧x≤b)):=by
 rw[j1u];by_cases h1:a≤x<;>by_cases h2:x≤b<;>simp[h1,h2]
theorem z1o (n:Nat) (x a b:Int):h0x (n+1) x a b=some (decide (a≤x∧x≤b)):=by
 rw[a1e];by_cases h1:a≤x<;>by_cases h2:x≤b<;>simp[h1,h2]
theorem c1n {a b:Int} (ha:1≤a∧a≤1099511627776) (hb:1≤b):IntKind.wrap .i64 (Int.tdiv a b)=a / b:=by
 rw[j0j (by omega)];have h2:0≤a / b:=Int.ediv_nonneg (by omega) (by omega);have h3:a / b≤a:=Int.ediv_le_self _ (by omega);rw[w64 (by omega) (by omega)]
theorem check_ok (n:Nat) {c:Conf} (h:OkC c):i0q (n+3) c=some 0:=by
 obtain ⟨hr,m1,d1,m2,d2,pl⟩:=h;have hp:=s1e n hr;obtain ⟨raw,cap,log,w0,w1,w2,n0,n1,n2⟩:=hr;rw[w0y];simp only[in_int,z1o,obs,tfd,if_pos raw,if_pos cap,if_pos log,if_pos w0,if_pos w1,if_pos w2,if_pos n0,if_pos n1,if_pos n2];have z0:¬(c.2.1.1=0):=by omega
 have z1:¬(c.2.1.2.1=0):=by omega
 rw[c1n w1 w0.1,c1n w2 w1.1,e0u (a:=c.2.1.2.1) (by omega),e0u (a:=c.2.1.2.2) (by omega)];have l:¬(c.2.2.2.2≤plc c):=by omega
 simp only[if_neg z0,if_neg z1,if_pos m1,if_pos d1,if_pos m2,if_pos d2,tfn,tfd,hp,obs,if_neg l]
theorem check_no (n:Nat) {c:Conf} (h:¬OkC c):i0q (n+3) c=some 2:=by
 rw[w0y];simp only[in_int,z1o,obs,tfd,tfn];by_cases raw:1≤c.1∧c.1≤4096
 case neg=>rw[if_neg raw]
 rw[if_pos raw];by_cases cap:1≤c.2.2.2.1∧c.2.2.2.1≤65536
 case neg=>rw[if_neg cap]
 rw[if_pos cap];by_cases log:1≤c.2.2.2.2∧c.2.2.2.2≤8192
 case neg=>rw[if_neg log]
 rw[if_pos log];by_cases w0:1≤c.2.1.1∧c.2.1.1≤1099511627776
 case neg=>rw[if_neg w0]
 rw[if_pos w0];by_cases n0:1≤c.2.2.1.1∧c.2.2.1.1≤4096
 case neg=>rw[if_neg n0]
 rw[if_pos n0];by_cases w1:1≤c.2.1.2.1∧c.2.1.2.1≤1099511627776
 case neg=>rw[if_neg w1]
 rw[if_pos w1];by_cases n1:1≤c.2.2.1.2.1∧c.2.2.1.2.1≤4096
 case neg=>rw[if_neg n1]
 rw[if_pos n1];by_cases w2:1≤c.2.1.2.2∧c.2.1.2.2≤1099511627776
 case neg=>rw[if_neg w2]
 rw[if_pos w2];by_cases n2:1≤c.2.2.1.2.2∧c.2.2.1.2.2≤4096
 case neg=>rw[if_neg n2,if_neg n2]
 rw[if_pos n2];have hr:Rng c:=⟨raw,cap,log,w0,w1,w2,n0,n1,n2⟩;have hp:=s1e n hr;have z0:¬(c.2.1.1=0):=by omega
 have z1:¬(c.2.1.2.1=0):=by omega
 rw[c1n w1 w0.1,c1n w2 w1.1,e0u (a:=c.2.1.2.1) (by omega),e0u (a:=c.2.1.2.2) (by omega)];rw[if_neg z0,if_neg z0];by_cases m1:c.2.1.2.1 % c.2.1.1=0
 case neg=>rw[if_neg m1]
 rw[if_pos m1];by_cases d1:c.2.1.2.1 / c.2.1.1≤c.2.2.1.1
 case neg=>rw[if_neg d1,if_neg d1]
 rw[if_pos d1,if_neg z1,if_neg z1];by_cases m2:c.2.1.2.2 % c.2.1.2.1=0
 case neg=>rw[if_neg m2]
 rw[if_pos m2];by_cases d2:c.2.1.2.2 / c.2.1.2.1≤c.2.2.1.2.1
 case neg=>rw[if_neg d2,if_neg d2]
 rw[if_pos d2,if_pos d2,hp];simp only[obs];by_cases pl:c.2.2.2.2≤plc c
 ·rw[if_pos pl]
 ·exact absurd ⟨hr,m1,d1,m2,d2,by omega⟩ h
theorem r1m (n:Nat) {c:Conf} (h:OkC c):h0s (n+3) c=some 0:=by
 obtain ⟨hr,m1,d1,m2,d2,pl⟩:=h;have hp:=v0t n hr;obtain ⟨raw,cap,log,w0,w1,w2,n0,n1,n2⟩:=hr;rw[z0h];rw[c1n w1 w0.1,c1n w2 w1.1,e0u (a:=c.2.1.2.1) (by omega),e0u (a:=c.2.1.2.2) (by omega)];have l:¬(c.2.2.2.2≤plc c):=by omega
 simp only[tfd,tfn,hp,obs];rw[if_neg (by omega),if_neg (by omega),if_neg (by omega),if_neg (by omega),if_neg (by omega),if_neg (by omega),if_neg (by omega),if_neg (by omega),if_neg (by omega),if_neg (by omega),if_neg (by omega),if_neg (by omega),if_neg (by omega),if_neg (by omega),if_neg (by omega)];rw[if_pos m1,if_neg (by omega),if_neg (by omega),if_neg (by omega),if_neg (by omega),if_neg (by omega),if_neg (by omega),if_neg (by omega)];rw[if_pos m2,if_neg (by omega),if_neg (by omega),if_neg l]
theorem r1n (n:Nat) {c:Conf} (h:¬OkC c):h0s (n+3) c=some 2:=by
 rw[z0h];simp only[tfd,tfn];by_cases raw:1≤c.1∧c.1≤4096
 case neg =>
  by_cases z:c.1<1
  ·rw[if_pos z]
  ·rw[if_neg z,if_pos (by omega)]
 rw[if_neg (by omega),if_neg (by omega)];by_cases cap:1≤c.2.2.2.1∧c.2.2.2.1≤65536
 case neg =>
  by_cases z:c.2.2.2.1<1
  ·rw[if_pos z]
  ·rw[if_neg z,if_pos (by omega)]
 rw[if_neg (by omega),if_neg (by omega)];by_cases log:1≤c.2.2.2.2∧c.2.2.2.2≤8192
 case neg =>
  by_cases z:c.2.2.2.2<1
  ·rw[if_pos z]
  ·rw[if_neg z,if_pos (by omega)]
 rw[if_neg (by omega),if_neg (by omega)];by_cases w0:1≤c.2.1.1∧c.2.1.1≤1099511627776
 case neg =>
  by_cases z:c.2.1.1<1
  ·rw[if_pos z]
  ·rw[if_neg z,if_pos (by omega)]
 rw[if_neg (by omega),if_neg (by omega)];by_cases n0:1≤c.2.2.1.1∧c.2.2.1.1≤4096
 case neg =>
  by_cases z:c.2.2.1.1<1
  ·rw[if_pos z]
  ·rw[if_neg z,if_pos (by omega)]
 rw[if_neg (by omega),if_neg (by omega)];by_cases w1:1≤c.2.1.2.1∧c.2.1.2.1≤1099511627776
 case neg =>
  by_cases z:c.2.1.2.1<1
  ·rw[if_pos z]
  ·rw[if_neg z,if_pos (by omega)]
 rw[if_neg (by omega),if_neg (by omega)];by_cases n1:1≤c.2.2.1.2.1∧c.2.2.1.2.1≤4096
 case neg =>
  by_cases z:c.2.2.1.2.1<1
  ·rw[if_pos z]
  ·rw[if_neg z,if_pos (by omega)]
 rw[if_neg (by omega),if_neg (by omega),if_neg (by omega)];rw[e0u (a:=c.2.1.2.1) (by omega),c1n w1 w0.1];by_cases m1:c.2.1.2.1 % c.2.1.1=0
 case neg=>rw[if_neg m1]
 rw[if_pos m1,if_neg (by omega)];by_cases d1:c.2.1.2.1 / c.2.1.1≤c.2.2.1.1
 case neg=>rw[if_pos (by omega)]
 rw[if_neg (by omega)];by_cases w2:1≤c.2.1.2.2∧c.2.1.2.2≤1099511627776
 case neg =>
  by_cases z:c.2.1.2.2<1
  ·rw[if_pos z]
  ·rw[if_neg z,if_pos (by omega)]
 rw[if_neg (by omega),if_neg (by omega)];by_cases n2:1≤c.2.2.1.2.2∧c.2.2.1.2.2≤4096
 case neg =>
  by_cases z:c.2.2.1.2.2<1
  ·rw[if_pos z]
  ·rw[if_neg z,if_pos (by omega)]
 rw[if_neg (by omega),if_neg (by omega),if_neg (by omega)];rw[e0u (a:=c.2.1.2.2) (by omega),c1n w2 w1.1];by_cases m2:c.2.1.2.2 % c.2.1.2.1=0
 case neg=>rw[if_neg m2]
 rw[if_pos m2,if_neg (by omega)];by_cases d2:c.2.1.2.2 / c.2.1.2.1≤c.2.2.1.2.1
 case neg=>rw[if_pos (by omega)]
 rw[if_neg (by omega)];have hr:Rng c:=⟨raw,cap,log,w0,w1,w2,n0,n1,n2⟩;rw[v0t n hr];simp only[obs];by_cases pl:c.2.2.2.2≤plc c
 ·rw[if_pos pl]
 ·exact absurd ⟨hr,m1,d1,m2,d2,by omega⟩ h
end Go.Proofs.YtgkpkajaepphjaaGreatDoor
namespace Go.Proofs.YtgkpkajaepphjaaGreatDoor
open Go.Flat Go.Plim
set_option linter.unusedVariables false
abbrev Trs:=List Slo×(List Slo×List Slo)
noncomputable instance (c:Conf):Decidable (OkC c):=Classical.propDecidable _
structure FoldOk (c:Conf) (s:Trs):Prop where
 cok:OkC c
 n0:(s.1.length:Int)=c.2.2.1.1
 n1:(s.2.1.length:Int)=c.2.2.1.2.1
 n2:(s.2.2.length:Int)=c.2.2.1.2.2
 t0:TierOk s.1 c.2.1.1
 t1:TierOk s.2.1 c.2.1.2.1
 t2:TierOk s.2.2 c.2.1.2.2
noncomputable instance (c:Conf) (s:Trs):Decidable (FoldOk c s):=Classical.propDecidable _
def mk1 (c:Conf) (s:Trs) (i:Int):Cel×Int:=g0k s.1 (i*(c.2.1.2.1 / c.2.1.1)) ((i+1)*(c.2.1.2.1 / c.2.1.1))
theorem c2u {a w m:Int} (hw:1≤w) (h:a≤m / w):a*w≤m :=
 Int.le_trans (Int.mul_le_mul_of_nonneg_right h (by omega)) (Int.ediv_mul_le m (by omega))
def Begins (w i:Int):Prop:=0≤i∧i≤35184372088831 / w
theorem Begins.mul {w i:Int} (hw:1≤w) (h:Begins w i):0≤i*w∧i*w≤35184372088831:=⟨Int.mul_nonneg h.1 (by omega),c2u hw h.2⟩
end Go.Proofs.YtgkpkajaepphjaaGreatDoor
namespace Go.Proofs.YtgkpkajaepphjaaGreatDoor
open Go.Flat Go.Plim
set_option linter.unusedVariables false
set_option linter.unusedSimpArgs false
structure TrsW (s:Trs):Prop where
 a:∀x∈s.1,SloW x
 b:∀x∈s.2.1,SloW x
 c:∀x∈s.2.2,SloW x
theorem FoldOk.w {c:Conf} {s:Trs} (h:FoldOk c s):TrsW s:=⟨l1x h.t0,l1x h.t1,l1x h.t2⟩
theorem y0q (n:Nat) (c:Conf):i0q (n+3) c=some (if OkC c then 0 else 2):=by
 by_cases h:OkC c
 ·rw[if_pos h,check_ok n h]
 ·rw[if_neg h,check_no n h]
theorem q0x (n:Nat) (c:Conf):h0s (n+3) c=some (if OkC c then 0 else 2):=by
 by_cases h:OkC c
 ·rw[if_pos h,r1m n h]
 ·rw[if_neg h,r1n n h]
theorem o1n (n:Nat) (c:Conf) {s:Trs} (hw:TrsW s):d1y (n+8) c s=some (if FoldOk c s then (some (c,s),0) else (none,2)):=by
 rw[t1l,y0q (n+4),x0f n _ _ hw.a,x0f n _ _ hw.b,x0f n _ _ hw.c];simp only[obs,tfn,tfd];by_cases h0:OkC c
 case neg=>rw[if_neg (mt (z02 _).1 h0),if_neg h0,if_neg (fun k:FoldOk c s=>h0 k.cok)]
 rw[if_pos ((z02 _).2 h0)];by_cases h1:(s.1.length:Int)=c.2.2.1.1
 case neg=>rw[if_neg h1,if_neg (fun k:FoldOk c s=>h1 k.n0)]
 rw[if_pos h1];by_cases h2:TierOk s.1 c.2.1.1
 case neg=>rw[if_neg (mt (z02 _).1 h2),if_neg (fun k:FoldOk c s=>h2 k.t0)]
 rw[if_pos ((z02 _).2 h2)];by_cases h3:(s.2.1.length:Int)=c.2.2.1.2.1
 case neg=>rw[if_neg h3,if_neg (fun k:FoldOk c s=>h3 k.n1)]
 rw[if_pos h3];by_cases h4:TierOk s.2.1 c.2.1.2.1
 case neg=>rw[if_neg (mt (z02 _).1 h4),if_neg (fun k:FoldOk c s=>h4 k.t1)]
 rw[if_pos ((z02 _).2 h4)];by_cases h5:(s.2.2.length:Int)=c.2.2.1.2.2
 case neg=>rw[if_neg h5,if_neg (fun k:FoldOk c s=>h5 k.n2)]
 rw[if_pos h5];by_cases h6:TierOk s.2.2 c.2.1.2.2
 case neg=>rw[if_neg (mt (z02 _).1 h6),if_neg (fun k:FoldOk c s=>h6 k.t2)]
 rw[if_pos ((z02 _).2 h6),if_pos (⟨h0,h1,h3,h5,h2,h4,h6⟩:FoldOk c s)]
theorem f2t (n:Nat) (c:Conf) {s:Trs} (hw:TrsW s):c1e (n+7) c s=some (if FoldOk c s then 0 else 2):=by
 rw[r1h,q0x (n+3),c1f n _ _ hw.a,c1f n _ _ hw.b,c1f n _ _ hw.c];simp only[obs,tfn,tfd];by_cases h0:OkC c
 case neg=>rw[if_neg (mt (z02 _).1 h0),if_neg (fun k:FoldOk c s=>h0 k.cok)]
 rw[if_pos ((z02 _).2 h0)];by_cases h1:(s.1.length:Int)=c.2.2.1.1
 case neg=>rw[if_neg h1,if_neg (fun k:FoldOk c s=>h1 k.n0)]
 rw[if_pos h1];by_cases h2:TierOk s.1 c.2.1.1
 case neg=>rw[if_neg (mt (z02 _).1 h2),if_neg (fun k:FoldOk c s=>h2 k.t0)]
 rw[if_pos ((z02 _).2 h2)];by_cases h3:(s.2.1.length:Int)=c.2.2.1.2.1
 case neg=>rw[if_neg h3,if_neg (fun k:FoldOk c s=>h3 k.n1)]
 rw[if_pos h3];by_cases h4:TierOk s.2.1 c.2.1.2.1
 case neg=>rw[if_neg (mt (z02 _).1 h4),if_neg (fun k:FoldOk c s=>h4 k.t1)]
 rw[if_pos ((z02 _).2 h4)];by_cases h5:(s.2.2.length:Int)=c.2.2.1.2.2
 case neg=>rw[if_neg h5,if_neg (fun k:FoldOk c s=>h5 k.n2)]
 rw[if_pos h5];by_cases h6:TierOk s.2.2 c.2.1.2.2
 case neg=>rw[if_neg (mt (z02 _).1 h6),if_neg (fun k:FoldOk c s=>h6 k.t2)]
 rw[if_pos ((z02 _).2 h6),if_pos (⟨h0,h1,h3,h5,h2,h4,h6⟩:FoldOk c s)]
theorem d2j (n:Nat) (c:Conf) {s:Trs} (hw:TrsW s):y0m (n+9) c s=some (if FoldOk c s then 0 else 2):=by
 rw[o1o,o1n n c hw];by_cases h:FoldOk c s
 ·rw[if_pos h,if_pos h];rfl
 ·rw[if_neg h,if_neg h];rfl
noncomputable def emp (c:Conf):Trs:=if OkC c then (List.replicate c.2.2.1.1.toNat s0,(List.replicate c.2.2.1.2.1.toNat s0,List.replicate c.2.2.1.2.2.toNat s0)) else ([],([],[]))
theorem allE_okc (l:List Cel):∀c,b0f c→b0f (allE c l).1:=by
 induction l with
 | nil=>intro c h;exact h
 | cons x l ih =>
  intro c h;simp only[allE];split
  ·rename_i k;exact ih _ (g2u k).2.2.2.2
  ·exact r0k
theorem u0x (l:List Slo) (i k:Int):b0f (g0k l i k).1:=by
 unfold g0k;split
 ·exact r0k
 ·exact allE_okc _ _ r0k
theorem w1g (n:Nat) {c:Conf} (h:OkC c):x0v (n+4) c 1=some (c.2.1.2.1 / c.2.1.1):=by
 have hr:=h.rng;rw[n1e,q0x n c,if_pos h];rw[show IntKind.wrap .i64 ((1:Int)-1)=0 from rfl];simp only[obs,decide_true,Bool.not_true,tff];rw[show (decide ((1:Int)<1))=false from rfl,tff,show (decide ((2:Int)<1))=false from rfl,tff,show (decide ((1:Int)=0))=false from rfl,tff];simp only[tft,tfd,if_neg (show ¬(c.2.1.1=0) by have:=hr.w0;omega),c1n hr.w1 hr.w0.1]
theorem FoldOk.lens {c:Conf} {s:Trs} (h:FoldOk c s):s.1.length≤1000000∧s.2.1.length≤1000000∧s.2.2.length≤1000000:=by
 have:=h.t0.l1;have:=h.t1.l1;have:=h.t2.l1;omega
theorem trs_wf {s:Trs} (h:Wf (.wrap (.pair (.slice a0e) (.pair (.slice a0e) (.slice a0e)))) s):TrsW s:=by
 obtain ⟨h1,h2,h3⟩:=h;exact ⟨v1f h1,v1f h2,v1f h3⟩
abbrev Ser:=List Lab×(Int×(Rw×(Trs×Slo)))
structure SerW (s:Ser):Prop where
 last:I64 s.2.1
 raw:RawW s.2.2.1
 trs:TrsW s.2.2.2.1
 opn:SloW s.2.2.2.2
def a0y (l:List Slo) (i:Int):Prop:=∀s∈l,0<s.2.1→s.1<i
noncomputable instance (l i):Decidable (a0y l i):=Classical.propDecidable _
structure Fresh (s:Ser):Prop where
 raw:s.2.2.1.2.2=[]
 opn:s.2.2.2.2=s0
 b0:a0y s.2.2.2.1.1 0
 b1:a0y s.2.2.2.1.2.1 0
 b2:a0y s.2.2.2.1.2.2 0
structure EndsP (c:Conf) (s:Ser):Prop where
 last:∃e,s.2.2.1.2.2.getLast? = some e∧e.1=s.2.1
 ol:s.2.2.2.2.2.2.2.1.1=s.2.1
 fit:FitsP s.2.2.2.2.2 c.2.1.1 s.2.2.2.2.1
 b0:a0y s.2.2.2.1.1 (s.2.1 / c.2.1.1)
 b1:a0y s.2.2.2.1.2.1 (s.2.1 / c.2.1.2.1)
 b2:a0y s.2.2.2.1.2.2 (s.2.1 / c.2.1.2.2)
structure SerOk (c:Conf) (s:Ser):Prop where
 fold:FoldOk c s.2.2.2.1
 lab:LabOk s.1
 raw:RawOk s.2.2.1 c.1
 st:(s.2.1 = -1∧Fresh s)∨(s.2.1 ≠ -1∧EndsP c s)
noncomputable instance (s):Decidable (Fresh s):=Classical.propDecidable _
noncomputable instance (c s):Decidable (EndsP c s):=Classical.propDecidable _
noncomputable instance (c s):Decidable (SerOk c s):=Classical.propDecidable _
theorem p1a (n:Nat) {del:a0d×Unit→Option Bool} {p:Slo→Bool} (hd:∀x,del (x,())=some (p x)) (l:List Slo) (hL:l.length≤1000000):f0x (n+2) l del=some (l.any p):=by
 rw[o0u,j0r];rcases h2o hd n l hL l [] a0c 0 l.length rfl rfl rfl (by unfold a0c;omega) with ⟨h1,h2⟩ | ⟨A,x,B,h1,h2,h3,h4⟩
 ·rw[h1];have:l.any p=false:=by rw[List.any_eq_false];intro x hx;simp[h2 x hx]
  rw[this];rfl
 ·rw[h4];have:l.any p=true:=List.any_eq_true.2 ⟨x,by rw[h1];simp,h3⟩;simp only[obs,j0d,this,Int.zero_add];rw[decide_eq_true (by omega)]
theorem d0e (n:Nat) (l:List Slo) (i:Int) (hL:l.length≤1000000):d0q (n+3) l i=some (!decide (a0y l i)):=by
 rw[z0x,p1a (p:=fun s=>decide (0<s.2.1∧i≤s.1)) n (fun x=>by
  show l0f (n+1+1) x i=_;rw[v0m]
  by_cases h1:0<x.2.1<;>by_cases h2:i≤x.1<;>simp[h1,h2]) l hL]
 simp only[obs];refine congrArg some ?_;by_cases h:a0y l i
 ·rw[decide_eq_true h];rw[List.any_eq_false.2]
  ·rfl
  ·intro x hx k;have:=of_decide_eq_true k;have:=h x hx this.1;omega
 ·rw[decide_eq_false h];have:∃x∈l,0<x.2.1∧i≤x.1:=Classical.byContradiction fun k=>h fun x hx hc=>by
   rcases Int.lt_or_le x.1 i with q | q
   ·exact q
   ·exact absurd ⟨x,hx,hc,q⟩ k
  obtain ⟨x,hx,hq⟩:=this;rw[List.any_eq_true.2 ⟨x,hx,decide_eq_true hq⟩];rfl
theorem d2f (n:Nat) (c:Conf) {s:Ser} (hf:FoldOk c s.2.2.2.1):b1m (n+4) (c,s)=some (decide (Fresh s)):=by
 obtain ⟨l0,l1,l2⟩:=hf.lens;rw[q1p,q1s,d0e n _ _ l0,d0e n _ _ l1,d0e n _ _ l2];simp only[obs,Bool.not_not,tfd];by_cases h1:(s.2.2.1.2.2.length:Int)=0
 case neg=>rw[if_neg h1,decide_eq_false (fun k:Fresh s=>h1 (by rw[k.raw];rfl))]
 rw[if_pos h1];by_cases h2:s.2.2.2.2=s0
 case neg=>rw[if_neg h2,decide_eq_false (fun k:Fresh s=>h2 k.opn)]
 rw[if_pos h2];by_cases h3:a0y s.2.2.2.1.1 0
 case neg=>rw[if_neg h3,decide_eq_false (fun k:Fresh s=>h3 k.b0)]
 rw[if_pos h3];by_cases h4:a0y s.2.2.2.1.2.1 0
 case neg=>rw[if_neg h4,decide_eq_false (fun k:Fresh s=>h4 k.b1)]
 rw[if_pos h4];refine congrArg some (decide_eq_decide.2 ⟨fun k=>⟨List.length_eq_zero_iff.1 (by omega),h2,h3,h4,k⟩,fun k=>k.b2⟩)
theorem x1f {c:Conf} {s:Ser} (hr:RawOk s.2.2.1 c.1) {e:Ev} (he:s.2.2.1.2.2.getLast? = some e):EvOk e:=hr.f.ok e (List.mem_of_getLast? he)
theorem h2i (n:Nat) (c:Conf) {s:Ser} (hf:FoldOk c s.2.2.2.1) (hr:RawOk s.2.2.1 c.1) (hw:SerW s):a1n (n+7) (c,s)=some (decide (EndsP c s)):=by
 obtain ⟨l0,l1,l2⟩:=hf.lens;have hg:=hf.cok.rng;have hlen:=hr.len;have hm1:=hr.m1;rw[v1c,raw_last (n+5) s.2.2.1 (by omega)];cases hl:s.2.2.1.2.2.getLast? with
 | none =>
  simp only[obs];rw[show (decide ((3:Int)=0))=false from rfl,tff,decide_eq_false];intro k;obtain ⟨e,he,_⟩:=k.last;rw[hl] at he;cases he
 | some e =>
  have heo:=x1f hr hl;simp only[obs,decide_true,tft,tfd,if_true];by_cases h1:e.1=s.2.1
  case neg =>
   rw[if_neg h1,decide_eq_false];intro k;obtain ⟨e',he,hq⟩:=k.last;rw[hl] at he;injection he with he;subst he;exact h1 hq
  rw[if_pos h1];by_cases h2:s.2.2.2.2.2.2.2.1.1=s.2.1
  case neg=>rw[if_neg h2,decide_eq_false (fun k:EndsP c s=>h2 k.ol)]
  have q0:=k1w heo hg.w0.1;have q1:=k1w heo hg.w1.1;have q2:=k1w heo hg.w2.1;rw[h1] at q0 q1 q2;rw[if_pos h2,q1c n hw.opn.c];simp only[obs,tfd,q0,q1,q2,d0e (n+3) _ _ l0,d0e (n+3) _ _ l1,d0e (n+3) _ _ l2,Bool.not_not,if_neg (show ¬(c.2.1.1=0) by have:=hg.w0;omega),if_neg (show ¬(c.2.1.2.1=0) by have:=hg.w1;omega),if_neg (show ¬(c.2.1.2.2=0) by have:=hg.w2;omega)];by_cases h3:FitsP s.2.2.2.2.2 c.2.1.1 s.2.2.2.2.1
  case neg=>rw[if_neg h3,decide_eq_false (fun k:EndsP c s=>h3 k.fit)]
  rw[if_pos h3];by_cases h4:a0y s.2.2.2.1.1 (s.2.1 / c.2.1.1)
  case neg=>rw[if_neg h4,decide_eq_false (fun k:EndsP c s=>h4 k.b0)]
  rw[if_pos h4];by_cases h5:a0y s.2.2.2.1.2.1 (s.2.1 / c.2.1.2.1)
  case neg=>rw[if_neg h5,decide_eq_false (fun k:EndsP c s=>h5 k.b1)]
  rw[if_pos h5];refine congrArg some (decide_eq_decide.2 ⟨fun k=>⟨⟨e,hl,h1⟩,h2,h3,h4,h5,k⟩,fun k=>k.b2⟩)
theorem z08 (p:Prop) [Decidable p]:((if p then (0:Int) else 8)=0)↔p:=by by_cases h:p<;>simp[h]
theorem h0o (n:Nat) (c:Conf) {s:Ser} (hw:SerW s):o0w (n+10) c s=some (if SerOk c s then (some (c,s),0) else (none,2)):=by
 rw[f1d,d2j n c hw.trs,u0e (n+3),f2l (n+4) _ _ hw.raw];simp only[obs,tfn,tfd];by_cases h1:FoldOk c s.2.2.2.1
 case neg=>rw[if_neg (mt (z02 _).1 h1),if_neg (fun k:SerOk c s=>h1 k.fold)]
 by_cases h2:LabOk s.1
 case neg=>rw[if_pos ((z02 _).2 h1),if_neg (mt (z08 _).1 h2),if_neg (fun k:SerOk c s=>h2 k.lab)]
 by_cases h3:RawOk s.2.2.1 c.1
 case neg=>rw[if_pos ((z02 _).2 h1),if_pos ((z08 _).2 h2),if_neg (mt (z02 _).1 h3),if_neg (fun k:SerOk c s=>h3 k.raw)]
 rw[if_pos ((z02 _).2 h1),if_pos ((z08 _).2 h2),if_pos ((z02 _).2 h3),d2f (n+5) c h1,h2i (n+2) c h1 h3 hw];simp only[obs,tfd];by_cases h4:s.2.1 = -1
 ·rw[if_pos h4];by_cases h5:Fresh s
  ·rw[if_pos h5,if_pos (⟨h1,h2,h3,.inl ⟨h4,h5⟩⟩:SerOk c s)]
  ·rw[if_neg h5,if_pos h4,if_neg (fun k:SerOk c s=>by
    rcases k.st with q | q
    ·exact h5 q.2
    ·exact q.1 h4)]
 ·rw[if_neg h4,if_neg h4];by_cases h5:EndsP c s
  ·rw[if_pos h5,if_pos (⟨h1,h2,h3,.inr ⟨h4,h5⟩⟩:SerOk c s)]
  ·rw[if_neg h5,if_neg (fun k:SerOk c s=>by
    rcases k.st with q | q
    ·exact h4 q.1
    ·exact h5 q.2)]
theorem g0z {l:List Slo} {w:Int} (h:TierOk l w) (i:Int):a0y l i↔∀s∈tall l,s.1<i:=by
 constructor
 ·intro k s hs;have:=(tall_N h hs).n1;exact k s (n1v.1 hs).1 (by omega)
 ·intro k s hs hc;exact k s (n1v.2 ⟨hs,fun e=>by rw[e] at hc;simp[s0,z0] at hc⟩)
theorem c1x {l:List Slo} {w:Int} (h:TierOk l w):a0y l 0↔tall l=[]:=by
 rw[g0z h];constructor
 ·intro k;by_cases e:tall l=[]
  ·exact e
  ·obtain ⟨s,hs⟩:=List.exists_mem_of_ne_nil _ e;have:=(k0z h hs).1.i0;have:=k s hs;omega
 ·intro e s hs;rw[e] at hs;cases hs
theorem r15_l7_3 (n f:Nat) (s:Ser):f0f n (f+1) (s,(3:Int),())=some (.inl ()):=by
 rw[h0p,show (decide ((3:Int)<3))=false from rfl,tff]
theorem r15_l7 (n f:Nat) (c:Conf) {s:Ser} (h:FoldOk c s.2.2.2.1):f0f (n+1) (f+4) (s,(0:Int),())=some (if a0y s.2.2.2.1.1 0∧a0y s.2.2.2.1.2.1 0∧a0y s.2.2.2.1.2.2 0 then .inl () else .inr 2):=by
 have n0:=c1x h.t0;have n1:=c1x h.t1;have n2:=c1x h.t2;have len:∀ {l:List Slo},((0:Int)<(tall l).length)↔tall l≠[]:=fun {l}=>by
  have:=List.length_pos_iff (l:=tall l);constructor
  ·intro k;exact this.1 (by omega)
  ·intro k;have:=this.2 k;omega
 rw[h0p,show (decide ((0:Int)<3))=true from rfl,tft,show (decide ((0:Int)=0))=true from rfl,tft,t0x n h.t0];simp only[obs,tfd];by_cases c0:a0y s.2.2.2.1.1 0
 case neg=>rw[if_pos (len.2 (mt n0.2 c0)),if_neg (fun k=>c0 k.1)]
 rw[if_neg (fun k=>(len.1 k) (n0.1 c0)),show IntKind.wrap .i64 ((0:Int)+1)=1 from rfl,h0p,show (decide ((1:Int)<3))=true from rfl,tft,show (decide ((1:Int)=0))=false from rfl,tff,show (decide ((1:Int)=1))=true from rfl,tft,t0x n h.t1];simp only[obs,tfd];by_cases c1:a0y s.2.2.2.1.2.1 0
 case neg=>rw[if_pos (len.2 (mt n1.2 c1)),if_neg (fun k=>c1 k.2.1)]
 rw[if_neg (fun k=>(len.1 k) (n1.1 c1)),show IntKind.wrap .i64 ((1:Int)+1)=2 from rfl,h0p,show (decide ((2:Int)<3))=true from rfl,tft,show (decide ((2:Int)=0))=false from rfl,tff,show (decide ((2:Int)=1))=false from rfl,tff,show (decide ((2:Int)=2))=true from rfl,tft,t0x n h.t2];simp only[obs,tfd];by_cases c2:a0y s.2.2.2.1.2.2 0
 case neg=>rw[if_pos (len.2 (mt n2.2 c2)),if_neg (fun k=>c2 k.2.2)]
 rw[if_neg (fun k=>(len.1 k) (n2.1 c2)),show IntKind.wrap .i64 ((2:Int)+1)=3 from rfl,r15_l7_3,if_pos ⟨c0,c1,c2⟩]
theorem f2r (n:Nat) (c:Conf) (s:Ser) (at_:Int) (hw:1≤c.2.1.1) (hq:IntKind.wrap .i64 (Int.tdiv s.2.1 c.2.1.1)=at_) (l:List Slo) (hL:l.length≤1000000):∀(rest pre:List Slo) (f:Nat) (ix len:Int),l=pre++rest→ix=pre.length→len=l.length→rest.length<f →
  ((∀x∈rest,x.1<at_)→b0t n f (c,s,(0:Int),l,len,ix,())=some (.inl (c,s,(0:Int),())))∧(¬(∀x∈rest,x.1<at_)→b0t n f (c,s,(0:Int),l,len,ix,())=some (.inr 2)):=by
 intro rest;induction rest with
 | nil =>
  intro pre f ix len hl hi hn hf;obtain ⟨f,rfl⟩:∃g,f=g+1:=⟨f-1,by simp at hf;omega⟩;rw[d0o];exact ⟨fun _=>by simp only[tfd,if_neg (idxe hl hi hn)],fun k=>absurd (by simp) k⟩
 | cons x rest ih =>
  intro pre f ix len hl hi hn hf;obtain ⟨f,rfl⟩:∃g,f=g+1:=⟨f-1,by simp at hf;omega⟩;rw[d0o,decide_eq_true (idx hl hi hn),tft,b0o hl hi,obs];rw[show (decide ((0:Int)=0))=true from rfl,tft];simp only[tfd,if_neg (show ¬(c.2.1.1=0) by omega),hq,idxw hl hi (show l.length≤1000000000000 by omega)];have ih':=ih (pre++[x]) f (ix+1) len (idxl hl) (idxs hi) hn (by simp at hf;omega);by_cases h1:at_≤x.1
  ·rw[if_pos h1];exact ⟨fun k=>by have:=k x (by simp);omega,fun _=>rfl⟩
  ·rw[if_neg h1];exact ⟨fun k=>ih'.1 fun y hy=>k y (by simp[hy]),fun k=>ih'.2 fun q=>k fun y hy=>by
    rcases List.mem_cons.1 hy with rfl | hy
    ·omega
    ·exact q y hy⟩
theorem f2p (n:Nat) (c:Conf) (s:Ser) (at_:Int) (hw:1≤c.2.1.2.1) (hq:IntKind.wrap .i64 (Int.tdiv s.2.1 c.2.1.2.1)=at_) (l:List Slo) (hL:l.length≤1000000):∀(rest pre:List Slo) (f:Nat) (ix len:Int),l=pre++rest→ix=pre.length→len=l.length→rest.length<f →
  ((∀x∈rest,x.1<at_)→b0t n f (c,s,(1:Int),l,len,ix,())=some (.inl (c,s,(1:Int),())))∧(¬(∀x∈rest,x.1<at_)→b0t n f (c,s,(1:Int),l,len,ix,())=some (.inr 2)):=by
 intro rest;induction rest with
 | nil =>
  intro pre f ix len hl hi hn hf;obtain ⟨f,rfl⟩:∃g,f=g+1:=⟨f-1,by simp at hf;omega⟩;rw[d0o];exact ⟨fun _=>by simp only[tfd,if_neg (idxe hl hi hn)],fun k=>absurd (by simp) k⟩
 | cons x rest ih =>
  intro pre f ix len hl hi hn hf;obtain ⟨f,rfl⟩:∃g,f=g+1:=⟨f-1,by simp at hf;omega⟩;rw[d0o,decide_eq_true (idx hl hi hn),tft,b0o hl hi,obs];rw[show (decide ((1:Int)=0))=false from rfl,tff,show (decide ((1:Int)=1))=true from rfl,tft];simp only[tfd,if_neg (show ¬(c.2.1.2.1=0) by omega),hq,idxw hl hi (show l.length≤1000000000000 by omega)];have ih':=ih (pre++[x]) f (ix+1) len (idxl hl) (idxs hi) hn (by simp at hf;omega);by_cases h1:at_≤x.1
  ·rw[if_pos h1];exact ⟨fun k=>by have:=k x (by simp);omega,fun _=>rfl⟩
  ·rw[if_neg h1];exact ⟨fun k=>ih'.1 fun y hy=>k y (by simp[hy]),fun k=>ih'.2 fun q=>k fun y hy=>by
    rcases List.mem_cons.1 hy with rfl | hy
    ·omega
    ·exact q y hy⟩
theorem f2o (n:Nat) (c:Conf) (s:Ser) (at_:Int) (hw:1≤c.2.1.2.2) (hq:IntKind.wrap .i64 (Int.tdiv s.2.1 c.2.1.2.2)=at_) (l:List Slo) (hL:l.length≤1000000):∀(rest pre:List Slo) (f:Nat) (ix len:Int),l=pre++rest→ix=pre.length→len=l.length→rest.length<f →
  ((∀x∈rest,x.1<at_)→b0t n f (c,s,(2:Int),l,len,ix,())=some (.inl (c,s,(2:Int),())))∧(¬(∀x∈rest,x.1<at_)→b0t n f (c,s,(2:Int),l,len,ix,())=some (.inr 2)):=by
 intro rest;induction rest with
 | nil =>
  intro pre f ix len hl hi hn hf;obtain ⟨f,rfl⟩:∃g,f=g+1:=⟨f-1,by simp at hf;omega⟩;rw[d0o];exact ⟨fun _=>by simp only[tfd,if_neg (idxe hl hi hn)],fun k=>absurd (by simp) k⟩
 | cons x rest ih =>
  intro pre f ix len hl hi hn hf;obtain ⟨f,rfl⟩:∃g,f=g+1:=⟨f-1,by simp at hf;omega⟩;rw[d0o,decide_eq_true (idx hl hi hn),tft,b0o hl hi,obs];rw[show (decide ((2:Int)=0))=false from rfl,tff,show (decide ((2:Int)=1))=false from rfl,tff,show (decide ((2:Int)=2))=true from rfl,tft];simp only[tfd,if_neg (show ¬(c.2.1.2.2=0) by omega),hq,idxw hl hi (show l.length≤1000000000000 by omega)];have ih':=ih (pre++[x]) f (ix+1) len (idxl hl) (idxs hi) hn (by simp at hf;omega);by_cases h1:at_≤x.1
  ·rw[if_pos h1];exact ⟨fun k=>by have:=k x (by simp);omega,fun _=>rfl⟩
  ·rw[if_neg h1];exact ⟨fun k=>ih'.1 fun y hy=>k y (by simp[hy]),fun k=>ih'.2 fun q=>k fun y hy=>by
    rcases List.mem_cons.1 hy with rfl | hy
    ·omega
    ·exact q y hy⟩
theorem f2s (n f:Nat) (c:Conf) (s:Ser):e0g n (f+1) (c,s,(3:Int),())=some (.inl ()):=by
 rw[g0h,show (decide ((3:Int)<3))=false from rfl,tff]
theorem r15_l16 (n f:Nat) (c:Conf) {s:Ser} (h:FoldOk c s.2.2.2.1) {e:Ev} (he:EvOk e) (hes:e.1=s.2.1):e0g (n+1) (f+4) (c,s,(0:Int),()) =
  some (if a0y s.2.2.2.1.1 (s.2.1 / c.2.1.1)∧a0y s.2.2.2.1.2.1 (s.2.1 / c.2.1.2.1)∧a0y s.2.2.2.1.2.2 (s.2.1 / c.2.1.2.2) then .inl () else .inr 2):=by
 have n0:=g0z h.t0 (s.2.1 / c.2.1.1);have n1:=g0z h.t1 (s.2.1 / c.2.1.2.1);have n2:=g0z h.t2 (s.2.1 / c.2.1.2.2);have hg:=h.cok.rng;have q0:=k1w he hg.w0.1;have q1:=k1w he hg.w1.1;have q2:=k1w he hg.w2.1;rw[hes] at q0 q1 q2;obtain ⟨l0,l1,l2⟩:=h.lens;have t0:=s0a (l:=s.2.2.2.1.1);have t1:=s0a (l:=s.2.2.2.1.2.1);have t2:=s0a (l:=s.2.2.2.1.2.2);have k0:=f2r (n+1) c s _ hg.w0.1 q0 (tall s.2.2.2.1.1) (by omega) (tall s.2.2.2.1.1) [] a0c 0 ((tall s.2.2.2.1.1).length:Int) rfl rfl rfl (by unfold a0c;omega)
 have k1:=f2p (n+1) c s _ hg.w1.1 q1 (tall s.2.2.2.1.2.1) (by omega) (tall s.2.2.2.1.2.1) [] a0c 0 ((tall s.2.2.2.1.2.1).length:Int) rfl rfl rfl (by unfold a0c;omega);have k2:=f2o (n+1) c s _ hg.w2.1 q2 (tall s.2.2.2.1.2.2) (by omega) (tall s.2.2.2.1.2.2) [] a0c 0 ((tall s.2.2.2.1.2.2).length:Int) rfl rfl rfl (by unfold a0c;omega);rw[←n0] at k0;rw[←n1] at k1;rw[←n2] at k2;rw[g0h,show (decide ((0:Int)<3))=true from rfl,tft,show (decide ((0:Int)=0))=true from rfl,tft,t0x n h.t0,obs];by_cases c0:a0y s.2.2.2.1.1 (s.2.1 / c.2.1.1)
 case neg=>rw[k0.2 c0,if_neg (fun k=>c0 k.1)];rfl
 rw[k0.1 c0];simp only[obs,a0v];rw[show IntKind.wrap .i64 ((0:Int)+1)=1 from rfl,g0h,show (decide ((1:Int)<3))=true from rfl,tft,show (decide ((1:Int)=0))=false from rfl,tff,show (decide ((1:Int)=1))=true from rfl,tft,t0x n h.t1,obs];by_cases c1:a0y s.2.2.2.1.2.1 (s.2.1 / c.2.1.2.1)
 case neg=>rw[k1.2 c1,if_neg (fun k=>c1 k.2.1)];rfl
 rw[k1.1 c1];simp only[obs,a0v];rw[show IntKind.wrap .i64 ((1:Int)+1)=2 from rfl,g0h,show (decide ((2:Int)<3))=true from rfl,tft,show (decide ((2:Int)=0))=false from rfl,tff,show (decide ((2:Int)=1))=false from rfl,tff,show (decide ((2:Int)=2))=true from rfl,tft,t0x n h.t2,obs];by_cases c2:a0y s.2.2.2.1.2.2 (s.2.1 / c.2.1.2.2)
 case neg=>rw[k2.2 c2,if_neg (fun k=>c2 k.2.2)];rfl
 rw[k2.1 c2];simp only[obs,a0v];rw[show IntKind.wrap .i64 ((2:Int)+1)=3 from rfl,f2s,if_pos ⟨c0,c1,c2⟩]
theorem r1f (n:Nat) (c:Conf) {s:Ser} (hw:SerW s):c1c (n+8) c s=some (if SerOk c s then 0 else 2):=by
 rw[r1g,q0x (n+4),f2x (n+5),f2u (n+5) _ _ hw.raw,f2t n c hw.trs];simp only[obs,tfn,tfd,q1s];by_cases h0:OkC c
 case neg=>rw[if_neg (mt (z02 _).1 h0),if_neg (fun k:SerOk c s=>h0 k.fold.cok)]
 by_cases h2:LabOk s.1
 case neg=>rw[if_pos ((z02 _).2 h0),if_neg (mt (z08 _).1 h2),if_neg (fun k:SerOk c s=>h2 k.lab)]
 by_cases h3:RawOk s.2.2.1 c.1
 case neg=>rw[if_pos ((z02 _).2 h0),if_pos ((z08 _).2 h2),if_neg (mt (z02 _).1 h3),if_neg (fun k:SerOk c s=>h3 k.raw)]
 by_cases h1:FoldOk c s.2.2.2.1
 case neg=>rw[if_pos ((z02 _).2 h0),if_pos ((z08 _).2 h2),if_pos ((z02 _).2 h3),if_neg (mt (z02 _).1 h1),if_neg (fun k:SerOk c s=>h1 k.fold)]
 have hlen:=h3.len;have hm1:=h3.m1;rw[if_pos ((z02 _).2 h0),if_pos ((z08 _).2 h2),if_pos ((z02 _).2 h3),if_pos ((z02 _).2 h1),show a0c=(2^70-4)+4 from by decide,r15_l7 (n+6) _ c h1,r12_last _ _ (by omega),y1l (n+2) hw.opn.c];by_cases h4:s.2.1 = -1
 ·rw[if_pos h4];by_cases h5:(0:Int)<s.2.2.1.2.2.length
  ·rw[if_pos h5,if_neg (fun k:SerOk c s=>by
    rcases k.st with q | q
    ·rw[q.2.raw] at h5;simp at h5
    ·exact q.1 h4)]
  rw[if_neg h5];by_cases h6:s.2.2.2.2=s0
  case neg=>rw[if_neg h6,if_neg (fun k:SerOk c s=>by
    rcases k.st with q | q
    ·exact h6 q.2.opn
    ·exact q.1 h4)]
  rw[if_pos h6,obs];by_cases h7:a0y s.2.2.2.1.1 0∧a0y s.2.2.2.1.2.1 0∧a0y s.2.2.2.1.2.2 0
  ·rw[if_pos h7,if_pos (⟨h1,h2,h3,.inl ⟨h4,⟨List.length_eq_zero_iff.1 (by omega),h6,h7.1,h7.2.1,h7.2.2⟩⟩⟩:SerOk c s)];rfl
  ·rw[if_neg h7,if_neg (fun k:SerOk c s=>by
    rcases k.st with q | q
    ·exact h7 ⟨q.2.b0,q.2.b1,q.2.b2⟩
    ·exact q.1 h4)];rfl
 ·rw[if_neg h4];have no:∀ {p:Prop},(EndsP c s→p)→¬p→(if SerOk c s then (0:Int) else 2)=2:=fun hp hn=>if_neg (fun k:SerOk c s=>by
   rcases k.st with q | q
   ·exact h4 q.1
   ·exact hn (hp q.2))
  cases hl:s.2.2.1.2.2.getLast? with
  | none =>
   simp only[obs];rw[if_neg (by decide),no (fun k=>k.last) (fun ⟨e,he,_⟩=>by rw[hl] at he;cases he)]
  | some e =>
   have heo:=x1f h3 hl;simp only[obs,if_true,tfd];by_cases h5:e.1=s.2.1
   case neg=>rw[if_neg h5,no (fun k=>k.last) (fun ⟨e',he,hq⟩=>by rw[hl] at he;injection he with he;subst he;exact h5 hq)]
   rw[if_pos h5];by_cases h6:FitsP s.2.2.2.2.2 c.2.1.1 s.2.2.2.2.1
   case neg=>rw[if_neg h6,no (fun k=>k.fit) h6]
   rw[if_pos h6];by_cases h7:s.2.2.2.2.2.2.2.1.1=s.2.1
   case neg=>rw[if_neg h7,no (fun k=>k.ol) h7]
   rw[if_pos h7,r15_l16 (n+6) _ c h1 heo h5,obs];by_cases h8:a0y s.2.2.2.1.1 (s.2.1 / c.2.1.1)∧a0y s.2.2.2.1.2.1 (s.2.1 / c.2.1.2.1)∧a0y s.2.2.2.1.2.2 (s.2.1 / c.2.1.2.2)
   ·rw[if_pos h8,if_pos (⟨h1,h2,h3,.inr ⟨h4,⟨⟨e,hl,h5⟩,h7,h6,h8.1,h8.2.1,h8.2.2⟩⟩⟩:SerOk c s)];rfl
   ·rw[if_neg h8,no (fun k=>And.intro k.b0 (And.intro k.b1 k.b2)) h8];rfl
theorem nn {α:Type} {a b:α} (h:a=b):¬(a≠b):=fun k=>k h
def ser0:Ser:=([],(0,(r0w,(([],([],[])),s0))))
end Go.Proofs.YtgkpkajaepphjaaGreatDoor

namespace Go.Plim
set_option linter.unusedVariables false
def below (w:Int) (l:List Ev) (t:Int):List Ev:=l.filter fun e=>decide (e.1 / w<t / w)
structure EndsAt (l:List Ev) (t:Int):Prop where
 foll:Foll l
 le:∀e∈l,e.1≤t
 last:∃e∈l,e.1=t
theorem edvm {t a b:Int} (ha:1≤a) (hb:1≤b) (hm:b % a=0):t / a*a / b=t / b∧t / a / (b / a)=t / b:=by
 have e:a*(b / a)=b:=by have:=Int.mul_ediv_add_emod b a;omega
 have h1:t / a / (b / a)=t / b:=by rw[Int.ediv_ediv_of_nonneg (by omega),e]
 refine ⟨?_,h1⟩;rw[←h1]
 conv=>lhs;rw[←e,Int.mul_comm (t / a) a]
 exact Int.mul_ediv_mul_of_pos _ _ (by omega)
end Go.Plim
namespace Go.Proofs.YtgkpkajaepphjaaGreatDoor
open Go.Flat Go.Plim
structure FInv (c:Conf) (s:Trs) (l:List Ev) (t:Int):Prop where
 ok:FoldOk c s
 i0:TierInv s.1 c.2.1.1 (below c.2.1.1 l t)
 i1:TierInv s.2.1 c.2.1.2.1 (below c.2.1.2.1 l t)
 i2:TierInv s.2.2 c.2.1.2.2 (below c.2.1.2.2 l t)
end Go.Proofs.YtgkpkajaepphjaaGreatDoor
namespace Go.Proofs.YtgkpkajaepphjaaGreatDoor
open Go.Flat Go.Plim
set_option linter.unusedVariables false
set_option linter.unusedSimpArgs false
theorem allE_up {w:Int}:∀(L:List Slo) (c:Cel) (lo:Int),Up L→(∀s∈L,FitsP s.2 w s.1∧lo≤s.1)→b0f c→(c=z0∨c.2.2.1.1 / w<lo)→(allE c (L.map (·.2))).2=0:=by
 intro L;induction L with
 | nil=>intro c lo _ _ _ _;rfl
 | cons s L ih =>
  intro c lo hu hs hc hl;unfold Up at hu;rw[List.pairwise_cons] at hu;obtain ⟨hf,h1⟩:=hs s (by simp);have ha:Ahead c s.2:=by
   rcases hl with h | h
   ·exact .inl h
   ·refine .inr (.inr ?_);have e:=hf.f;rcases Int.lt_or_le c.2.2.1.1 s.2.2.1.1 with q | q
    ·exact q
    ·have:=Int.ediv_le_ediv (c:=w) (by have:=hf.w0;omega) q;omega
  have em:mrgE c s.2=(mrg c s.2,0):=by unfold mrgE;rw[if_pos (And.intro hc hf.n.ok),if_pos ha]
  simp only[List.map_cons,allE];rw[em,if_pos rfl];refine ih _ (s.1+1) hu.2 (fun x hx=>⟨(hs x (by simp[hx])).1,by have:=hu.1 x hx;omega⟩) (s1s hc hf.n.ok ha) (.inr ?_);have el:(mrg c s.2).2.2.1.1=s.2.2.2.1.1:=by
   unfold mrg;by_cases k:c=z0
   ·rw[if_pos k]
   ·rw[if_neg k,if_neg hf.n.ne]
  rw[el,hf.l];omega
theorem g0r {l:List Slo} {w i k:Int} (h:TierOk l w) (h0:0≤i) (hik:i≤k):(g0k l i k).2=0:=by
 unfold g0k;rw[if_neg (by omega)];unfold within;refine allE_up (w:=w) _ z0 0 ((l1y h).filter _) (fun s hs => ?_) r0k (.inl rfl);have:=(k0z h (List.mem_filter.1 hs).1).1;exact ⟨this,this.i0.1⟩
noncomputable def now1 (c:Conf) (s:Ser):Cel×Int:=mrgE (g0k s.2.2.2.1.1 (s.2.1 / c.2.1.2.1*(c.2.1.2.1 / c.2.1.1)) (s.2.1 / c.2.1.1)).1 s.2.2.2.2.2
noncomputable def now2 (c:Conf) (s:Ser):Cel×Int :=
 if (now1 c s).2≠0 then (z0,(now1 c s).2) else mrgE (g0k s.2.2.2.1.2.1 (s.2.1 / c.2.1.2.2*(c.2.1.2.2 / c.2.1.2.1)) (s.2.1 / c.2.1.2.1)).1 (now1 c s).1
theorem x0g (l:List Slo) (i k:Int):CelW (g0k l i k).1 := .of (u0x l i k)
theorem k1s {c:Conf} {s:Ser} (h:SerOk c s) (hn:¬(s.2.1 = -1)):EndsP c s∧∃e,EvOk e∧e.1=s.2.1:=by
 rcases h.st with q | q
 ·exact absurd q.1 hn
 ·obtain ⟨e,he,h1⟩:=q.2.last;exact ⟨q.2,e,x1f h.raw he,h1⟩
theorem y0b {a b t:Int} (ha:1≤a∧a≤1099511627776) (hb:1≤b∧b≤1099511627776) (hm:b % a=0) (ht:0≤t∧t<35184372088832) :
  0≤t / b*(b / a)∧t / b*(b / a)≤t / a∧t / a<35184372088832∧0≤t / a:=by
 have h1:=(edvm (t:=t) ha.1 hb.1 hm).2;have h2:0≤t / b:=Int.ediv_nonneg ht.1 (by omega);have h3:0≤b / a:=Int.ediv_nonneg (by omega) (by omega);have h4:0≤t / a:=Int.ediv_nonneg ht.1 (by omega);have h5:t / a≤t:=Int.ediv_le_self _ ht.1;refine ⟨Int.mul_nonneg h2 h3,?_,by omega,h4⟩;have h6:1≤b / a:=by
  have e:a*(b / a)=b:=by have:=Int.mul_ediv_add_emod b a;omega
  rcases Int.lt_or_le 0 (b / a) with q | q
  ·omega
  ·have:b / a=0:=by omega
   rw[this] at e;omega
 rw[←h1];exact Int.ediv_mul_le _ (by omega)
structure At (c:Conf) (s:Ser):Prop where
 l0:0≤s.2.1
 l1:s.2.1<35184372088832
theorem l0x {c:Conf} {s:Ser} (h:SerOk c s) (hn:¬(s.2.1 = -1)):0≤s.2.1∧s.2.1<35184372088832:=by
 obtain ⟨_,e,he,h1⟩:=k1s h hn;rw[←h1];exact ⟨he.t0,he.t1⟩
theorem n0q {t:Int} (ht:0≤t∧t<35184372088832) {w:Int} (hw:1≤w):IntKind.wrap .i64 (Int.tdiv t w)=t / w:=by
 have:0≤t / w:=Int.ediv_nonneg ht.1 (by omega);have:t / w≤t:=Int.ediv_le_self _ ht.1;rw[j0j ht.1,w64 (by omega) (by omega)]
theorem nz {w:Int} (h:1≤w):¬(w=0):=by omega
theorem t1e (n:Nat) (c:Conf) (s:Ser):l0c (n+1) (c,s) 0=some (s.2.2.2.2.2,0):=by rw[q1o]
theorem mrgE_nn (a b:Cel):0≤(mrgE a b).2:=by
 unfold mrgE;split
 ·split<;>simp
 ·simp
theorem t1c (n:Nat) (c:Conf) {s:Ser} (h:SerOk c s) (hw:SerW s) (hn:¬(s.2.1 = -1)):l0c (n+19) (c,s) 1=some (now1 c s):=by
 have hr:=h.fold.cok.rng;have ht:=l0x h hn;obtain ⟨o1,o2,o3,o4⟩:=y0b hr.w0 hr.w1 h.fold.cok.m1 ht;rw[q1m];simp only[tfd,tfn,if_neg (nz hr.w0.1),if_neg (nz hr.w1.1),n0q ht hr.w0.1,n0q ht hr.w1.1,c1n hr.w1 hr.w0.1];rw[w64 (by omega) (by omega),q0e n h.fold.t0,t1e (n+17)];simp only[obs,g0r h.fold.t0 o1 o2,if_true,k0q (n+12) (x0g _ _ _) hw.opn.c];rfl
theorem now1_w (c:Conf) (s:Ser):CelW (now1 c s).1:=y1y _ _
theorem h2h (n:Nat) (c:Conf) {s:Ser} (h:SerOk c s) (hw:SerW s) (hn:¬(s.2.1 = -1)):l0c (n+20) (c,s) 2=some (now2 c s):=by
 have hr:=h.fold.cok.rng;have ht:=l0x h hn;obtain ⟨o1,o2,o3,o4⟩:=y0b hr.w1 hr.w2 h.fold.cok.m2 ht;rw[q1l];simp only[tfd,tfn,if_neg (nz hr.w1.1),if_neg (nz hr.w2.1),n0q ht hr.w1.1,n0q ht hr.w2.1,c1n hr.w2 hr.w1.1];rw[w64 (by omega) (by omega),q0e (n+1) h.fold.t1,t1c n c h hw hn];simp only[obs,g0r h.fold.t1 o1 o2,if_true,k0q (n+13) (x0g _ _ _) (now1_w c s)];unfold now2;by_cases k:(now1 c s).2=0
 ·rw[if_pos k,if_neg (nn k)]
 ·have:0≤(now1 c s).2:=mrgE_nn _ _;rw[if_neg k,if_pos k,if_pos (by omega)];rfl
theorem one0 (n:Nat) (c:Conf) {s:Ser} (h:SerOk c s) (hn:¬(s.2.1 = -1)) (i:Int) (hi:0≤i):x0u (n+3) c s 0 i=some (if s.2.1 / c.2.1.1<i then (z0,0) else if i<s.2.1 / c.2.1.1 then (tget s.2.2.2.1.1 i,0) else (s.2.2.2.2.2,0)):=by
 have hr:=h.fold.cok.rng;have ht:=l0x h hn;rw[z0g];simp only[tfd,if_neg hn,if_neg (nz hr.w0.1),n0q ht hr.w0.1,v1y n h.fold.t0.l0,obs];split
 ·rfl
 ·split<;>rfl
theorem one1 (n:Nat) (c:Conf) {s:Ser} (h:SerOk c s) (hw:SerW s) (hn:¬(s.2.1 = -1)) (i:Int) (hi:0≤i):x0u (n+8) c s 1 i=some (if s.2.1 / c.2.1.2.1<i then (z0,0) else if i<s.2.1 / c.2.1.2.1 then (tget s.2.2.2.1.2.1 i,0) else now1 c s):=by
 have hr:=h.fold.cok.rng;have ht:=l0x h hn;obtain ⟨o1,o2,o3,o4⟩:=y0b hr.w0 hr.w1 h.fold.cok.m1 ht;rw[z0f];simp only[tfd,tfn,if_neg hn,if_neg (nz hr.w0.1),if_neg (nz hr.w1.1),n0q ht hr.w0.1,n0q ht hr.w1.1,v1y (n+5) h.fold.t1.l0,obs];by_cases k1:s.2.1 / c.2.1.2.1<i
 ·rw[if_pos k1,if_pos k1];rfl
 rw[if_neg k1,if_neg k1];by_cases k2:i<s.2.1 / c.2.1.2.1
 ·rw[if_pos k2,if_pos k2]
 rw[if_neg k2,if_neg k2];have e:i=s.2.1 / c.2.1.2.1:=by omega
 subst e;rw[w1g (n+3) h.fold.cok];simp only[obs];rw[w64 (by omega) (by omega),r13_fold n h.fold.t0];simp only[obs,g0r h.fold.t0 o1 o2,if_true];rw[one0 (n+4) c h hn _ o4,if_neg (by omega),if_neg (by omega)];simp only[obs,if_true,r1q (n+2) (x0g _ _ _) hw.opn.c];rfl
noncomputable def cellV (ok:Prop) [Decidable ok] (i last w:Int) (t:List Slo) (now:Cel×Int):Cel×Int :=
 if ok then (if i<0 then (z0,1) else if last = -1 then (z0,0) else if last / w<i then (z0,0) else if i=last / w then now else (tget t i,0)) else (z0,2)
noncomputable def d0r (ok:Prop) [Decidable ok] (i j last w:Int) (t:List Slo) (now:Cel×Int):Cel×Int :=
 if ok then (if i<0 then (z0,1) else if j<i then (z0,1) else if last = -1 then (z0,0) else if last / w<i then g0k t i j else if j≤last / w then g0k t i j else if now.2≠0 then (z0,now.2) else mrgE (g0k t i j).1 now.1) else (z0,2)
theorem now2_w (c:Conf) (s:Ser):CelW (now2 c s).1:=by
 unfold now2;split
 ·exact u0k
 ·exact y1y _ _
theorem r15_cell0 (n:Nat) (c:Conf) {s:Ser} (hw:SerW s) (i:Int):m1z (n+10) c s 0 i=some (cellV (SerOk c s) i s.2.1 c.2.1.1 s.2.2.2.1.1 (s.2.2.2.2.2,0)):=by
 rw[c1d,r1f (n+1) c hw];unfold cellV;by_cases h:SerOk c s
 case neg=>rw[if_neg h,if_neg h];rfl
 rw[if_pos h,if_pos h];simp only[obs,decide_true,Bool.not_true,tff,tfd,if_neg (show ¬((0:Int)<0) by omega),if_neg (show ¬((2:Int)<0) by omega)];by_cases h1:i<0
 ·rw[if_pos h1,if_pos h1];rfl
 rw[if_neg h1,if_neg h1];by_cases hn:s.2.1 = -1
 ·rw[if_pos hn,z0g,hn];rfl
 rw[if_neg hn,one0 (n+6) c h hn i (by omega)];by_cases h2:s.2.1 / c.2.1.1<i
 ·rw[if_pos h2,if_pos h2];rfl
 rw[if_neg h2,if_neg h2];by_cases h3:i=s.2.1 / c.2.1.1
 ·rw[if_pos h3,if_neg (by omega)];rfl
 rw[if_neg h3,if_pos (by omega)];rfl
theorem d2e (n:Nat) (c:Conf) {s:Ser} (h:SerOk c s) (hw:SerW s) {i j:Int} (h0:¬i<0) (hij:¬j<i):o0p (n+21) (c,s) 0 i j=some (d0r (SerOk c s) i j s.2.1 c.2.1.1 s.2.2.2.1.1 (s.2.2.2.2.2,0)):=by
 rw[m1d];unfold d0r;rw[if_pos h,if_neg h0,if_neg hij];simp only[tfd,tfn];by_cases hn:s.2.1 = -1
 ·rw[if_pos hn,if_pos hn];rfl
 have hr:=h.fold.cok.rng;have ht:=l0x h hn;rw[if_neg hn,if_neg hn,if_neg (nz hr.w0.1),n0q ht hr.w0.1,q0e (n+2) h.fold.t0];simp only[obs,g0r h.fold.t0 (show 0≤i by omega) (show i≤j by omega),if_true];by_cases h2:s.2.1 / c.2.1.1<i
 ·rw[if_pos h2,if_pos h2]
 rw[if_neg h2,if_neg h2];by_cases h3:j≤s.2.1 / c.2.1.1
 ·rw[if_pos h3,if_pos h3]
 rw[if_neg h3,if_neg h3,t1e (n+19) c s];simp only[obs,k0q (n+14) (x0g _ _ _) hw.opn.c];rw[if_pos trivial,if_neg (nn rfl)]
theorem m1l (n:Nat) (c:Conf) {s:Ser} (hw:SerW s) (i j:Int):c0l (n+22) c s 0 i j=some (d0r (SerOk c s) i j s.2.1 c.2.1.1 s.2.2.2.1.1 (s.2.2.2.2.2,0)):=by
 rw[l0h,h0o (n+11) c hw];by_cases h:SerOk c s
 case neg=>unfold d0r;rw[if_neg h,if_neg h];rfl
 rw[if_pos h];simp only[obs,y0e,decide_true,Bool.not_true,tff,tfd,if_neg (show ¬((0:Int)<0) by omega),if_neg (show ¬((3:Int)≤0) by omega)];by_cases h1:i<0
 ·unfold d0r;rw[if_pos h1,if_pos h,if_pos h1];rfl
 by_cases h2:j<i
 ·unfold d0r;rw[if_neg h1,if_pos h2,if_pos h,if_neg h1,if_pos h2];rfl
 rw[if_neg h1,if_neg h2,d2e n c h hw h1 h2];rfl
theorem r15_cell1 (n:Nat) (c:Conf) {s:Ser} (hw:SerW s) (i:Int):m1z (n+10) c s 1 i=some (cellV (SerOk c s) i s.2.1 c.2.1.2.1 s.2.2.2.1.2.1 (now1 c s)):=by
 rw[c1d,r1f (n+1) c hw];unfold cellV;by_cases h:SerOk c s
 case neg=>rw[if_neg h,if_neg h];rfl
 rw[if_pos h,if_pos h];simp only[obs,decide_true,Bool.not_true,tff,tfd,if_neg (show ¬((1:Int)<0) by omega),if_neg (show ¬((2:Int)<1) by omega)];by_cases h1:i<0
 ·rw[if_pos h1,if_pos h1];rfl
 rw[if_neg h1,if_neg h1];by_cases hn:s.2.1 = -1
 ·rw[if_pos hn,z0f,hn];rfl
 rw[if_neg hn,one1 (n+1) c h hw hn i (by omega)];by_cases h2:s.2.1 / c.2.1.2.1<i
 ·rw[if_pos h2,if_pos h2];rfl
 rw[if_neg h2,if_neg h2];by_cases h3:i=s.2.1 / c.2.1.2.1
 ·rw[if_pos h3,if_neg (by omega)];rfl
 rw[if_neg h3,if_pos (by omega)];rfl
theorem d2d (n:Nat) (c:Conf) {s:Ser} (h:SerOk c s) (hw:SerW s) {i j:Int} (h0:¬i<0) (hij:¬j<i):o0p (n+21) (c,s) 1 i j=some (d0r (SerOk c s) i j s.2.1 c.2.1.2.1 s.2.2.2.1.2.1 (now1 c s)):=by
 rw[m1c];unfold d0r;rw[if_pos h,if_neg h0,if_neg hij];simp only[tfd,tfn];by_cases hn:s.2.1 = -1
 ·rw[if_pos hn,if_pos hn];rfl
 have hr:=h.fold.cok.rng;have ht:=l0x h hn;rw[if_neg hn,if_neg hn,if_neg (nz hr.w1.1),n0q ht hr.w1.1,q0e (n+2) h.fold.t1];simp only[obs,g0r h.fold.t1 (show 0≤i by omega) (show i≤j by omega),if_true];by_cases h2:s.2.1 / c.2.1.2.1<i
 ·rw[if_pos h2,if_pos h2]
 rw[if_neg h2,if_neg h2];by_cases h3:j≤s.2.1 / c.2.1.2.1
 ·rw[if_pos h3,if_pos h3]
 rw[if_neg h3,if_neg h3,t1c (n+1) c h hw hn];simp only[obs,k0q (n+14) (x0g _ _ _) (now1_w c s)];by_cases h4:(now1 c s).2=0
 ·rw[if_pos h4,if_neg (nn h4)]
 ·rw[if_neg h4,if_pos h4];rfl
theorem m1k (n:Nat) (c:Conf) {s:Ser} (hw:SerW s) (i j:Int):c0l (n+22) c s 1 i j=some (d0r (SerOk c s) i j s.2.1 c.2.1.2.1 s.2.2.2.1.2.1 (now1 c s)):=by
 rw[l0h,h0o (n+11) c hw];by_cases h:SerOk c s
 case neg=>unfold d0r;rw[if_neg h,if_neg h];rfl
 rw[if_pos h];simp only[obs,y0e,decide_true,Bool.not_true,tff,tfd,if_neg (show ¬((1:Int)<0) by omega),if_neg (show ¬((3:Int)≤1) by omega)];by_cases h1:i<0
 ·unfold d0r;rw[if_pos h1,if_pos h,if_pos h1];rfl
 by_cases h2:j<i
 ·unfold d0r;rw[if_neg h1,if_pos h2,if_pos h,if_neg h1,if_pos h2];rfl
 rw[if_neg h1,if_neg h2,d2d n c h hw h1 h2];rfl
theorem d2c (n:Nat) (c:Conf) {s:Ser} (h:SerOk c s) (hw:SerW s) {i j:Int} (h0:¬i<0) (hij:¬j<i):o0p (n+21) (c,s) 2 i j=some (d0r (SerOk c s) i j s.2.1 c.2.1.2.2 s.2.2.2.1.2.2 (now2 c s)):=by
 rw[m1b];unfold d0r;rw[if_pos h,if_neg h0,if_neg hij];simp only[tfd,tfn];by_cases hn:s.2.1 = -1
 ·rw[if_pos hn,if_pos hn];rfl
 have hr:=h.fold.cok.rng;have ht:=l0x h hn;rw[if_neg hn,if_neg hn,if_neg (nz hr.w2.1),n0q ht hr.w2.1,q0e (n+2) h.fold.t2];simp only[obs,g0r h.fold.t2 (show 0≤i by omega) (show i≤j by omega),if_true];by_cases h2:s.2.1 / c.2.1.2.2<i
 ·rw[if_pos h2,if_pos h2]
 rw[if_neg h2,if_neg h2];by_cases h3:j≤s.2.1 / c.2.1.2.2
 ·rw[if_pos h3,if_pos h3]
 rw[if_neg h3,if_neg h3,h2h n c h hw hn];simp only[obs,k0q (n+14) (x0g _ _ _) (now2_w c s)];by_cases h4:(now2 c s).2=0
 ·rw[if_pos h4,if_neg (nn h4)]
 ·rw[if_neg h4,if_pos h4];rfl
theorem m1j (n:Nat) (c:Conf) {s:Ser} (hw:SerW s) (i j:Int):c0l (n+22) c s 2 i j=some (d0r (SerOk c s) i j s.2.1 c.2.1.2.2 s.2.2.2.1.2.2 (now2 c s)):=by
 rw[l0h,h0o (n+11) c hw];by_cases h:SerOk c s
 case neg=>unfold d0r;rw[if_neg h,if_neg h];rfl
 rw[if_pos h];simp only[obs,y0e,decide_true,Bool.not_true,tff,tfd,if_neg (show ¬((2:Int)<0) by omega),if_neg (show ¬((3:Int)≤2) by omega)];by_cases h1:i<0
 ·unfold d0r;rw[if_pos h1,if_pos h,if_pos h1];rfl
 by_cases h2:j<i
 ·unfold d0r;rw[if_neg h1,if_pos h2,if_pos h,if_neg h1,if_pos h2];rfl
 rw[if_neg h1,if_neg h2,d2c n c h hw h1 h2];rfl
theorem b2e (n f:Nat) (s:Trs):d0t n (f+1) (s,(3:Int),())=some (.inl ()):=by
 rw[h0w,show (decide ((3:Int)<3))=false from rfl,tff]
theorem b2f (n f:Nat) (s:Trs):d0t n (f+2) (s,(2:Int),())=some (if (40:Int)<s.2.2.length then .inr 0 else .inl ()):=by
 rw[h0w,show (decide ((2:Int)<3))=true from rfl,tft,show (decide ((2:Int)=0))=false from rfl,tff,show (decide ((2:Int)=1))=false from rfl,tff,show (decide ((2:Int)=2))=true from rfl,tft];rw[show IntKind.wrap .i64 ((2:Int)+1)=3 from rfl,b2e];simp only[tfd];split<;>rfl
theorem b2g (n f:Nat) (s:Trs):d0t n (f+3) (s,(1:Int),())=some (if (40:Int)<s.2.1.length∨(40:Int)<s.2.2.length then .inr 0 else .inl ()):=by
 rw[h0w,show (decide ((1:Int)<3))=true from rfl,tft,show (decide ((1:Int)=0))=false from rfl,tff,show (decide ((1:Int)=1))=true from rfl,tft];rw[show IntKind.wrap .i64 ((1:Int)+1)=2 from rfl,b2f];simp only[tfd];by_cases h:(40:Int)<s.2.1.length
 ·rw[if_pos h,if_pos (.inl h)]
 ·rw[if_neg h];by_cases h':(40:Int)<s.2.2.length
  ·rw[if_pos h',if_pos (.inr h')]
  ·rw[if_neg h',if_neg (fun k=>k.elim h h')]
theorem b2h (n f:Nat) (s:Trs):d0t n (f+4) (s,(0:Int),())=some (if (40:Int)<s.1.length∨(40:Int)<s.2.1.length∨(40:Int)<s.2.2.length then .inr 0 else .inl ()):=by
 rw[h0w,show (decide ((0:Int)<3))=true from rfl,tft,show (decide ((0:Int)=0))=true from rfl,tft];rw[show IntKind.wrap .i64 ((0:Int)+1)=1 from rfl,b2g];simp only[tfd];by_cases h:(40:Int)<s.1.length
 ·rw[if_pos h,if_pos (.inl h)]
 ·rw[if_neg h];by_cases h':(40:Int)<s.2.1.length∨(40:Int)<s.2.2.length
  ·rw[if_pos h',if_pos (.inr h')]
  ·rw[if_neg h',if_neg (fun k=>k.elim h h')]
def y0y (s:Trs):Prop:=s.1.length≤40∧s.2.1.length≤40∧s.2.2.length≤40
instance (s:Trs):Decidable (y0y s):=by unfold y0y;infer_instance
theorem h2d (n:Nat) (s:Trs):d1v (n+1) s=some (if y0y s then 1 else 0):=by
 rw[t1a,show a0c=(2^70-4)+4 from by decide,b2h];by_cases h:y0y s
 ·rw[if_pos h,if_neg (by unfold y0y at h;omega)];rfl
 ·rw[if_neg h,if_pos (by unfold y0y at h;omega)];rfl
theorem r05_same_l (n:Nat) (l:List Lab) (hL:l.length≤1000000):∀(rest pre:List Lab) (f:Nat) (ix len:Int),l=pre++rest→ix=pre.length→len=l.length→rest.length<f→l0m n f (l,l,len,ix,())=some (.inl ()):=by
 intro rest;induction rest with
 | nil =>
  intro pre f ix len hl hi hn hf;obtain ⟨f,rfl⟩:∃g,f=g+1:=⟨f-1,by simp at hf;omega⟩;rw[i0v];simp only[tfd,if_neg (idxe hl hi hn)]
 | cons x rest ih =>
  intro pre f ix len hl hi hn hf;obtain ⟨f,rfl⟩:∃g,f=g+1:=⟨f-1,by simp at hf;omega⟩;rw[i0v];simp only[tfd,if_pos (idx hl hi hn),b0o hl hi,obs,labEq,decide_true,Bool.not_true,tff,idxw hl hi (by omega)];exact ih (pre++[x]) f (ix+1) len (idxl hl) (idxs hi) hn (by simp at hf;omega)
structure SerL (s:Ser):Prop where
 l:s.1.length≤1000000
 r:s.2.2.1.2.2.length≤1000000
 a:s.2.2.2.1.1.length≤1000000
 b:s.2.2.2.1.2.1.length≤1000000
 d:s.2.2.2.1.2.2.length≤1000000
theorem q1u (n:Nat) (c:Conf) {s:Ser} (hw:SerW s):q0k (n+11) c s=some (if SerOk c s then 0 else 2):=by
 rw[b1s,h0o n c hw];by_cases h:SerOk c s
 ·rw[if_pos h,if_pos h];rfl
 ·rw[if_neg h,if_neg h];rfl
theorem f2c (n:Nat) (l:List Lab) (hL:l.length≤9223372036854775807):∀(rest pre:List Lab) (f:Nat) (ix len:Int),l=pre++rest→ix=pre.length→len=l.length→rest.length<f →
  j0h n f (l,len,ix,())=some (.inl ())∨j0h n f (l,len,ix,())=some (.inr 0):=by
 intro rest;induction rest with
 | nil =>
  intro pre f ix len hl hi hn hf;obtain ⟨f,rfl⟩:∃g,f=g+1:=⟨f-1,by simp at hf;omega⟩;left;rw[r0q];simp only[tfd,if_neg (idxe hl hi hn)]
 | cons x rest ih =>
  intro pre f ix len hl hi hn hf;obtain ⟨f,rfl⟩:∃g,f=g+1:=⟨f-1,by simp at hf;omega⟩;have hlen:=congrArg List.length hl;simp at hlen;rw[r0q];simp only[tfd,if_pos (idx hl hi hn),b0o hl hi,obs];rw[w64 (x:=ix+1) (by omega) (by omega)];by_cases h1:ix=40
  ·right;rw[if_pos h1]
  rw[if_neg h1];by_cases h2:(1000:Int)<x.1.length
  ·right;rw[if_pos h2]
  rw[if_neg h2];by_cases h3:(1000:Int)<x.2.length
  ·right;rw[if_pos h3]
  rw[if_neg h3];exact ih (pre++[x]) f (ix+1) len (idxl hl) (idxs hi) hn (by simp at hf;omega)
theorem h2f (n:Nat) (l:List Lab) (hL:l.length≤9223372036854775807):w0t (n+1) l=some 0∨w0t (n+1) l=some 1:=by
 rw[t1b];rcases f2c n l hL l [] a0c 0 _ rfl rfl rfl (by unfold a0c;omega) with h | h
 ·right;rw[h];rfl
 ·left;rw[h];rfl
theorem h2c (n:Nat) (s:Ser) (hL:s.1.length≤9223372036854775807):w0s (n+2) s=some 0∨w0s (n+2) s=some 1:=by
 rw[s1z];rcases h2f n s.1 hL with h | h
 ·left;rw[h];rfl
 ·rw[h];simp only[obs,tfd,if_neg (show ¬((1:Int)=0) by omega)];by_cases h1:(60:Int)<s.2.2.1.2.2.length
  ·left;rw[if_pos h1]
  rw[if_neg h1,h2d];simp only[obs];split
  ·right;rfl
  ·left;rfl
theorem ser_wf {s:Ser} (h:Wf a0w s):SerW s:=by
 obtain ⟨h1,h2,h3,h4,h5⟩:=h;refine ⟨h2,?_,trs_wf h4,slo_wf h5⟩;intro e he;exact ev_wf (h3.2.2.2 e he)
theorem u0h (n:Nat) (a b:List Lab) (hL:a.length≤9223372036854775807):∀(ra rb pa pb:List Lab) (f:Nat) (ix len:Int),a=pa++ra→b=pb++rb→pa.length=pb.length→ra.length=rb.length→ix=pa.length→len=a.length→ra.length<f →
  f0n n f (a,b,len,ix,())=some (if ra=rb then .inl () else .inr false):=by
 intro ra;induction ra with
 | nil =>
  intro rb pa pb f ix len ha hb hp hr hi hn hf;obtain ⟨f,rfl⟩:∃g,f=g+1:=⟨f-1,by simp at hf;omega⟩;have e:rb=[]:=List.length_eq_zero_iff.1 (by simpa using hr.symm);subst e;rw[j0t,decide_eq_false (idxe ha hi hn),tff,if_pos rfl]
 | cons x ra ih =>
  intro rb pa pb f ix len ha hb hp hr hi hn hf;obtain ⟨f,rfl⟩:∃g,f=g+1:=⟨f-1,by simp at hf;omega⟩;cases rb with
  | nil=>simp at hr
  | cons y rb =>
   have hlen:=congrArg List.length ha;simp at hlen;rw[j0t,decide_eq_true (idx ha hi hn),tft,b0o ha hi,b0o hb (by omega)];simp only[obs,labEq];rw[w64 (x:=ix+1) (by omega) (by omega)];by_cases h:x=y
   ·subst h;simp only[decide_true,Bool.not_true,tff];rw[ih rb (pa++[x]) (pb++[x]) f (ix+1) len (idxl ha) (idxl hb) (by simp;omega) (by simpa using hr) (idxs hi) hn (by simp at hf;omega)];simp
   ·rw[if_neg (by simp[h])];simp only[decide_eq_false h,Bool.not_false,tft]
theorem o0c (n:Nat) (a b:List Lab) (hL:a.length≤9223372036854775807):m0o (n+1) a b=some (decide (a=b)):=by
 rw[x0m];by_cases h:a.length=b.length
 ·rw[decide_eq_true (show ((a.length:Nat):Int)=(b.length:Nat) by omega)];simp only[Bool.not_true,tff];rw[u0h n a b hL a b [] [] a0c 0 _ rfl rfl rfl h rfl rfl (by unfold a0c;omega)];by_cases h':a=b
  ·rw[if_pos h',decide_eq_true h'];rfl
  ·rw[if_neg h',decide_eq_false h'];rfl
 ·rw[decide_eq_false (show ¬((a.length:Nat):Int)=(b.length:Nat) by omega),decide_eq_false (fun k:a=b=>h (by rw[k]))];rfl
theorem u0i (n:Nat) (a b:List Ev) (hL:a.length≤9223372036854775807):∀(ra rb pa pb:List Ev) (f:Nat) (ix len:Int),a=pa++ra→b=pb++rb→pa.length=pb.length→ra.length=rb.length→ix=pa.length→len=a.length→ra.length<f →
  f0o n f (a,b,len,ix,())=some (if ra=rb then .inl () else .inr false):=by
 intro ra;induction ra with
 | nil =>
  intro rb pa pb f ix len ha hb hp hr hi hn hf;obtain ⟨f,rfl⟩:∃g,f=g+1:=⟨f-1,by simp at hf;omega⟩;have e:rb=[]:=List.length_eq_zero_iff.1 (by simpa using hr.symm);subst e;rw[j0u,decide_eq_false (idxe ha hi hn),tff,if_pos rfl]
 | cons x ra ih =>
  intro rb pa pb f ix len ha hb hp hr hi hn hf;obtain ⟨f,rfl⟩:∃g,f=g+1:=⟨f-1,by simp at hf;omega⟩;cases rb with
  | nil=>simp at hr
  | cons y rb =>
   have hlen:=congrArg List.length ha;simp at hlen;rw[j0u,decide_eq_true (idx ha hi hn),tft,b0o ha hi,b0o hb (by omega)];simp only[obs,evEq];rw[w64 (x:=ix+1) (by omega) (by omega)];by_cases h:x=y
   ·subst h;simp only[decide_true,Bool.not_true,tff];rw[ih rb (pa++[x]) (pb++[x]) f (ix+1) len (idxl ha) (idxl hb) (by simp;omega) (by simpa using hr) (idxs hi) hn (by simp at hf;omega)];simp
   ·rw[if_neg (by simp[h])];simp only[decide_eq_false h,Bool.not_false,tft]
theorem y0o (n:Nat) (a b:List Ev) (hL:a.length≤9223372036854775807):m0p (n+1) a b=some (decide (a=b)):=by
 rw[x0n];by_cases h:a.length=b.length
 ·rw[decide_eq_true (show ((a.length:Nat):Int)=(b.length:Nat) by omega)];simp only[Bool.not_true,tff];rw[u0i n a b hL a b [] [] a0c 0 _ rfl rfl rfl h rfl rfl (by unfold a0c;omega)];by_cases h':a=b
  ·rw[if_pos h',decide_eq_true h'];rfl
  ·rw[if_neg h',decide_eq_false h'];rfl
 ·rw[decide_eq_false (show ¬((a.length:Nat):Int)=(b.length:Nat) by omega),decide_eq_false (fun k:a=b=>h (by rw[k]))];rfl
theorem w0w (n:Nat) (a b:List Slo) (hL:a.length≤9223372036854775807):∀(ra rb pa pb:List Slo) (f:Nat) (ix len:Int),a=pa++ra→b=pb++rb→pa.length=pb.length→ra.length=rb.length→ix=pa.length→len=a.length→ra.length<f →
  g0g n f (a,b,len,ix,())=some (if ra=rb then .inl () else .inr false):=by
 intro ra;induction ra with
 | nil =>
  intro rb pa pb f ix len ha hb hp hr hi hn hf;obtain ⟨f,rfl⟩:∃g,f=g+1:=⟨f-1,by simp at hf;omega⟩;have e:rb=[]:=List.length_eq_zero_iff.1 (by simpa using hr.symm);subst e;rw[l0e,decide_eq_false (idxe ha hi hn),tff,if_pos rfl]
 | cons x ra ih =>
  intro rb pa pb f ix len ha hb hp hr hi hn hf;obtain ⟨f,rfl⟩:∃g,f=g+1:=⟨f-1,by simp at hf;omega⟩;cases rb with
  | nil=>simp at hr
  | cons y rb =>
   have hlen:=congrArg List.length ha;simp at hlen;rw[l0e,decide_eq_true (idx ha hi hn),tft,b0o ha hi,b0o hb (by omega)];simp only[obs,f2d];rw[w64 (x:=ix+1) (by omega) (by omega)];by_cases h:x=y
   ·subst h;simp only[decide_true,Bool.not_true,tff];rw[ih rb (pa++[x]) (pb++[x]) f (ix+1) len (idxl ha) (idxl hb) (by simp;omega) (by simpa using hr) (idxs hi) hn (by simp at hf;omega)];simp
   ·rw[if_neg (by simp[h])];simp only[decide_eq_false h,Bool.not_false,tft]
theorem j0m (n:Nat) (a b:List Slo) (hL:a.length≤9223372036854775807):h0g (n+1) a b=some (decide (a=b)):=by
 rw[z0v];by_cases h:a.length=b.length
 ·rw[decide_eq_true (show ((a.length:Nat):Int)=(b.length:Nat) by omega)];simp only[Bool.not_true,tff];rw[w0w n a b hL a b [] [] a0c 0 _ rfl rfl rfl h rfl rfl (by unfold a0c;omega)];by_cases h':a=b
  ·rw[if_pos h',decide_eq_true h'];rfl
  ·rw[if_neg h',decide_eq_false h'];rfl
 ·rw[decide_eq_false (show ¬((a.length:Nat):Int)=(b.length:Nat) by omega),decide_eq_false (fun k:a=b=>h (by rw[k]))];rfl
theorem o1w (n:Nat) (a b:List Lab) (hL:a.length≤9223372036854775807):∀(ra rb pa pb:List Lab) (f:Nat) (ix len:Int),a=pa++ra→b=pb++rb→pa.length=pb.length→ra.length=rb.length→ix=pa.length→len=a.length→ra.length<f →
  l0m n f (a,b,len,ix,())=some (if ra=rb then .inl () else .inr false):=by
 intro ra;induction ra with
 | nil =>
  intro rb pa pb f ix len ha hb hp hr hi hn hf;obtain ⟨f,rfl⟩:∃g,f=g+1:=⟨f-1,by simp at hf;omega⟩;have e:rb=[]:=List.length_eq_zero_iff.1 (by simpa using hr.symm);subst e;rw[i0v,decide_eq_false (idxe ha hi hn),tff,if_pos rfl]
 | cons x ra ih =>
  intro rb pa pb f ix len ha hb hp hr hi hn hf;obtain ⟨f,rfl⟩:∃g,f=g+1:=⟨f-1,by simp at hf;omega⟩;cases rb with
  | nil=>simp at hr
  | cons y rb =>
   have hlen:=congrArg List.length ha;simp at hlen;rw[i0v,decide_eq_true (idx ha hi hn),tft,b0o ha hi,b0o hb (by omega)];simp only[obs,labEq];rw[w64 (x:=ix+1) (by omega) (by omega)];by_cases h:x=y
   ·subst h;simp only[decide_true,Bool.not_true,tff];rw[ih rb (pa++[x]) (pb++[x]) f (ix+1) len (idxl ha) (idxl hb) (by simp;omega) (by simpa using hr) (idxs hi) hn (by simp at hf;omega)];simp
   ·rw[if_neg (by simp[h])];simp only[decide_eq_false h,Bool.not_false,tft]
theorem e1d (n:Nat) (a b:List Lab) (hL:a.length≤9223372036854775807):a1q (n+1) a b=some (decide (a=b)):=by
 rw[w1n];by_cases h:a.length=b.length
 ·rw[decide_eq_true (show ((a.length:Nat):Int)=(b.length:Nat) by omega)];simp only[Bool.not_true,tff];rw[o1w n a b hL a b [] [] a0c 0 _ rfl rfl rfl h rfl rfl (by unfold a0c;omega)];by_cases h':a=b
  ·rw[if_pos h',decide_eq_true h'];rfl
  ·rw[if_neg h',decide_eq_false h'];rfl
 ·rw[decide_eq_false (show ¬((a.length:Nat):Int)=(b.length:Nat) by omega),decide_eq_false (fun k:a=b=>h (by rw[k]))];rfl
theorem y0p (n:Nat) (a b:List Ev) (hL:a.length≤9223372036854775807):∀(ra rb pa pb:List Ev) (f:Nat) (ix len:Int),a=pa++ra→b=pb++rb→pa.length=pb.length→ra.length=rb.length→ix=pa.length→len=a.length→ra.length<f →
  h0q n f (a,b,len,ix,())=some (if ra=rb then .inl () else .inr false):=by
 intro ra;induction ra with
 | nil =>
  intro rb pa pb f ix len ha hb hp hr hi hn hf;obtain ⟨f,rfl⟩:∃g,f=g+1:=⟨f-1,by simp at hf;omega⟩;have e:rb=[]:=List.length_eq_zero_iff.1 (by simpa using hr.symm);subst e;rw[m0a,decide_eq_false (idxe ha hi hn),tff,if_pos rfl]
 | cons x ra ih =>
  intro rb pa pb f ix len ha hb hp hr hi hn hf;obtain ⟨f,rfl⟩:∃g,f=g+1:=⟨f-1,by simp at hf;omega⟩;cases rb with
  | nil=>simp at hr
  | cons y rb =>
   have hlen:=congrArg List.length ha;simp at hlen;rw[m0a,decide_eq_true (idx ha hi hn),tft,b0o ha hi,b0o hb (by omega)];simp only[obs,evEq];rw[w64 (x:=ix+1) (by omega) (by omega)];by_cases h:x=y
   ·subst h;simp only[decide_true,Bool.not_true,tff];rw[ih rb (pa++[x]) (pb++[x]) f (ix+1) len (idxl ha) (idxl hb) (by simp;omega) (by simpa using hr) (idxs hi) hn (by simp at hf;omega)];simp
   ·rw[if_neg (by simp[h])];simp only[decide_eq_false h,Bool.not_false,tft]
theorem e1c (n:Nat) (a b:List Ev) (hL:a.length≤9223372036854775807):q0u (n+1) a b=some (decide (a=b)):=by
 rw[c1h];by_cases h:a.length=b.length
 ·rw[decide_eq_true (show ((a.length:Nat):Int)=(b.length:Nat) by omega)];simp only[Bool.not_true,tff];rw[y0p n a b hL a b [] [] a0c 0 _ rfl rfl rfl h rfl rfl (by unfold a0c;omega)];by_cases h':a=b
  ·rw[if_pos h',decide_eq_true h'];rfl
  ·rw[if_neg h',decide_eq_false h'];rfl
 ·rw[decide_eq_false (show ¬((a.length:Nat):Int)=(b.length:Nat) by omega),decide_eq_false (fun k:a=b=>h (by rw[k]))];rfl
theorem o1v (n:Nat) (a b:List Slo) (hL:a.length≤9223372036854775807):∀(ra rb pa pb:List Slo) (f:Nat) (ix len:Int),a=pa++ra→b=pb++rb→pa.length=pb.length→ra.length=rb.length→ix=pa.length→len=a.length→ra.length<f →
  p0a n f (a,b,len,ix,())=some (if ra=rb then .inl () else .inr false):=by
 intro ra;induction ra with
 | nil =>
  intro rb pa pb f ix len ha hb hp hr hi hn hf;obtain ⟨f,rfl⟩:∃g,f=g+1:=⟨f-1,by simp at hf;omega⟩;have e:rb=[]:=List.length_eq_zero_iff.1 (by simpa using hr.symm);subst e;rw[t0g,decide_eq_false (idxe ha hi hn),tff,if_pos rfl]
 | cons x ra ih =>
  intro rb pa pb f ix len ha hb hp hr hi hn hf;obtain ⟨f,rfl⟩:∃g,f=g+1:=⟨f-1,by simp at hf;omega⟩;cases rb with
  | nil=>simp at hr
  | cons y rb =>
   have hlen:=congrArg List.length ha;simp at hlen;rw[t0g,decide_eq_true (idx ha hi hn),tft,b0o ha hi,b0o hb (by omega)];simp only[obs,f2d];rw[w64 (x:=ix+1) (by omega) (by omega)];by_cases h:x=y
   ·subst h;simp only[decide_true,Bool.not_true,tff];rw[ih rb (pa++[x]) (pb++[x]) f (ix+1) len (idxl ha) (idxl hb) (by simp;omega) (by simpa using hr) (idxs hi) hn (by simp at hf;omega)];simp
   ·rw[if_neg (by simp[h])];simp only[decide_eq_false h,Bool.not_false,tft]
theorem u0j (n:Nat) (a b:List Slo) (hL:a.length≤9223372036854775807):v0q (n+1) a b=some (decide (a=b)):=by
 rw[w1a];by_cases h:a.length=b.length
 ·rw[decide_eq_true (show ((a.length:Nat):Int)=(b.length:Nat) by omega)];simp only[Bool.not_true,tff];rw[o1v n a b hL a b [] [] a0c 0 _ rfl rfl rfl h rfl rfl (by unfold a0c;omega)];by_cases h':a=b
  ·rw[if_pos h',decide_eq_true h'];rfl
  ·rw[if_neg h',decide_eq_false h'];rfl
 ·rw[decide_eq_false (show ¬((a.length:Nat):Int)=(b.length:Nat) by omega),decide_eq_false (fun k:a=b=>h (by rw[k]))];rfl
noncomputable instance decSer (a b:Ser):Decidable (a=b):=Classical.propDecidable _
structure SerM (s:Ser):Prop where
 l:s.1.length≤9223372036854775807
 r:s.2.2.1.2.2.length≤9223372036854775807
 a:s.2.2.2.1.1.length≤9223372036854775807
 b:s.2.2.2.1.2.1.length≤9223372036854775807
 d:s.2.2.2.1.2.2.length≤9223372036854775807
theorem v1i (n:Nat) (a b:Ser) (h:SerM a):l0g (n+3) a b=some (decide (a=b)):=by
 rw[f1e,w0o,v1n,o0c n _ _ h.l,y0o n _ _ h.r,j0m (n+1) _ _ h.a,j0m (n+1) _ _ h.b,j0m (n+1) _ _ h.d];obtain ⟨a1,a2,⟨r1,r2,r3⟩,⟨t1,t2,t3⟩,a5⟩:=a;obtain ⟨b1,b2,⟨q1,q2,q3⟩,⟨u1,u2,u3⟩,b5⟩:=b;simp only[obs,f2d,tfd];by_cases h1:a1=b1
 case neg=>simp[h1]
 by_cases h2:a2=b2
 case neg=>simp[h1,h2]
 by_cases h3:r1=q1
 case neg=>simp[h1,h2,h3]
 by_cases h4:r2=q2
 case neg=>simp[h1,h2,h3,h4]
 by_cases h5:r3=q3
 case neg=>simp[h1,h2,h3,h4,h5]
 by_cases h6:t1=u1
 case neg=>simp[h1,h2,h3,h4,h5,h6]
 by_cases h7:t2=u2
 case neg=>simp[h1,h2,h3,h4,h5,h6,h7]
 by_cases h8:t3=u3
 case neg=>simp[h1,h2,h3,h4,h5,h6,h7,h8]
 by_cases h9:a5=b5
 case neg=>simp[h1,h2,h3,h4,h5,h6,h7,h8,h9]
 simp[h1,h2,h3,h4,h5,h6,h7,h8,h9]
theorem r15_same (n:Nat) (a b:Ser) (h:SerM a):v0p (n+3) a b=some (decide (a=b)):=by
 rw[v1v,w1e,v1x,e1d (n+1) _ _ h.l,e1c n _ _ h.r,u0j n _ _ h.a,u0j n _ _ h.b,u0j n _ _ h.d];obtain ⟨a1,a2,⟨r1,r2,r3⟩,⟨t1,t2,t3⟩,a5⟩:=a;obtain ⟨b1,b2,⟨q1,q2,q3⟩,⟨u1,u2,u3⟩,b5⟩:=b;simp only[obs,f2d,tfd,tfn];by_cases h1:a1=b1
 case neg=>simp[h1]
 by_cases h2:a2=b2
 case neg=>simp[h1,h2]
 by_cases h3:r1=q1
 case neg=>simp[h1,h2,h3]
 by_cases h4:r2=q2
 case neg=>simp[h1,h2,h3,h4]
 by_cases h5:r3=q3
 case neg=>simp[h1,h2,h3,h4,h5]
 by_cases h6:t1=u1
 case neg=>simp[h1,h2,h3,h4,h5,h6]
 by_cases h7:t2=u2
 case neg=>simp[h1,h2,h3,h4,h5,h6,h7]
 by_cases h8:t3=u3
 case neg=>simp[h1,h2,h3,h4,h5,h6,h7,h8]
 by_cases h9:a5=b5
 case neg=>simp[h1,h2,h3,h4,h5,h6,h7,h8,h9]
 simp[h1,h2,h3,h4,h5,h6,h7,h8,h9]
def oldV (now w m:Int):Int×Int:=if OfP now w∧1≤m∧m≤4096 then (if 0<now / w+1-m then now / w+1-m else 0,0) else (0,1)
theorem p1s (n:Nat) (now w m:Int):e0l (n+4) now w m=some (oldV now w m):=by
 rw[p1v,wi_of n now w,p1t];unfold oldV;by_cases h:OfP now w
 case neg=>rw[if_neg h,if_neg (fun k=>h k.1)];rfl
 rw[if_pos h];have hq:=v0z h;simp only[obs,decide_true,Bool.not_true,tff];by_cases h1:1≤m
 case neg=>simp[h,h1]
 by_cases h2:m≤4096
 case neg=>simp[h,h1,h2]
 rw[w64 (x:=now / w+1) (by omega) (by omega),w64 (x:=now / w+1-m) (by omega) (by omega)];simp[h,h1,h2]
theorem c2d (n:Nat) (now w m:Int):x0w (n+3) now w m=some (oldV now w m):=by
 rw[n1h,y1o n now w];unfold oldV;by_cases h:OfP now w
 case neg=>rw[if_neg h,if_neg (fun k=>h k.1)];rfl
 rw[if_pos h];have hq:=v0z h;simp only[obs,decide_true,Bool.not_true,tff,tfd];by_cases h1:m<1
 ·rw[if_pos h1,if_neg (by omega)]
 rw[if_neg h1];by_cases h2:4096<m
 ·rw[if_pos h2,if_neg (by omega)]
 rw[if_neg h2,w64 (x:=now / w-m) (by omega) (by omega),w64 (x:=now / w-m+1) (by omega) (by omega),if_pos (show OfP now w∧1≤m∧m≤4096 from ⟨h,by omega,by omega⟩)];have e:(if now / w-m+1<0 then (0:Int) else now / w-m+1)=if 0<now / w+1-m then now / w+1-m else 0:=by
  split<;>split<;>omega
 rw[e]
noncomputable def r0s (t now w m:Int):Bool:=decide (OfP t w∧(oldV now w m).2=0∧t / w<(oldV now w m).1)
theorem u1n (n:Nat) (t now w m:Int):b1d (n+5) t now w m=some (r0s t now w m):=by
 rw[a2u,wi_of (n+1) t w,p1s n now w m];unfold r0s;simp only[obs,tfd];by_cases h:OfP t w
 case neg=>rw[if_neg h,if_neg (by simp),decide_eq_false (fun k=>h k.1)]
 rw[if_pos h,if_pos rfl];by_cases h1:(oldV now w m).2=0
 ·rw[if_pos h1];exact congrArg some (decide_eq_decide.2 ⟨fun k=>⟨h,h1,k⟩,fun k=>k.2.2⟩)
 ·rw[if_neg h1,decide_eq_false (fun k=>h1 k.2.1)]
theorem n1g (n:Nat) (t now w m:Int):v0u (n+4) t now w m=some (r0s t now w m):=by
 rw[w1i,y1o (n+1) t w,c2d n now w m];unfold r0s;simp only[obs,tfd];by_cases h:OfP t w
 case neg=>rw[if_neg h,if_neg (by simp),decide_eq_false (fun k=>h k.1)]
 rw[if_pos h,if_pos rfl];by_cases h1:(oldV now w m).2=0
 ·rw[if_pos h1];exact congrArg some (decide_eq_decide.2 ⟨fun k=>⟨h,h1,k⟩,fun k=>k.2.2⟩)
 ·rw[if_neg h1,decide_eq_false (fun k=>h1 k.2.1)]
noncomputable def p0x (c:Conf) (last now:Int):Bool :=
 decide (OkC c)&&(r0s last now c.2.1.1 c.2.2.1.1&&(r0s last now c.2.1.2.1 c.2.2.1.2.1&&r0s last now c.2.1.2.2 c.2.2.1.2.2))
theorem b1r (n:Nat) (c:Conf) (last now:Int):o0x (n+6) c last now=some (p0x c last now):=by
 rw[f1f,y0q (n+2) c,u1n n,u1n n,u1n n];unfold p0x;by_cases h:OkC c
 case neg=>rw[if_neg h,decide_eq_false h];rfl
 rw[if_pos h,decide_eq_true h];simp only[obs,decide_true,tft,Bool.true_and];cases r0s last now c.2.1.1 c.2.2.1.1<;>cases r0s last now c.2.1.2.1 c.2.2.1.2.1<;>cases r0s last now c.2.1.2.2 c.2.2.1.2.2<;>rfl
theorem r15_dead (n:Nat) (c:Conf) (last now:Int):m1y (n+5) c last now=some (p0x c last now):=by
 rw[v1w,q0x (n+1) c,n1g n,n1g n,n1g n];unfold p0x;by_cases h:OkC c
 case neg=>rw[if_neg h,decide_eq_false h];rfl
 rw[if_pos h,decide_eq_true h];simp only[obs,decide_true,Bool.not_true,tff,Bool.true_and];cases r0s last now c.2.1.1 c.2.2.1.1<;>cases r0s last now c.2.1.2.1 c.2.2.1.2.1<;>cases r0s last now c.2.1.2.2 c.2.2.1.2.2<;>rfl
abbrev Sta:=Conf×(Int×(Int×List Ser))
structure StaW (s:Sta):Prop where
 len:s.2.2.2.length≤9223372036854775807
 ser:∀x∈s.2.2.2,SerW x∧SerM x
def Whole (s:Sta):Prop:=OkC s.1∧(s.2.2.2.length:Int)=s.1.2.2.2.1
noncomputable instance (s):Decidable (Whole s):=Classical.propDecidable _
def LvX (s:Sta) (x:Ser):Prop:=x≠ser0∧(s.2.2.1 = -1∨p0x s.1 x.2.1 s.2.2.1=false)
noncomputable instance (s x):Decidable (LvX s x):=Classical.propDecidable _
def y0x (t:Int):Prop:=0≤t∧t<35184372088832
instance (t):Decidable (y0x t):=by unfold y0x;infer_instance
def Clock (s:Sta):Prop:=y0x s.2.1∧(s.2.2.1 = -1∨y0x s.2.2.1)∧s.2.2.1≤s.2.1
instance (s):Decidable (Clock s):=by unfold Clock;infer_instance
def mk (s:Sta):Int:=s.2.1 / s.1.2.1.1*s.1.2.1.1
def Twin (s:Sta) (i:Nat) (x:Ser):Prop:=LvX s x∧∃k,k<i∧∃y,s.2.2.2[k]? = some y∧LvX s y∧y.1=x.1
noncomputable instance (s i x):Decidable (Twin s i x):=Classical.propDecidable _
def r0u (s:Sta) (i:Nat) (x:Ser):Prop:=x=ser0∨(SerOk s.1 x∧0≤x.2.1∧x.2.1<mk s+s.1.2.1.1∧¬Twin s i x)
noncomputable instance (s i x):Decidable (r0u s i x):=Classical.propDecidable _
structure StaOk (s:Sta):Prop where
 whole:Whole s
 clock:Clock s
 right:∀(i:Nat) x,s.2.2.2[i]? = some x→r0u s i x
noncomputable instance (s):Decidable (StaOk s):=Classical.propDecidable _
theorem Whole.len {s:Sta} (h:Whole s):s.2.2.2.length≤65536:=by
 have:=h.1.rng.cap;have:=h.2;omega
theorem e1n {α:Type} {l:List α} {i:Nat} {x:α} (h:l[i]? = some x):at? l (i:Int)=some x:=by
 unfold at?;rw[decide_eq_true (show (0:Int)≤(i:Int) by omega),Int.toNat_natCast];exact h
theorem StaW.at {s:Sta} (h:StaW s) {i:Nat} {x:Ser} (hx:s.2.2.2[i]? = some x):SerW x∧SerM x:=h.ser x (List.mem_of_getElem? hx)
theorem y1g (n:Nat) {x:Ser} (h:SerM x):v0b (n+4) x=some (decide (x=ser0)):=by
 have:=v1i n x ser0 h;rw[q1j];have e:l0g (n+3) x ([],((0:Int),(((0:Int),((0:Int),[])),(([],([],[])),((0:Int),z0)))))=some (decide (x=ser0)):=this
 change a0b (l0g (n+3) x ([],((0:Int),(((0:Int),((0:Int),[])),(([],([],[])),((0:Int),z0)))))) _=_
 rw[e];rfl
theorem f2n (n:Nat) {x:Ser} (h:SerM x):c1b (n+4) x=some (decide (x=ser0)):=by
 have:=r15_same n x ser0 h;rw[r1e];have e:v0p (n+3) x ([],((0:Int),(((0:Int),((0:Int),[])),(([],([],[])),((0:Int),z0)))))=some (decide (x=ser0)):=this
 change a0b (v0p (n+3) x ([],((0:Int),(((0:Int),((0:Int),[])),(([],([],[])),((0:Int),z0)))))) _=_
 rw[e];rfl
theorem a1m (n:Nat) {s:Sta} {i:Nat} {x:Ser} (hx:s.2.2.2[i]? = some x) (hm:SerM x):e0p (n+7) s (i:Int)=some (decide (LvX s x)):=by
 rw[x0j,e1n hx,obs,y1g (n+2) hm,obs,tfn,tfd,b1r n];by_cases h:x=ser0
 ·rw[if_pos h,decide_eq_false (fun k:LvX s x=>k.1 h)]
 rw[if_neg h,tfd];by_cases h1:s.2.2.1 = -1
 ·rw[if_pos h1,decide_eq_true (show LvX s x from ⟨h,.inl h1⟩)]
 ·rw[if_neg h1];cases hd:p0x s.1 x.2.1 s.2.2.1
  ·rw[decide_eq_true (show LvX s x from ⟨h,.inr hd⟩)];rfl
  ·rw[decide_eq_false (fun k:LvX s x=>by rcases k.2 with k | k;exact h1 k;rw[hd] at k;cases k)];rfl
theorem m1x (n:Nat) {s:Sta} {i:Nat} {x:Ser} (hx:s.2.2.2[i]? = some x) (hm:SerM x):b1z (n+6) s (i:Int)=some (decide (LvX s x)):=by
 rw[r1d,e1n hx,obs,f2n (n+1) hm,obs,tfn,tfd,obs,r15_dead n];by_cases h:x=ser0
 ·rw[if_pos h,decide_eq_false (fun k:LvX s x=>k.1 h)]
 rw[if_neg h,tfd];by_cases h1:s.2.2.1 = -1
 ·rw[if_pos h1,decide_eq_true (show LvX s x from ⟨h,.inl h1⟩)]
 ·rw[if_neg h1];cases hd:p0x s.1 x.2.1 s.2.2.1
  ·rw[decide_eq_true (show LvX s x from ⟨h,.inr hd⟩)];rfl
  ·rw[decide_eq_false (fun k:LvX s x=>by rcases k.2 with k | k;exact h1 k;rw[hd] at k;cases k)];rfl
theorem place_l (n:Nat) (is:(Int×Unit)→Option Bool) (p:Nat→Bool) (L:Nat) (hL:L≤1000000) (his:∀k:Nat,k<L→is ((k:Int),())=some (p k)):∀(d k f:Nat),k+d=L→d<f →
  (∃m:Nat,k≤m∧m<L∧p m=true∧(∀j,k≤j→j<m→p j=false)∧c0g n f (is,(L:Int),(k:Int),())=some (.inr (m:Int))) ∨
  ((∀j,k≤j→j<L→p j=false)∧c0g n f (is,(L:Int),(k:Int),())=some (.inl ())):=by
 intro d;induction d with
 | zero =>
  intro k f hk hf;obtain ⟨f,rfl⟩:∃g,f=g+1:=⟨f-1,by omega⟩;refine .inr ⟨fun j h1 h2=>by omega,?_⟩;rw[j0q,decide_eq_false (by omega),tff]
 | succ d ih =>
  intro k f hk hf;obtain ⟨f,rfl⟩:∃g,f=g+1:=⟨f-1,by omega⟩;rw[j0q,decide_eq_true (by omega),tft,his k (by omega),obs];cases hp:p k
  ·rw[tff,w64 (by omega) (by omega),show ((k:Int)+1)=((k+1:Nat):Int) by omega];rcases ih (k+1) f (by omega) (by omega) with ⟨m,h1,h2,h3,h4,h5⟩ | ⟨h1,h2⟩
   ·exact .inl ⟨m,by omega,h2,h3,fun j q1 q2=>by
     rcases Nat.lt_or_ge k j with q | q
     ·exact h4 j (by omega) q2
     ·rw[show j=k by omega];exact hp,h5⟩
   ·exact .inr ⟨fun j q1 q2=>by
     rcases Nat.lt_or_ge k j with q | q
     ·exact h1 j (by omega) q2
     ·rw[show j=k by omega];exact hp,h2⟩
  ·rw[tft];exact .inl ⟨k,Nat.le_refl _,by omega,hp,fun j q1 q2=>by omega,rfl⟩
theorem d1z (n:Nat) (s:Sta) (is:(Int×Unit)→Option Bool) (p:Nat→Bool) (hL:s.2.2.2.length≤1000000) (his:∀k:Nat,k<s.2.2.2.length→is ((k:Int),())=some (p k)) :
  (∃m:Nat,m<s.2.2.2.length∧p m=true∧(∀j,j<m→p j=false)∧e0o (n+1) s is=some (m:Int)) ∨
  ((∀j,j<s.2.2.2.length→p j=false)∧e0o (n+1) s is=some (-1)):=by
 rw[x0i];rcases place_l n is p _ hL his s.2.2.2.length 0 a0c (by omega) (by unfold a0c;omega) with ⟨m,h1,h2,h3,h4,h5⟩ | ⟨h1,h2⟩
 ·refine .inl ⟨m,h2,h3,fun j q=>h4 j (by omega) q,?_⟩;have h5':c0g n a0c (is,(s.2.2.2.length:Int),(0:Int),())=some (.inr (m:Int)):=h5;rw[h5'];rfl
 ·refine .inr ⟨fun j q=>h1 j (by omega) q,?_⟩;have h2':c0g n a0c (is,(s.2.2.2.length:Int),(0:Int),())=some (.inl ()):=h2;rw[h2'];rfl
theorem l1c (n:Nat) (a b:List Lab) (h:a.length≤9223372036854775807):i0o (n+2) a b=some (decide (a=b)):=by
 rw[w0o,o0c n a b h];rfl
def IsTw (s:Sta) (i k:Nat) (x:Ser):Prop:=k=i∨∃y,s.2.2.2[k]? = some y∧LvX s y∧y.1=x.1
noncomputable instance (s i k x):Decidable (IsTw s i k x):=Classical.propDecidable _
theorem st_twin (n:Nat) {s:Sta} (hw:StaW s) (hL:s.2.2.2.length≤1000000) {i:Nat} {x:Ser} (hx:s.2.2.2[i]? = some x):o0n (n+9) s (i:Int)=some (decide (Twin s i x)):=by
 have hil:i<s.2.2.2.length:=(List.getElem?_eq_some_iff.1 hx).1;have hm:=(hw.at hx).2;rw[z0t];have his:∀k:Nat,k<s.2.2.2.length→(fun y0:Int×Unit=>f0d (n+8) y0.1 (i:Int) s) ((k:Int),())=some (decide (IsTw s i k x)):=by
  intro k hk;have hy:s.2.2.2[k]? = some s.2.2.2[k]:=List.getElem?_eq_getElem hk;generalize s.2.2.2[k]=y at hy;have hmy:=(hw.at hy).2;show f0d (n+8) (k:Int) (i:Int) s=_;rw[u0z,tfd,a1m n hy hmy,obs,e1n hy,obs,e1n hx,obs,l1c (n+5) _ _ hmy.l,obs,tfd];by_cases h1:k=i
  ·rw[if_pos (by rw[h1]),decide_eq_true (show IsTw s i k x from .inl h1)]
  rw[if_neg (by omega)];by_cases h2:LvX s y
  ·rw[if_pos h2];refine congrArg some (decide_eq_decide.2 ⟨fun h3 => .inr ⟨y,hy,h2,h3⟩,fun h3 => ?_⟩);rcases h3 with h3 | ⟨z,z1,z2,z3⟩
   ·exact absurd h3 h1
   ·rw[hy] at z1;cases z1;exact z3
  ·rw[if_neg h2,decide_eq_false];rintro (h3 | ⟨z,z1,z2,z3⟩)
   ·exact h1 h3
   ·rw[hy] at z1;cases z1;exact h2 z2
 rcases d1z (n+7) s (fun y0:Int×Unit=>f0d (n+8) y0.1 (i:Int) s) (fun k=>decide (IsTw s i k x)) hL his with ⟨m,h1,h2,h3,h4⟩ | ⟨h1,h2⟩
 ·rw[h4,obs,tfd,a1m (n+1) hx hm];have h2:=of_decide_eq_true h2;have hmi:m≤i:=by
   rcases Nat.lt_or_ge i m with q | q
   ·have:=of_decide_eq_false (h3 i q);exact absurd (.inl rfl) this
   ·exact q
  by_cases q:m<i
  ·rw[if_pos (by omega),obs];refine congrArg some (decide_eq_decide.2 ⟨fun k=>⟨k,m,q,?_⟩,fun k=>k.1⟩);exact h2.resolve_left (by omega)
  ·rw[if_neg (by omega),decide_eq_false];rintro ⟨k1,k,k2,k3⟩;exact of_decide_eq_false (h3 k (by omega)) (.inr k3)
 ·exact absurd (.inl rfl) (of_decide_eq_false (h1 i hil))
theorem n1u {s:Sta} (h:y0x s.2.1) (hw:1≤s.1.2.1.1∧s.1.2.1.1≤1099511627776):0≤mk s∧mk s≤s.2.1∧s.2.1<mk s+s.1.2.1.1∧s.2.1-s.2.1 % s.1.2.1.1=mk s:=by
 have e:=Int.mul_ediv_add_emod s.2.1 s.1.2.1.1;have e1:=Int.emod_nonneg s.2.1 (show s.1.2.1.1≠0 by omega);have e2:=Int.emod_lt_of_pos s.2.1 (show 0<s.1.2.1.1 by omega);rw[Int.mul_comm] at e;have e3:0≤mk s:=Int.mul_nonneg (Int.ediv_nonneg h.1 (by omega)) (by omega);unfold mk at *
 exact ⟨e3,by omega,by omega,by omega⟩
theorem st_mark (n:Nat) {s:Sta} (h:y0x s.2.1) (hw:1≤s.1.2.1.1∧s.1.2.1.1≤1099511627776):o0o (n+1) s=some (mk s):=by
 have:=n1u h hw;have:=h.1;have:=h.2;rw[z0u,tfd,if_neg (by omega),e0u h.1,w64 (by omega) (by omega),(n1u h hw).2.2.2]
theorem st_right (n:Nat) {s:Sta} (hw:StaW s) (hh:Whole s) (ht:y0x s.2.1) {i:Nat} {x:Ser} (hx:s.2.2.2[i]? = some x):m0l (n+12) s (i:Int)=some (decide (r0u s i x)):=by
 have hm:=hw.at hx;have hr:=hh.1.rng;have hL:=hh.len;have hmk:=n1u ht hr.w0;have ht1:=ht.1;have ht2:=ht.2;have hw0:=hr.w0;obtain ⟨m1,m2,m3,m4⟩:=hmk;rw[x0h,e1n hx,obs,y1g (n+7) hm.2,obs,tfd,q1u n s.1 hm.1,obs,st_mark (n+10) ht hr.w0,obs,w64 (by omega) (by omega),st_twin (n+2) hw (by omega) hx,obs];simp only[tfd];by_cases h0:x=ser0
 ·rw[if_pos h0,decide_eq_true (show r0u s i x from .inl h0)]
 rw[if_neg h0];by_cases h1:SerOk s.1 x
 case neg=>rw[if_neg h1,if_neg (by decide),decide_eq_false (fun q:r0u s i x=>by rcases q with k | k;exact h0 k;exact h1 k.1)]
 rw[if_pos h1,if_pos rfl];by_cases h2:0≤x.2.1
 case neg=>rw[if_neg h2,decide_eq_false (fun q:r0u s i x=>by rcases q with k | k;exact h0 k;exact h2 k.2.1)]
 rw[if_pos h2];by_cases h3:x.2.1<mk s+s.1.2.1.1
 case neg=>rw[if_neg h3,decide_eq_false (fun q:r0u s i x=>by rcases q with k | k;exact h0 k;exact h3 k.2.2.1)]
 rw[if_pos h3];by_cases h4:Twin s i x
 ·rw[decide_eq_true h4,decide_eq_false (fun q:r0u s i x=>by rcases q with k | k;exact h0 k;exact k.2.2.2 h4)];rfl
 ·rw[decide_eq_false h4,decide_eq_true (show r0u s i x from .inr ⟨h1,h2,h3,h4⟩)];rfl
def sta0:Sta:=(((0:Int),(((0:Int),((0:Int),(0:Int))),(((0:Int),((0:Int),(0:Int))),((0:Int),(0:Int))))),((0:Int),((0:Int),[])))
theorem v1b (n:Nat) (s:Sta):v0a (n+4) s=some (if Whole s then (s,0) else (sta0,2)):=by
 rw[u1y,y0q n s.1,obs,tfn,tfd,tfn,tfd];by_cases h:OkC s.1
 case neg=>rw[if_neg h,if_neg (show ¬((2:Int)=0) by decide),if_neg (fun k:Whole s=>h k.1)];rfl
 rw[if_pos h,if_pos rfl];by_cases h1:(s.2.2.2.length:Int)=s.1.2.2.2.1
 ·rw[if_pos h1,if_pos (show Whole s from ⟨h,h1⟩)]
 ·rw[if_neg h1,if_neg (fun k:Whole s=>h1 k.2)];rfl
theorem e2z (n:Nat) (t:Int):a1k (n+1) t=some (decide (y0x t)):=by
 rw[u1x,tfd];by_cases h:0≤t
 ·rw[if_pos h];exact congrArg some (decide_eq_decide.2 ⟨fun k=>⟨h,k⟩,fun k=>k.2⟩)
 ·rw[if_neg h,decide_eq_false (fun k:y0x t=>h k.1)]
theorem st_clock (n:Nat) (s:Sta):m0m (n+2) s=some (decide (Clock s)):=by
 rw[x0k,e2z n,e2z n,obs,obs];simp only[tfd];by_cases h:y0x s.2.1
 case neg=>rw[if_neg h,decide_eq_false (fun k:Clock s=>h k.1)]
 rw[if_pos h];by_cases h1:s.2.2.1 = -1
 ·rw[if_pos h1];exact congrArg some (decide_eq_decide.2 ⟨fun k=>⟨h,.inl h1,k⟩,fun k=>k.2.2⟩)
 rw[if_neg h1];by_cases h2:y0x s.2.2.1
 ·rw[if_pos h2];exact congrArg some (decide_eq_decide.2 ⟨fun k=>⟨h,.inr h2,k⟩,fun k=>k.2.2⟩)
 ·rw[if_neg h2,decide_eq_false (fun k:Clock s=>by rcases k.2.1 with q | q;exact h1 q;exact h2 q)]
def Wrong (s:Sta) (k:Nat):Prop:=∃x,s.2.2.2[k]? = some x∧¬r0u s k x
noncomputable instance (s k):Decidable (Wrong s k):=Classical.propDecidable _
theorem l0b (n:Nat) {s:Sta} (hw:StaW s):c0p (n+14) s=some (if StaOk s then 0 else 2):=by
 rw[q1k,v1b (n+9) s,obs,tfn,tfd];by_cases h:Whole s
 case neg=>rw[if_neg h,if_neg (show ¬((sta0,(2:Int)).2=0) by decide),if_neg (fun k:StaOk s=>h k.whole)]
 rw[if_pos h,if_pos rfl,st_clock (n+11) s,obs,tfn,tfd];by_cases h1:Clock s
 case neg=>rw[if_neg h1,if_neg (fun k:StaOk s=>h1 k.clock)]
 rw[if_pos h1];have hL:=h.len;have his:∀k:Nat,k<s.2.2.2.length→(fun y2:Int×Unit=>e0e (n+13) y2.1 s) ((k:Int),())=some (decide (Wrong s k)):=by
  intro k hk;have hy:s.2.2.2[k]? = some s.2.2.2[k]:=List.getElem?_eq_getElem hk;generalize s.2.2.2[k]=y at hy;show e0e (n+13) (k:Int) s=_;rw[f1c,st_right n hw h h1.1 hy,obs];by_cases q:r0u s k y
  ·rw[decide_eq_true q,decide_eq_false (fun z:Wrong s k=>by obtain ⟨x,x1,x2⟩:=z;rw[hy] at x1;cases x1;exact x2 q)];rfl
  ·rw[decide_eq_false q,decide_eq_true (show Wrong s k from ⟨y,hy,q⟩)];rfl
 rcases d1z (n+12) s (fun y2:Int×Unit=>e0e (n+13) y2.1 s) (fun k=>decide (Wrong s k)) (by omega) his with ⟨m,q1,q2,q3,q4⟩ | ⟨q1,q2⟩
 ·rw[show (fun y2:Int×Unit=>e0e (n+13) y2.1 (s,(0:Int)).1)=fun y2:Int×Unit=>e0e (n+13) y2.1 s from rfl];obtain ⟨x,x1,x2⟩:=of_decide_eq_true q2;rw[q4,obs,tfd,if_pos (by omega),if_neg (fun k:StaOk s=>x2 (k.right m x x1))]
 ·rw[show (fun y2:Int×Unit=>e0e (n+13) y2.1 (s,(0:Int)).1)=fun y2:Int×Unit=>e0e (n+13) y2.1 s from rfl];rw[q2,obs,tfd,if_neg (by decide),if_pos];refine ⟨h,h1,fun i x hx => ?_⟩;have:=of_decide_eq_false (q1 i (List.getElem?_eq_some_iff.1 hx).1);exact Decidable.byContradiction fun k=>this ⟨x,hx,k⟩
theorem m1w (n:Nat) (s:Sta):b1y (n+4) s=some (decide (Whole s)):=by
 rw[r1c,q0x n s.1,obs,tfd];by_cases h:OkC s.1
 case neg=>rw[if_neg h,if_neg (show ¬((2:Int)=0) by decide),decide_eq_false (fun k:Whole s=>h k.1)]
 rw[if_pos h,if_pos rfl];exact congrArg some (decide_eq_decide.2 ⟨fun k=>⟨h,k⟩,fun k=>k.2⟩)
theorem b2i (n:Nat) (l:List Ser) (hL:l.length≤1000000) (hm:∀x∈l,SerM x):∀(rest pre:List Ser) (f:Nat) (ix len:Int),l=pre++rest→ix=pre.length→len=l.length→rest.length<f →
  j0g (n+2) f (l,len,ix,())=some (.inl ())∨j0g (n+2) f (l,len,ix,())=some (.inr 0):=by
 intro rest;induction rest with
 | nil =>
  intro pre f ix len hl hi hn hf;obtain ⟨f,rfl⟩:∃g,f=g+1:=⟨f-1,by simp at hf;omega⟩;left;rw[r0p];simp only[tfd,if_neg (idxe hl hi hn)]
 | cons x rest ih =>
  intro pre f ix len hl hi hn hf;obtain ⟨f,rfl⟩:∃g,f=g+1:=⟨f-1,by simp at hf;omega⟩;have hx:SerM x:=hm x (by rw[hl];simp);rw[r0p];simp only[tfd,if_pos (idx hl hi hn),b0o hl hi,obs,idxw hl hi (show l.length≤1000000000000 by omega)];rcases h2c n x hx.l with h | h
  ·rw[h];right;rfl
  ·rw[h];simp only[obs,if_neg (show ¬((1:Int)=0) by decide)];exact ih (pre++[x]) f (ix+1) len (idxl hl) (idxs hi) hn (by simp at hf;omega)
theorem h2a (n:Nat) {s:Sta} (hw:StaW s):w0r (n+3) s=some 0∨(w0r (n+3) s=some 1∧s.2.2.2.length≤8):=by
 rw[s1y];simp only[tfd];by_cases h:(8:Int)<(s.2.2.2.length:Int)
 ·rw[if_pos h];exact .inl rfl
 ·rw[if_neg h];rcases b2i n s.2.2.2 (by omega) (fun x hx=>(hw.ser x hx).2) s.2.2.2 [] a0c 0 _ rfl rfl rfl (by unfold a0c;omega) with h1 | h1
  ·rw[h1];exact .inr ⟨rfl,by omega⟩
  ·rw[h1];exact .inl rfl
theorem ser_m' {s:Ser} (h:Wf a0w s):SerM s:=by
 obtain ⟨h1,h2,h3,⟨h4,h5,h6⟩,h7⟩:=h;have e1:=h1.1;have e3:=h3.2.2.1;have e4:=h4.1;have e5:=h5.1;have e6:=h6.1;simp only[maxLen] at e1 e3 e4 e5 e6;exact ⟨e1,e3,e4,e5,e6⟩
theorem sta_wf {s:Sta} (h:Wf a0i s):StaW s:=by
 obtain ⟨h1,h2,h3,h4⟩:=h;have e:=h4.1;simp only[maxLen] at e;exact ⟨e,fun x hx=>⟨ser_wf (h4.2 x hx),ser_m' (h4.2 x hx)⟩⟩
end Go.Proofs.YtgkpkajaepphjaaGreatDoor
namespace Go.Proofs.YtgkpkajaepphjaaGreatDoor
open Go.Flat Go.Plim
set_option linter.unusedVariables false
def x1w (c:Conf) (s:Trs) (o:Slo) (l:List Ev):Prop :=
 (l=[]∧o=s0∧∀t,FInv c s [] t)∨∃t,EndsAt l t∧FInv c s l t∧o=(t / c.2.1.1,cellOf (win c.2.1.1 l (t / c.2.1.1)))
theorem x1w.fold {c:Conf} {s:Trs} {o:Slo} {l:List Ev} (h:x1w c s o l):FoldOk c s:=by
 rcases h with ⟨_,_,h⟩ | ⟨t,_,h,_⟩
 ·exact (h 0).ok
 ·exact h.ok
end Go.Proofs.YtgkpkajaepphjaaGreatDoor
namespace Go.Proofs.YtgkpkajaepphjaaGreatDoor
open Go.Flat Go.Plim
set_option linter.unusedVariables false
set_option linter.unusedSimpArgs false
def rawOf (room:Int) (l:List Ev):Rw :=
 (if (l.length:Int)≤room then 0 else (l.length:Int)-room,(if (l.length:Int)≤room then 0 else ((l[l.length-room.toNat-1]?).getD e0).1,l.drop (l.length-room.toNat)))
structure SerInv (c:Conf) (s:Ser) (l:List Ev):Prop where
 lab:LabOk s.1
 len:l.length≤1000000
 raw:s.2.2.1=rawOf c.1 l
 opn:x1w c s.2.2.2.1 s.2.2.2.2 l
 last:(l=[]∧s.2.1 = -1)∨EndsAt l s.2.1
theorem SerInv.foll {c:Conf} {s:Ser} {l:List Ev} (h:SerInv c s l):Foll l:=by
 rcases h.last with ⟨rfl,_⟩ | h
 ·exact Foll.nil
 ·exact h.foll
theorem z0o {l:List Ev} {t:Int} (h:EndsAt l t):∃e,l.getLast? = some e∧e.1=t:=by
 obtain ⟨x,hx,hxt⟩:=h.last;rcases List.eq_nil_or_concat l with rfl | ⟨p,y,rfl⟩
 ·cases hx
 rw[List.concat_eq_append] at *
 have h1:=h.le y (by simp);refine ⟨y,by simp,?_⟩;rcases List.mem_append.1 hx with q | q
 ·have:=(p0m.1 h.foll).2.2 x q y (by simp);omega
 ·simp at q;rw[←q];exact hxt
theorem i2s {l:List Ev} {t u:Int} (h:EndsAt l t) (k:EndsAt l u):t=u:=by
 obtain ⟨e,h1,h2⟩:=z0o h;obtain ⟨e',k1,k2⟩:=z0o k;rw[h1] at k1;simp at k1;rw[←h2,←k2,k1]
theorem SerInv.at_ {c:Conf} {s:Ser} {l:List Ev} (h:SerInv c s l) (hl:l≠[]):EndsAt l s.2.1∧FInv c s.2.2.2.1 l s.2.1∧s.2.2.2.2=(s.2.1 / c.2.1.1,cellOf (win c.2.1.1 l (s.2.1 / c.2.1.1))):=by
 have he:=h.last.resolve_left fun k=>hl k.1
 rcases h.opn with k | ⟨t,k1,k2,k3⟩
 ·exact absurd k.1 hl
 ·have:=i2s he k1;subst this;exact ⟨he,k2,k3⟩
theorem d2p {a b:Int} (ha:1≤a) (hb:1≤b) (hm:b % a=0):0<b / a:=by
 rcases Int.lt_or_le 0 (b / a) with z | z
 ·exact z
 ·exfalso;have e:a*(b / a)=b:=by have:=Int.mul_ediv_add_emod b a;omega
  have:a*(b / a)≤a*0:=Int.mul_le_mul_of_nonneg_left z (by omega);omega
noncomputable def p0w (s:Sta) (l:List Lab):Option Nat:=s.2.2.2.findIdx? fun x=>decide (x.1=l∧LvX s x)
noncomputable def roomV (s:Sta):Option Nat:=s.2.2.2.findIdx? fun x=>decide (¬LvX s x)
noncomputable def lvAt (s:Sta) (i:Nat):Bool:=match s.2.2.2[i]? with | some x=>decide (LvX s x) | none=>false
noncomputable def k0c (s:Sta):List Nat:=(List.range s.2.2.2.length).filter (lvAt s)
theorem y0n {s:Sta} {l:List Lab} {i:Nat}:p0w s l=some i↔∃x,s.2.2.2[i]? = some x∧x.1=l∧LvX s x∧∀j,j<i→∀y,s.2.2.2[j]? = some y→¬(y.1=l∧LvX s y):=by
 unfold p0w;rw[List.findIdx?_eq_some_iff_getElem];constructor
 ·rintro ⟨h,h1,h2⟩;have h1:=of_decide_eq_true h1;refine ⟨_,List.getElem?_eq_getElem h,h1.1,h1.2,fun j hj y hy => ?_⟩;obtain ⟨hjl,e⟩:=List.getElem?_eq_some_iff.1 hy;have:=h2 j hj;rw[e] at this
  simpa using this
 ·rintro ⟨x,hx,h1,h2,h3⟩;obtain ⟨hl,e⟩:=List.getElem?_eq_some_iff.1 hx;refine ⟨hl,by rw[e];exact decide_eq_true ⟨h1,h2⟩,fun j hj => ?_⟩;have:=h3 j hj _ (List.getElem?_eq_getElem (by omega))
  simpa using this
theorem d2l {s:Sta} {l:List Lab}:p0w s l=none↔∀x∈s.2.2.2,¬(x.1=l∧LvX s x):=by
 unfold p0w;rw[List.findIdx?_eq_none_iff];simp
theorem d1q {s:Sta} {i:Nat} {x:Ser} (h:s.2.2.2[i]? = some x):lvAt s i=decide (LvX s x):=by
 unfold lvAt;rw[h]
theorem t1n {s:Sta} (h:StaOk s) {i:Nat} {x:Ser} (hx:s.2.2.2[i]? = some x) (hl:LvX s x):p0w s x.1=some i:=by
 refine y0n.2 ⟨x,hx,rfl,hl,fun j hj y hy hn => ?_⟩;rcases h.right i x hx with k | k
 ·exact hl.1 k
 ·exact k.2.2.2 ⟨hl,j,hj,y,hy,hn.2,hn.1⟩
theorem z1h (s:Sta):(k0c s).length≤s.2.2.2.length:=by
 have:=List.length_filter_le (lvAt s) (List.range s.2.2.2.length)
 simpa [k0c] using this
end Go.Proofs.YtgkpkajaepphjaaGreatDoor
namespace Go.Proofs.YtgkpkajaepphjaaGreatDoor
open Go.Flat
def rd (st:List UInt8×Bool) (k:Nat):Int×(List UInt8×Bool):=if st.2=true∨st.1.length<k then (0,([],true)) else (valI (bytesI (st.1.take k)),(st.1.drop k,false))
def q0 (s:List UInt8):=rd (s,false) 4
def q1 (s:List UInt8):=rd (q0 s).2 8
def q2 (s:List UInt8):=rd (q1 s).2 8
def q3 (s:List UInt8):=rd (q2 s).2 8
def q4 (s:List UInt8):=rd (q3 s).2 4
def q5 (s:List UInt8):=rd (q4 s).2 4
def q6 (s:List UInt8):=rd (q5 s).2 4
def q7 (s:List UInt8):=rd (q6 s).2 4
def q8 (s:List UInt8):=rd (q7 s).2 4
def q9 (s:List UInt8):=rd (q8 s).2 8
structure Full (s:List UInt8):Prop where
 z:(q9 s).1=0
 good:(q9 s).2.2=false
 left:(q9 s).2.1=[]
def idxC (c:Conf):Int:=prt c.2.2.2.2 120
def hom (c:Conf):Int:=1+idxC c+c.2.2.2.2
end Go.Proofs.YtgkpkajaepphjaaGreatDoor
namespace Go.Proofs.YtgkpkajaepphjaaGreatDoor
open Go.Flat Go.Plim
set_option linter.unusedVariables false
set_option linter.unusedSimpArgs false
theorem i2t {l:List Ser} {k:Nat} (h:k<l.length):∃y,l[k]? = some y:=⟨l[k],List.getElem?_eq_getElem h⟩
noncomputable def t1o (s:Sta) (l:List Lab):Int×Int:=if Whole s then (match p0w s l with | some i=>((i:Int),0) | none=>(0,3)) else (0,2)
noncomputable def d2a (s:Sta):List Int:=if Whole s then (k0c s).map Int.ofNat else []
def IsF (s:Sta) (l:List Lab) (k:Nat):Prop:=∃y,s.2.2.2[k]? = some y∧y.1=l∧LvX s y
noncomputable instance (s l k):Decidable (IsF s l k):=Classical.propDecidable _
theorem l1i {s:Sta} {l:List Lab} {m:Nat} (h:IsF s l m) (hn:∀j,j<m→¬IsF s l j):p0w s l=some m:=by
 obtain ⟨y,h1,h2,h3⟩:=h;exact y0n.2 ⟨y,h1,h2,h3,fun j hj z hz k=>hn j hj ⟨z,hz,k.1,k.2⟩⟩
theorem i2e {s:Sta} {l:List Lab} (hn:∀j,j<s.2.2.2.length→¬IsF s l j):p0w s l=none:=by
 refine d2l.2 fun x hx k => ?_
 obtain ⟨i,hi,e⟩:=List.getElem_of_mem hx;exact hn i hi ⟨x,by rw[List.getElem?_eq_getElem hi,e],k.1,k.2⟩
theorem stt_find (n:Nat) {s:Sta} (hw:StaW s) (l:List Lab):h0d (n+10) s l=some (t1o s l):=by
 rw[v1a,v1b (n+5) s,obs,tfn,tfd];unfold t1o;by_cases h:Whole s
 case neg=>rw[if_neg h,if_neg h,if_neg (show ¬((sta0,(2:Int)).2=0) by decide)]
 rw[if_pos h,if_pos h,if_pos rfl];have his:∀k:Nat,k<s.2.2.2.length→(fun y1:Int×Unit=>f0m (n+9) y1.1 s l s) ((k:Int),())=some (decide (IsF s l k)):=by
  intro k hk;obtain ⟨y,hy⟩:=i2t hk;have hm:=(hw.at hy).2;show f0m (n+9) (k:Int) s l s=_;rw[m1a,e1n hy,obs,l1c (n+6) _ _ hm.l,obs,tfd,a1m (n+1) hy hm,obs];by_cases h1:y.1=l
  ·rw[if_pos h1];refine congrArg some (decide_eq_decide.2 ⟨fun k=>⟨y,hy,h1,k⟩,fun ⟨z,z1,z2,z3⟩ => ?_⟩);rw[hy] at z1;cases z1;exact z3
  ·rw[if_neg h1,decide_eq_false (fun q:IsF s l k=>by obtain ⟨z,z1,z2,z3⟩:=q;rw[hy] at z1;cases z1;exact h1 z2)]
 rcases d1z (n+8) s (fun y1:Int×Unit=>f0m (n+9) y1.1 s l s) (fun k=>decide (IsF s l k)) (by have:=h.len;omega) his with ⟨m,q1,q2,q3,q4⟩ | ⟨q1,q2⟩
 ·rw[show (fun y1:Int×Unit=>f0m (n+9) y1.1 s l (s,(0:Int)).1)=fun y1:Int×Unit=>f0m (n+9) y1.1 s l s from rfl,q4,obs,tfd,if_neg (by omega),l1i (of_decide_eq_true q2) (fun j hj=>of_decide_eq_false (q3 j hj))]
 ·rw[show (fun y1:Int×Unit=>f0m (n+9) y1.1 s l (s,(0:Int)).1)=fun y1:Int×Unit=>f0m (n+9) y1.1 s l s from rfl,q2,obs,tfd,if_pos (by decide),i2e (fun j hj=>of_decide_eq_false (q1 j hj))]
theorem v1t (n:Nat) {s:Sta} (hw:StaW s) (hL:s.2.2.2.length≤1000000) (l:List Lab):∀(d k f:Nat),k+d=s.2.2.2.length→d<f →
  (∃m:Nat,k≤m∧IsF s l m∧(∀j,k≤j→j<m→¬IsF s l j)∧d0w (n+6) f (l,s,s.2.2.2,(s.2.2.2.length:Int),(k:Int),())=some (.inr ((m:Int),0))) ∨
  ((∀j,k≤j→j<s.2.2.2.length→¬IsF s l j)∧d0w (n+6) f (l,s,s.2.2.2,(s.2.2.2.length:Int),(k:Int),())=some (.inl ())):=by
 intro d;induction d with
 | zero =>
  intro k f hk hf;obtain ⟨f,rfl⟩:∃g,f=g+1:=⟨f-1,by omega⟩;refine .inr ⟨fun j h1 h2=>by omega,?_⟩;rw[t0f,decide_eq_false (by omega),tff]
 | succ d ih =>
  intro k f hk hf;obtain ⟨f,rfl⟩:∃g,f=g+1:=⟨f-1,by omega⟩;obtain ⟨y,hy⟩:=i2t (l:=s.2.2.2) (k:=k) (by omega);have hm:=(hw.at hy).2;have ih':=ih (k+1) f (by omega) (by omega);have next:¬IsF s l k→((∃m:Nat,k≤m∧IsF s l m∧(∀j,k≤j→j<m→¬IsF s l j)∧d0w (n+6) f (l,s,s.2.2.2,(s.2.2.2.length:Int),((k+1:Nat):Int),())=some (.inr ((m:Int),0))) ∨
  ((∀j,k≤j→j<s.2.2.2.length→¬IsF s l j)∧d0w (n+6) f (l,s,s.2.2.2,(s.2.2.2.length:Int),((k+1:Nat):Int),())=some (.inl ()))):=by
   intro hn;have low:∀j,k≤j→¬k+1≤j→¬IsF s l j:=fun j h1 h2=>by rw[show j=k by omega];exact hn
   rcases ih' with ⟨m,h1,h2,h3,h4⟩ | ⟨h1,h2⟩
   ·exact .inl ⟨m,by omega,h2,fun j q1 q2=>if z:k+1≤j then h3 j z q2 else low j q1 z,h4⟩
   ·exact .inr ⟨fun j q1 q2=>if z:k+1≤j then h1 j z q2 else low j q1 z,h2⟩
  rw[t0f,decide_eq_true (by omega),tft,e1n hy,obs,m1x n hy hm,obs,tfd,e1d (n+5) _ _ hm.l,obs,tfd,w64 (by omega) (by omega),show ((k:Int)+1)=((k+1:Nat):Int) by omega];by_cases h1:LvX s y
  case neg=>rw[if_neg h1];exact next (fun q=>by obtain ⟨z,z1,z2,z3⟩:=q;rw[hy] at z1;cases z1;exact h1 z3)
  rw[if_pos h1];by_cases h2:y.1=l
  case neg=>rw[if_neg h2];exact next (fun q=>by obtain ⟨z,z1,z2,z3⟩:=q;rw[hy] at z1;cases z1;exact h2 z2)
  rw[if_pos h2];exact .inl ⟨k,Nat.le_refl _,⟨y,hy,h2,h1⟩,fun j q1 q2=>by omega,rfl⟩
theorem r17_find (n:Nat) {s:Sta} (hw:StaW s) (l:List Lab):y1j (n+7) s l=some (t1o s l):=by
 rw[v1u,m1w (n+2) s,obs,tfn,tfd];unfold t1o;by_cases h:Whole s
 case neg=>rw[if_neg h,if_neg h]
 rw[if_pos h,if_pos h];have hL:=h.len;rcases v1t n hw (by omega) l s.2.2.2.length 0 a0c (by omega) (by unfold a0c;omega) with ⟨m,q1,q2,q3,q4⟩ | ⟨q1,q2⟩
 ·have q4':d0w (n+6) a0c (l,s,s.2.2.2,(s.2.2.2.length:Int),(0:Int),())=some (.inr ((m:Int),0)):=q4;rw[q4',obs,j0d,l1i q2 (fun j hj=>q3 j (by omega) hj)]
 ·have q2':d0w (n+6) a0c (l,s,s.2.2.2,(s.2.2.2.length:Int),(0:Int),())=some (.inl ()):=q2;rw[q2',obs,a0v,i2e (fun j hj=>q1 j (by omega) hj)]
theorem lvAt_el {s:Sta} {k:Nat} {y:Ser} (h:s.2.2.2[k]? = some y):decide (LvX s y)=lvAt s k:=(d1q h).symm
theorem b2c (n:Nat) {s:Sta} (hw:StaW s) (hL:s.2.2.2.length≤1000000):∀(d k f:Nat) (out:List Int),k+d=s.2.2.2.length→d<f→out.length≤k →
  i0g (n+7) f (s,out,(s.2.2.2.length:Int),(k:Int),())=some (.inl (out++((List.range' k d).filter (lvAt s)).map Int.ofNat,())):=by
 intro d;induction d with
 | zero =>
  intro k f out hk hf ho;obtain ⟨f,rfl⟩:∃g,f=g+1:=⟨f-1,by omega⟩;rw[s0y,decide_eq_false (by omega),tff];simp
 | succ d ih =>
  intro k f out hk hf ho;obtain ⟨f,rfl⟩:∃g,f=g+1:=⟨f-1,by omega⟩;obtain ⟨y,hy⟩:=i2t (l:=s.2.2.2) (k:=k) (by omega);rw[s0y,decide_eq_true (by omega),tft,a1m n hy (hw.at hy).2,obs,lvAt_el hy,w64 (by omega) (by omega),show ((k:Int)+1)=((k+1:Nat):Int) by omega,List.range'_succ];cases h:lvAt s k
  ·rw[tff,ih (k+1) f out (by omega) (by omega) (by omega),List.filter_cons_of_neg (by simp[h])]
  ·rw[tft,decide_eq_true (by omega),tft,ih (k+1) f _ (by omega) (by omega) (by simp;omega),List.filter_cons_of_pos h];simp
theorem y1f (n:Nat) {s:Sta} (hw:StaW s):v0c (n+8) s=some (d2a s):=by
 rw[u1z,v1b (n+3) s,obs,tfn,tfd];unfold d2a;by_cases h:Whole s
 case neg=>rw[if_neg h,if_neg h,if_neg (show ¬((sta0,(2:Int)).2=0) by decide)]
 rw[if_pos h,if_pos h,if_pos rfl];have hL:=h.len;have e:i0g (n+7) a0c (s,([]:List Int),(s.2.2.2.length:Int),(0:Int),())=_:=b2c n hw (by omega) s.2.2.2.length 0 a0c [] (by omega) (by unfold a0c;omega) (by simp);simp only;rw[e,obs,a0v];unfold k0c;rw[List.range_eq_range'];rfl
theorem x1e (s:Sta):(d2a s).length≤65536:=by
 unfold d2a;split
 ·rename_i h;have:=h.len;have:=z1h s;simp;omega
 ·simp
theorem x1c {l:List Slo} {a b:Int} (h:a0y l a) (hab:a≤b):a0y l b:=fun s hs hc=>by
 have:=h s hs hc;omega
structure Goes (s:Sta) (l:List Lab) (e:Ev):Prop where
 st:StaOk s
 lab:LabOk l
 ev:EvOk e
 lo:mk s≤e.1
 hi:e.1<mk s+s.1.2.1.1
inductive PlaceAt (s:Sta) (l:List Lab) (e:Ev):Nat→Ser→Bool→Prop
 | found {i:Nat} {x:Ser} (hf:p0w s l=some i) (hx:s.2.2.2[i]? = some x) (hl:x.1=l) (hlv:LvX s x) (ht:x.2.1<e.1):PlaceAt s l e i x false
 | room {i:Nat} (hf:p0w s l=none) (hs:e.2.2.2=false) (hr:roomV s=some i):PlaceAt s l e i (l,(-1,(r0w,(emp s.1,s0)))) true
theorem d2m {s:Sta} (h:Whole s) {l:List Lab} {i:Nat} (hf:p0w s l=some i):t1o s l=((i:Int),0):=by
 unfold t1o;rw[if_pos h,hf]
theorem d2n {s:Sta} (h:Whole s) {l:List Lab} (hf:p0w s l=none):t1o s l=(0,3):=by
 unfold t1o;rw[if_pos h,hf]
def g0b (c:Conf) (k:Int):Int:=if k=0 then c.2.1.1 else if k=1 then c.2.1.2.1 else c.2.1.2.2
def b2b (c:Conf) (k:Int):Int:=if k=0 then c.2.2.1.1 else if k=1 then c.2.2.1.2.1 else c.2.2.1.2.2
noncomputable def keptV (s:Sta) (k:Int):Int×(Int×Int) :=
 if StaOk s then (if k<0∨2<k then (0,(0,1)) else ((oldV s.2.1 (g0b s.1 k) (b2b s.1 k)).1,(s.2.1 / g0b s.1 k,0))) else (0,(0,2))
theorem a1t {now w m:Int} (h:OfP now w) (hm:1≤m∧m≤4096):(oldV now w m).2=0:=by
 unfold oldV;rw[if_pos ⟨h,hm.1,hm.2⟩]
theorem o1z (n:Nat) {s:Sta} (hw:StaW s) (k:Int):p0p (n+16) s k=some (keptV s k):=by
 rw[x1q,t1u,l0b n hw];unfold keptV;by_cases h:StaOk s
 case neg=>rw[if_neg h,if_neg h];rfl
 rw[if_pos h,if_pos h];have hr:=h.whole.1.rng;have ht:=h.clock.1;simp only[obs,decide_true,Bool.not_true,tff,tfd,tfn,p1s (n+11)];by_cases h1:k<0
 ·rw[if_pos h1,if_pos (Or.inl h1)];rfl
 rw[if_neg h1];by_cases h2:3≤k
 ·rw[if_pos h2,if_pos (show k<0∨2<k by omega)];rfl
 rw[if_neg h2,if_neg (show ¬(k<0∨2<k) by omega)];simp only[obs,if_true];have q0:=n0q ht hr.w0.1;have q1:=n0q ht hr.w1.1;have q2:=n0q ht hr.w2.1;rcases (by omega:k=0∨k=1∨k=2) with e | e | e
 ·subst e;simp only[if_true,if_neg (nz hr.w0.1),q0,a1t ⟨ht.1,ht.2,hr.w0.1,hr.w0.2⟩ hr.n0];rfl
 ·subst e;simp only[if_true,if_neg (show ¬((1:Int)=0) by decide),if_neg (nz hr.w1.1),q1,a1t ⟨ht.1,ht.2,hr.w1.1,hr.w1.2⟩ hr.n1];rfl
 ·subst e;simp only[if_true,if_neg (show ¬((2:Int)=0) by decide),if_neg (show ¬((2:Int)=1) by decide),if_neg (nz hr.w2.1),q2,a1t ⟨ht.1,ht.2,hr.w2.1,hr.w2.2⟩ hr.n2];rfl
theorem w0k {a b:Cel} (ha:b0f a) (hb:b0f b) (h:Ahead a b):mrgE a b=(mrg a b,0):=by
 unfold mrgE;rw[if_pos ⟨ha,hb⟩,if_pos h]
theorem j2t {w:Int}:∀(L:List Slo) (c:Cel) (lo hi:Int),Up L→(∀s∈L,FitsP s.2 w s.1∧lo≤s.1∧s.1<hi)→b0f c→(c=z0∨c.2.2.1.1 / w<lo)→lo≤hi→(allE c (L.map (·.2))).1=z0∨(allE c (L.map (·.2))).1.2.2.1.1 / w<hi:=by
 intro L;induction L with
 | nil=>intro c lo hi _ _ _ h hle;rcases h with h | h;exact .inl h;exact .inr (by simp only[List.map_nil,allE];omega)
 | cons s L ih =>
  intro c lo hi hu hs hc hl hle;unfold Up at hu;rw[List.pairwise_cons] at hu;obtain ⟨hf,h1,h2⟩:=hs s (by simp);have ha:Ahead c s.2:=by
   rcases hl with h | h
   ·exact .inl h
   ·refine .inr (.inr ?_);have e:=hf.f;rcases Int.lt_or_le c.2.2.1.1 s.2.2.1.1 with q | q
    ·exact q
    ·have:=Int.ediv_le_ediv (c:=w) (by have:=hf.w0;omega) q;omega
  simp only[List.map_cons,allE];rw[w0k hc hf.n.ok ha,if_pos rfl];refine ih _ (s.1+1) hi hu.2 (fun x hx=>⟨(hs x (by simp[hx])).1,by have:=hu.1 x hx;omega,(hs x (by simp[hx])).2.2⟩) (s1s hc hf.n.ok ha) (.inr ?_) (by omega);have el:(mrg c s.2).2.2.1.1=s.2.2.2.1.1:=by
   unfold mrg;by_cases k:c=z0
   ·rw[if_pos k]
   ·rw[if_neg k,if_neg hf.n.ne]
  rw[el,hf.l];omega
theorem k1i {t:List Slo} {w i j a:Int} (h:TierOk t w) (hb:a0y t a) (h0:0≤i) (ha:i≤a):b0f (g0k t i j).1∧((g0k t i j).1=z0∨(g0k t i j).1.2.2.1.1 / w<a):=by
 refine ⟨u0x _ _ _,?_⟩;unfold g0k;split
 ·exact .inl rfl
 ·unfold within;have hn:=(g0z h a).1 hb;refine j2t (w:=w) _ z0 i a ((l1y h).filter _) (fun s hs => ?_) r0k (.inl rfl) ha;obtain ⟨s1,s2⟩:=List.mem_filter.1 hs;have s2:=of_decide_eq_true s2;exact ⟨(k0z h s1).1,s2.1,hn s s1⟩
theorem a2n {a b:Cel} {w k:Int} (hw:1≤w) (ha:a=z0∨a.2.2.1.1 / w<k) (hb:b=z0∨b.2.1.1 / w=k):Ahead a b:=by
 rcases ha with ha | ha
 ·exact .inl ha
 rcases hb with hb | hb
 ·exact .inr (.inl hb)
 refine .inr (.inr ?_);rcases Int.lt_or_le a.2.2.1.1 b.2.1.1 with q | q
 ·exact q
 ·have:=Int.ediv_le_ediv (c:=w) (by omega) q;omega
theorem e2f {w:Int}:∀(L:List Slo) (c:Cel) (lo:Int),Up L→(∀s∈L,FitsP s.2 w s.1∧lo≤s.1)→b0f c→(c=z0∨c.2.2.1.1 / w<lo)→∀b:Int,(c=z0∨b≤c.2.1.1 / w)→b≤lo→(allE c (L.map (·.2))).1=z0∨b≤(allE c (L.map (·.2))).1.2.1.1 / w:=by
 intro L;induction L with
 | nil=>intro c lo _ _ _ _ b hb _;exact hb
 | cons s L ih =>
  intro c lo hu hs hc hl b hb hbl;unfold Up at hu;rw[List.pairwise_cons] at hu;obtain ⟨hf,h1⟩:=hs s (by simp);have ha:Ahead c s.2:=by
   rcases hl with h | h
   ·exact .inl h
   ·refine .inr (.inr ?_);have e:=hf.f;rcases Int.lt_or_le c.2.2.1.1 s.2.2.1.1 with q | q
    ·exact q
    ·have:=Int.ediv_le_ediv (c:=w) (by have:=hf.w0;omega) q;omega
  simp only[List.map_cons,allE];rw[w0k hc hf.n.ok ha,if_pos rfl];refine ih _ (s.1+1) hu.2 (fun x hx=>⟨(hs x (by simp[hx])).1,by have:=hu.1 x hx;omega⟩) (s1s hc hf.n.ok ha) (.inr ?_) b ?_ (by omega)
  ·have el:(mrg c s.2).2.2.1.1=s.2.2.2.1.1:=by
    unfold mrg;by_cases k:c=z0
    ·rw[if_pos k]
    ·rw[if_neg k,if_neg hf.n.ne]
   rw[el,hf.l];omega
  ·unfold mrg;by_cases k:c=z0
   ·rw[if_pos k,hf.f];exact .inr (by omega)
   ·rw[if_neg k,if_neg hf.n.ne];rcases hb with hb | hb
    ·exact absurd hb k
    ·exact .inr hb
theorem u1s {t:List Slo} {w i j:Int} (h:TierOk t w) (h0:0≤i):(g0k t i j).1=z0∨i≤(g0k t i j).1.2.1.1 / w:=by
 unfold g0k;split
 ·exact .inl rfl
 ·unfold within;refine e2f (w:=w) _ z0 i ((l1y h).filter _) (fun s hs => ?_) r0k (.inl rfl) i (.inl rfl) (Int.le_refl _);obtain ⟨s1,s2⟩:=List.mem_filter.1 hs;have s2:=of_decide_eq_true s2;exact ⟨(k0z h s1).1,s2.1⟩
theorem now_up {t:List Slo} {a b T:Int} {cur:Cel} (h:TierOk t a) (hb:a0y t (T / a)) (ha:1≤a) (hb1:1≤b) (hm:b % a=0) (hT:0≤T) (hc:CellN cur) (hf:cur.2.1.1 / a=T / a) :
  ∃m,mrgE (g0k t (T / b*(b / a)) (T / a)).1 cur=(m,0)∧CellN m∧m.2.1.1 / b=T / b:=by
 have hp:=d2p ha hb1 hm;have q:=(edvm (t:=T) ha hb1 hm).2;have hT':0≤T / b:=Int.ediv_nonneg hT (by omega);have u0:T / b*(b / a)≤T / a:=by rw[←q];exact Int.ediv_mul_le _ (by omega)
 have p0:0≤T / b*(b / a):=Int.mul_nonneg hT' (by omega);obtain ⟨k1,k2⟩:=k1i (j:=T / a) h hb p0 u0;have k3:=u1s (j:=T / a) h p0;have hah:=a2n ha k2 (.inr hf);refine ⟨_,w0k k1 hc.ok hah,?_,?_⟩
 ·rcases k1 with z | z
  ·rw[z,p1o];exact hc
  ·rcases hah with y | y | y
   ·rw[y,p1o];exact hc
   ·exact absurd y hc.ne
   ·exact mrg_N z hc y
 ·unfold mrg;by_cases z:(g0k t (T / b*(b / a)) (T / a)).1=z0
  ·rw[if_pos z,←(edvm (t:=cur.2.1.1) ha hb1 hm).2,hf,q]
  ·rw[if_neg z,if_neg hc.ne];have z1:=k2.resolve_left z;have z2:=k3.resolve_left z;have z3:=(k1.n z).ft;have z4:(g0k t (T / b*(b / a)) (T / a)).1.2.1.1 / a≤(g0k t (T / b*(b / a)) (T / a)).1.2.2.1.1 / a:=Int.ediv_le_ediv (by omega) z3;rw[←(edvm (t:=(g0k t (T / b*(b / a)) (T / a)).1.2.1.1) ha hb1 hm).2];have z5:(g0k t (T / b*(b / a)) (T / a)).1.2.1.1 / a / (b / a)≤T / a / (b / a):=Int.ediv_le_ediv (by omega) (by omega);have z6:T / b≤(g0k t (T / b*(b / a)) (T / a)).1.2.1.1 / a / (b / a):=by rw[Int.le_ediv_iff_mul_le hp];exact z2
   omega
theorem x0s {t:List Slo} {w T i j:Int} {cur:Cel} {ok:Prop} [Decidable ok] (hok:ok) (h:TierOk t w) (hb:T = -1∨a0y t (T / w)∧CellN cur∧cur.2.1.1 / w=T / w) (h0:0≤i) (hij:i≤j):(d0r ok i j T w t (cur,0)).2=0:=by
 unfold d0r;rw[if_pos hok,if_neg (by omega),if_neg (by omega)];by_cases h1:T = -1
 ·rw[if_pos h1]
 rw[if_neg h1];obtain ⟨hb,hc,hf⟩:=hb.resolve_left h1;by_cases h2:T / w<i
 ·rw[if_pos h2];exact g0r h h0 hij
 rw[if_neg h2];by_cases h3:j≤T / w
 ·rw[if_pos h3];exact g0r h h0 hij
 rw[if_neg h3,if_neg (nn rfl)];obtain ⟨k1,k2⟩:=k1i (j:=j) h hb h0 (by omega:i≤T / w);rw[w0k k1 hc.ok (a2n h.w0 k2 (.inr hf))]
theorem x0r {t:List Slo} {w T i j:Int} {now:Cel×Int} {ok:Prop} [Decidable ok] (hok:ok) (h:TierOk t w) (hb:a0y t (T / w+1)) (h0:0≤i) (hij:i≤j) (hi:T / w<i):d0r ok i j T w t now=(z0,0):=by
 have e:g0k t i j=(z0,0):=by
  unfold g0k;rw[if_neg (by omega)];have hn:=(g0z h _).1 hb;have:within t i j=[]:=by
   unfold within;rw[List.filter_eq_nil_iff.2 (fun s hs=>by have:=hn s hs;simp;omega)];rfl
  rw[this];rfl
 unfold d0r;rw[if_pos hok,if_neg (by omega),if_neg (by omega),if_pos hi,e];split<;>rfl
structure Ends3 (c:Conf) (s:Ser):Prop where
 t0:s.2.1 = -1∨a0y s.2.2.2.1.1 (s.2.1 / c.2.1.1)∧CellN s.2.2.2.2.2∧s.2.2.2.2.2.2.1.1 / c.2.1.1=s.2.1 / c.2.1.1
 t1:s.2.1 = -1∨∃m,now1 c s=(m,0)∧a0y s.2.2.2.1.2.1 (s.2.1 / c.2.1.2.1)∧CellN m∧m.2.1.1 / c.2.1.2.1=s.2.1 / c.2.1.2.1
 t2:s.2.1 = -1∨∃m,now2 c s=(m,0)∧a0y s.2.2.2.1.2.2 (s.2.1 / c.2.1.2.2)∧CellN m∧m.2.1.1 / c.2.1.2.2=s.2.1 / c.2.1.2.2
theorem v1j {c:Conf} {s:Ser} (h:SerOk c s):Ends3 c s:=by
 have hr:=h.fold.cok.rng;by_cases hn:s.2.1 = -1
 ·exact ⟨.inl hn,.inl hn,.inl hn⟩
 have ht:=l0x h hn;obtain ⟨he,_⟩:=k1s h hn;have hf:s.2.2.2.2.2.2.1.1 / c.2.1.1=s.2.1 / c.2.1.1:=by
  rw[he.fit.f,←he.fit.l,he.ol]
 obtain ⟨m1,a1,a2,a3⟩:=now_up h.fold.t0 he.b0 hr.w0.1 hr.w1.1 h.fold.cok.m1 ht.1 he.fit.n hf;obtain ⟨m2,b1,b2,b3⟩:=now_up h.fold.t1 he.b1 hr.w1.1 hr.w2.1 h.fold.cok.m2 ht.1 a2 a3;have e1:now1 c s=(m1,0):=a1;refine ⟨.inr ⟨he.b0,he.fit.n,hf⟩,.inr ⟨m1,e1,he.b1,a2,a3⟩,.inr ⟨m2,?_,he.b2,b2,b3⟩⟩;unfold now2;rw[e1,if_neg (nn rfl)];exact b1
noncomputable def q0r (c:Conf) (s:Ser) (k i j:Int):Cel×Int :=
 if k=0 then d0r (SerOk c s) i j s.2.1 c.2.1.1 s.2.2.2.1.1 (s.2.2.2.2.2,0)
 else if k=1 then d0r (SerOk c s) i j s.2.1 c.2.1.2.1 s.2.2.2.1.2.1 (now1 c s)
 else d0r (SerOk c s) i j s.2.1 c.2.1.2.2 s.2.2.2.1.2.2 (now2 c s)
theorem v1r {c:Conf} {s:Ser} (h:SerOk c s) (k:Int) {i j:Int} (h0:0≤i) (hij:i≤j):(q0r c s k i j).2=0:=by
 have he:=v1j h;unfold q0r;split
 ·exact x0s h h.fold.t0 he.t0 h0 hij
 split
 ·by_cases hn:s.2.1 = -1
  ·unfold d0r;rw[if_pos h,if_neg (by omega),if_neg (by omega),if_pos hn]
  ·obtain ⟨m,e,k1,k2,k3⟩:=he.t1.resolve_left hn;rw[e];exact x0s h h.fold.t1 (.inr ⟨k1,k2,k3⟩) h0 hij
 ·by_cases hn:s.2.1 = -1
  ·unfold d0r;rw[if_pos h,if_neg (by omega),if_neg (by omega),if_pos hn]
  ·obtain ⟨m,e,k1,k2,k3⟩:=he.t2.resolve_left hn;rw[e];exact x0s h h.fold.t2 (.inr ⟨k1,k2,k3⟩) h0 hij
theorem nb_all {c:Conf} {s:Ser} (h:SerOk c s):a0y s.2.2.2.1.1 (s.2.1 / c.2.1.1+1)∧a0y s.2.2.2.1.2.1 (s.2.1 / c.2.1.2.1+1)∧a0y s.2.2.2.1.2.2 (s.2.1 / c.2.1.2.2+1):=by
 have hr:=h.fold.cok.rng;rcases h.st with ⟨k1,k2⟩ | ⟨k1,k2⟩
 ·rw[k1];have e:∀w:Int,1≤w→(-1:Int) / w = -1:=fun w hw=>Int.ediv_eq_iff_of_pos (by omega) |>.2 ⟨by omega,by omega⟩
  rw[e _ hr.w0.1,e _ hr.w1.1,e _ hr.w2.1];exact ⟨k2.b0,k2.b1,k2.b2⟩
 ·exact ⟨x1c k2.b0 (by omega),x1c k2.b1 (by omega),x1c k2.b2 (by omega)⟩
theorem v1q {c:Conf} {s:Ser} (h:SerOk c s) {k:Int} (hk0:0≤k) (hk2:k≤2) {i j:Int} (h0:0≤i) (hij:i≤j) (hi:s.2.1 / g0b c k<i):q0r c s k i j=(z0,0):=by
 obtain ⟨n0,n1,n2⟩:=nb_all h;unfold q0r;unfold g0b at hi;rcases (by omega:k=0∨k=1∨k=2) with e | e | e
 ·subst e;rw[if_pos rfl] at hi ⊢;exact x0r h h.fold.t0 n0 h0 hij hi
 ·subst e;rw[if_neg (by decide),if_pos rfl] at hi ⊢;exact x0r h h.fold.t1 n1 h0 hij hi
 ·subst e;rw[if_neg (by decide),if_neg (by decide)] at hi ⊢;exact x0r h h.fold.t2 n2 h0 hij hi
noncomputable def a1d (s:Sta) (i:Nat):Bool:=match s.2.2.2[i]? with | some x=>p0x s.1 x.2.1 s.2.1 | none=>false
noncomputable def dueV (s:Sta):List Nat:=if StaOk s then (k0c s).filter (a1d s) else []
def d0y (s:Sta):Sta:=(s.1,(s.2.1,(s.2.1,s.2.2.2)))
theorem a1h {s:Sta} {x:Ser} (h:StaOk s):LvX (d0y s) x↔x≠ser0∧p0x s.1 x.2.1 s.2.1=false:=by
 have:=h.clock.1.1;constructor
 ·rintro ⟨h1,h2 | h2⟩
  ·exfalso;have h2:s.2.1 = -1:=h2;omega
  ·exact ⟨h1,h2⟩
 ·rintro ⟨h1,h2⟩;exact ⟨h1,.inr h2⟩
theorem old_mono {a b w m:Int} (ha:OfP a w) (hb:OfP b w) (hab:a≤b) (hm:1≤m∧m≤4096):(oldV a w m).1≤(oldV b w m).1:=by
 unfold oldV;rw[if_pos (show OfP a w∧1≤m∧m≤4096 from ⟨ha,hm.1,hm.2⟩),if_pos (show OfP b w∧1≤m∧m≤4096 from ⟨hb,hm.1,hm.2⟩)];have:a / w≤b / w:=Int.ediv_le_ediv (by have:=ha.2.2.1;omega) hab;simp only;split<;>split<;>omega
theorem d1w {t a b w m:Int} (ha:OfP a w) (hb:OfP b w) (hab:a≤b) (hm:1≤m∧m≤4096) (h:r0s t a w m=true):r0s t b w m=true:=by
 unfold r0s at *
 have h:=of_decide_eq_true h;have:=old_mono ha hb hab hm;exact decide_eq_true ⟨h.1,a1t hb hm,by omega⟩
theorem i2y {c:Conf} {t a b:Int} (ha:y0x a) (hb:y0x b) (hab:a≤b) (h:p0x c t a=true):p0x c t b=true:=by
 unfold p0x at *
 simp only[Bool.and_eq_true,decide_eq_true_eq] at h ⊢;obtain ⟨hc,h0,h1,h2⟩:=h;have hr:=hc.rng;exact ⟨hc,d1w ⟨ha.1,ha.2,hr.w0.1,hr.w0.2⟩ ⟨hb.1,hb.2,hr.w0.1,hr.w0.2⟩ hab hr.n0 h0,d1w ⟨ha.1,ha.2,hr.w1.1,hr.w1.2⟩ ⟨hb.1,hb.2,hr.w1.1,hr.w1.2⟩ hab hr.n1 h1,d1w ⟨ha.1,ha.2,hr.w2.1,hr.w2.2⟩ ⟨hb.1,hb.2,hr.w2.1,hr.w2.2⟩ hab hr.n2 h2⟩
theorem l1z {s:Sta} (h:StaOk s) {x:Ser} (hl:LvX (d0y s) x):LvX s x:=by
 obtain ⟨h1,h2⟩:=(a1h h).1 hl;refine ⟨h1,?_⟩;rcases h.clock.2.1 with k | k
 ·exact .inl k
 ·refine .inr ?_;cases hd:p0x s.1 x.2.1 s.2.2.1 with
  | false=>rfl
  | true=>rw[i2y k h.clock.1 h.clock.2.2 hd] at h2;cases h2
theorem s0b {s:Sta} (h:StaOk s):StaOk (d0y s):=by
 refine ⟨h.whole,⟨h.clock.1,.inr h.clock.1,Int.le_refl _⟩,fun i x hx => ?_⟩;rcases h.right i x hx with k | ⟨k1,k2,k3,k4⟩
 ·exact .inl k
 ·refine .inr ⟨k1,k2,k3,?_⟩;rintro ⟨q1,j,q2,y,q3,q4,q5⟩;exact k4 ⟨l1z h q1,j,q2,y,q3,l1z h q4,q5⟩
theorem x1d {s:Sta} (h:StaOk s) {x:Ser} (hx:x∈s.2.2.2) (hl:LvX s x):SerOk s.1 x∧0≤x.2.1:=by
 obtain ⟨i,hi,e⟩:=List.getElem_of_mem hx;rcases h.right i x (by rw[List.getElem?_eq_getElem hi,e]) with k | k
 ·exact absurd k hl.1
 ·exact ⟨k.1,k.2.1⟩
theorem lvAt_iff {s:Sta} {i:Nat}:lvAt s i=true↔∃x,s.2.2.2[i]? = some x∧LvX s x:=by
 unfold lvAt;cases s.2.2.2[i]? with
 | none=>simp
 | some x=>simp
theorem c2z {s:Sta} (h:StaOk s):k0c (d0y s)=(k0c s).filter fun i => !a1d s i:=by
 unfold k0c;rw[List.filter_filter];refine List.filter_congr fun i hi => ?_
 have hi:i<s.2.2.2.length:=List.mem_range.1 hi;have hx:s.2.2.2[i]? = some s.2.2.2[i]:=List.getElem?_eq_getElem hi;generalize s.2.2.2[i]=x at hx;have e1:lvAt s i=decide (LvX s x):=d1q hx;have e2:lvAt (d0y s) i=decide (LvX (d0y s) x):=d1q hx;have e3:a1d s i=p0x s.1 x.2.1 s.2.1:=by unfold a1d;rw[hx]
 rw[e1,e2,e3,Bool.eq_iff_iff];simp only[decide_eq_true_eq,Bool.and_eq_true,Bool.not_eq_true'];constructor
 ·intro k;exact ⟨((a1h h).1 k).2,l1z h k⟩
 ·rintro ⟨k1,k2⟩;exact (a1h h).2 ⟨k2.1,k1⟩
theorem d2u {s:Sta} (h:StaOk s) {x:Ser} (hx:SerOk s.1 x) (hd:p0x s.1 x.2.1 s.2.1=true) {k:Int} (hk0:0≤k) (hk2:k≤2) {i j:Int} (h0:0≤i) (hij:i≤j) (hi:(oldV s.2.1 (g0b s.1 k) (b2b s.1 k)).1≤i):q0r s.1 x k i j=(z0,0):=by
 refine v1q hx hk0 hk2 h0 hij ?_;unfold p0x at hd;simp only[Bool.and_eq_true,decide_eq_true_eq] at hd;obtain ⟨_,d0,d1,d2⟩:=hd;unfold r0s at d0 d1 d2;have d0:=(of_decide_eq_true d0).2.2;have d1:=(of_decide_eq_true d1).2.2;have d2:=(of_decide_eq_true d2).2.2;unfold g0b b2b at hi;unfold g0b;rcases (by omega:k=0∨k=1∨k=2) with e | e | e
 ·subst e;rw[if_pos rfl,if_pos rfl] at hi;rw[if_pos rfl];omega
 ·subst e;rw[if_neg (by decide),if_pos rfl,if_neg (by decide),if_pos rfl] at hi;rw[if_neg (by decide),if_pos rfl];omega
 ·subst e;rw[if_neg (by decide),if_neg (by decide),if_neg (by decide),if_neg (by decide)] at hi;rw[if_neg (by decide),if_neg (by decide)];omega
end Go.Proofs.YtgkpkajaepphjaaGreatDoor

namespace Go.Plim
set_option linter.unusedVariables false
def tz:Nat→Nat→Nat
 | 0,_=>0
 | k+1,x=>if x % 2=1 then 0 else tz k (x / 2)+1
theorem tz_odd (k x:Nat) (h:x % 2=1):tz k x=0:=by cases k<;>simp[tz,h]
theorem t0t:∀(k x:Nat),0<x→x<2^k→tz k x<k∧x=2^tz k x*(x / 2^tz k x)∧(x / 2^tz k x) % 2=1:=by
 intro k;induction k with
 | zero=>intro x h0 h1;simp at h1;omega
 | succ k ih =>
  intro x h0 h1;by_cases h:x % 2=1
  ·rw[tz_odd (k+1) x h];simp[h]
  ·have e:tz (k+1) x=tz k (x / 2)+1:=by simp[tz,h]
   rw[Nat.pow_succ] at h1;obtain ⟨a1,a2,a3⟩:=ih (x / 2) (by omega) (by omega);rw[e,Nat.pow_succ,Nat.mul_comm (2^tz k (x / 2)) 2,←Nat.div_div_eq_div_mul];refine ⟨by omega,?_,a3⟩;rw[Nat.mul_assoc,←a2];omega
theorem b1f {k x t:Nat} (h0:0<x) (h1:x<2^k) (h:x % 2^t=0) (ho:(x / 2^t) % 2=1):tz k x=t:=by
 obtain ⟨a1,a2,a3⟩:=t0t k x h0 h1;have b2:x=2^t*(x / 2^t):=by have:=Nat.div_add_mod x (2^t);omega
 generalize tz k x=s at *
 generalize hy:x / 2^s=y at *
 generalize hz:x / 2^t=z at *
 have e:2^s*y=2^t*z:=by omega
 have one:∀(s t y z:Nat),2^s*y=2^t*z→y % 2=1→z % 2=1→s<t→False:=by
  intro s t y z e hy hz hlt;obtain ⟨d,rfl⟩:∃d,t=s+(d+1):=⟨t-s-1,by omega⟩;rw[Nat.pow_add,Nat.mul_assoc] at e;have:=Nat.eq_of_mul_eq_mul_left (Nat.two_pow_pos s) e;rw[this,Nat.pow_succ,Nat.mul_comm (2^d) 2,Nat.mul_assoc,Nat.mul_mod_right] at hy;cases hy
 rcases Nat.lt_trichotomy s t with q | q | q
 ·exact (one s t y z e a3 ho q).elim
 ·exact q
 ·exact (one t s z y e.symm ho a3 q).elim
theorem x1i {a b:Nat} (ha:a % 2=1) (t:Nat):Nat.gcd a (2^t*b)=Nat.gcd a b:=by
 have hc:Nat.Coprime 2 a:=by
  unfold Nat.Coprime;rw[Nat.gcd_rec,ha];simp
 exact Nat.Coprime.gcd_mul_left_cancel_right b (Nat.Coprime.pow_left t hc)
theorem a1x {a b:Nat} (h:a≤b):Nat.gcd a (b-a)=Nat.gcd a b:=by
 have:=Nat.gcd_add_self_right (m:=a) (n:=b-a);rw[Nat.sub_add_cancel h] at this;exact this.symm
theorem h2w {x y s t a b:Nat} (hx:x=2^s*a) (hy:y=2^t*b) (ha:a % 2=1) (hb:b % 2=1):Nat.gcd x y=2^(min s t)*Nat.gcd a b:=by
 subst hx hy;rcases Nat.le_total s t with h | h
 ·rw[Nat.min_eq_left h];obtain ⟨d,rfl⟩:∃d,t=s+d:=⟨t-s,by omega⟩;rw[Nat.pow_add,Nat.mul_assoc,Nat.gcd_mul_left,x1i ha]
 ·rw[Nat.min_eq_right h];obtain ⟨d,rfl⟩:∃d,s=t+d:=⟨s-t,by omega⟩;rw[Nat.pow_add,Nat.mul_assoc,Nat.gcd_mul_left,Nat.gcd_comm (2^d*a),x1i hb,Nat.gcd_comm b a]
def bl:Nat→Nat→Nat
 | 0,_=>0
 | k+1,x=>if x=0 then 0 else bl k (x / 2)+1
theorem y0t (k:Nat):bl k 0=0:=by cases k<;>simp[bl]
theorem i0t:∀(k x:Nat),x<2^k→x<2^bl k x∧(0<x→0<bl k x∧2^(bl k x-1)≤x)∧bl k x≤k:=by
 intro k;induction k with
 | zero=>intro x h;simp[bl] at *;omega
 | succ k ih =>
  intro x h;by_cases h0:x=0
  ·subst h0;rw[y0t];simp
  ·have e:bl (k+1) x=bl k (x / 2)+1:=by simp[bl,h0]
   rw[Nat.pow_succ] at h;obtain ⟨a1,a2,a3⟩:=ih (x / 2) (by omega);rw[e];refine ⟨by rw[Nat.pow_succ];omega,fun _=>⟨by omega,?_⟩,by omega⟩;rw[Nat.add_sub_cancel];by_cases h1:x / 2=0
   ·rw[h1,y0t];simp;omega
   ·obtain ⟨b1,b2⟩:=a2 (by omega);have:2^bl k (x / 2)=2^(bl k (x / 2)-1)*2:=by rw[←Nat.pow_succ];congr 1;omega
    omega
theorem u1h {k x b:Nat} (h:x<2^k) (h0:0<x) (h1:2^b≤x) (h2:x<2^(b+1)):bl k x=b+1:=by
 obtain ⟨a1,a2,_⟩:=i0t k x h;obtain ⟨c1,c2⟩:=a2 h0;have d1:b<bl k x:=by
  rcases Nat.lt_or_ge b (bl k x) with q | q
  ·exact q
  ·have:=Nat.pow_le_pow_right (show 0<2 by decide) q;omega
 have d2:bl k x-1<b+1:=by
  rcases Nat.lt_or_ge (bl k x-1) (b+1) with q | q
  ·exact q
  ·have:=Nat.pow_le_pow_right (show 0<2 by decide) q;omega
 omega
theorem div_step {A D L i q r:Nat} (hD:0<D) (h:A / 2^(i+1)=D*q+r) (hr:r<D) :
  (D≤2*r+A / 2^i % 2→A / 2^i=D*(2*q+1)+(2*r+A / 2^i % 2-D)∧2*r+A / 2^i % 2-D<D) ∧
  (2*r+A / 2^i % 2<D→A / 2^i=D*(2*q)+(2*r+A / 2^i % 2)):=by
 rw[Nat.pow_succ,←Nat.div_div_eq_div_mul] at h;have h1:=Nat.div_add_mod (A / 2^i) 2;rw[h] at h1;have e1:2*(D*q+r)=D*(2*q)+2*r:=by rw[Nat.mul_add,Nat.mul_left_comm]
 have e2:D*(2*q+1)=D*(2*q)+D:=by rw[Nat.mul_add,Nat.mul_one]
 generalize D*(2*q)=Z at *
 constructor
 ·intro k;rw[e2];omega
 ·intro k;omega
end Go.Plim
