/-
 Plain proofs about the functions of this seat, part 2 of 4.
-/
import Derived.Test.YtgkpkajaepphjaaGreatDoorQ1
import Derived.Test.YtgkpkajaepphjaaGreatDoorTr
import Derived.Test.YtgkpkajaepphjaaGreatDoorFlatM3
namespace Go.Proofs.YtgkpkajaepphjaaGreatDoor
open Go.Flat Go.Plim
set_option linter.unusedVariables false
set_option linter.unusedSimpArgs false
structure SloW (s:Slo):Prop where
 i:I64 s.1
 c:CelW s.2
theorem k2q (a b:Slo):((decide (a.1=b.1))&&((decide (a.2.1=b.2.1))&&((decide (a.2.2.1.1=b.2.2.1.1))&&((decide (a.2.2.1.2.1=b.2.2.1.2.1))&&((decide (a.2.2.1.2.2.1=b.2.2.1.2.2.1))&&((a.2.2.1.2.2.2==b.2.2.1.2.2.2)&&((decide (a.2.2.2.1.1=b.2.2.2.1.1))&&((decide (a.2.2.2.1.2.1=b.2.2.2.1.2.1))&&((decide (a.2.2.2.1.2.2.1=b.2.2.2.1.2.2.1))&&((a.2.2.2.1.2.2.2==b.2.2.2.1.2.2.2)&&((decide (a.2.2.2.2.1.1=b.2.2.2.2.1.1))&&((decide (a.2.2.2.2.1.2=b.2.2.2.2.1.2))&&((decide (a.2.2.2.2.2.1=b.2.2.2.2.2.1))&&((decide (a.2.2.2.2.2.2.1=b.2.2.2.2.2.2.1))&&(decide (a.2.2.2.2.2.2.2=b.2.2.2.2.2.2.2))))))))))))))))=decide (a=b):=by
 rw[celEq a.2 b.2,Bool.eq_iff_iff];simp[Prod.ext_iff]
theorem v1g (a:Slo):((decide (a.1=(0:Int)))&&((decide (a.2.1=(0:Int)))&&((decide (a.2.2.1.1=(0:Int)))&&((decide (a.2.2.1.2.1=(0:Int)))&&((decide (a.2.2.1.2.2.1=(0:Int)))&&((a.2.2.1.2.2.2==false)&&((decide (a.2.2.2.1.1=(0:Int)))&&((decide (a.2.2.2.1.2.1=(0:Int)))&&((decide (a.2.2.2.1.2.2.1=(0:Int)))&&((a.2.2.2.1.2.2.2==false)&&((decide (a.2.2.2.2.1.1=(0:Int)))&&((decide (a.2.2.2.2.1.2=(0:Int)))&&((decide (a.2.2.2.2.2.1=(0:Int)))&&((decide (a.2.2.2.2.2.2.1=(0:Int)))&&(decide (a.2.2.2.2.2.2.2=(0:Int)))))))))))))))))=decide (a=s0):=k2q a s0
theorem wi_in (n:Nat) (x a b:Int):r0f (n+1) x a b=some (decide (a≤x∧x≤b)):=by
 rw[j1j];by_cases h1:a≤x<;>by_cases h2:x≤b<;>simp[h1,h2]
def OfP (t w:Int):Prop:=0≤t∧t<35184372088832∧1≤w∧w≤1099511627776
instance (t w:Int):Decidable (OfP t w):=by unfold OfP;infer_instance
theorem z0x {t w:Int} (h:OfP t w):0≤t / w∧t / w<35184372088832:=by
 obtain ⟨h1,h2,h3,h4⟩:=h;have:0≤t / w:=Int.ediv_nonneg h1 (by omega);have:t / w≤t:=Int.ediv_le_self _ h1;omega
theorem wi_of (n:Nat) (t w:Int):f2x (n+3) t w=some (if OfP t w then (t / w,0) else (0,1)):=by
 rw[wi_Of_eq,f1f,wi_in,wi_in];simp only[obs,tfn,tfd];by_cases h:OfP t w
 ·have hq:=z0x h;rw[if_pos h];obtain ⟨h1,h2,h3,h4⟩:=h;rw[if_pos (show (0:Int)≤t∧t≤35184372088831 by omega),if_pos (And.intro h3 h4),if_neg (show ¬(w=0) by omega),l0l h1,w64 (by omega) (by omega)]
 ·rw[if_neg h];by_cases h1:(0:Int)≤t∧t≤35184372088831
  ·rw[if_pos h1,if_neg (fun k=>h ⟨h1.1,by omega,k.1,k.2⟩)]
  ·rw[if_neg h1]
theorem w1f (n:Nat) (t w:Int):d0m (n+2) t w=some (if OfP t w then (t / w,0) else (0,1)):=by
 rw[l2m,d1i];simp only[tfd];by_cases h:OfP t w
 ·have hq:=z0x h;rw[if_pos h];obtain ⟨h1,h2,h3,h4⟩:=h;rw[if_neg (show ¬(t<0) by omega),if_neg (show ¬((35184372088832:Int)≤t) by omega),if_pos h3,decide_eq_true h4];simp only[obs,Bool.not_true,tff];rw[if_neg (show ¬(w=0) by omega),g0d h1];have e:t-t % w=w*(t / w):=by have:=Int.mul_ediv_add_emod t w;omega
  have m0:=Int.emod_nonneg t (show w≠0 by omega);have m1:t % w≤t:=by
   have:=Int.mul_nonneg (show 0≤w by omega) hq.1;omega
  rw[w64 (x:=t-t % w) (by omega) (by omega),l0l (by omega),e,Int.mul_ediv_cancel_left _ (show w≠0 by omega),w64 (by omega) (by omega),if_neg (show ¬(w=0) by omega)]
 ·rw[if_neg h];by_cases h1:t<0
  ·rw[if_pos h1]
  by_cases h2:(35184372088832:Int)≤t
  ·rw[if_neg h1,if_pos h2]
  rw[if_neg h1,if_neg h2];by_cases h3:(1:Int)≤w
  ·have h4:¬(w≤1099511627776):=fun k=>h ⟨by omega,by omega,h3,k⟩
   rw[if_pos h3,decide_eq_false h4];rfl
  ·rw[if_neg h3];rfl
def y0q (i n:Int):Int:=if i<0 then 0 else if n<1 then 0 else i % n
theorem j2r (n:Nat) (i m:Int):p1r (n+1) i m=some (y0q i m):=by
 rw[f2w];simp only[tfd];unfold y0q;by_cases h1:i<0
 ·rw[if_pos h1,if_pos h1]
 by_cases h2:m<1
 ·rw[if_neg h1,if_neg h1,if_pos h2,if_pos h2]
 rw[if_neg h1,if_neg h1,if_neg h2,if_neg h2,if_neg (by omega),g0d (by omega)]
theorem d2z (n:Nat) (i m:Int):e1t (n+1) i m=some (y0q i m):=by
 rw[b2j];simp only[tfd];unfold y0q;by_cases h1:i<0
 ·rw[if_pos h1,if_pos h1]
 by_cases h2:m<1
 ·rw[if_neg h1,if_neg h1,if_pos h2,if_pos h2]
 rw[if_neg h1,if_neg h1,if_neg h2,if_neg h2,if_neg (by omega),g0d (by omega)]
theorem v0c {i n:Int} (hi:0≤i) (hn:1≤n):y0q i n=i % n:=by
 unfold y0q;rw[if_neg (by omega),if_neg (by omega)]
theorem y1f (c:Cel) (w i:Int):FitsP c w i↔c≠z0∧b0y c∧OfP c.2.1.1 w∧c.2.1.1 / w=i∧OfP c.2.2.1.1 w∧c.2.2.1.1 / w=i:=by
 constructor
 ·rintro ⟨n,w0,w1,f,l⟩;exact ⟨n.ne,n.ok,⟨n.f.t0,n.f.t1,w0,w1⟩,f,⟨n.l.t0,n.l.t1,w0,w1⟩,l⟩
 ·rintro ⟨h1,h2,h3,h4,h5,h6⟩;exact ⟨h2.n h1,h3.2.2.1,h3.2.2.2,h4,h6⟩
theorem of01 (p:Prop) [Decidable p] (x:Int):((if p then (x,(0:Int)) else (0,1)).2=0)↔p:=by by_cases h:p<;>simp[h]
theorem n2t (n f:Nat) (w i:Int) (s:Int×Int):g0o n (f+1) (w,i,s,(2:Int),())=some (.inl ()):=by
 rw[n0l,show (decide ((2:Int)<2))=false from rfl,tff]
theorem n2u (n f:Nat) (w i:Int) (s:Int×Int):g0o (n+3) (f+2) (w,i,s,(1:Int),())=some (if OfP s.2 w∧s.2 / w=i then .inl () else .inr false):=by
 rw[n0l,show (decide ((1:Int)<2))=true from rfl,tft,show (decide ((1:Int)=0))=false from rfl,tff,show (decide ((1:Int)=1))=true from rfl,tft,wi_of];simp only[tfd,tfn,obs,of01];rw[show IntKind.wrap .i64 ((1:Int)+1)=2 from rfl,n2t];by_cases h3:OfP s.2 w
 ·rw[if_pos h3,if_pos h3];by_cases h4:s.2 / w=i
  ·rw[if_pos h4,if_pos (And.intro h3 h4)]
  ·rw[if_neg h4,if_neg (fun k=>h4 k.2)]
 ·rw[if_neg h3,if_neg (fun k=>h3 k.1)]
theorem n2v (n f:Nat) (w i:Int) (s:Int×Int):g0o (n+3) (f+3) (w,i,s,(0:Int),())=some (if (OfP s.1 w∧s.1 / w=i)∧(OfP s.2 w∧s.2 / w=i) then .inl () else .inr false):=by
 rw[n0l,show (decide ((0:Int)<2))=true from rfl,tft,show (decide ((0:Int)=0))=true from rfl,tft,wi_of];simp only[tfd,tfn,obs,of01];rw[show IntKind.wrap .i64 ((0:Int)+1)=1 from rfl,n2u];by_cases h3:OfP s.1 w
 ·rw[if_pos h3,if_pos h3];by_cases h4:s.1 / w=i
  ·rw[if_pos h4];by_cases h5:OfP s.2 w∧s.2 / w=i
   ·rw[if_pos h5,if_pos (And.intro (And.intro h3 h4) h5)]
   ·rw[if_neg h5,if_neg (fun k=>h5 k.2)]
  ·rw[if_neg h4,if_neg (fun k=>h4 k.1.2)]
 ·rw[if_neg h3,if_neg (fun k=>h3 k.1.1)]
theorem u1q (n:Nat) {c:Cel} (hc:CelW c) (w i:Int):y0j (n+6) c w i=some (decide (FitsP c w i)):=by
 rw[u1t,c1p n hc];simp only[tfd,obs,tfn,z02];have e:a0d=(2^70-3)+3:=by decide
 rw[e,n2v];have hiff:=y1f c w i;by_cases h1:c.1=0
 ·rw[if_pos h1,decide_eq_false];intro k;have:=k.n.n1;omega
 rw[if_neg h1];by_cases h2:b0y c
 case neg=>rw[if_neg h2,decide_eq_false (fun k=>h2 (hiff.1 k).2.1)]
 rw[if_pos h2];by_cases h3:(OfP c.2.1.1 w∧c.2.1.1 / w=i)∧(OfP c.2.2.1.1 w∧c.2.2.1.1 / w=i)
 ·rw[if_pos h3,decide_eq_true (hiff.2 ⟨mt h2.count.1.2 h1,h2,h3.1.1,h3.1.2,h3.2.1,h3.2.2⟩)];rfl
 ·rw[if_neg h3,decide_eq_false (fun k=>h3 (by have:=hiff.1 k;exact ⟨⟨this.2.2.1,this.2.2.2.1⟩,this.2.2.2.2⟩))];rfl
theorem d2x (n:Nat) {c:Cel} (hc:CelW c) (w i:Int):e1s (n+5) c w i=some (decide (FitsP c w i)):=by
 rw[b2c,g1l n hc,w1f,w1f];simp only[tfd,obs,tfn,z02,of01];have hiff:=y1f c w i;by_cases h2:b0y c
 case neg=>rw[if_neg h2,decide_eq_false (fun k=>h2 (hiff.1 k).2.1)]
 rw[if_pos h2];by_cases h1:c.1=0
 ·rw[if_pos h1,decide_eq_false];intro k;have:=k.n.n1;omega
 rw[if_neg h1];by_cases h3:OfP c.2.1.1 w
 case neg=>rw[if_neg h3,decide_eq_false (fun k=>h3 (hiff.1 k).2.2.1)]
 rw[if_pos h3,if_pos h3];by_cases h5:OfP c.2.2.1.1 w
 case neg=>rw[if_neg h5,decide_eq_false (fun k=>h5 (hiff.1 k).2.2.2.2.1)]
 rw[if_pos h5,if_pos h5];by_cases h4:c.2.1.1 / w=i
 case neg=>rw[if_neg h4,decide_eq_false (fun k=>h4 (hiff.1 k).2.2.2.1)]
 rw[if_pos h4];congr 1;exact decide_eq_decide.2 ⟨fun h6=>hiff.2 ⟨mt h2.count.1.2 h1,h2,h3,h4,h5,h6⟩,fun k=>(hiff.1 k).2.2.2.2.2⟩
theorem y0i (n:Nat) (s:Slo):s0v (n+1) s=some (decide (s=s0)):=by rw[u1p,v1g]
def y0a (m w:Int) (j:Int) (s:Slo):Prop:=s=s0∨(y0q s.1 m=j∧FitsP s.2 w s.1)
theorem u1r (n:Nat) (l:List Slo) (w:Int) (hL:l.length≤4096) (hw:∀s∈l,SloW s):∀(rest pre:List Slo) (f:Nat) (i len:Int),l=pre++rest→i=pre.length→len=l.length→rest.length<f →
  ((∀(j:Nat) s,rest[j]? = some s→y0a l.length w (i+j) s)→g0z (n+6) f (l,w,l,len,i,())=some (.inl ())) ∧
  (¬(∀(j:Nat) s,rest[j]? = some s→y0a l.length w (i+j) s)→g0z (n+6) f (l,w,l,len,i,())=some (.inr 2)):=by
 intro rest;induction rest with
 | nil =>
  intro pre f i len hl hi hn hf;obtain ⟨f,rfl⟩:∃g,f=g+1:=⟨f-1,by simp at hf;omega⟩;rw[s0m];refine ⟨fun _=>by simp only[tfd,if_neg (idxe hl hi hn)],fun h=>absurd ?_ h⟩;intro j s hs;simp at hs
 | cons x rest ih =>
  intro pre f i len hl hi hn hf;obtain ⟨f,rfl⟩:∃g,f=g+1:=⟨f-1,by simp at hf;omega⟩;rw[s0m];have hx:SloW x:=hw x (by rw[hl];simp);have ih':=ih (pre++[x]) f (i+1) len (idxl hl) (idxs hi) hn (by simp at hf;omega);simp only[tfd,tfn,if_pos (idx hl hi hn),b0g hl hi,obs,y0i,j2r,u1q n hx.c,idxw hl hi (by omega)];have split:(∀(j:Nat) s,(x::rest)[j]? = some s→y0a l.length w (i+j) s)↔y0a l.length w i x∧(∀(j:Nat) s,rest[j]? = some s→y0a l.length w (i+1+j) s):=by
   constructor
   ·intro h;refine ⟨by simpa using h 0 x rfl,fun j s hs => ?_⟩;have:=h (j+1) s hs
    rwa [show i+((j+1:Nat):Int)=i+1+j by omega] at this
   ·rintro ⟨h1,h2⟩ j s hs;cases j with
    | zero=>simp at hs;subst hs;simpa using h1
    | succ j =>
     have:=h2 j s hs
     rwa [show i+((j+1:Nat):Int)=i+1+j by omega]
  rw[split];by_cases h0:x=s0
  ·rw[if_pos h0];have hp:y0a l.length w i x := .inl h0;exact ⟨fun h=>ih'.1 h.2,fun h=>ih'.2 (fun k=>h ⟨hp,k⟩)⟩
  ·rw[if_neg h0];by_cases h1:y0q x.1 l.length=i
   ·rw[if_pos h1];by_cases h2:FitsP x.2 w x.1
    ·rw[if_pos h2];have hp:y0a l.length w i x := .inr ⟨h1,h2⟩;exact ⟨fun h=>ih'.1 h.2,fun h=>ih'.2 (fun k=>h ⟨hp,k⟩)⟩
    ·rw[if_neg h2];exact ⟨fun h=>absurd (h.1.resolve_left h0).2 h2,fun _=>rfl⟩
   ·rw[if_neg h1];exact ⟨fun h=>absurd (h.1.resolve_left h0).1 h1,fun _=>rfl⟩
theorem a2z (n:Nat) (l:List Slo) (w:Int) (hL:l.length≤4096) (hw:∀s∈l,SloW s):∀(rest pre:List Slo) (f:Nat) (i len:Int),l=pre++rest→i=pre.length→len=l.length→rest.length<f →
  ((∀(j:Nat) s,rest[j]? = some s→y0a l.length w (i+j) s)→i0u (n+5) f (l,w,l,len,i,())=some (.inl ())) ∧
  (¬(∀(j:Nat) s,rest[j]? = some s→y0a l.length w (i+j) s)→i0u (n+5) f (l,w,l,len,i,())=some (.inr 2)):=by
 intro rest;induction rest with
 | nil =>
  intro pre f i len hl hi hn hf;obtain ⟨f,rfl⟩:∃g,f=g+1:=⟨f-1,by simp at hf;omega⟩;rw[t0o];refine ⟨fun _=>by simp only[tfd,if_neg (idxe hl hi hn)],fun h=>absurd ?_ h⟩;intro j s hs;simp at hs
 | cons x rest ih =>
  intro pre f i len hl hi hn hf;obtain ⟨f,rfl⟩:∃g,f=g+1:=⟨f-1,by simp at hf;omega⟩;rw[t0o];have hx:SloW x:=hw x (by rw[hl];simp);have ih':=ih (pre++[x]) f (i+1) len (idxl hl) (idxs hi) hn (by simp at hf;omega);simp only[tfd,tfn,if_pos (idx hl hi hn),b0g hl hi,obs,v1g,d2z,d2x n hx.c,idxw hl hi (by omega)];have split:(∀(j:Nat) s,(x::rest)[j]? = some s→y0a l.length w (i+j) s)↔y0a l.length w i x∧(∀(j:Nat) s,rest[j]? = some s→y0a l.length w (i+1+j) s):=by
   constructor
   ·intro h;refine ⟨by simpa using h 0 x rfl,fun j s hs => ?_⟩;have:=h (j+1) s hs
    rwa [show i+((j+1:Nat):Int)=i+1+j by omega] at this
   ·rintro ⟨h1,h2⟩ j s hs;cases j with
    | zero=>simp at hs;subst hs;simpa using h1
    | succ j =>
     have:=h2 j s hs
     rwa [show i+((j+1:Nat):Int)=i+1+j by omega]
  rw[split];by_cases h0:x=s0
  ·rw[if_pos h0];have hp:y0a l.length w i x := .inl h0;exact ⟨fun h=>ih'.1 h.2,fun h=>ih'.2 (fun k=>h ⟨hp,k⟩)⟩
  ·rw[if_neg h0];by_cases h2:FitsP x.2 w x.1
   ·rw[if_pos h2];by_cases h1:y0q x.1 l.length=i
    ·rw[if_pos h1];have hp:y0a l.length w i x := .inr ⟨h1,h2⟩;exact ⟨fun h=>ih'.1 h.2,fun h=>ih'.2 (fun k=>h ⟨hp,k⟩)⟩
    ·rw[if_neg h1];exact ⟨fun h=>absurd (h.1.resolve_left h0).1 h1,fun _=>rfl⟩
   ·rw[if_neg h2];exact ⟨fun h=>absurd (h.1.resolve_left h0).2 h2,fun _=>rfl⟩
theorem v1f {l:List Slo} {w:Int} (h0:1≤l.length):(∀(j:Nat) s,l[j]? = some s→y0a l.length w (0+j) s)↔(∀(j:Nat) s,l[j]? = some s→s=s0∨(s.1 % (l.length:Int)=j∧FitsP s.2 w s.1)):=by
 constructor
 ·intro h j s hs;rcases h j s hs with e | ⟨e,f⟩
  ·exact .inl e
  ·rw[v0c f.i0.1 (by omega)] at e;exact .inr ⟨by omega,f⟩
 ·intro h j s hs;rcases h j s hs with e | ⟨e,f⟩
  ·exact .inl e
  ·exact .inr ⟨by rw[v0c f.i0.1 (by omega)];omega,f⟩
theorem b1d (n:Nat) (l:List Slo) (w:Int) (hw:∀s∈l,SloW s):p0q (n+7) l w=some (if TierOk l w then 0 else 2):=by
 rw[p1z];simp only[tfd];by_cases h1:(l.length:Int)=0
 ·rw[if_pos h1,if_neg (fun k=>by have:=k.l0;omega)]
 by_cases h2:(4096:Int)<l.length
 ·rw[if_neg h1,if_pos h2,if_neg (fun k=>by have:=k.l1;omega)]
 by_cases h3:w<1
 ·rw[if_neg h1,if_neg h2,if_pos h3,if_neg (fun k=>by have:=k.w0;omega)]
 by_cases h4:(1099511627776:Int)<w
 ·rw[if_neg h1,if_neg h2,if_neg h3,if_pos h4,if_neg (fun k=>by have:=k.w1;omega)]
 rw[if_neg h1,if_neg h2,if_neg h3,if_neg h4];have hl:=u1r n l w (by omega) hw l [] a0d 0 l.length rfl rfl rfl (by unfold a0d;omega);rw[v1f (by omega)] at hl;by_cases h5:∀(j:Nat) s,l[j]? = some s→s=s0∨(s.1 % (l.length:Int)=j∧FitsP s.2 w s.1)
 ·rw[hl.1 h5,if_pos ⟨by omega,by omega,by omega,by omega,h5⟩];rfl
 ·rw[hl.2 h5,if_neg (fun k=>h5 k.s)];rfl
theorem g1f (n:Nat) (l:List Slo) (w:Int) (hw:∀s∈l,SloW s):t0p (n+6) l w=some (if TierOk l w then 0 else 2):=by
 rw[v1z];simp only[tfd];by_cases h1:(l.length:Int)<1
 ·rw[if_pos h1,if_neg (fun k=>by have:=k.l0;omega)]
 by_cases h2:(4096:Int)<l.length
 ·rw[if_neg h1,if_pos h2,if_neg (fun k=>by have:=k.l1;omega)]
 by_cases h3:w<1
 ·rw[if_neg h1,if_neg h2,if_pos h3,if_neg (fun k=>by have:=k.w0;omega)]
 by_cases h4:(1099511627776:Int)<w
 ·rw[if_neg h1,if_neg h2,if_neg h3,if_pos h4,if_neg (fun k=>by have:=k.w1;omega)]
 rw[if_neg h1,if_neg h2,if_neg h3,if_neg h4];have hl:=a2z n l w (by omega) hw l [] a0d 0 l.length rfl rfl rfl (by unfold a0d;omega);rw[v1f (by omega)] at hl;by_cases h5:∀(j:Nat) s,l[j]? = some s→s=s0∨(s.1 % (l.length:Int)=j∧FitsP s.2 w s.1)
 ·rw[hl.1 h5,if_pos ⟨by omega,by omega,by omega,by omega,h5⟩];rfl
 ·rw[hl.2 h5,if_neg (fun k=>h5 k.s)];rfl
theorem j2g (n:Nat) (l:List Slo) (h:l.length≤1000000):r0o (n+1) l=some l:=by
 rw[e1a];simp only[tfd,if_pos (show (0+l.length)*120≤140737488355328 by omega),List.nil_append];by_cases h0:l.length=0
 ·obtain rfl:=List.length_eq_zero_iff.1 h0;simp
 ·rw[if_neg h0]
section
variable {del:a0f×Unit→Option Bool} {p:Slo→Bool} (hd:∀x,del (x,())=some (p x))
include hd
theorem n2l (n:Nat) (l:List Slo) (hL:l.length≤1000000):∀(rest pre:List Slo) (f:Nat) (i len:Int),l=pre++rest→i=pre.length→len=l.length→rest.length<f →
  (d0k n f (l,del,len,i,())=some (.inl ())∧∀x∈rest,p x=false) ∨
  (∃A x B,rest=A++x::B∧(∀y∈A,p y=false)∧p x=true∧d0k n f (l,del,len,i,())=some (.inr (i+A.length))):=by
 intro rest;induction rest with
 | nil =>
  intro pre f i len hl hi hn hf;obtain ⟨f,rfl⟩:∃g,f=g+1:=⟨f-1,by simp at hf;omega⟩;rw[j0g];exact .inl ⟨by simp only[tfd,if_neg (idxe hl hi hn)],by simp⟩
 | cons x rest ih =>
  intro pre f i len hl hi hn hf;obtain ⟨f,rfl⟩:∃g,f=g+1:=⟨f-1,by simp at hf;omega⟩;rw[j0g];simp only[tfd,if_pos (idx hl hi hn),b0g hl hi,obs,hd,idxw hl hi (by omega)];cases hp:p x with
  | true=>exact .inr ⟨[],x,rest,rfl,by simp,hp,by simp⟩
  | false =>
   rw[tff];rcases ih (pre++[x]) f (i+1) len (idxl hl) (idxs hi) hn (by simp at hf;omega) with ⟨h1,h2⟩ | ⟨A,y,B,h1,h2,h3,h4⟩
   ·exact .inl ⟨h1,by intro z hz;rcases List.mem_cons.1 hz with rfl | hz;exact hp;exact h2 z hz⟩
   ·refine .inr ⟨x::A,y,B,by rw[h1];rfl,?_,h3,by rw[h4,List.length_cons,show i+1+(A.length:Int)=i+((A.length+1:Nat):Int) by omega]⟩;intro z hz;rcases List.mem_cons.1 hz with rfl | hz
    ·exact hp
    ·exact h2 z hz
theorem delete_l (n:Nat) (l0:List Slo) (hL:l0.length≤1000000):∀(rest F G:List Slo) (f:Nat) (i j:Int),(F++(G++rest)).length=l0.length→G≠[]→i=F.length→j=F.length+G.length→rest.length<f →
  ∃G',d0f n f (F++(G++rest),del,i,j,())=some (.inl (F++rest.filter (fun x => !p x)++G',(F++rest.filter (fun x => !p x)).length,()))∧(F++rest.filter (fun x => !p x)++G').length=l0.length:=by
 intro rest;induction rest with
 | nil =>
  intro F G f i j hl hg hi hj hf;obtain ⟨f,rfl⟩:∃g,f=g+1:=⟨f-1,by simp at hf;omega⟩;rw[i0s];have:¬(j<((F++(G++[])).length:Int)):=by simp;omega
  simp only[tfd,if_neg this];exact ⟨G,by simp[hi],by simpa using hl⟩
 | cons x rest ih =>
  intro F G f i j hl hg hi hj hf;obtain ⟨f,rfl⟩:∃g,f=g+1:=⟨f-1,by simp at hf;omega⟩;rw[i0s];simp only[List.length_append,List.length_cons] at hl;have hlt:j<((F++(G++x::rest)).length:Int):=by simp;omega
  have hat:at? (F++(G++x::rest)) j=some x:=b0g (pre:=F++G) (rest:=rest) (by simp) (by simp;omega);have hget:(F++(G++x::rest))[j.toNat]? = some x:=by
   rw[show j.toNat=F.length+G.length by omega,List.getElem?_append_right (by omega),List.getElem?_append_right (by omega)];simp
  simp only[tfd,if_pos hlt,hat,hget,obs,hd];have wj:IntKind.wrap .i64 (j+1)=j+1:=by rw[w64 (by omega) (by omega)]
  have wi:IntKind.wrap .i64 (i+1)=i+1:=by rw[w64 (by omega) (by omega)]
  rw[wj,wi]
  match G,hg with
  | g::G,_ =>
  cases hp:p x with
  | false =>
   have hat':at? (F++(g::G++x::rest)) i=some g:=b0g (pre:=F) (rest:=G++x::rest) (by simp) hi;have hget':(F++(g::G++x::rest))[i.toNat]? = some g:=by
    rw[show i.toNat=F.length by omega];simp
   have hset:(F++(g::G++x::rest)).set i.toNat x=(F++[x])++((G++[x])++rest):=by
    rw[show i.toNat=F.length by omega,List.set_append_right _ _ (by omega)];simp
   simp only[Bool.not_false,tft,hat',hget',obs,hset];obtain ⟨G',h1,h2⟩:=ih (F++[x]) (G++[x]) f (i+1) (j+1) (by simp at hl ⊢;omega) (by simp) (by simp;omega) (by simp at hj ⊢;omega) (by simp at hf;omega);refine ⟨G',?_,?_⟩
   ·rw[h1];simp[List.filter_cons,hp]
   ·rw[←h2];simp[List.filter_cons,hp]
  | true =>
   simp only[Bool.not_true,tff];obtain ⟨G',h1,h2⟩:=ih F (g::G++[x]) f i (j+1) (by simp at hl ⊢;omega) (by simp) hi (by simp at hj ⊢;omega) (by simp at hf;omega);simp only[List.append_assoc,List.singleton_append] at h1;refine ⟨G',?_,?_⟩
   ·rw[h1];simp[List.filter_cons,hp]
   ·rw[←h2];simp[List.filter_cons,hp]
theorem d2a (n:Nat) (l:List Slo) (hL:l.length≤1000000):j0i (n+2) l del=some (l.filter fun x => !p x):=by
 rw[t0a,l0w];rcases n2l hd n l hL l [] a0d 0 l.length rfl rfl rfl (by unfold a0d;omega) with ⟨h1,h2⟩ | ⟨A,x,B,h1,h2,h3,h4⟩
 ·rw[h1];simp only[obs,a0n,tfd,if_pos trivial];exact congrArg some (List.filter_eq_self.2 fun y hy=>by simp[h2 y hy]).symm
 ·rw[h4];have hl:l.length=A.length+(B.length+1):=by rw[h1];simp
  simp only[obs,f0u,tfd,Int.zero_add];rw[if_neg (by omega),w64 (x:=(A.length:Int)+1) (by omega) (by omega)];obtain ⟨G',g1,g2⟩:=delete_l hd (n+1) l hL B A [x] a0d (A.length:Int) (A.length+1) (by rw[h1];simp) (by simp) rfl (by simp) (by unfold a0d;omega);rw[show A++([x]++B)=l by rw[h1];simp] at g1;rw[g1];have hF:A++B.filter (fun x => !p x)=l.filter fun x => !p x:=by
   rw[h1,List.filter_append,List.filter_cons];have:A.filter (fun x => !p x)=A:=List.filter_eq_self.2 fun y hy=>by simp[h2 y hy]
   simp[h3,this]
  rw[hF] at g2 ⊢;generalize (l.filter fun x => !p x)=F at *
  simp only[obs,a0n,f1m,tfd,Int.toNat_natCast];have hle:F.length≤(F++G').length:=by simp
  have k1:putRow (F++G') F.length (List.replicate ((F++G').length-F.length) s0)=F++List.replicate ((F++G').length-F.length) s0:=by
   unfold putRow;rw[List.drop_of_length_le (by simp)];simp
  have k2:=k1;simp only[s0,z0,e0] at k2;rw[k2,if_pos (by omega),if_pos hle,if_pos (by omega),if_pos (by omega),if_pos (by simp;omega)];simp
end
theorem o2q (n:Nat) (x y:Int):k0m (n+2) x y=some (if x<y then -1 else if y<x then 1 else 0):=by
 rw[w0b,o0w,o0w];simp only[decide_true,Bool.not_true,obs,tff,tfd];by_cases h1:x<y
 ·rw[if_pos h1,if_pos h1]
 ·rw[if_neg h1,if_neg h1];by_cases h2:y<x
  ·rw[if_pos h2,if_pos h2]
  ·rw[if_neg h2,if_neg h2]
theorem o2s (n:Nat):Cmp (fun y3=>v0a (n+3) y3.1 y3.2.1) (fun s=>s.1):=by
 intro x y;refine ⟨if x.1<y.1 then -1 else if y.1<x.1 then 1 else 0,?_,?_⟩
 ·show v0a (n+3) x y=_;rw[q1a,o2q];rfl
 ·by_cases h1:x.1<y.1
  ·simp[h1]
  ·by_cases h2:y.1<x.1
   ·simp[h1,h2]
   ·simp[h1,h2]
theorem g1y {l:List Slo} (h:Srt (fun s=>s.1) l 0 l.length):l.Pairwise fun a b=>a.1≤b.1:=by
 rw[List.pairwise_iff_getElem];intro i j hi hj hij;exact h i j _ _ (by omega) hij hj (List.getElem?_eq_getElem hi) (List.getElem?_eq_getElem hj)
theorem tier_all (n:Nat) {l:List Slo} {w:Int} (h:TierOk l w):q1b (n+17) l=some (tall l):=by
 have hl:=h.l1;rw[z1m,j2g _ l (by omega)];simp only[obs];rw[d2a (del:=fun y1=>s0v (n+16) y1.1) (p:=fun s=>decide (s=s0)) (fun x=>y0i (n+15) x) (n+14) l (by omega)];simp only[obs];have e:(l.filter fun x => !decide (x=s0))=i0q l:=by unfold i0q;congr 1;funext x;simp
 rw[e];have hle:(i0q l).length≤l.length:=List.length_filter_le _ _;obtain ⟨d',r1,r2,r3⟩:=q1i (o2s (n+13)) n 12 (i0q l) (by omega) (by omega);rw[r1];rw[←r2.length_eq] at r3;rw[k2d h r2 (g1y r3)];rfl
theorem h2k (n:Nat) (out:List Slo) (s:Slo) (s8:List Slo) (s9 s10:Int) (hL:out.length≤1000000) (hs:out.Pairwise fun a b=>a.1≤b.1):∀(k f:Nat),k≤out.length→k<f→(∀x∈out.drop k,s.1<x.1) →
  ∃k':Nat,v0l n f (out,s,(k:Int),s8,s9,s10,())=some (.inl (out,s,(k':Int),s8,s9,s10,()))∧k'≤out.length∧(∀x∈out.take k',x.1≤s.1)∧(∀x∈out.drop k',s.1<x.1):=by
 intro k;induction k with
 | zero =>
  intro f hk hf h;obtain ⟨f,rfl⟩:∃g,f=g+1:=⟨f-1,by omega⟩;rw[z0m];simp only[tfd,if_neg (show ¬((0:Int)<((0:Nat):Int)) by omega)];exact ⟨0,rfl,by omega,by simp,h⟩
 | succ k ih =>
  intro f hk hf h;obtain ⟨f,rfl⟩:∃g,f=g+1:=⟨f-1,by omega⟩;rw[z0m];have lk:k<out.length:=by omega
  rw[wn (x:=((k+1:Nat):Int)-1) (k:=k) (by omega) (by omega)];simp only[tfd,if_pos (show ((0:Int)<((k+1:Nat):Int)) by omega),at_some lk,Int.toNat_natCast,List.getElem?_eq_getElem lk,obs];by_cases hc:s.1<out[k].1
  ·rw[if_pos hc];refine ih f (by omega) (by omega) (fun x hx => ?_);rw[List.drop_eq_getElem_cons lk] at hx;rcases List.mem_cons.1 hx with rfl | hx
   ·exact hc
   ·exact h x hx
  ·rw[if_neg hc];refine ⟨k+1,rfl,hk,fun x hx => ?_,h⟩;obtain ⟨j,hj,rfl⟩:=List.mem_iff_getElem.1 hx;have hj':j<k+1:=by simp at hj;omega
   rw[List.getElem_take];rcases Nat.lt_or_eq_of_le (Nat.le_of_lt_succ hj') with hjk | rfl
   ·have:=List.pairwise_iff_getElem.1 hs j k (by omega) lk hjk;omega
   ·omega
theorem insert_sorted {out:List Slo} {s:Slo} {k:Nat} (hs:out.Pairwise fun a b=>a.1≤b.1) (h1:∀x∈out.take k,x.1≤s.1) (h2:∀x∈out.drop k,s.1<x.1) :
  (out.take k++s::out.drop k).Pairwise fun a b=>a.1≤b.1:=by
 rw[List.pairwise_append];refine ⟨hs.sublist (List.take_sublist _ _),List.pairwise_cons.2 ⟨fun x hx=>Int.le_of_lt (h2 x hx),hs.sublist (List.drop_sublist _ _)⟩,fun a ha b hb => ?_⟩;rcases List.mem_cons.1 hb with rfl | hb
 ·exact h1 a ha
 ·have:=h1 a ha;have:=h2 b hb;omega
theorem h2l (n:Nat) (l:List Slo) (hL:l.length≤1000000):∀(rest pre:List Slo) (f:Nat) (out:List Slo) (i len:Int),l=pre++rest→i=pre.length→len=l.length→rest.length<f→out.Pairwise (fun a b=>a.1≤b.1)→out.Perm (i0q pre) →
  ∃out',q0c n f (out,l,len,i,())=some (.inl (out',()))∧out'.Pairwise (fun a b=>a.1≤b.1)∧out'.Perm (i0q l):=by
 intro rest;induction rest with
 | nil =>
  intro pre f out i len hl hi hn hf hs hp;obtain ⟨f,rfl⟩:∃g,f=g+1:=⟨f-1,by simp at hf;omega⟩;rw[z0n];rw[List.append_nil] at hl;exact ⟨out,by simp only[tfd,if_neg (idxe (pre:=pre) (by rw[hl,List.append_nil]) hi hn)],hs,by rw[hl];exact hp⟩
 | cons x rest ih =>
  intro pre f out i len hl hi hn hf hs hp;obtain ⟨f,rfl⟩:∃g,f=g+1:=⟨f-1,by simp at hf;omega⟩;rw[z0n];have hlen:out.length≤l.length:=by
   rw[hp.length_eq,hl];have:(i0q pre).length≤pre.length:=List.length_filter_le _ _;simp;omega
  simp only[tfd,if_pos (idx hl hi hn),b0g hl hi,obs,v1g];by_cases h0:x=s0
  ·rw[if_pos h0,idxw hl hi (by omega)];exact ih (pre++[x]) f out (i+1) len (idxl hl) (idxs hi) hn (by simp at hf;omega) hs (by simpa [i0q,List.filter_append,h0] using hp)
  ·rw[if_neg h0];obtain ⟨k,r1,r2,r3,r4⟩:=h2k n out x l len i (by omega) hs out.length a0d (Nat.le_refl _) (by unfold a0d;omega) (by simp);rw[r1];have t1:(List.take ((k:Int).toNat-0) (List.drop 0 out))=out.take k:=by simp
   have t2:(List.take (out.length-(k:Int).toNat) (List.drop (k:Int).toNat out))=out.drop k:=by
    rw[Int.toNat_natCast,List.take_of_length_le (by simp)]
   simp only[obs,a0n,f1m,tfd];rw[t1,t2,List.nil_append];have l1:(out.take k).length=k:=by simp;omega
   rw[if_pos (by omega),if_pos (by omega),if_pos (by rw[l1];omega),if_pos (by rw[l1];omega),if_pos (by omega),if_pos (by simp;omega),if_pos (by simp;omega),idxw hl hi (by omega)];have e:out.take k++[x]++out.drop k=out.take k++x::out.drop k:=by simp
   rw[e];refine ih (pre++[x]) f _ (i+1) len (idxl hl) (idxs hi) hn (by simp at hf;omega) (insert_sorted hs r3 r4) ?_;have e2:i0q (pre++[x])=i0q pre++[x]:=by simp[i0q,List.filter_append,h0]
   rw[e2];refine (List.perm_middle).trans ?_;rw[List.take_append_drop];exact ((List.Perm.cons x hp)).trans (List.perm_append_comm (l₁:=[x]))
theorem x0h (n:Nat) {l:List Slo} {w:Int} (h:TierOk l w):r0u (n+1) l=some (tall l):=by
 have hl:=h.l1;rw[h2o];obtain ⟨out,r1,r2,r3⟩:=h2l n l (by omega) l [] a0d [] 0 l.length rfl rfl rfl (by unfold a0d;omega) .nil (by simp[i0q]);rw[r1];simp only[obs,a0n];rw[k2d h r3 r2]
theorem ev_wf {e:Ev} (h:Wf a0s e):EvW e:=by
 obtain ⟨h1,h2,h3,_⟩:=h;exact ⟨h1,h2,h3⟩
theorem cel_wf {c:Cel} (h:Wf a0u c):CelW c:=by
 obtain ⟨h1,h2,h3,⟨h4,h5⟩,h6,h7,h8⟩:=h;exact ⟨h1,ev_wf h2,ev_wf h3,⟨h4,h5⟩,h6,h7,h8⟩
theorem slo_wf {s:Slo} (h:Wf a0g s):SloW s:=by
 obtain ⟨h1,h2⟩:=h;exact ⟨h1,cel_wf h2⟩
theorem z1y {l:List Slo} (h:Wf (.slice a0g) l):∀s∈l,SloW s:=fun s hs=>slo_wf (h.2 s hs)
theorem tier_get (n:Nat) {l:List Slo} (h0:1≤l.length) (i:Int):d2n (n+2) l i=some (tget l i):=by
 rw[z1l];simp only[tfd];unfold tget;by_cases h1:i<0
 ·rw[if_pos h1,if_pos h1];rfl
 rw[if_neg h1,if_neg h1,if_neg (by omega),j2r,v0c (by omega) (by omega)];have hm:=Int.emod_nonneg i (show (l.length:Int)≠0 by omega);have hm':=Int.emod_lt_of_pos i (show (0:Int)<l.length by omega);have e:at? l (i % (l.length:Int))=l[(i % (l.length:Int)).toNat]? := by
  obtain ⟨k,hk⟩:=Int.eq_ofNat_of_zero_le hm;rw[hk];exact m0c l k
 have hlt:(i % (l.length:Int)).toNat<l.length:=by omega
 simp only[obs,e,List.getElem?_eq_getElem hlt];by_cases h2:l[(i % (l.length:Int)).toNat].1=i
 ·rw[if_pos h2,if_pos h2]
 ·rw[if_neg h2,if_neg h2];rfl
theorem r1i (n:Nat) {l:List Slo} (h0:1≤l.length) (i:Int):b1s (n+2) l i=some (tget l i):=by
 rw[h2m];simp only[tfd,tfn];unfold tget;by_cases h1:i<0
 ·rw[if_pos h1,if_pos h1];rfl
 rw[if_neg h1,if_neg h1,if_neg (by omega),d2z,v0c (by omega) (by omega)];have hm:=Int.emod_nonneg i (show (l.length:Int)≠0 by omega);have hm':=Int.emod_lt_of_pos i (show (0:Int)<l.length by omega);have e:at? l (i % (l.length:Int))=l[(i % (l.length:Int)).toNat]? := by
  obtain ⟨k,hk⟩:=Int.eq_ofNat_of_zero_le hm;rw[hk];exact m0c l k
 have hlt:(i % (l.length:Int)).toNat<l.length:=by omega
 simp only[obs,e,List.getElem?_eq_getElem hlt];by_cases h2:l[(i % (l.length:Int)).toNat].1=i
 ·rw[if_pos h2,if_pos h2]
 ·rw[if_neg h2,if_neg h2];rfl
def inW (i k:Int) (s:Slo):Bool:=decide (i≤s.1∧s.1<k)
theorem z1k (n:Nat) (i k:Int) (s6:Cel) (l:List Slo) (hL:l.length≤1000000):∀(rest pre:List Slo) (f:Nat) (cells:List Cel) (ix len:Int),l=pre++rest→ix=pre.length→len=l.length→rest.length<f→cells.length≤pre.length →
  i0p n f (i,k,s6,cells,l,len,ix,())=some (.inl (s6,cells++(rest.filter (inW i k)).map (·.2),())):=by
 intro rest;induction rest with
 | nil =>
  intro pre f cells ix len hl hi hn hf hc;obtain ⟨f,rfl⟩:∃g,f=g+1:=⟨f-1,by simp at hf;omega⟩;rw[s0x];simp only[tfd,if_neg (idxe hl hi hn),List.filter_nil,List.map_nil,List.append_nil]
 | cons x rest ih =>
  intro pre f cells ix len hl hi hn hf hc;obtain ⟨f,rfl⟩:∃g,f=g+1:=⟨f-1,by simp at hf;omega⟩;rw[s0x];have hp:pre.length+1≤l.length:=by have:=congrArg List.length hl;simp at this;omega
  simp only[tfd,if_pos (idx hl hi hn),b0g hl hi,obs,idxw hl hi (by omega)];by_cases h1:i≤x.1
  ·rw[if_pos h1];by_cases h2:x.1<k
   ·rw[if_pos h2,if_pos (by omega),ih (pre++[x]) f _ (ix+1) len (idxl hl) (idxs hi) hn (by simp at hf;omega) (by simp;omega)];have:inW i k x=true:=by simp[inW,h1,h2]
    rw[List.filter_cons_of_pos this];simp
   ·rw[if_neg h2,ih (pre++[x]) f _ (ix+1) len (idxl hl) (idxs hi) hn (by simp at hf;omega) (by simp;omega)];rw[List.filter_cons_of_neg (by simp[inW,h2])]
  ·rw[if_neg h1,ih (pre++[x]) f _ (ix+1) len (idxl hl) (idxs hi) hn (by simp at hf;omega) (by simp;omega)];rw[List.filter_cons_of_neg (by simp[inW,h1])]
theorem d2l {l:List Slo} {w:Int} (h:TierOk l w) (i k:Int):∀c∈within l i k,CellN c:=by
 intro c hc;simp only[within,List.mem_map,List.mem_filter] at hc;obtain ⟨s,⟨hs,_⟩,rfl⟩:=hc;exact (n0m h hs).1.n
theorem v0b {l:List Slo}:(tall l).length≤l.length:=by
 rw[(y0l l).length_eq];exact List.length_filter_le _ _
theorem n1y (l:List Slo) (i k:Int):(within l i k).length≤l.length:=by
 unfold within;rw[List.length_map];exact Nat.le_trans (List.length_filter_le _ _) v0b
theorem s0w (n:Nat) {l:List Slo} {w:Int} (h:TierOk l w) (i k:Int):n0k (n+18) l i k=some (h0x l i k):=by
 have l1:=h.l1;have ht:=v0b (l:=l);rw[u1s];simp only[tfd];unfold h0x;by_cases h1:i<0
 ·rw[if_pos h1,if_pos (.inl h1)];rfl
 by_cases h2:k<i
 ·rw[if_neg h1,if_pos h2,if_pos (.inr h2)];rfl
 rw[if_neg h1,if_neg h2,if_neg (by omega),tier_all n h];simp only[obs];rw[z1k (n+17) i k _ (tall l) (by omega) (tall l) [] a0d [] 0 _ rfl rfl rfl (by unfold a0d;omega) (by simp)];simp only[obs,a0n,List.nil_append];have e:List.map (·.2) (List.filter (inW i k) (tall l))=within l i k:=rfl;rw[e,cell_all (n+10) _ (by have:=n1y l i k;omega) (fun c hc => .ofN (d2l h i k c hc))];rfl
theorem h2j (n:Nat) (i k:Int) (s6:Cel) (l0:List Slo) (hl0:1≤l0.length) (l:List Slo) (hL:l.length≤1000000) (hg:∀s∈l,tget l0 s.1=s.2):∀(rest pre:List Slo) (f:Nat) (cells:List Cel) (ix len:Int),l=pre++rest→ix=pre.length→len=l.length→rest.length<f→cells.length≤pre.length →
  i0k (n+2) f (l0,i,k,s6,cells,l,len,ix,())=some (.inl (s6,cells++(rest.filter (inW i k)).map (·.2),())):=by
 intro rest;induction rest with
 | nil =>
  intro pre f cells ix len hl hi hn hf hc;obtain ⟨f,rfl⟩:∃g,f=g+1:=⟨f-1,by simp at hf;omega⟩;rw[w0q];simp only[tfd,if_neg (idxe hl hi hn),List.filter_nil,List.map_nil,List.append_nil]
 | cons x rest ih =>
  intro pre f cells ix len hl hi hn hf hc;obtain ⟨f,rfl⟩:∃g,f=g+1:=⟨f-1,by simp at hf;omega⟩;rw[w0q];have hp:pre.length+1≤l.length:=by have:=congrArg List.length hl;simp at this;omega
  have hx:=hg x (by rw[hl];simp);simp only[tfd,if_pos (idx hl hi hn),b0g hl hi,obs,idxw hl hi (by omega),r1i n hl0,hx,celEq];by_cases h1:i≤x.1
  ·rw[if_pos h1];by_cases h2:x.1<k
   ·rw[if_pos h2,if_pos trivial,if_pos (by omega),ih (pre++[x]) f _ (ix+1) len (idxl hl) (idxs hi) hn (by simp at hf;omega) (by simp;omega)];have:inW i k x=true:=by simp[inW,h1,h2]
    rw[List.filter_cons_of_pos this];simp
   ·rw[if_neg h2,ih (pre++[x]) f _ (ix+1) len (idxl hl) (idxs hi) hn (by simp at hf;omega) (by simp;omega)];rw[List.filter_cons_of_neg (by simp[inW,h2])]
  ·rw[if_neg h1,ih (pre++[x]) f _ (ix+1) len (idxl hl) (idxs hi) hn (by simp at hf;omega) (by simp;omega)];rw[List.filter_cons_of_neg (by simp[inW,h1])]
theorem z0k (n:Nat) {l:List Slo} {w:Int} (h:TierOk l w) (i k:Int):r0t (n+7) l i k=some (h0x l i k):=by
 have l1:=h.l1;have ht:=v0b (l:=l);rw[b2b];simp only[tfd];unfold h0x;by_cases h1:i<0
 ·rw[if_pos h1,if_pos (.inl h1)];rfl
 by_cases h2:k<i
 ·rw[if_neg h1,if_pos h2,if_pos (.inr h2)];rfl
 rw[if_neg h1,if_neg h2,if_neg (by omega),x0h _ h];simp only[obs];rw[h2j (n+4) i k _ l h.l0 (tall l) (by omega) (fun s hs=>tget_mem h hs) (tall l) [] a0d [] 0 _ rfl rfl rfl (by unfold a0d;omega) (by simp)];simp only[obs,a0n,List.nil_append];have e:List.map (·.2) (List.filter (inW i k) (tall l))=within l i k:=rfl;rw[e,r08_all n _ (by have:=n1y l i k;omega) (fun c hc => .ofN (d2l h i k c hc))];rfl
theorem slow_s0:SloW s0:=⟨by simp[I64,s0],x0z⟩
theorem q1c {l:List Slo} {w:Int} (h:TierOk l w):∀s∈l,SloW s:=by
 intro s hs;obtain ⟨j,hj⟩:=List.getElem?_of_mem hs;rcases h.s j s hj with rfl | ⟨_,hf⟩
 ·exact slow_s0
 ·have:=hf.i0;exact ⟨by unfold I64;omega,.ofN hf.n⟩
theorem o1u {e:Ev} (h:EvOk e) {w:Int} (hw:1≤w):IntKind.wrap .i64 (Int.tdiv e.1 w)=e.1 / w:=by
 have h0:=h.t0;have h1:=h.t1;have:0≤e.1 / w:=Int.ediv_nonneg h0 (by omega);have:e.1 / w≤e.1:=Int.ediv_le_self _ h0;rw[l0l h0,w64 (by omega) (by omega)]
end Go.Proofs.YtgkpkajaepphjaaGreatDoor

namespace Go.Plim
set_option linter.unusedVariables false
def rng (w:Int) (l:List Ev) (i k:Int):List Ev:=l.filter fun e=>decide (i≤e.1 / w∧e.1 / w<k)
def win (w:Int) (l:List Ev) (i:Int):List Ev:=l.filter fun e=>decide (e.1 / w=i)
theorem tall_N {l:List Slo} {w:Int} (h:TierOk l w) {s:Slo} (hs:s∈tall l):CellN s.2:=(n0m h hs).1.n
structure TierInv (t:List Slo) (w:Int) (l:List Ev):Prop where
 ok:TierOk t w
 cells:∀s∈tall t,s.2=cellOf (win w l s.1)
 kept:∀i,(∃e∈l,e.1 / w=i)→(∀e∈l,e.1 / w<i+(t.length:Int))→(i,cellOf (win w l i))∈tall t
end Go.Plim

namespace Go.Proofs.YtgkpkajaepphjaaGreatDoor
open Go.Flat
abbrev Conf:=Int×((Int×(Int×Int))×((Int×(Int×Int))×(Int×Int)))
def prt (n e:Int):Int:=(n+e-1) / e
def plc (c:Conf):Int:=1+prt c.1 16+prt c.2.2.1.1 4+prt c.2.2.1.2.1 4+prt c.2.2.1.2.2 4
structure Rng (c:Conf):Prop where
 raw:1≤c.1∧c.1≤4096
 cap:1≤c.2.2.2.1∧c.2.2.2.1≤65536
 log:1≤c.2.2.2.2∧c.2.2.2.2≤8192
 w0:1≤c.2.1.1∧c.2.1.1≤1099511627776
 w1:1≤c.2.1.2.1∧c.2.1.2.1≤1099511627776
 w2:1≤c.2.1.2.2∧c.2.1.2.2≤1099511627776
 n0:1≤c.2.2.1.1∧c.2.2.1.1≤4096
 n1:1≤c.2.2.1.2.1∧c.2.2.1.2.1≤4096
 n2:1≤c.2.2.1.2.2∧c.2.2.1.2.2≤4096
structure OkC (c:Conf):Prop where
 rng:Rng c
 m1:c.2.1.2.1 % c.2.1.1=0
 d1:c.2.1.2.1 / c.2.1.1≤c.2.2.1.1
 m2:c.2.1.2.2 % c.2.1.2.1=0
 d2:c.2.1.2.2 / c.2.1.2.1≤c.2.2.1.2.1
 pl:plc c<c.2.2.2.2
theorem a1e (n:Nat) (x e:Int) (he:1≤e) (he':e≤1000) (hx:0≤x) (hx':x≤1000000000):m0w (n+1) x e=some (prt x e):=by
 rw[t1p];have h1:¬(e=0):=by omega
 simp only[tfd,if_neg h1];rw[w64 (x:=x+e) (by omega) (by omega),w64 (x:=x+e-1) (by omega) (by omega),l0l (by omega)];have h2:0≤(x+e-1) / e:=Int.ediv_nonneg (by omega) (by omega);have h3:(x+e-1) / e≤x+e-1:=Int.ediv_le_self _ (by omega);rw[w64 (by omega) (by omega)];rfl
theorem prt_step (x e:Int) (he:1≤e):prt x e=1+prt (x-e) e:=by
 unfold prt;rw[show x+e-1=(x-e+e-1)+1*e by omega,Int.add_mul_ediv_right _ _ (by omega)];omega
theorem e2e (x e:Int) (h1 : -e<x) (hx:x≤0):prt x e=0:=Int.ediv_eq_zero_of_lt (by omega) (by omega)
theorem j1u (n:Nat) (e:Int) (he:1≤e) (he':e≤1000):∀(m f:Nat) (x k:Int),x≤m → -e<x→m<f→0≤k→k+m≤1000000000→m≤1000000000→o0p n f (x,e,k,())=some (.inl (k+prt x e,())):=by
 intro m;induction m with
 | zero =>
  intro f x k hx hx' hf hk hkm hm;obtain ⟨f,rfl⟩:∃g,f=g+1:=⟨f-1,by omega⟩;rw[t0s];have h1:¬((0:Int)<x):=by omega
  simp only[tfd,if_neg h1];rw[e2e x e hx' (by omega),Int.add_zero]
 | succ m ih =>
  intro f x k hx hx' hf hk hkm hm;obtain ⟨f,rfl⟩:∃g,f=g+1:=⟨f-1,by omega⟩;rw[t0s];by_cases h1:(0:Int)<x
  ·simp only[tfd,if_pos h1];rw[w64 (x:=x-e) (by omega) (by omega),w64 (x:=k+1) (by omega) (by omega),ih f (x-e) (k+1) (by omega) (by omega) (by omega) (by omega) (by omega) (by omega),prt_step x e he];congr 3;omega
  ·simp only[tfd,if_neg h1];rw[e2e x e hx' (by omega),Int.add_zero]
theorem m0i (n:Nat) (x e:Int) (he:1≤e) (he':e≤1000) (hx:0≤x) (hx':x≤100000000):q0d (n+1) x e=some (prt x e):=by
 rw[w1c,j1u n e he he' x.toNat a0d x 0 (by omega) (by omega) (by unfold a0d;omega) (by omega) (by omega) (by omega)];simp
theorem f0v {x e:Int} (he:1≤e) (hx:0≤x):0≤prt x e∧prt x e≤x:=by
 unfold prt;refine ⟨Int.ediv_nonneg (by omega) (by omega),?_⟩;have:x+e-1<(x+1)*e:=by
  have:=Int.mul_le_mul_of_nonneg_left he (show 0≤x by omega);rw[Int.add_mul];omega
 have:=Int.ediv_lt_of_lt_mul (by omega) this;omega
theorem plc_range {c:Conf} (h:Rng c):1≤plc c∧plc c≤20000:=by
 have a:=f0v (x:=c.1) (e:=16) (by omega) (by have:=h.raw;omega);have b:=f0v (x:=c.2.2.1.1) (e:=4) (by omega) (by have:=h.n0;omega);have d:=f0v (x:=c.2.2.1.2.1) (e:=4) (by omega) (by have:=h.n1;omega);have f:=f0v (x:=c.2.2.1.2.2) (e:=4) (by omega) (by have:=h.n2;omega);have:=h.raw;have:=h.n0;have:=h.n1;have:=h.n2;unfold plc;omega
theorem w1w (n:Nat) {c:Conf} (h:Rng c):m0v (n+2) c=some (plc c):=by
 have h0:=h.raw;have h1:=h.n0;have h2:=h.n1;have h3:=h.n2;rw[t1o,a1e n _ 16 (by omega) (by omega) (by omega) (by omega),a1e n _ 4 (by omega) (by omega) (by omega) (by omega),a1e n _ 4 (by omega) (by omega) (by omega) (by omega),a1e n _ 4 (by omega) (by omega) (by omega) (by omega)];simp only[obs];have a:=f0v (x:=c.1) (e:=16) (by omega) (by omega);have b:=f0v (x:=c.2.2.1.1) (e:=4) (by omega) (by omega);have d:=f0v (x:=c.2.2.1.2.1) (e:=4) (by omega) (by omega);have f:=f0v (x:=c.2.2.1.2.2) (e:=4) (by omega) (by omega)
 rw[w64 (x:=1+_) (by omega) (by omega),w64 (x:=1+_+_) (by omega) (by omega),w64 (x:=1+_+_+_) (by omega) (by omega),w64 (by omega) (by omega)];rfl
theorem z0o (n:Nat) {c:Conf} (h:Rng c):g1i (n+2) c=some (plc c):=by
 have h0:=h.raw;have h1:=h.n0;have h2:=h.n1;have h3:=h.n2;rw[w1b,m0i n _ 16 (by omega) (by omega) (by omega) (by omega),m0i n _ 4 (by omega) (by omega) (by omega) (by omega),m0i n _ 4 (by omega) (by omega) (by omega) (by omega),m0i n _ 4 (by omega) (by omega) (by omega) (by omega)];simp only[obs];have a:=f0v (x:=c.1) (e:=16) (by omega) (by omega);have b:=f0v (x:=c.2.2.1.1) (e:=4) (by omega) (by omega);have d:=f0v (x:=c.2.2.1.2.1) (e:=4) (by omega) (by omega);have f:=f0v (x:=c.2.2.1.2.2) (e:=4) (by omega) (by omega)
 rw[w64 (x:=1+_) (by omega) (by omega),w64 (x:=1+_+_) (by omega) (by omega),w64 (x:=1+_+_+_) (by omega) (by omega),w64 (by omega) (by omega)];rfl
theorem in_int (n:Nat) (x a b:Int):g0x (n+1) x a b=some (decide (a≤x∧x≤b)):=by
 rw[n1u];by_cases h1:a≤x<;>by_cases h2:x≤b<;>simp[h1,h2]
theorem e2t (n:Nat) (x a b:Int):j0t (n+1) x a b=some (decide (a≤x∧x≤b)):=by
 rw[e1h];by_cases h1:a≤x<;>by_cases h2:x≤b<;>simp[h1,h2]
theorem e1d {a b:Int} (ha:1≤a∧a≤1099511627776) (hb:1≤b):IntKind.wrap .i64 (Int.tdiv a b)=a / b:=by
 rw[l0l (by omega)];have h2:0≤a / b:=Int.ediv_nonneg (by omega) (by omega);have h3:a / b≤a:=Int.ediv_le_self _ (by omega);rw[w64 (by omega) (by omega)]
theorem check_ok (n:Nat) {c:Conf} (h:OkC c):k0l (n+3) c=some 0:=by
 obtain ⟨hr,m1,d1,m2,d2,pl⟩:=h;have hp:=w1w n hr;obtain ⟨raw,cap,log,w0,w1,w2,n0,n1,n2⟩:=hr;rw[a1z];simp only[in_int,e2t,obs,tfd,if_pos raw,if_pos cap,if_pos log,if_pos w0,if_pos w1,if_pos w2,if_pos n0,if_pos n1,if_pos n2];have z0:¬(c.2.1.1=0):=by omega
 have z1:¬(c.2.1.2.1=0):=by omega
 rw[e1d w1 w0.1,e1d w2 w1.1,g0d (a:=c.2.1.2.1) (by omega),g0d (a:=c.2.1.2.2) (by omega)];have l:¬(c.2.2.2.2≤plc c):=by omega
 simp only[if_neg z0,if_neg z1,if_pos m1,if_pos d1,if_pos m2,if_pos d2,tfn,tfd,hp,obs,if_neg l]
theorem check_no (n:Nat) {c:Conf} (h:¬OkC c):k0l (n+3) c=some 2:=by
 rw[a1z];simp only[in_int,e2t,obs,tfd,tfn];by_cases raw:1≤c.1∧c.1≤4096
 case neg=>rw[if_neg raw]
 rw[if_pos raw];by_cases cap:1≤c.2.2.2.1∧c.2.2.2.1≤65536
 case neg=>rw[if_neg cap]
 rw[if_pos cap];by_cases log:1≤c.2.2.2.2∧c.2.2.2.2≤8192
 case neg=>rw[if_neg log]
 rw[if_pos log];by_cases w0:1≤c.2.1.1∧c.2.1.1≤1099511627776
 case neg=>rw[if_neg w0]
 rw[if_pos w0];by_cases n0:1≤c.2.2.1.1∧c.2.2.1.1≤4096
 case neg=>rw[if_neg n0]
 rw[if_pos n0];by_cases w1:1≤c.2.1.2.1∧c.2.1.2.1≤1099511627776
 case neg=>rw[if_neg w1]
 rw[if_pos w1];by_cases n1:1≤c.2.2.1.2.1∧c.2.2.1.2.1≤4096
 case neg=>rw[if_neg n1]
 rw[if_pos n1];by_cases w2:1≤c.2.1.2.2∧c.2.1.2.2≤1099511627776
 case neg=>rw[if_neg w2]
 rw[if_pos w2];by_cases n2:1≤c.2.2.1.2.2∧c.2.2.1.2.2≤4096
 case neg=>rw[if_neg n2,if_neg n2]
 rw[if_pos n2];have hr:Rng c:=⟨raw,cap,log,w0,w1,w2,n0,n1,n2⟩;have hp:=w1w n hr;have z0:¬(c.2.1.1=0):=by omega
 have z1:¬(c.2.1.2.1=0):=by omega
 rw[e1d w1 w0.1,e1d w2 w1.1,g0d (a:=c.2.1.2.1) (by omega),g0d (a:=c.2.1.2.2) (by omega)];rw[if_neg z0,if_neg z0];by_cases m1:c.2.1.2.1 % c.2.1.1=0
 case neg=>rw[if_neg m1]
 rw[if_pos m1];by_cases d1:c.2.1.2.1 / c.2.1.1≤c.2.2.1.1
 case neg=>rw[if_neg d1,if_neg d1]
 rw[if_pos d1,if_neg z1,if_neg z1];by_cases m2:c.2.1.2.2 % c.2.1.2.1=0
 case neg=>rw[if_neg m2]
 rw[if_pos m2];by_cases d2:c.2.1.2.2 / c.2.1.2.1≤c.2.2.1.2.1
 case neg=>rw[if_neg d2,if_neg d2]
 rw[if_pos d2,if_pos d2,hp];simp only[obs];by_cases pl:c.2.2.2.2≤plc c
 ·rw[if_pos pl]
 ·exact absurd ⟨hr,m1,d1,m2,d2,by omega⟩ h
theorem w1d (n:Nat) {c:Conf} (h:OkC c):j0m (n+3) c=some 0:=by
 obtain ⟨hr,m1,d1,m2,d2,pl⟩:=h;have hp:=z0o n hr;obtain ⟨raw,cap,log,w0,w1,w2,n0,n1,n2⟩:=hr;rw[d1h];rw[e1d w1 w0.1,e1d w2 w1.1,g0d (a:=c.2.1.2.1) (by omega),g0d (a:=c.2.1.2.2) (by omega)];have l:¬(c.2.2.2.2≤plc c):=by omega
 simp only[tfd,tfn,hp,obs];rw[if_neg (by omega),if_neg (by omega),if_neg (by omega),if_neg (by omega),if_neg (by omega),if_neg (by omega),if_neg (by omega),if_neg (by omega),if_neg (by omega),if_neg (by omega),if_neg (by omega),if_neg (by omega),if_neg (by omega),if_neg (by omega),if_neg (by omega)];rw[if_pos m1,if_neg (by omega),if_neg (by omega),if_neg (by omega),if_neg (by omega),if_neg (by omega),if_neg (by omega),if_neg (by omega)];rw[if_pos m2,if_neg (by omega),if_neg (by omega),if_neg l]
theorem w1e (n:Nat) {c:Conf} (h:¬OkC c):j0m (n+3) c=some 2:=by
 rw[d1h];simp only[tfd,tfn];by_cases raw:1≤c.1∧c.1≤4096
 case neg =>
  by_cases z:c.1<1
  ·rw[if_pos z]
  ·rw[if_neg z,if_pos (by omega)]
 rw[if_neg (by omega),if_neg (by omega)];by_cases cap:1≤c.2.2.2.1∧c.2.2.2.1≤65536
 case neg =>
  by_cases z:c.2.2.2.1<1
  ·rw[if_pos z]
  ·rw[if_neg z,if_pos (by omega)]
 rw[if_neg (by omega),if_neg (by omega)];by_cases log:1≤c.2.2.2.2∧c.2.2.2.2≤8192
 case neg =>
  by_cases z:c.2.2.2.2<1
  ·rw[if_pos z]
  ·rw[if_neg z,if_pos (by omega)]
 rw[if_neg (by omega),if_neg (by omega)];by_cases w0:1≤c.2.1.1∧c.2.1.1≤1099511627776
 case neg =>
  by_cases z:c.2.1.1<1
  ·rw[if_pos z]
  ·rw[if_neg z,if_pos (by omega)]
 rw[if_neg (by omega),if_neg (by omega)];by_cases n0:1≤c.2.2.1.1∧c.2.2.1.1≤4096
 case neg =>
  by_cases z:c.2.2.1.1<1
  ·rw[if_pos z]
  ·rw[if_neg z,if_pos (by omega)]
 rw[if_neg (by omega),if_neg (by omega)];by_cases w1:1≤c.2.1.2.1∧c.2.1.2.1≤1099511627776
 case neg =>
  by_cases z:c.2.1.2.1<1
  ·rw[if_pos z]
  ·rw[if_neg z,if_pos (by omega)]
 rw[if_neg (by omega),if_neg (by omega)];by_cases n1:1≤c.2.2.1.2.1∧c.2.2.1.2.1≤4096
 case neg =>
  by_cases z:c.2.2.1.2.1<1
  ·rw[if_pos z]
  ·rw[if_neg z,if_pos (by omega)]
 rw[if_neg (by omega),if_neg (by omega),if_neg (by omega)];rw[g0d (a:=c.2.1.2.1) (by omega),e1d w1 w0.1];by_cases m1:c.2.1.2.1 % c.2.1.1=0
 case neg=>rw[if_neg m1]
 rw[if_pos m1,if_neg (by omega)];by_cases d1:c.2.1.2.1 / c.2.1.1≤c.2.2.1.1
 case neg=>rw[if_pos (by omega)]
 rw[if_neg (by omega)];by_cases w2:1≤c.2.1.2.2∧c.2.1.2.2≤1099511627776
 case neg =>
  by_cases z:c.2.1.2.2<1
  ·rw[if_pos z]
  ·rw[if_neg z,if_pos (by omega)]
 rw[if_neg (by omega),if_neg (by omega)];by_cases n2:1≤c.2.2.1.2.2∧c.2.2.1.2.2≤4096
 case neg =>
  by_cases z:c.2.2.1.2.2<1
  ·rw[if_pos z]
  ·rw[if_neg z,if_pos (by omega)]
 rw[if_neg (by omega),if_neg (by omega),if_neg (by omega)];rw[g0d (a:=c.2.1.2.2) (by omega),e1d w2 w1.1];by_cases m2:c.2.1.2.2 % c.2.1.2.1=0
 case neg=>rw[if_neg m2]
 rw[if_pos m2,if_neg (by omega)];by_cases d2:c.2.1.2.2 / c.2.1.2.1≤c.2.2.1.2.1
 case neg=>rw[if_pos (by omega)]
 rw[if_neg (by omega)];have hr:Rng c:=⟨raw,cap,log,w0,w1,w2,n0,n1,n2⟩;rw[z0o n hr];simp only[obs];by_cases pl:c.2.2.2.2≤plc c
 ·rw[if_pos pl]
 ·exact absurd ⟨hr,m1,d1,m2,d2,by omega⟩ h
end Go.Proofs.YtgkpkajaepphjaaGreatDoor
namespace Go.Proofs.YtgkpkajaepphjaaGreatDoor
open Go.Flat Go.Plim
set_option linter.unusedVariables false
abbrev Trs:=List Slo×(List Slo×List Slo)
noncomputable instance (c:Conf):Decidable (OkC c):=Classical.propDecidable _
structure FoldOk (c:Conf) (s:Trs):Prop where
 cok:OkC c
 n0:(s.1.length:Int)=c.2.2.1.1
 n1:(s.2.1.length:Int)=c.2.2.1.2.1
 n2:(s.2.2.length:Int)=c.2.2.1.2.2
 t0:TierOk s.1 c.2.1.1
 t1:TierOk s.2.1 c.2.1.2.1
 t2:TierOk s.2.2 c.2.1.2.2
noncomputable instance (c:Conf) (s:Trs):Decidable (FoldOk c s):=Classical.propDecidable _
def mk1 (c:Conf) (s:Trs) (i:Int):Cel×Int:=h0x s.1 (i*(c.2.1.2.1 / c.2.1.1)) ((i+1)*(c.2.1.2.1 / c.2.1.1))
theorem i2k {a w m:Int} (hw:1≤w) (h:a≤m / w):a*w≤m :=
 Int.le_trans (Int.mul_le_mul_of_nonneg_right h (by omega)) (Int.ediv_mul_le m (by omega))
def Begins (w i:Int):Prop:=0≤i∧i≤35184372088831 / w
theorem Begins.mul {w i:Int} (hw:1≤w) (h:Begins w i):0≤i*w∧i*w≤35184372088831:=⟨Int.mul_nonneg h.1 (by omega),i2k hw h.2⟩
end Go.Proofs.YtgkpkajaepphjaaGreatDoor
namespace Go.Proofs.YtgkpkajaepphjaaGreatDoor
open Go.Flat Go.Plim
set_option linter.unusedVariables false
set_option linter.unusedSimpArgs false
structure TrsW (s:Trs):Prop where
 a:∀x∈s.1,SloW x
 b:∀x∈s.2.1,SloW x
 c:∀x∈s.2.2,SloW x
theorem FoldOk.w {c:Conf} {s:Trs} (h:FoldOk c s):TrsW s:=⟨q1c h.t0,q1c h.t1,q1c h.t2⟩
theorem c1m (n:Nat) (c:Conf):k0l (n+3) c=some (if OkC c then 0 else 2):=by
 by_cases h:OkC c
 ·rw[if_pos h,check_ok n h]
 ·rw[if_neg h,check_no n h]
theorem q0e (n:Nat) (c:Conf):j0m (n+3) c=some (if OkC c then 0 else 2):=by
 by_cases h:OkC c
 ·rw[if_pos h,w1d n h]
 ·rw[if_neg h,w1e n h]
theorem s1y (n:Nat) (c:Conf) {s:Trs} (hw:TrsW s):i1p (n+8) c s=some (if FoldOk c s then (some (c,s),0) else (none,2)):=by
 rw[y1e,c1m (n+4),b1d n _ _ hw.a,b1d n _ _ hw.b,b1d n _ _ hw.c];simp only[obs,tfn,tfd];by_cases h0:OkC c
 case neg=>rw[if_neg (mt (z02 _).1 h0),if_neg h0,if_neg (fun k:FoldOk c s=>h0 k.cok)]
 rw[if_pos ((z02 _).2 h0)];by_cases h1:(s.1.length:Int)=c.2.2.1.1
 case neg=>rw[if_neg h1,if_neg (fun k:FoldOk c s=>h1 k.n0)]
 rw[if_pos h1];by_cases h2:TierOk s.1 c.2.1.1
 case neg=>rw[if_neg (mt (z02 _).1 h2),if_neg (fun k:FoldOk c s=>h2 k.t0)]
 rw[if_pos ((z02 _).2 h2)];by_cases h3:(s.2.1.length:Int)=c.2.2.1.2.1
 case neg=>rw[if_neg h3,if_neg (fun k:FoldOk c s=>h3 k.n1)]
 rw[if_pos h3];by_cases h4:TierOk s.2.1 c.2.1.2.1
 case neg=>rw[if_neg (mt (z02 _).1 h4),if_neg (fun k:FoldOk c s=>h4 k.t1)]
 rw[if_pos ((z02 _).2 h4)];by_cases h5:(s.2.2.length:Int)=c.2.2.1.2.2
 case neg=>rw[if_neg h5,if_neg (fun k:FoldOk c s=>h5 k.n2)]
 rw[if_pos h5];by_cases h6:TierOk s.2.2 c.2.1.2.2
 case neg=>rw[if_neg (mt (z02 _).1 h6),if_neg (fun k:FoldOk c s=>h6 k.t2)]
 rw[if_pos ((z02 _).2 h6),if_pos (⟨h0,h1,h3,h5,h2,h4,h6⟩:FoldOk c s)]
theorem l2k (n:Nat) (c:Conf) {s:Trs} (hw:TrsW s):g1e (n+7) c s=some (if FoldOk c s then 0 else 2):=by
 rw[v1y,q0e (n+3),g1f n _ _ hw.a,g1f n _ _ hw.b,g1f n _ _ hw.c];simp only[obs,tfn,tfd];by_cases h0:OkC c
 case neg=>rw[if_neg (mt (z02 _).1 h0),if_neg (fun k:FoldOk c s=>h0 k.cok)]
 rw[if_pos ((z02 _).2 h0)];by_cases h1:(s.1.length:Int)=c.2.2.1.1
 case neg=>rw[if_neg h1,if_neg (fun k:FoldOk c s=>h1 k.n0)]
 rw[if_pos h1];by_cases h2:TierOk s.1 c.2.1.1
 case neg=>rw[if_neg (mt (z02 _).1 h2),if_neg (fun k:FoldOk c s=>h2 k.t0)]
 rw[if_pos ((z02 _).2 h2)];by_cases h3:(s.2.1.length:Int)=c.2.2.1.2.1
 case neg=>rw[if_neg h3,if_neg (fun k:FoldOk c s=>h3 k.n1)]
 rw[if_pos h3];by_cases h4:TierOk s.2.1 c.2.1.2.1
 case neg=>rw[if_neg (mt (z02 _).1 h4),if_neg (fun k:FoldOk c s=>h4 k.t1)]
 rw[if_pos ((z02 _).2 h4)];by_cases h5:(s.2.2.length:Int)=c.2.2.1.2.2
 case neg=>rw[if_neg h5,if_neg (fun k:FoldOk c s=>h5 k.n2)]
 rw[if_pos h5];by_cases h6:TierOk s.2.2 c.2.1.2.2
 case neg=>rw[if_neg (mt (z02 _).1 h6),if_neg (fun k:FoldOk c s=>h6 k.t2)]
 rw[if_pos ((z02 _).2 h6),if_pos (⟨h0,h1,h3,h5,h2,h4,h6⟩:FoldOk c s)]
theorem i2y (n:Nat) (c:Conf) {s:Trs} (hw:TrsW s):c1j (n+9) c s=some (if FoldOk c s then 0 else 2):=by
 rw[s1z,s1y n c hw];by_cases h:FoldOk c s
 ·rw[if_pos h,if_pos h];rfl
 ·rw[if_neg h,if_neg h];rfl
noncomputable def emp (c:Conf):Trs:=if OkC c then (List.replicate c.2.2.1.1.toNat s0,(List.replicate c.2.2.1.2.1.toNat s0,List.replicate c.2.2.1.2.2.toNat s0)) else ([],([],[]))
theorem allE_okc (l:List Cel):∀c,b0y c→b0y (allE c l).1:=by
 induction l with
 | nil=>intro c h;exact h
 | cons x l ih =>
  intro c h;simp only[allE];split
  ·rename_i k;exact ih _ (m2m k).2.2.2.2
  ·exact u0j
theorem y0k (l:List Slo) (i k:Int):b0y (h0x l i k).1:=by
 unfold h0x;split
 ·exact u0j
 ·exact allE_okc _ _ u0j
theorem b2h (n:Nat) {c:Conf} (h:OkC c):q0f (n+4) c 1=some (c.2.1.2.1 / c.2.1.1):=by
 have hr:=h.rng;rw[z0p,q0e n c,if_pos h];rw[show IntKind.wrap .i64 ((1:Int)-1)=0 from rfl];simp only[obs,decide_true,Bool.not_true,tff];rw[show (decide ((1:Int)<1))=false from rfl,tff,show (decide ((2:Int)<1))=false from rfl,tff,show (decide ((1:Int)=0))=false from rfl,tff];simp only[tft,tfd,if_neg (show ¬(c.2.1.1=0) by have:=hr.w0;omega),e1d hr.w1 hr.w0.1]
theorem b2g (n:Nat) {c:Conf} (h:OkC c):q0f (n+4) c 2=some (c.2.1.2.2 / c.2.1.2.1):=by
 have hr:=h.rng;rw[z0p,q0e n c,if_pos h];rw[show IntKind.wrap .i64 ((2:Int)-1)=1 from rfl];simp only[obs,decide_true,Bool.not_true,tff];rw[show (decide ((2:Int)<1))=false from rfl,tff,show (decide ((2:Int)<2))=false from rfl,tff,show (decide ((2:Int)=0))=false from rfl,tff,show (decide ((2:Int)=1))=false from rfl,tff,show (decide ((1:Int)=0))=false from rfl,tff];simp only[decide_true,tft,tfd,if_neg (show ¬(c.2.1.2.1=0) by have:=hr.w1;omega),e1d hr.w2 hr.w1.1]
theorem FoldOk.lens {c:Conf} {s:Trs} (h:FoldOk c s):s.1.length≤1000000∧s.2.1.length≤1000000∧s.2.2.length≤1000000:=by
 have:=h.t0.l1;have:=h.t1.l1;have:=h.t2.l1;omega
theorem trs_wf {s:Trs} (h:Wf (.wrap (.pair (.slice a0g) (.pair (.slice a0g) (.slice a0g)))) s):TrsW s:=by
 obtain ⟨h1,h2,h3⟩:=h;exact ⟨z1y h1,z1y h2,z1y h3⟩
abbrev Ser:=List Lab×(Int×(Rw×(Trs×Slo)))
structure SerW (s:Ser):Prop where
 last:I64 s.2.1
 raw:RawW s.2.2.1
 trs:TrsW s.2.2.2.1
 opn:SloW s.2.2.2.2
def b0b (l:List Slo) (i:Int):Prop:=∀s∈l,0<s.2.1→s.1<i
noncomputable instance (l i):Decidable (b0b l i):=Classical.propDecidable _
structure Fresh (s:Ser):Prop where
 raw:s.2.2.1.2.2=[]
 opn:s.2.2.2.2=s0
 b0:b0b s.2.2.2.1.1 0
 b1:b0b s.2.2.2.1.2.1 0
 b2:b0b s.2.2.2.1.2.2 0
structure EndsP (c:Conf) (s:Ser):Prop where
 last:∃e,s.2.2.1.2.2.getLast? = some e∧e.1=s.2.1
 ol:s.2.2.2.2.2.2.2.1.1=s.2.1
 fit:FitsP s.2.2.2.2.2 c.2.1.1 s.2.2.2.2.1
 b0:b0b s.2.2.2.1.1 (s.2.1 / c.2.1.1)
 b1:b0b s.2.2.2.1.2.1 (s.2.1 / c.2.1.2.1)
 b2:b0b s.2.2.2.1.2.2 (s.2.1 / c.2.1.2.2)
structure SerOk (c:Conf) (s:Ser):Prop where
 fold:FoldOk c s.2.2.2.1
 lab:LabOk s.1
 raw:RawOk s.2.2.1 c.1
 st:(s.2.1 = -1∧Fresh s)∨(s.2.1 ≠ -1∧EndsP c s)
noncomputable instance (s):Decidable (Fresh s):=Classical.propDecidable _
noncomputable instance (c s):Decidable (EndsP c s):=Classical.propDecidable _
noncomputable instance (c s):Decidable (SerOk c s):=Classical.propDecidable _
theorem t1m (n:Nat) {del:a0f×Unit→Option Bool} {p:Slo→Bool} (hd:∀x,del (x,())=some (p x)) (l:List Slo) (hL:l.length≤1000000):h0u (n+2) l del=some (l.any p):=by
 rw[r0n,l0w];rcases n2l hd n l hL l [] a0d 0 l.length rfl rfl rfl (by unfold a0d;omega) with ⟨h1,h2⟩ | ⟨A,x,B,h1,h2,h3,h4⟩
 ·rw[h1];have:l.any p=false:=by rw[List.any_eq_false];intro x hx;simp[h2 x hx]
  rw[this];rfl
 ·rw[h4];have:l.any p=true:=List.any_eq_true.2 ⟨x,by rw[h1];simp,h3⟩;simp only[obs,f0u,this,Int.zero_add];rw[decide_eq_true (by omega)]
theorem e0c (n:Nat) (l:List Slo) (i:Int) (hL:l.length≤1000000):e0v (n+3) l i=some (!decide (b0b l i)):=by
 rw[e1b,t1m (p:=fun s=>decide (0<s.2.1∧i≤s.1)) n (fun x=>by
  show n0q (n+1+1) x i=_;rw[y0z]
  by_cases h1:0<x.2.1<;>by_cases h2:i≤x.1<;>simp[h1,h2]) l hL]
 simp only[obs];refine congrArg some ?_;by_cases h:b0b l i
 ·rw[decide_eq_true h];rw[List.any_eq_false.2]
  ·rfl
  ·intro x hx k;have:=of_decide_eq_true k;have:=h x hx this.1;omega
 ·rw[decide_eq_false h];have:∃x∈l,0<x.2.1∧i≤x.1:=Classical.byContradiction fun k=>h fun x hx hc=>by
   rcases Int.lt_or_le x.1 i with q | q
   ·exact q
   ·exact absurd ⟨x,hx,hc,q⟩ k
  obtain ⟨x,hx,hq⟩:=this;rw[List.any_eq_true.2 ⟨x,hx,decide_eq_true hq⟩];rfl
theorem i2t (n:Nat) (c:Conf) {s:Ser} (hf:FoldOk c s.2.2.2.1):f1q (n+4) (c,s)=some (decide (Fresh s)):=by
 obtain ⟨l0,l1,l2⟩:=hf.lens;rw[v1c,v1g,e0c n _ _ l0,e0c n _ _ l1,e0c n _ _ l2];simp only[obs,Bool.not_not,tfd];by_cases h1:(s.2.2.1.2.2.length:Int)=0
 case neg=>rw[if_neg h1,decide_eq_false (fun k:Fresh s=>h1 (by rw[k.raw];rfl))]
 rw[if_pos h1];by_cases h2:s.2.2.2.2=s0
 case neg=>rw[if_neg h2,decide_eq_false (fun k:Fresh s=>h2 k.opn)]
 rw[if_pos h2];by_cases h3:b0b s.2.2.2.1.1 0
 case neg=>rw[if_neg h3,decide_eq_false (fun k:Fresh s=>h3 k.b0)]
 rw[if_pos h3];by_cases h4:b0b s.2.2.2.1.2.1 0
 case neg=>rw[if_neg h4,decide_eq_false (fun k:Fresh s=>h4 k.b1)]
 rw[if_pos h4];refine congrArg some (decide_eq_decide.2 ⟨fun k=>⟨List.length_eq_zero_iff.1 (by omega),h2,h3,h4,k⟩,fun k=>k.b2⟩)
theorem c2n {c:Conf} {s:Ser} (hr:RawOk s.2.2.1 c.1) {e:Ev} (he:s.2.2.1.2.2.getLast? = some e):EvOk e:=hr.f.ok e (List.mem_of_getLast? he)
theorem n2g (n:Nat) (c:Conf) {s:Ser} (hf:FoldOk c s.2.2.2.1) (hr:RawOk s.2.2.1 c.1) (hw:SerW s):e1q (n+7) (c,s)=some (decide (EndsP c s)):=by
 obtain ⟨l0,l1,l2⟩:=hf.lens;have hg:=hf.cok.rng;have hlen:=hr.len;have hm1:=hr.m1;rw[z1v,raw_last (n+5) s.2.2.1 (by omega)];cases hl:s.2.2.1.2.2.getLast? with
 | none =>
  simp only[obs];rw[show (decide ((3:Int)=0))=false from rfl,tff,decide_eq_false];intro k;obtain ⟨e,he,_⟩:=k.last;rw[hl] at he;cases he
 | some e =>
  have heo:=c2n hr hl;simp only[obs,decide_true,tft,tfd,if_true];by_cases h1:e.1=s.2.1
  case neg =>
   rw[if_neg h1,decide_eq_false];intro k;obtain ⟨e',he,hq⟩:=k.last;rw[hl] at he;injection he with he;subst he;exact h1 hq
  rw[if_pos h1];by_cases h2:s.2.2.2.2.2.2.2.1.1=s.2.1
  case neg=>rw[if_neg h2,decide_eq_false (fun k:EndsP c s=>h2 k.ol)]
  have q0:=o1u heo hg.w0.1;have q1:=o1u heo hg.w1.1;have q2:=o1u heo hg.w2.1;rw[h1] at q0 q1 q2;rw[if_pos h2,u1q n hw.opn.c];simp only[obs,tfd,q0,q1,q2,e0c (n+3) _ _ l0,e0c (n+3) _ _ l1,e0c (n+3) _ _ l2,Bool.not_not,if_neg (show ¬(c.2.1.1=0) by have:=hg.w0;omega),if_neg (show ¬(c.2.1.2.1=0) by have:=hg.w1;omega),if_neg (show ¬(c.2.1.2.2=0) by have:=hg.w2;omega)];by_cases h3:FitsP s.2.2.2.2.2 c.2.1.1 s.2.2.2.2.1
  case neg=>rw[if_neg h3,decide_eq_false (fun k:EndsP c s=>h3 k.fit)]
  rw[if_pos h3];by_cases h4:b0b s.2.2.2.1.1 (s.2.1 / c.2.1.1)
  case neg=>rw[if_neg h4,decide_eq_false (fun k:EndsP c s=>h4 k.b0)]
  rw[if_pos h4];by_cases h5:b0b s.2.2.2.1.2.1 (s.2.1 / c.2.1.2.1)
  case neg=>rw[if_neg h5,decide_eq_false (fun k:EndsP c s=>h5 k.b1)]
  rw[if_pos h5];refine congrArg some (decide_eq_decide.2 ⟨fun k=>⟨⟨e,hl,h1⟩,h2,h3,h4,h5,k⟩,fun k=>k.b2⟩)
theorem z08 (p:Prop) [Decidable p]:((if p then (0:Int) else 8)=0)↔p:=by by_cases h:p<;>simp[h]
theorem j0j (n:Nat) (c:Conf) {s:Ser} (hw:SerW s):r0p (n+10) c s=some (if SerOk c s then (some (c,s),0) else (none,2)):=by
 rw[j1m,i2y n c hw.trs,x0q (n+3),k2z (n+4) _ _ hw.raw];simp only[obs,tfn,tfd];by_cases h1:FoldOk c s.2.2.2.1
 case neg=>rw[if_neg (mt (z02 _).1 h1),if_neg (fun k:SerOk c s=>h1 k.fold)]
 by_cases h2:LabOk s.1
 case neg=>rw[if_pos ((z02 _).2 h1),if_neg (mt (z08 _).1 h2),if_neg (fun k:SerOk c s=>h2 k.lab)]
 by_cases h3:RawOk s.2.2.1 c.1
 case neg=>rw[if_pos ((z02 _).2 h1),if_pos ((z08 _).2 h2),if_neg (mt (z02 _).1 h3),if_neg (fun k:SerOk c s=>h3 k.raw)]
 rw[if_pos ((z02 _).2 h1),if_pos ((z08 _).2 h2),if_pos ((z02 _).2 h3),i2t (n+5) c h1,n2g (n+2) c h1 h3 hw];simp only[obs,tfd];by_cases h4:s.2.1 = -1
 ·rw[if_pos h4];by_cases h5:Fresh s
  ·rw[if_pos h5,if_pos (⟨h1,h2,h3,.inl ⟨h4,h5⟩⟩:SerOk c s)]
  ·rw[if_neg h5,if_pos h4,if_neg (fun k:SerOk c s=>by
    rcases k.st with q | q
    ·exact h5 q.2
    ·exact q.1 h4)]
 ·rw[if_neg h4,if_neg h4];by_cases h5:EndsP c s
  ·rw[if_pos h5,if_pos (⟨h1,h2,h3,.inr ⟨h4,h5⟩⟩:SerOk c s)]
  ·rw[if_neg h5,if_neg (fun k:SerOk c s=>by
    rcases k.st with q | q
    ·exact h4 q.1
    ·exact h5 q.2)]
theorem i0x {l:List Slo} {w:Int} (h:TierOk l w) (i:Int):b0b l i↔∀s∈tall l,s.1<i:=by
 constructor
 ·intro k s hs;have:=(tall_N h hs).n1;exact k s (s1e.1 hs).1 (by omega)
 ·intro k s hs hc;exact k s (s1e.2 ⟨hs,fun e=>by rw[e] at hc;simp[s0,z0] at hc⟩)
theorem h1j {l:List Slo} {w:Int} (h:TierOk l w):b0b l 0↔tall l=[]:=by
 rw[i0x h];constructor
 ·intro k;by_cases e:tall l=[]
  ·exact e
  ·obtain ⟨s,hs⟩:=List.exists_mem_of_ne_nil _ e;have:=(n0m h hs).1.i0;have:=k s hs;omega
 ·intro e s hs;rw[e] at hs;cases hs
theorem r15_l7_3 (n f:Nat) (s:Ser):g0t n (f+1) (s,(3:Int),())=some (.inl ()):=by
 rw[j0k,show (decide ((3:Int)<3))=false from rfl,tff]
theorem r15_l7 (n f:Nat) (c:Conf) {s:Ser} (h:FoldOk c s.2.2.2.1):g0t (n+1) (f+4) (s,(0:Int),())=some (if b0b s.2.2.2.1.1 0∧b0b s.2.2.2.1.2.1 0∧b0b s.2.2.2.1.2.2 0 then .inl () else .inr 2):=by
 have n0:=h1j h.t0;have n1:=h1j h.t1;have n2:=h1j h.t2;have len:∀ {l:List Slo},((0:Int)<(tall l).length)↔tall l≠[]:=fun {l}=>by
  have:=List.length_pos_iff (l:=tall l);constructor
  ·intro k;exact this.1 (by omega)
  ·intro k;have:=this.2 k;omega
 rw[j0k,show (decide ((0:Int)<3))=true from rfl,tft,show (decide ((0:Int)=0))=true from rfl,tft,x0h n h.t0];simp only[obs,tfd];by_cases c0:b0b s.2.2.2.1.1 0
 case neg=>rw[if_pos (len.2 (mt n0.2 c0)),if_neg (fun k=>c0 k.1)]
 rw[if_neg (fun k=>(len.1 k) (n0.1 c0)),show IntKind.wrap .i64 ((0:Int)+1)=1 from rfl,j0k,show (decide ((1:Int)<3))=true from rfl,tft,show (decide ((1:Int)=0))=false from rfl,tff,show (decide ((1:Int)=1))=true from rfl,tft,x0h n h.t1];simp only[obs,tfd];by_cases c1:b0b s.2.2.2.1.2.1 0
 case neg=>rw[if_pos (len.2 (mt n1.2 c1)),if_neg (fun k=>c1 k.2.1)]
 rw[if_neg (fun k=>(len.1 k) (n1.1 c1)),show IntKind.wrap .i64 ((1:Int)+1)=2 from rfl,j0k,show (decide ((2:Int)<3))=true from rfl,tft,show (decide ((2:Int)=0))=false from rfl,tff,show (decide ((2:Int)=1))=false from rfl,tff,show (decide ((2:Int)=2))=true from rfl,tft,x0h n h.t2];simp only[obs,tfd];by_cases c2:b0b s.2.2.2.1.2.2 0
 case neg=>rw[if_pos (len.2 (mt n2.2 c2)),if_neg (fun k=>c2 k.2.2)]
 rw[if_neg (fun k=>(len.1 k) (n2.1 c2)),show IntKind.wrap .i64 ((2:Int)+1)=3 from rfl,r15_l7_3,if_pos ⟨c0,c1,c2⟩]
theorem l2i (n:Nat) (c:Conf) (s:Ser) (at_:Int) (hw:1≤c.2.1.1) (hq:IntKind.wrap .i64 (Int.tdiv s.2.1 c.2.1.1)=at_) (l:List Slo) (hL:l.length≤1000000):∀(rest pre:List Slo) (f:Nat) (ix len:Int),l=pre++rest→ix=pre.length→len=l.length→rest.length<f →
  ((∀x∈rest,x.1<at_)→c0n n f (c,s,(0:Int),l,len,ix,())=some (.inl (c,s,(0:Int),())))∧(¬(∀x∈rest,x.1<at_)→c0n n f (c,s,(0:Int),l,len,ix,())=some (.inr 2)):=by
 intro rest;induction rest with
 | nil =>
  intro pre f ix len hl hi hn hf;obtain ⟨f,rfl⟩:∃g,f=g+1:=⟨f-1,by simp at hf;omega⟩;rw[e0q];exact ⟨fun _=>by simp only[tfd,if_neg (idxe hl hi hn)],fun k=>absurd (by simp) k⟩
 | cons x rest ih =>
  intro pre f ix len hl hi hn hf;obtain ⟨f,rfl⟩:∃g,f=g+1:=⟨f-1,by simp at hf;omega⟩;rw[e0q,decide_eq_true (idx hl hi hn),tft,b0g hl hi,obs];rw[show (decide ((0:Int)=0))=true from rfl,tft];simp only[tfd,if_neg (show ¬(c.2.1.1=0) by omega),hq,idxw hl hi (show l.length≤1000000000000 by omega)];have ih':=ih (pre++[x]) f (ix+1) len (idxl hl) (idxs hi) hn (by simp at hf;omega);by_cases h1:at_≤x.1
  ·rw[if_pos h1];exact ⟨fun k=>by have:=k x (by simp);omega,fun _=>rfl⟩
  ·rw[if_neg h1];exact ⟨fun k=>ih'.1 fun y hy=>k y (by simp[hy]),fun k=>ih'.2 fun q=>k fun y hy=>by
    rcases List.mem_cons.1 hy with rfl | hy
    ·omega
    ·exact q y hy⟩
theorem l2h (n:Nat) (c:Conf) (s:Ser) (at_:Int) (hw:1≤c.2.1.2.1) (hq:IntKind.wrap .i64 (Int.tdiv s.2.1 c.2.1.2.1)=at_) (l:List Slo) (hL:l.length≤1000000):∀(rest pre:List Slo) (f:Nat) (ix len:Int),l=pre++rest→ix=pre.length→len=l.length→rest.length<f →
  ((∀x∈rest,x.1<at_)→c0n n f (c,s,(1:Int),l,len,ix,())=some (.inl (c,s,(1:Int),())))∧(¬(∀x∈rest,x.1<at_)→c0n n f (c,s,(1:Int),l,len,ix,())=some (.inr 2)):=by
 intro rest;induction rest with
 | nil =>
  intro pre f ix len hl hi hn hf;obtain ⟨f,rfl⟩:∃g,f=g+1:=⟨f-1,by simp at hf;omega⟩;rw[e0q];exact ⟨fun _=>by simp only[tfd,if_neg (idxe hl hi hn)],fun k=>absurd (by simp) k⟩
 | cons x rest ih =>
  intro pre f ix len hl hi hn hf;obtain ⟨f,rfl⟩:∃g,f=g+1:=⟨f-1,by simp at hf;omega⟩;rw[e0q,decide_eq_true (idx hl hi hn),tft,b0g hl hi,obs];rw[show (decide ((1:Int)=0))=false from rfl,tff,show (decide ((1:Int)=1))=true from rfl,tft];simp only[tfd,if_neg (show ¬(c.2.1.2.1=0) by omega),hq,idxw hl hi (show l.length≤1000000000000 by omega)];have ih':=ih (pre++[x]) f (ix+1) len (idxl hl) (idxs hi) hn (by simp at hf;omega);by_cases h1:at_≤x.1
  ·rw[if_pos h1];exact ⟨fun k=>by have:=k x (by simp);omega,fun _=>rfl⟩
  ·rw[if_neg h1];exact ⟨fun k=>ih'.1 fun y hy=>k y (by simp[hy]),fun k=>ih'.2 fun q=>k fun y hy=>by
    rcases List.mem_cons.1 hy with rfl | hy
    ·omega
    ·exact q y hy⟩
theorem l2g (n:Nat) (c:Conf) (s:Ser) (at_:Int) (hw:1≤c.2.1.2.2) (hq:IntKind.wrap .i64 (Int.tdiv s.2.1 c.2.1.2.2)=at_) (l:List Slo) (hL:l.length≤1000000):∀(rest pre:List Slo) (f:Nat) (ix len:Int),l=pre++rest→ix=pre.length→len=l.length→rest.length<f →
  ((∀x∈rest,x.1<at_)→c0n n f (c,s,(2:Int),l,len,ix,())=some (.inl (c,s,(2:Int),())))∧(¬(∀x∈rest,x.1<at_)→c0n n f (c,s,(2:Int),l,len,ix,())=some (.inr 2)):=by
 intro rest;induction rest with
 | nil =>
  intro pre f ix len hl hi hn hf;obtain ⟨f,rfl⟩:∃g,f=g+1:=⟨f-1,by simp at hf;omega⟩;rw[e0q];exact ⟨fun _=>by simp only[tfd,if_neg (idxe hl hi hn)],fun k=>absurd (by simp) k⟩
 | cons x rest ih =>
  intro pre f ix len hl hi hn hf;obtain ⟨f,rfl⟩:∃g,f=g+1:=⟨f-1,by simp at hf;omega⟩;rw[e0q,decide_eq_true (idx hl hi hn),tft,b0g hl hi,obs];rw[show (decide ((2:Int)=0))=false from rfl,tff,show (decide ((2:Int)=1))=false from rfl,tff,show (decide ((2:Int)=2))=true from rfl,tft];simp only[tfd,if_neg (show ¬(c.2.1.2.2=0) by omega),hq,idxw hl hi (show l.length≤1000000000000 by omega)];have ih':=ih (pre++[x]) f (ix+1) len (idxl hl) (idxs hi) hn (by simp at hf;omega);by_cases h1:at_≤x.1
  ·rw[if_pos h1];exact ⟨fun k=>by have:=k x (by simp);omega,fun _=>rfl⟩
  ·rw[if_neg h1];exact ⟨fun k=>ih'.1 fun y hy=>k y (by simp[hy]),fun k=>ih'.2 fun q=>k fun y hy=>by
    rcases List.mem_cons.1 hy with rfl | hy
    ·omega
    ·exact q y hy⟩
theorem l2j (n f:Nat) (c:Conf) (s:Ser):f0n n (f+1) (c,s,(3:Int),())=some (.inl ()):=by
 rw[i0g,show (decide ((3:Int)<3))=false from rfl,tff]
theorem r15_l16 (n f:Nat) (c:Conf) {s:Ser} (h:FoldOk c s.2.2.2.1) {e:Ev} (he:EvOk e) (hes:e.1=s.2.1):f0n (n+1) (f+4) (c,s,(0:Int),()) =
  some (if b0b s.2.2.2.1.1 (s.2.1 / c.2.1.1)∧b0b s.2.2.2.1.2.1 (s.2.1 / c.2.1.2.1)∧b0b s.2.2.2.1.2.2 (s.2.1 / c.2.1.2.2) then .inl () else .inr 2):=by
 have n0:=i0x h.t0 (s.2.1 / c.2.1.1);have n1:=i0x h.t1 (s.2.1 / c.2.1.2.1);have n2:=i0x h.t2 (s.2.1 / c.2.1.2.2);have hg:=h.cok.rng;have q0:=o1u he hg.w0.1;have q1:=o1u he hg.w1.1;have q2:=o1u he hg.w2.1;rw[hes] at q0 q1 q2;obtain ⟨l0,l1,l2⟩:=h.lens;have t0:=v0b (l:=s.2.2.2.1.1);have t1:=v0b (l:=s.2.2.2.1.2.1);have t2:=v0b (l:=s.2.2.2.1.2.2);have k0:=l2i (n+1) c s _ hg.w0.1 q0 (tall s.2.2.2.1.1) (by omega) (tall s.2.2.2.1.1) [] a0d 0 ((tall s.2.2.2.1.1).length:Int) rfl rfl rfl (by unfold a0d;omega)
 have k1:=l2h (n+1) c s _ hg.w1.1 q1 (tall s.2.2.2.1.2.1) (by omega) (tall s.2.2.2.1.2.1) [] a0d 0 ((tall s.2.2.2.1.2.1).length:Int) rfl rfl rfl (by unfold a0d;omega);have k2:=l2g (n+1) c s _ hg.w2.1 q2 (tall s.2.2.2.1.2.2) (by omega) (tall s.2.2.2.1.2.2) [] a0d 0 ((tall s.2.2.2.1.2.2).length:Int) rfl rfl rfl (by unfold a0d;omega);rw[←n0] at k0;rw[←n1] at k1;rw[←n2] at k2;rw[i0g,show (decide ((0:Int)<3))=true from rfl,tft,show (decide ((0:Int)=0))=true from rfl,tft,x0h n h.t0,obs];by_cases c0:b0b s.2.2.2.1.1 (s.2.1 / c.2.1.1)
 case neg=>rw[k0.2 c0,if_neg (fun k=>c0 k.1)];rfl
 rw[k0.1 c0];simp only[obs,a0n];rw[show IntKind.wrap .i64 ((0:Int)+1)=1 from rfl,i0g,show (decide ((1:Int)<3))=true from rfl,tft,show (decide ((1:Int)=0))=false from rfl,tff,show (decide ((1:Int)=1))=true from rfl,tft,x0h n h.t1,obs];by_cases c1:b0b s.2.2.2.1.2.1 (s.2.1 / c.2.1.2.1)
 case neg=>rw[k1.2 c1,if_neg (fun k=>c1 k.2.1)];rfl
 rw[k1.1 c1];simp only[obs,a0n];rw[show IntKind.wrap .i64 ((1:Int)+1)=2 from rfl,i0g,show (decide ((2:Int)<3))=true from rfl,tft,show (decide ((2:Int)=0))=false from rfl,tff,show (decide ((2:Int)=1))=false from rfl,tff,show (decide ((2:Int)=2))=true from rfl,tft,x0h n h.t2,obs];by_cases c2:b0b s.2.2.2.1.2.2 (s.2.1 / c.2.1.2.2)
 case neg=>rw[k2.2 c2,if_neg (fun k=>c2 k.2.2)];rfl
 rw[k2.1 c2];simp only[obs,a0n];rw[show IntKind.wrap .i64 ((2:Int)+1)=3 from rfl,l2j,if_pos ⟨c0,c1,c2⟩]
theorem q0b (n:Nat) (c:Conf) {s:Ser} (hw:SerW s):n0w (n+8) c s=some (if SerOk c s then 0 else 2):=by
 rw[v1x,q0e (n+4),g1n (n+5),l2l (n+5) _ _ hw.raw,l2k n c hw.trs];simp only[obs,tfn,tfd,v1g];by_cases h0:OkC c
 case neg=>rw[if_neg (mt (z02 _).1 h0),if_neg (fun k:SerOk c s=>h0 k.fold.cok)]
 by_cases h2:LabOk s.1
 case neg=>rw[if_pos ((z02 _).2 h0),if_neg (mt (z08 _).1 h2),if_neg (fun k:SerOk c s=>h2 k.lab)]
 by_cases h3:RawOk s.2.2.1 c.1
 case neg=>rw[if_pos ((z02 _).2 h0),if_pos ((z08 _).2 h2),if_neg (mt (z02 _).1 h3),if_neg (fun k:SerOk c s=>h3 k.raw)]
 by_cases h1:FoldOk c s.2.2.2.1
 case neg=>rw[if_pos ((z02 _).2 h0),if_pos ((z08 _).2 h2),if_pos ((z02 _).2 h3),if_neg (mt (z02 _).1 h1),if_neg (fun k:SerOk c s=>h1 k.fold)]
 have hlen:=h3.len;have hm1:=h3.m1;rw[if_pos ((z02 _).2 h0),if_pos ((z08 _).2 h2),if_pos ((z02 _).2 h3),if_pos ((z02 _).2 h1),show a0d=(2^70-4)+4 from by decide,r15_l7 (n+6) _ c h1,r12_last _ _ (by omega),d2x (n+2) hw.opn.c];by_cases h4:s.2.1 = -1
 ·rw[if_pos h4];by_cases h5:(0:Int)<s.2.2.1.2.2.length
  ·rw[if_pos h5,if_neg (fun k:SerOk c s=>by
    rcases k.st with q | q
    ·rw[q.2.raw] at h5;simp at h5
    ·exact q.1 h4)]
  rw[if_neg h5];by_cases h6:s.2.2.2.2=s0
  case neg=>rw[if_neg h6,if_neg (fun k:SerOk c s=>by
    rcases k.st with q | q
    ·exact h6 q.2.opn
    ·exact q.1 h4)]
  rw[if_pos h6,obs];by_cases h7:b0b s.2.2.2.1.1 0∧b0b s.2.2.2.1.2.1 0∧b0b s.2.2.2.1.2.2 0
  ·rw[if_pos h7,if_pos (⟨h1,h2,h3,.inl ⟨h4,⟨List.length_eq_zero_iff.1 (by omega),h6,h7.1,h7.2.1,h7.2.2⟩⟩⟩:SerOk c s)];rfl
  ·rw[if_neg h7,if_neg (fun k:SerOk c s=>by
    rcases k.st with q | q
    ·exact h7 ⟨q.2.b0,q.2.b1,q.2.b2⟩
    ·exact q.1 h4)];rfl
 ·rw[if_neg h4];have no:∀ {p:Prop},(EndsP c s→p)→¬p→(if SerOk c s then (0:Int) else 2)=2:=fun hp hn=>if_neg (fun k:SerOk c s=>by
   rcases k.st with q | q
   ·exact h4 q.1
   ·exact hn (hp q.2))
  cases hl:s.2.2.1.2.2.getLast? with
  | none =>
   simp only[obs];rw[if_neg (by decide),no (fun k=>k.last) (fun ⟨e,he,_⟩=>by rw[hl] at he;cases he)]
  | some e =>
   have heo:=c2n h3 hl;simp only[obs,if_true,tfd];by_cases h5:e.1=s.2.1
   case neg=>rw[if_neg h5,no (fun k=>k.last) (fun ⟨e',he,hq⟩=>by rw[hl] at he;injection he with he;subst he;exact h5 hq)]
   rw[if_pos h5];by_cases h6:FitsP s.2.2.2.2.2 c.2.1.1 s.2.2.2.2.1
   case neg=>rw[if_neg h6,no (fun k=>k.fit) h6]
   rw[if_pos h6];by_cases h7:s.2.2.2.2.2.2.2.1.1=s.2.1
   case neg=>rw[if_neg h7,no (fun k=>k.ol) h7]
   rw[if_pos h7,r15_l16 (n+6) _ c h1 heo h5,obs];by_cases h8:b0b s.2.2.2.1.1 (s.2.1 / c.2.1.1)∧b0b s.2.2.2.1.2.1 (s.2.1 / c.2.1.2.1)∧b0b s.2.2.2.1.2.2 (s.2.1 / c.2.1.2.2)
   ·rw[if_pos h8,if_pos (⟨h1,h2,h3,.inr ⟨h4,⟨⟨e,hl,h5⟩,h7,h6,h8.1,h8.2.1,h8.2.2⟩⟩⟩:SerOk c s)];rfl
   ·rw[if_neg h8,no (fun k=>And.intro k.b0 (And.intro k.b1 k.b2)) h8];rfl
theorem nn {α:Type} {a b:α} (h:a=b):¬(a≠b):=fun k=>k h
def ser0:Ser:=([],(0,(r0w,(([],([],[])),s0))))
end Go.Proofs.YtgkpkajaepphjaaGreatDoor

namespace Go.Plim
set_option linter.unusedVariables false
def below (w:Int) (l:List Ev) (t:Int):List Ev:=l.filter fun e=>decide (e.1 / w<t / w)
structure EndsAt (l:List Ev) (t:Int):Prop where
 foll:Foll l
 le:∀e∈l,e.1≤t
 last:∃e∈l,e.1=t
theorem edvm {t a b:Int} (ha:1≤a) (hb:1≤b) (hm:b % a=0):t / a*a / b=t / b∧t / a / (b / a)=t / b:=by
 have e:a*(b / a)=b:=by have:=Int.mul_ediv_add_emod b a;omega
 have h1:t / a / (b / a)=t / b:=by rw[Int.ediv_ediv_of_nonneg (by omega),e]
 refine ⟨?_,h1⟩;rw[←h1]
 conv=>lhs;rw[←e,Int.mul_comm (t / a) a]
 exact Int.mul_ediv_mul_of_pos _ _ (by omega)
end Go.Plim
namespace Go.Proofs.YtgkpkajaepphjaaGreatDoor
open Go.Flat Go.Plim
structure FInv (c:Conf) (s:Trs) (l:List Ev) (t:Int):Prop where
 ok:FoldOk c s
 i0:TierInv s.1 c.2.1.1 (below c.2.1.1 l t)
 i1:TierInv s.2.1 c.2.1.2.1 (below c.2.1.2.1 l t)
 i2:TierInv s.2.2 c.2.1.2.2 (below c.2.1.2.2 l t)
end Go.Proofs.YtgkpkajaepphjaaGreatDoor
namespace Go.Proofs.YtgkpkajaepphjaaGreatDoor
open Go.Flat Go.Plim
set_option linter.unusedVariables false
set_option linter.unusedSimpArgs false
theorem allE_up {w:Int}:∀(L:List Slo) (c:Cel) (lo:Int),Up L→(∀s∈L,FitsP s.2 w s.1∧lo≤s.1)→b0y c→(c=z0∨c.2.2.1.1 / w<lo)→(allE c (L.map (·.2))).2=0:=by
 intro L;induction L with
 | nil=>intro c lo _ _ _ _;rfl
 | cons s L ih =>
  intro c lo hu hs hc hl;unfold Up at hu;rw[List.pairwise_cons] at hu;obtain ⟨hf,h1⟩:=hs s (by simp);have ha:Ahead c s.2:=by
   rcases hl with h | h
   ·exact .inl h
   ·refine .inr (.inr ?_);have e:=hf.f;rcases Int.lt_or_le c.2.2.1.1 s.2.2.1.1 with q | q
    ·exact q
    ·have:=Int.ediv_le_ediv (c:=w) (by have:=hf.w0;omega) q;omega
  have em:mrgE c s.2=(mrg c s.2,0):=by unfold mrgE;rw[if_pos (And.intro hc hf.n.ok),if_pos ha]
  simp only[List.map_cons,allE];rw[em,if_pos rfl];refine ih _ (s.1+1) hu.2 (fun x hx=>⟨(hs x (by simp[hx])).1,by have:=hu.1 x hx;omega⟩) (x1n hc hf.n.ok ha) (.inr ?_);have el:(mrg c s.2).2.2.1.1=s.2.2.2.1.1:=by
   unfold mrg;by_cases k:c=z0
   ·rw[if_pos k]
   ·rw[if_neg k,if_neg hf.n.ne]
  rw[el,hf.l];omega
theorem e0p {l:List Slo} {w i k:Int} (h:TierOk l w) (h0:0≤i) (hik:i≤k):(h0x l i k).2=0:=by
 unfold h0x;rw[if_neg (by omega)];unfold within;refine allE_up (w:=w) _ z0 0 ((q1d h).filter _) (fun s hs => ?_) u0j (.inl rfl);have:=(n0m h (List.mem_filter.1 hs).1).1;exact ⟨this,this.i0.1⟩
theorem f1n {l:List Slo} {w a i j:Int} (h:TierOk l w) (hb:b0b l a) (h0:0≤i) (hij:i≤j):h0x l i (if i<(if a<j then a else j) then (if a<j then a else j) else i)=h0x l i j:=by
 have hn:=(i0x h a).1 hb;have e:∀k k':Int,(∀x:Int,x<a→i≤x→(x<k↔x<k'))→within l i k=within l i k':=by
  intro k k' hk;unfold within;refine congrArg _ (List.filter_congr fun s hs=>decide_eq_decide.2 ?_);have:=hk s.1 (hn s hs);constructor<;>rintro ⟨q1,q2⟩
  ·exact ⟨q1,(this q1).1 q2⟩
  ·exact ⟨q1,(this q1).2 q2⟩
 unfold h0x;rw[if_neg (show ¬(i<0∨j<i) by omega),if_neg (by split<;>split at * <;> omega)];refine congrArg _ (e _ _ fun x h1 h2 => ?_);split<;>split at * <;> omega
noncomputable def now1 (c:Conf) (s:Ser):Cel×Int:=mrgE (h0x s.2.2.2.1.1 (s.2.1 / c.2.1.2.1*(c.2.1.2.1 / c.2.1.1)) (s.2.1 / c.2.1.1)).1 s.2.2.2.2.2
noncomputable def now2 (c:Conf) (s:Ser):Cel×Int :=
 if (now1 c s).2≠0 then (z0,(now1 c s).2) else mrgE (h0x s.2.2.2.1.2.1 (s.2.1 / c.2.1.2.2*(c.2.1.2.2 / c.2.1.2.1)) (s.2.1 / c.2.1.2.1)).1 (now1 c s).1
theorem p0a (l:List Slo) (i k:Int):CelW (h0x l i k).1 := .of (y0k l i k)
theorem p0w {c:Conf} {s:Ser} (h:SerOk c s) (hn:¬(s.2.1 = -1)):EndsP c s∧∃e,EvOk e∧e.1=s.2.1:=by
 rcases h.st with q | q
 ·exact absurd q.1 hn
 ·obtain ⟨e,he,h1⟩:=q.2.last;exact ⟨q.2,e,c2n h.raw he,h1⟩
theorem v0s {a b t:Int} (ha:1≤a∧a≤1099511627776) (hb:1≤b∧b≤1099511627776) (hm:b % a=0) (ht:0≤t∧t<35184372088832) :
  0≤t / b*(b / a)∧t / b*(b / a)≤t / a∧t / a<35184372088832∧0≤t / a:=by
 have h1:=(edvm (t:=t) ha.1 hb.1 hm).2;have h2:0≤t / b:=Int.ediv_nonneg ht.1 (by omega);have h3:0≤b / a:=Int.ediv_nonneg (by omega) (by omega);have h4:0≤t / a:=Int.ediv_nonneg ht.1 (by omega);have h5:t / a≤t:=Int.ediv_le_self _ ht.1;refine ⟨Int.mul_nonneg h2 h3,?_,by omega,h4⟩;have h6:1≤b / a:=by
  have e:a*(b / a)=b:=by have:=Int.mul_ediv_add_emod b a;omega
  rcases Int.lt_or_le 0 (b / a) with q | q
  ·omega
  ·have:b / a=0:=by omega
   rw[this] at e;omega
 rw[←h1];exact Int.ediv_mul_le _ (by omega)
structure At (c:Conf) (s:Ser):Prop where
 l0:0≤s.2.1
 l1:s.2.1<35184372088832
theorem i0f {c:Conf} {s:Ser} (h:SerOk c s) (hn:¬(s.2.1 = -1)):0≤s.2.1∧s.2.1<35184372088832:=by
 obtain ⟨_,e,he,h1⟩:=p0w h hn;rw[←h1];exact ⟨he.t0,he.t1⟩
theorem j0p {t:Int} (ht:0≤t∧t<35184372088832) {w:Int} (hw:1≤w):IntKind.wrap .i64 (Int.tdiv t w)=t / w:=by
 have:0≤t / w:=Int.ediv_nonneg ht.1 (by omega);have:t / w≤t:=Int.ediv_le_self _ ht.1;rw[l0l ht.1,w64 (by omega) (by omega)]
theorem nz {w:Int} (h:1≤w):¬(w=0):=by omega
theorem x1y (n:Nat) (c:Conf) (s:Ser):n0n (n+1) (c,s) 0=some (s.2.2.2.2.2,0):=by rw[v1b]
theorem mrgE_nn (a b:Cel):0≤(mrgE a b).2:=by
 unfold mrgE;split
 ·split<;>simp
 ·simp
theorem x1x (n:Nat) (c:Conf) {s:Ser} (h:SerOk c s) (hw:SerW s) (hn:¬(s.2.1 = -1)):n0n (n+19) (c,s) 1=some (now1 c s):=by
 have hr:=h.fold.cok.rng;have ht:=i0f h hn;obtain ⟨o1,o2,o3,o4⟩:=v0s hr.w0 hr.w1 h.fold.cok.m1 ht;rw[v1a];simp only[tfd,tfn,if_neg (nz hr.w0.1),if_neg (nz hr.w1.1),j0p ht hr.w0.1,j0p ht hr.w1.1,e1d hr.w1 hr.w0.1];rw[w64 (by omega) (by omega),s0w n h.fold.t0,x1y (n+17)];simp only[obs,e0p h.fold.t0 o1 o2,if_true,m0x (n+12) (p0a _ _ _) hw.opn.c];rfl
theorem e2h (c:Conf) (s:Ser):CelW (now1 c s).1:=e2i _ _
theorem n2f (n:Nat) (c:Conf) {s:Ser} (h:SerOk c s) (hw:SerW s) (hn:¬(s.2.1 = -1)):n0n (n+20) (c,s) 2=some (now2 c s):=by
 have hr:=h.fold.cok.rng;have ht:=i0f h hn;obtain ⟨o1,o2,o3,o4⟩:=v0s hr.w1 hr.w2 h.fold.cok.m2 ht;rw[u1z];simp only[tfd,tfn,if_neg (nz hr.w1.1),if_neg (nz hr.w2.1),j0p ht hr.w1.1,j0p ht hr.w2.1,e1d hr.w2 hr.w1.1];rw[w64 (by omega) (by omega),s0w (n+1) h.fold.t1,x1x n c h hw hn];simp only[obs,e0p h.fold.t1 o1 o2,if_true,m0x (n+13) (p0a _ _ _) (e2h c s)];unfold now2;by_cases k:(now1 c s).2=0
 ·rw[if_pos k,if_neg (nn k)]
 ·have:0≤(now1 c s).2:=mrgE_nn _ _;rw[if_neg k,if_pos k,if_pos (by omega)];rfl
theorem one0 (n:Nat) (c:Conf) {s:Ser} (h:SerOk c s) (hn:¬(s.2.1 = -1)) (i:Int) (hi:0≤i):l0n (n+3) c s 0 i=some (if s.2.1 / c.2.1.1<i then (z0,0) else if i<s.2.1 / c.2.1.1 then (tget s.2.2.2.1.1 i,0) else (s.2.2.2.2.2,0)):=by
 have hr:=h.fold.cok.rng;have ht:=i0f h hn;rw[d1g];simp only[tfd,if_neg hn,if_neg (nz hr.w0.1),j0p ht hr.w0.1,r1i n h.fold.t0.l0,obs];split
 ·rfl
 ·split<;>rfl
theorem one1 (n:Nat) (c:Conf) {s:Ser} (h:SerOk c s) (hw:SerW s) (hn:¬(s.2.1 = -1)) (i:Int) (hi:0≤i):l0n (n+8) c s 1 i=some (if s.2.1 / c.2.1.2.1<i then (z0,0) else if i<s.2.1 / c.2.1.2.1 then (tget s.2.2.2.1.2.1 i,0) else now1 c s):=by
 have hr:=h.fold.cok.rng;have ht:=i0f h hn;obtain ⟨o1,o2,o3,o4⟩:=v0s hr.w0 hr.w1 h.fold.cok.m1 ht;rw[d1f];simp only[tfd,tfn,if_neg hn,if_neg (nz hr.w0.1),if_neg (nz hr.w1.1),j0p ht hr.w0.1,j0p ht hr.w1.1,r1i (n+5) h.fold.t1.l0,obs];by_cases k1:s.2.1 / c.2.1.2.1<i
 ·rw[if_pos k1,if_pos k1];rfl
 rw[if_neg k1,if_neg k1];by_cases k2:i<s.2.1 / c.2.1.2.1
 ·rw[if_pos k2,if_pos k2]
 rw[if_neg k2,if_neg k2];have e:i=s.2.1 / c.2.1.2.1:=by omega
 subst e;rw[b2h (n+3) h.fold.cok];simp only[obs];rw[w64 (by omega) (by omega),z0k n h.fold.t0];simp only[obs,e0p h.fold.t0 o1 o2,if_true];rw[one0 (n+4) c h hn _ o4,if_neg (by omega),if_neg (by omega)];simp only[obs,if_true,q0g (n+2) (p0a _ _ _) hw.opn.c];rfl
theorem one2 (n:Nat) (c:Conf) {s:Ser} (h:SerOk c s) (hw:SerW s) (hn:¬(s.2.1 = -1)) (i:Int) (hi:0≤i):l0n (n+9) c s 2 i=some (if s.2.1 / c.2.1.2.2<i then (z0,0) else if i<s.2.1 / c.2.1.2.2 then (tget s.2.2.2.1.2.2 i,0) else now2 c s):=by
 have hr:=h.fold.cok.rng;have ht:=i0f h hn;obtain ⟨o1,o2,o3,o4⟩:=v0s hr.w1 hr.w2 h.fold.cok.m2 ht;rw[v1w];simp only[tfd,tfn,if_neg hn,if_neg (nz hr.w1.1),if_neg (nz hr.w2.1),j0p ht hr.w1.1,j0p ht hr.w2.1,r1i (n+6) h.fold.t2.l0,obs];by_cases k1:s.2.1 / c.2.1.2.2<i
 ·rw[if_pos k1,if_pos k1];rfl
 rw[if_neg k1,if_neg k1];by_cases k2:i<s.2.1 / c.2.1.2.2
 ·rw[if_pos k2,if_pos k2]
 rw[if_neg k2,if_neg k2];have e:i=s.2.1 / c.2.1.2.2:=by omega
 subst e;rw[b2g (n+4) h.fold.cok];simp only[obs];rw[w64 (by omega) (by omega),z0k (n+1) h.fold.t1];simp only[obs,e0p h.fold.t1 o1 o2,if_true];rw[one1 n c h hw hn _ o4,if_neg (by omega),if_neg (by omega)];simp only[obs,q0g (n+3) (p0a _ _ _) (e2h c s)];unfold now2;by_cases k:(now1 c s).2=0
 ·rw[if_pos k,if_neg (nn k)]
 ·rw[if_neg k,if_pos k];rfl
noncomputable def cellV (ok:Prop) [Decidable ok] (i last w:Int) (t:List Slo) (now:Cel×Int):Cel×Int :=
 if ok then (if i<0 then (z0,1) else if last = -1 then (z0,0) else if last / w<i then (z0,0) else if i=last / w then now else (tget t i,0)) else (z0,2)
noncomputable def d0l (ok:Prop) [Decidable ok] (i j last w:Int) (t:List Slo) (now:Cel×Int):Cel×Int :=
 if ok then (if i<0 then (z0,1) else if j<i then (z0,1) else if last = -1 then (z0,0) else if last / w<i then h0x t i j else if j≤last / w then h0x t i j else if now.2≠0 then (z0,now.2) else mrgE (h0x t i j).1 now.1) else (z0,2)
theorem now2_w (c:Conf) (s:Ser):CelW (now2 c s).1:=by
 unfold now2;split
 ·exact x0z
 ·exact e2i _ _
theorem r15_cell0 (n:Nat) (c:Conf) {s:Ser} (hw:SerW s) (i:Int):r1h (n+10) c s 0 i=some (cellV (SerOk c s) i s.2.1 c.2.1.1 s.2.2.2.1.1 (s.2.2.2.2.2,0)):=by
 rw[g1d,q0b (n+1) c hw];unfold cellV;by_cases h:SerOk c s
 case neg=>rw[if_neg h,if_neg h];rfl
 rw[if_pos h,if_pos h];simp only[obs,decide_true,Bool.not_true,tff,tfd,if_neg (show ¬((0:Int)<0) by omega),if_neg (show ¬((2:Int)<0) by omega)];by_cases h1:i<0
 ·rw[if_pos h1,if_pos h1];rfl
 rw[if_neg h1,if_neg h1];by_cases hn:s.2.1 = -1
 ·rw[if_pos hn,d1g,hn];rfl
 rw[if_neg hn,one0 (n+6) c h hn i (by omega)];by_cases h2:s.2.1 / c.2.1.1<i
 ·rw[if_pos h2,if_pos h2];rfl
 rw[if_neg h2,if_neg h2];by_cases h3:i=s.2.1 / c.2.1.1
 ·rw[if_pos h3,if_neg (by omega)];rfl
 rw[if_neg h3,if_pos (by omega)];rfl
theorem i2s (n:Nat) (c:Conf) {s:Ser} (h:SerOk c s) (hw:SerW s) {i j:Int} (h0:¬i<0) (hij:¬j<i):r0j (n+21) (c,s) 0 i j=some (d0l (SerOk c s) i j s.2.1 c.2.1.1 s.2.2.2.1.1 (s.2.2.2.2.2,0)):=by
 rw[q1h];unfold d0l;rw[if_pos h,if_neg h0,if_neg hij];simp only[tfd,tfn];by_cases hn:s.2.1 = -1
 ·rw[if_pos hn,if_pos hn];rfl
 have hr:=h.fold.cok.rng;have ht:=i0f h hn;rw[if_neg hn,if_neg hn,if_neg (nz hr.w0.1),j0p ht hr.w0.1,s0w (n+2) h.fold.t0];simp only[obs,e0p h.fold.t0 (show 0≤i by omega) (show i≤j by omega),if_true];by_cases h2:s.2.1 / c.2.1.1<i
 ·rw[if_pos h2,if_pos h2]
 rw[if_neg h2,if_neg h2];by_cases h3:j≤s.2.1 / c.2.1.1
 ·rw[if_pos h3,if_pos h3]
 rw[if_neg h3,if_neg h3,x1y (n+19) c s];simp only[obs,m0x (n+14) (p0a _ _ _) hw.opn.c];rw[if_pos trivial,if_neg (nn rfl)]
theorem h2i (n:Nat) (c:Conf) {s:Ser} (hw:SerW s) (i j:Int):g0s (n+10) c s 0 i j=some (d0l (SerOk c s) i j s.2.1 c.2.1.1 s.2.2.2.1.1 (s.2.2.2.2.2,0)):=by
 rw[j1t,q0b (n+1) c hw];unfold d0l;by_cases h:SerOk c s
 case neg=>rw[if_neg h,if_neg h];rfl
 rw[if_pos h,if_pos h];simp only[obs,decide_true,Bool.not_true,tff,tfd,tfn];by_cases h1:i<0
 ·rw[if_pos h1,if_pos h1];rfl
 rw[if_neg h1,if_neg h1];by_cases h2:j<i
 ·rw[if_pos h2,if_pos h2];rfl
 rw[if_neg h2,if_neg h2];by_cases hn:s.2.1 = -1
 ·rw[if_pos hn,if_pos hn];rfl
 have hr:=h.fold.cok.rng;have ht:=i0f h hn;have hq:0≤s.2.1 / c.2.1.1:=Int.ediv_nonneg ht.1 (by have:=hr.w0.1;omega);rw[if_neg hn,if_neg hn,if_neg (nz hr.w0.1),j0p ht hr.w0.1,z0k (n+2) h.fold.t0,f1n h.fold.t0 (p0w h hn).1.b0 (show 0≤i by omega) (show i≤j by omega)];simp only[obs,e0p h.fold.t0 (show 0≤i by omega) (show i≤j by omega),if_true];by_cases h3:s.2.1 / c.2.1.1<i
 ·rw[if_pos h3,if_pos h3]
 rw[if_neg h3,if_neg h3];by_cases h4:j≤s.2.1 / c.2.1.1
 ·rw[if_pos h4,if_pos h4]
 rw[if_neg h4,if_neg h4,one0 (n+6) c h hn _ hq,if_neg (Int.lt_irrefl _),if_neg (Int.lt_irrefl _)];simp only[obs,q0g (n+4) (p0a _ _ _) hw.opn.c];rw[if_pos trivial,if_neg (nn rfl)]
theorem q1p (n:Nat) (c:Conf) {s:Ser} (hw:SerW s) (i j:Int):d0g (n+22) c s 0 i j=some (d0l (SerOk c s) i j s.2.1 c.2.1.1 s.2.2.2.1.1 (s.2.2.2.2.2,0)):=by
 rw[n0s,j0j (n+11) c hw];by_cases h:SerOk c s
 case neg=>unfold d0l;rw[if_neg h,if_neg h];rfl
 rw[if_pos h];simp only[obs,b1y,decide_true,Bool.not_true,tff,tfd,if_neg (show ¬((0:Int)<0) by omega),if_neg (show ¬((3:Int)≤0) by omega)];by_cases h1:i<0
 ·unfold d0l;rw[if_pos h1,if_pos h,if_pos h1];rfl
 by_cases h2:j<i
 ·unfold d0l;rw[if_neg h1,if_pos h2,if_pos h,if_neg h1,if_pos h2];rfl
 rw[if_neg h1,if_neg h2,i2s n c h hw h1 h2];rfl
theorem r15_cell1 (n:Nat) (c:Conf) {s:Ser} (hw:SerW s) (i:Int):r1h (n+10) c s 1 i=some (cellV (SerOk c s) i s.2.1 c.2.1.2.1 s.2.2.2.1.2.1 (now1 c s)):=by
 rw[g1d,q0b (n+1) c hw];unfold cellV;by_cases h:SerOk c s
 case neg=>rw[if_neg h,if_neg h];rfl
 rw[if_pos h,if_pos h];simp only[obs,decide_true,Bool.not_true,tff,tfd,if_neg (show ¬((1:Int)<0) by omega),if_neg (show ¬((2:Int)<1) by omega)];by_cases h1:i<0
 ·rw[if_pos h1,if_pos h1];rfl
 rw[if_neg h1,if_neg h1];by_cases hn:s.2.1 = -1
 ·rw[if_pos hn,d1f,hn];rfl
 rw[if_neg hn,one1 (n+1) c h hw hn i (by omega)];by_cases h2:s.2.1 / c.2.1.2.1<i
 ·rw[if_pos h2,if_pos h2];rfl
 rw[if_neg h2,if_neg h2];by_cases h3:i=s.2.1 / c.2.1.2.1
 ·rw[if_pos h3,if_neg (by omega)];rfl
 rw[if_neg h3,if_pos (by omega)];rfl
theorem i2r (n:Nat) (c:Conf) {s:Ser} (h:SerOk c s) (hw:SerW s) {i j:Int} (h0:¬i<0) (hij:¬j<i):r0j (n+21) (c,s) 1 i j=some (d0l (SerOk c s) i j s.2.1 c.2.1.2.1 s.2.2.2.1.2.1 (now1 c s)):=by
 rw[q1g];unfold d0l;rw[if_pos h,if_neg h0,if_neg hij];simp only[tfd,tfn];by_cases hn:s.2.1 = -1
 ·rw[if_pos hn,if_pos hn];rfl
 have hr:=h.fold.cok.rng;have ht:=i0f h hn;rw[if_neg hn,if_neg hn,if_neg (nz hr.w1.1),j0p ht hr.w1.1,s0w (n+2) h.fold.t1];simp only[obs,e0p h.fold.t1 (show 0≤i by omega) (show i≤j by omega),if_true];by_cases h2:s.2.1 / c.2.1.2.1<i
 ·rw[if_pos h2,if_pos h2]
 rw[if_neg h2,if_neg h2];by_cases h3:j≤s.2.1 / c.2.1.2.1
 ·rw[if_pos h3,if_pos h3]
 rw[if_neg h3,if_neg h3,x1x (n+1) c h hw hn];simp only[obs,m0x (n+14) (p0a _ _ _) (e2h c s)];by_cases h4:(now1 c s).2=0
 ·rw[if_pos h4,if_neg (nn h4)]
 ·rw[if_neg h4,if_pos h4];rfl
theorem h2h (n:Nat) (c:Conf) {s:Ser} (hw:SerW s) (i j:Int):g0s (n+10) c s 1 i j=some (d0l (SerOk c s) i j s.2.1 c.2.1.2.1 s.2.2.2.1.2.1 (now1 c s)):=by
 rw[j1s,q0b (n+1) c hw];unfold d0l;by_cases h:SerOk c s
 case neg=>rw[if_neg h,if_neg h];rfl
 rw[if_pos h,if_pos h];simp only[obs,decide_true,Bool.not_true,tff,tfd,tfn];by_cases h1:i<0
 ·rw[if_pos h1,if_pos h1];rfl
 rw[if_neg h1,if_neg h1];by_cases h2:j<i
 ·rw[if_pos h2,if_pos h2];rfl
 rw[if_neg h2,if_neg h2];by_cases hn:s.2.1 = -1
 ·rw[if_pos hn,if_pos hn];rfl
 have hr:=h.fold.cok.rng;have ht:=i0f h hn;have hq:0≤s.2.1 / c.2.1.2.1:=Int.ediv_nonneg ht.1 (by have:=hr.w1.1;omega);rw[if_neg hn,if_neg hn,if_neg (nz hr.w1.1),j0p ht hr.w1.1,z0k (n+2) h.fold.t1,f1n h.fold.t1 (p0w h hn).1.b1 (show 0≤i by omega) (show i≤j by omega)];simp only[obs,e0p h.fold.t1 (show 0≤i by omega) (show i≤j by omega),if_true];by_cases h3:s.2.1 / c.2.1.2.1<i
 ·rw[if_pos h3,if_pos h3]
 rw[if_neg h3,if_neg h3];by_cases h4:j≤s.2.1 / c.2.1.2.1
 ·rw[if_pos h4,if_pos h4]
 rw[if_neg h4,if_neg h4,one1 (n+1) c h hw hn _ hq,if_neg (Int.lt_irrefl _),if_neg (Int.lt_irrefl _)];simp only[obs,q0g (n+4) (p0a _ _ _) (e2h c s)];by_cases h4:(now1 c s).2=0
 ·rw[if_pos h4,if_neg (nn h4)]
 ·rw[if_neg h4,if_pos h4];rfl
theorem q1o (n:Nat) (c:Conf) {s:Ser} (hw:SerW s) (i j:Int):d0g (n+22) c s 1 i j=some (d0l (SerOk c s) i j s.2.1 c.2.1.2.1 s.2.2.2.1.2.1 (now1 c s)):=by
 rw[n0s,j0j (n+11) c hw];by_cases h:SerOk c s
 case neg=>unfold d0l;rw[if_neg h,if_neg h];rfl
 rw[if_pos h];simp only[obs,b1y,decide_true,Bool.not_true,tff,tfd,if_neg (show ¬((1:Int)<0) by omega),if_neg (show ¬((3:Int)≤1) by omega)];by_cases h1:i<0
 ·unfold d0l;rw[if_pos h1,if_pos h,if_pos h1];rfl
 by_cases h2:j<i
 ·unfold d0l;rw[if_neg h1,if_pos h2,if_pos h,if_neg h1,if_pos h2];rfl
 rw[if_neg h1,if_neg h2,i2r n c h hw h1 h2];rfl
theorem i2q (n:Nat) (c:Conf) {s:Ser} (h:SerOk c s) (hw:SerW s) {i j:Int} (h0:¬i<0) (hij:¬j<i):r0j (n+21) (c,s) 2 i j=some (d0l (SerOk c s) i j s.2.1 c.2.1.2.2 s.2.2.2.1.2.2 (now2 c s)):=by
 rw[q1f];unfold d0l;rw[if_pos h,if_neg h0,if_neg hij];simp only[tfd,tfn];by_cases hn:s.2.1 = -1
 ·rw[if_pos hn,if_pos hn];rfl
 have hr:=h.fold.cok.rng;have ht:=i0f h hn;rw[if_neg hn,if_neg hn,if_neg (nz hr.w2.1),j0p ht hr.w2.1,s0w (n+2) h.fold.t2];simp only[obs,e0p h.fold.t2 (show 0≤i by omega) (show i≤j by omega),if_true];by_cases h2:s.2.1 / c.2.1.2.2<i
 ·rw[if_pos h2,if_pos h2]
 rw[if_neg h2,if_neg h2];by_cases h3:j≤s.2.1 / c.2.1.2.2
 ·rw[if_pos h3,if_pos h3]
 rw[if_neg h3,if_neg h3,n2f n c h hw hn];simp only[obs,m0x (n+14) (p0a _ _ _) (now2_w c s)];by_cases h4:(now2 c s).2=0
 ·rw[if_pos h4,if_neg (nn h4)]
 ·rw[if_neg h4,if_pos h4];rfl
theorem h2g (n:Nat) (c:Conf) {s:Ser} (hw:SerW s) (i j:Int):g0s (n+10) c s 2 i j=some (d0l (SerOk c s) i j s.2.1 c.2.1.2.2 s.2.2.2.1.2.2 (now2 c s)):=by
 rw[j1r,q0b (n+1) c hw];unfold d0l;by_cases h:SerOk c s
 case neg=>rw[if_neg h,if_neg h];rfl
 rw[if_pos h,if_pos h];simp only[obs,decide_true,Bool.not_true,tff,tfd,tfn];by_cases h1:i<0
 ·rw[if_pos h1,if_pos h1];rfl
 rw[if_neg h1,if_neg h1];by_cases h2:j<i
 ·rw[if_pos h2,if_pos h2];rfl
 rw[if_neg h2,if_neg h2];by_cases hn:s.2.1 = -1
 ·rw[if_pos hn,if_pos hn];rfl
 have hr:=h.fold.cok.rng;have ht:=i0f h hn;have hq:0≤s.2.1 / c.2.1.2.2:=Int.ediv_nonneg ht.1 (by have:=hr.w2.1;omega);rw[if_neg hn,if_neg hn,if_neg (nz hr.w2.1),j0p ht hr.w2.1,z0k (n+2) h.fold.t2,f1n h.fold.t2 (p0w h hn).1.b2 (show 0≤i by omega) (show i≤j by omega)];simp only[obs,e0p h.fold.t2 (show 0≤i by omega) (show i≤j by omega),if_true];by_cases h3:s.2.1 / c.2.1.2.2<i
 ·rw[if_pos h3,if_pos h3]
 rw[if_neg h3,if_neg h3];by_cases h4:j≤s.2.1 / c.2.1.2.2
 ·rw[if_pos h4,if_pos h4]
 rw[if_neg h4,if_neg h4,one2 n c h hw hn _ hq,if_neg (Int.lt_irrefl _),if_neg (Int.lt_irrefl _)];simp only[obs,q0g (n+4) (p0a _ _ _) (now2_w c s)];by_cases h4:(now2 c s).2=0
 ·rw[if_pos h4,if_neg (nn h4)]
 ·rw[if_neg h4,if_pos h4];rfl
theorem q1m (n:Nat) (c:Conf) {s:Ser} (hw:SerW s) (i j:Int):d0g (n+22) c s 2 i j=some (d0l (SerOk c s) i j s.2.1 c.2.1.2.2 s.2.2.2.1.2.2 (now2 c s)):=by
 rw[n0s,j0j (n+11) c hw];by_cases h:SerOk c s
 case neg=>unfold d0l;rw[if_neg h,if_neg h];rfl
 rw[if_pos h];simp only[obs,b1y,decide_true,Bool.not_true,tff,tfd,if_neg (show ¬((2:Int)<0) by omega),if_neg (show ¬((3:Int)≤2) by omega)];by_cases h1:i<0
 ·unfold d0l;rw[if_pos h1,if_pos h,if_pos h1];rfl
 by_cases h2:j<i
 ·unfold d0l;rw[if_neg h1,if_pos h2,if_pos h,if_neg h1,if_pos h2];rfl
 rw[if_neg h1,if_neg h2,i2q n c h hw h1 h2];rfl
theorem g2h (n f:Nat) (s:Trs):e0x n (f+1) (s,(3:Int),())=some (.inl ()):=by
 rw[j0s,show (decide ((3:Int)<3))=false from rfl,tff]
theorem g2i (n f:Nat) (s:Trs):e0x n (f+2) (s,(2:Int),())=some (if (40:Int)<s.2.2.length then .inr 0 else .inl ()):=by
 rw[j0s,show (decide ((2:Int)<3))=true from rfl,tft,show (decide ((2:Int)=0))=false from rfl,tff,show (decide ((2:Int)=1))=false from rfl,tff,show (decide ((2:Int)=2))=true from rfl,tft];rw[show IntKind.wrap .i64 ((2:Int)+1)=3 from rfl,g2h];simp only[tfd];split<;>rfl
theorem g2j (n f:Nat) (s:Trs):e0x n (f+3) (s,(1:Int),())=some (if (40:Int)<s.2.1.length∨(40:Int)<s.2.2.length then .inr 0 else .inl ()):=by
 rw[j0s,show (decide ((1:Int)<3))=true from rfl,tft,show (decide ((1:Int)=0))=false from rfl,tff,show (decide ((1:Int)=1))=true from rfl,tft];rw[show IntKind.wrap .i64 ((1:Int)+1)=2 from rfl,g2i];simp only[tfd];by_cases h:(40:Int)<s.2.1.length
 ·rw[if_pos h,if_pos (.inl h)]
 ·rw[if_neg h];by_cases h':(40:Int)<s.2.2.length
  ·rw[if_pos h',if_pos (.inr h')]
  ·rw[if_neg h',if_neg (fun k=>k.elim h h')]
theorem g2k (n f:Nat) (s:Trs):e0x n (f+4) (s,(0:Int),())=some (if (40:Int)<s.1.length∨(40:Int)<s.2.1.length∨(40:Int)<s.2.2.length then .inr 0 else .inl ()):=by
 rw[j0s,show (decide ((0:Int)<3))=true from rfl,tft,show (decide ((0:Int)=0))=true from rfl,tft];rw[show IntKind.wrap .i64 ((0:Int)+1)=1 from rfl,g2j];simp only[tfd];by_cases h:(40:Int)<s.1.length
 ·rw[if_pos h,if_pos (.inl h)]
 ·rw[if_neg h];by_cases h':(40:Int)<s.2.1.length∨(40:Int)<s.2.2.length
  ·rw[if_pos h',if_pos (.inr h')]
  ·rw[if_neg h',if_neg (fun k=>k.elim h h')]
def c1u (s:Trs):Prop:=s.1.length≤40∧s.2.1.length≤40∧s.2.2.length≤40
instance (s:Trs):Decidable (c1u s):=by unfold c1u;infer_instance
theorem m2y (n:Nat) (s:Trs):i1o (n+1) s=some (if c1u s then 1 else 0):=by
 rw[x1u,show a0d=(2^70-4)+4 from by decide,g2k];by_cases h:c1u s
 ·rw[if_pos h,if_neg (by unfold c1u at h;omega)];rfl
 ·rw[if_neg h,if_pos (by unfold c1u at h;omega)];rfl
theorem r05_same_l (n:Nat) (l:List Lab) (hL:l.length≤1000000):∀(rest pre:List Lab) (f:Nat) (ix len:Int),l=pre++rest→ix=pre.length→len=l.length→rest.length<f→n0y n f (l,l,len,ix,())=some (.inl ()):=by
 intro rest;induction rest with
 | nil =>
  intro pre f ix len hl hi hn hf;obtain ⟨f,rfl⟩:∃g,f=g+1:=⟨f-1,by simp at hf;omega⟩;rw[k0q];simp only[tfd,if_neg (idxe hl hi hn)]
 | cons x rest ih =>
  intro pre f ix len hl hi hn hf;obtain ⟨f,rfl⟩:∃g,f=g+1:=⟨f-1,by simp at hf;omega⟩;rw[k0q];simp only[tfd,if_pos (idx hl hi hn),b0g hl hi,obs,labEq,decide_true,Bool.not_true,tff,idxw hl hi (by omega)];exact ih (pre++[x]) f (ix+1) len (idxl hl) (idxs hi) hn (by simp at hf;omega)
structure SerL (s:Ser):Prop where
 l:s.1.length≤1000000
 r:s.2.2.1.2.2.length≤1000000
 a:s.2.2.2.1.1.length≤1000000
 b:s.2.2.2.1.2.1.length≤1000000
 d:s.2.2.2.1.2.2.length≤1000000
theorem v1i (n:Nat) (c:Conf) {s:Ser} (hw:SerW s):t0c (n+11) c s=some (if SerOk c s then 0 else 2):=by
 rw[f1v,j0j n c hw];by_cases h:SerOk c s
 ·rw[if_pos h,if_pos h];rfl
 ·rw[if_neg h,if_neg h];rfl
theorem k2p (n:Nat) (l:List Lab) (hL:l.length≤9223372036854775807):∀(rest pre:List Lab) (f:Nat) (ix len:Int),l=pre++rest→ix=pre.length→len=l.length→rest.length<f →
  l0i n f (l,len,ix,())=some (.inl ())∨l0i n f (l,len,ix,())=some (.inr 0):=by
 intro rest;induction rest with
 | nil =>
  intro pre f ix len hl hi hn hf;obtain ⟨f,rfl⟩:∃g,f=g+1:=⟨f-1,by simp at hf;omega⟩;left;rw[u0q];simp only[tfd,if_neg (idxe hl hi hn)]
 | cons x rest ih =>
  intro pre f ix len hl hi hn hf;obtain ⟨f,rfl⟩:∃g,f=g+1:=⟨f-1,by simp at hf;omega⟩;have hlen:=congrArg List.length hl;simp at hlen;rw[u0q];simp only[tfd,if_pos (idx hl hi hn),b0g hl hi,obs];rw[w64 (x:=ix+1) (by omega) (by omega)];by_cases h1:ix=40
  ·right;rw[if_pos h1]
  rw[if_neg h1];by_cases h2:(1000:Int)<x.1.length
  ·right;rw[if_pos h2]
  rw[if_neg h2];by_cases h3:(1000:Int)<x.2.length
  ·right;rw[if_pos h3]
  rw[if_neg h3];exact ih (pre++[x]) f (ix+1) len (idxl hl) (idxs hi) hn (by simp at hf;omega)
theorem n2b (n:Nat) (l:List Lab) (hL:l.length≤9223372036854775807):a1u (n+1) l=some 0∨a1u (n+1) l=some 1:=by
 rw[x1w];rcases k2p n l hL l [] a0d 0 _ rfl rfl rfl (by unfold a0d;omega) with h | h
 ·right;rw[h];rfl
 ·left;rw[h];rfl
theorem m2x (n:Nat) (s:Ser) (hL:s.1.length≤9223372036854775807):a1s (n+2) s=some 0∨a1s (n+2) s=some 1:=by
 rw[x1t];rcases n2b n s.1 hL with h | h
 ·left;rw[h];rfl
 ·rw[h];simp only[obs,tfd,if_neg (show ¬((1:Int)=0) by omega)];by_cases h1:(60:Int)<s.2.2.1.2.2.length
  ·left;rw[if_pos h1]
  rw[if_neg h1,m2y];simp only[obs];split
  ·right;rfl
  ·left;rfl
theorem ser_wf {s:Ser} (h:Wf a0w s):SerW s:=by
 obtain ⟨h1,h2,h3,h4,h5⟩:=h;refine ⟨h2,?_,trs_wf h4,slo_wf h5⟩;intro e he;exact ev_wf (h3.2.2.2 e he)
theorem x0u (n:Nat) (a b:List Lab) (hL:a.length≤9223372036854775807):∀(ra rb pa pb:List Lab) (f:Nat) (ix len:Int),a=pa++ra→b=pb++rb→pa.length=pb.length→ra.length=rb.length→ix=pa.length→len=a.length→ra.length<f →
  h0b n f (a,b,len,ix,())=some (if ra=rb then .inl () else .inr false):=by
 intro ra;induction ra with
 | nil =>
  intro rb pa pb f ix len ha hb hp hr hi hn hf;obtain ⟨f,rfl⟩:∃g,f=g+1:=⟨f-1,by simp at hf;omega⟩;have e:rb=[]:=List.length_eq_zero_iff.1 (by simpa using hr.symm);subst e;rw[l0y,decide_eq_false (idxe ha hi hn),tff,if_pos rfl]
 | cons x ra ih =>
  intro rb pa pb f ix len ha hb hp hr hi hn hf;obtain ⟨f,rfl⟩:∃g,f=g+1:=⟨f-1,by simp at hf;omega⟩;cases rb with
  | nil=>simp at hr
  | cons y rb =>
   have hlen:=congrArg List.length ha;simp at hlen;rw[l0y,decide_eq_true (idx ha hi hn),tft,b0g ha hi,b0g hb (by omega)];simp only[obs,labEq];rw[w64 (x:=ix+1) (by omega) (by omega)];by_cases h:x=y
   ·subst h;simp only[decide_true,Bool.not_true,tff];rw[ih rb (pa++[x]) (pb++[x]) f (ix+1) len (idxl ha) (idxl hb) (by simp;omega) (by simpa using hr) (idxs hi) hn (by simp at hf;omega)];simp
   ·rw[if_neg (by simp[h])];simp only[decide_eq_false h,Bool.not_false,tft]
theorem q0v (n:Nat) (a b:List Lab) (hL:a.length≤9223372036854775807):p0f (n+1) a b=some (decide (a=b)):=by
 rw[b1j];by_cases h:a.length=b.length
 ·rw[decide_eq_true (show ((a.length:Nat):Int)=(b.length:Nat) by omega)];simp only[Bool.not_true,tff];rw[x0u n a b hL a b [] [] a0d 0 _ rfl rfl rfl h rfl rfl (by unfold a0d;omega)];by_cases h':a=b
  ·rw[if_pos h',decide_eq_true h'];rfl
  ·rw[if_neg h',decide_eq_false h'];rfl
 ·rw[decide_eq_false (show ¬((a.length:Nat):Int)=(b.length:Nat) by omega),decide_eq_false (fun k:a=b=>h (by rw[k]))];rfl
theorem x0v (n:Nat) (a b:List Ev) (hL:a.length≤9223372036854775807):∀(ra rb pa pb:List Ev) (f:Nat) (ix len:Int),a=pa++ra→b=pb++rb→pa.length=pb.length→ra.length=rb.length→ix=pa.length→len=a.length→ra.length<f →
  h0d n f (a,b,len,ix,())=some (if ra=rb then .inl () else .inr false):=by
 intro ra;induction ra with
 | nil =>
  intro rb pa pb f ix len ha hb hp hr hi hn hf;obtain ⟨f,rfl⟩:∃g,f=g+1:=⟨f-1,by simp at hf;omega⟩;have e:rb=[]:=List.length_eq_zero_iff.1 (by simpa using hr.symm);subst e;rw[l0z,decide_eq_false (idxe ha hi hn),tff,if_pos rfl]
 | cons x ra ih =>
  intro rb pa pb f ix len ha hb hp hr hi hn hf;obtain ⟨f,rfl⟩:∃g,f=g+1:=⟨f-1,by simp at hf;omega⟩;cases rb with
  | nil=>simp at hr
  | cons y rb =>
   have hlen:=congrArg List.length ha;simp at hlen;rw[l0z,decide_eq_true (idx ha hi hn),tft,b0g ha hi,b0g hb (by omega)];simp only[obs,evEq];rw[w64 (x:=ix+1) (by omega) (by omega)];by_cases h:x=y
   ·subst h;simp only[decide_true,Bool.not_true,tff];rw[ih rb (pa++[x]) (pb++[x]) f (ix+1) len (idxl ha) (idxl hb) (by simp;omega) (by simpa using hr) (idxs hi) hn (by simp at hf;omega)];simp
   ·rw[if_neg (by simp[h])];simp only[decide_eq_false h,Bool.not_false,tft]
theorem c1k (n:Nat) (a b:List Ev) (hL:a.length≤9223372036854775807):p0g (n+1) a b=some (decide (a=b)):=by
 rw[b1k];by_cases h:a.length=b.length
 ·rw[decide_eq_true (show ((a.length:Nat):Int)=(b.length:Nat) by omega)];simp only[Bool.not_true,tff];rw[x0v n a b hL a b [] [] a0d 0 _ rfl rfl rfl h rfl rfl (by unfold a0d;omega)];by_cases h':a=b
  ·rw[if_pos h',decide_eq_true h'];rfl
  ·rw[if_neg h',decide_eq_false h'];rfl
 ·rw[decide_eq_false (show ¬((a.length:Nat):Int)=(b.length:Nat) by omega),decide_eq_false (fun k:a=b=>h (by rw[k]))];rfl
theorem a1x (n:Nat) (a b:List Slo) (hL:a.length≤9223372036854775807):∀(ra rb pa pb:List Slo) (f:Nat) (ix len:Int),a=pa++ra→b=pb++rb→pa.length=pb.length→ra.length=rb.length→ix=pa.length→len=a.length→ra.length<f →
  i0e n f (a,b,len,ix,())=some (if ra=rb then .inl () else .inr false):=by
 intro ra;induction ra with
 | nil =>
  intro rb pa pb f ix len ha hb hp hr hi hn hf;obtain ⟨f,rfl⟩:∃g,f=g+1:=⟨f-1,by simp at hf;omega⟩;have e:rb=[]:=List.length_eq_zero_iff.1 (by simpa using hr.symm);subst e;rw[n0p,decide_eq_false (idxe ha hi hn),tff,if_pos rfl]
 | cons x ra ih =>
  intro rb pa pb f ix len ha hb hp hr hi hn hf;obtain ⟨f,rfl⟩:∃g,f=g+1:=⟨f-1,by simp at hf;omega⟩;cases rb with
  | nil=>simp at hr
  | cons y rb =>
   have hlen:=congrArg List.length ha;simp at hlen;rw[n0p,decide_eq_true (idx ha hi hn),tft,b0g ha hi,b0g hb (by omega)];simp only[obs,k2q];rw[w64 (x:=ix+1) (by omega) (by omega)];by_cases h:x=y
   ·subst h;simp only[decide_true,Bool.not_true,tff];rw[ih rb (pa++[x]) (pb++[x]) f (ix+1) len (idxl ha) (idxl hb) (by simp;omega) (by simpa using hr) (idxs hi) hn (by simp at hf;omega)];simp
   ·rw[if_neg (by simp[h])];simp only[decide_eq_false h,Bool.not_false,tft]
theorem l0p (n:Nat) (a b:List Slo) (hL:a.length≤9223372036854775807):j0h (n+1) a b=some (decide (a=b)):=by
 rw[d1z];by_cases h:a.length=b.length
 ·rw[decide_eq_true (show ((a.length:Nat):Int)=(b.length:Nat) by omega)];simp only[Bool.not_true,tff];rw[a1x n a b hL a b [] [] a0d 0 _ rfl rfl rfl h rfl rfl (by unfold a0d;omega)];by_cases h':a=b
  ·rw[if_pos h',decide_eq_true h'];rfl
  ·rw[if_neg h',decide_eq_false h'];rfl
 ·rw[decide_eq_false (show ¬((a.length:Nat):Int)=(b.length:Nat) by omega),decide_eq_false (fun k:a=b=>h (by rw[k]))];rfl
theorem t1h (n:Nat) (a b:List Lab) (hL:a.length≤9223372036854775807):∀(ra rb pa pb:List Lab) (f:Nat) (ix len:Int),a=pa++ra→b=pb++rb→pa.length=pb.length→ra.length=rb.length→ix=pa.length→len=a.length→ra.length<f →
  n0y n f (a,b,len,ix,())=some (if ra=rb then .inl () else .inr false):=by
 intro ra;induction ra with
 | nil =>
  intro rb pa pb f ix len ha hb hp hr hi hn hf;obtain ⟨f,rfl⟩:∃g,f=g+1:=⟨f-1,by simp at hf;omega⟩;have e:rb=[]:=List.length_eq_zero_iff.1 (by simpa using hr.symm);subst e;rw[k0q,decide_eq_false (idxe ha hi hn),tff,if_pos rfl]
 | cons x ra ih =>
  intro rb pa pb f ix len ha hb hp hr hi hn hf;obtain ⟨f,rfl⟩:∃g,f=g+1:=⟨f-1,by simp at hf;omega⟩;cases rb with
  | nil=>simp at hr
  | cons y rb =>
   have hlen:=congrArg List.length ha;simp at hlen;rw[k0q,decide_eq_true (idx ha hi hn),tft,b0g ha hi,b0g hb (by omega)];simp only[obs,labEq];rw[w64 (x:=ix+1) (by omega) (by omega)];by_cases h:x=y
   ·subst h;simp only[decide_true,Bool.not_true,tff];rw[ih rb (pa++[x]) (pb++[x]) f (ix+1) len (idxl ha) (idxl hb) (by simp;omega) (by simpa using hr) (idxs hi) hn (by simp at hf;omega)];simp
   ·rw[if_neg (by simp[h])];simp only[decide_eq_false h,Bool.not_false,tft]
theorem x0x (n:Nat) (a b:List Lab) (hL:a.length≤9223372036854775807):z0t (n+1) a b=some (decide (a=b)):=by
 rw[b2u];by_cases h:a.length=b.length
 ·rw[decide_eq_true (show ((a.length:Nat):Int)=(b.length:Nat) by omega)];simp only[Bool.not_true,tff];rw[t1h n a b hL a b [] [] a0d 0 _ rfl rfl rfl h rfl rfl (by unfold a0d;omega)];by_cases h':a=b
  ·rw[if_pos h',decide_eq_true h'];rfl
  ·rw[if_neg h',decide_eq_false h'];rfl
 ·rw[decide_eq_false (show ¬((a.length:Nat):Int)=(b.length:Nat) by omega),decide_eq_false (fun k:a=b=>h (by rw[k]))];rfl
theorem c1l (n:Nat) (a b:List Ev) (hL:a.length≤9223372036854775807):∀(ra rb pa pb:List Ev) (f:Nat) (ix len:Int),a=pa++ra→b=pb++rb→pa.length=pb.length→ra.length=rb.length→ix=pa.length→len=a.length→ra.length<f →
  j0l n f (a,b,len,ix,())=some (if ra=rb then .inl () else .inr false):=by
 intro ra;induction ra with
 | nil =>
  intro rb pa pb f ix len ha hb hp hr hi hn hf;obtain ⟨f,rfl⟩:∃g,f=g+1:=⟨f-1,by simp at hf;omega⟩;have e:rb=[]:=List.length_eq_zero_iff.1 (by simpa using hr.symm);subst e;rw[o0o,decide_eq_false (idxe ha hi hn),tff,if_pos rfl]
 | cons x ra ih =>
  intro rb pa pb f ix len ha hb hp hr hi hn hf;obtain ⟨f,rfl⟩:∃g,f=g+1:=⟨f-1,by simp at hf;omega⟩;cases rb with
  | nil=>simp at hr
  | cons y rb =>
   have hlen:=congrArg List.length ha;simp at hlen;rw[o0o,decide_eq_true (idx ha hi hn),tft,b0g ha hi,b0g hb (by omega)];simp only[obs,evEq];rw[w64 (x:=ix+1) (by omega) (by omega)];by_cases h:x=y
   ·subst h;simp only[decide_true,Bool.not_true,tff];rw[ih rb (pa++[x]) (pb++[x]) f (ix+1) len (idxl ha) (idxl hb) (by simp;omega) (by simpa using hr) (idxs hi) hn (by simp at hf;omega)];simp
   ·rw[if_neg (by simp[h])];simp only[decide_eq_false h,Bool.not_false,tft]
theorem i1t (n:Nat) (a b:List Ev) (hL:a.length≤9223372036854775807):t0q (n+1) a b=some (decide (a=b)):=by
 rw[g1g];by_cases h:a.length=b.length
 ·rw[decide_eq_true (show ((a.length:Nat):Int)=(b.length:Nat) by omega)];simp only[Bool.not_true,tff];rw[c1l n a b hL a b [] [] a0d 0 _ rfl rfl rfl h rfl rfl (by unfold a0d;omega)];by_cases h':a=b
  ·rw[if_pos h',decide_eq_true h'];rfl
  ·rw[if_neg h',decide_eq_false h'];rfl
 ·rw[decide_eq_false (show ¬((a.length:Nat):Int)=(b.length:Nat) by omega),decide_eq_false (fun k:a=b=>h (by rw[k]))];rfl
theorem t1g (n:Nat) (a b:List Slo) (hL:a.length≤9223372036854775807):∀(ra rb pa pb:List Slo) (f:Nat) (ix len:Int),a=pa++ra→b=pb++rb→pa.length=pb.length→ra.length=rb.length→ix=pa.length→len=a.length→ra.length<f →
  r0s n f (a,b,len,ix,())=some (if ra=rb then .inl () else .inr false):=by
 intro ra;induction ra with
 | nil =>
  intro rb pa pb f ix len ha hb hp hr hi hn hf;obtain ⟨f,rfl⟩:∃g,f=g+1:=⟨f-1,by simp at hf;omega⟩;have e:rb=[]:=List.length_eq_zero_iff.1 (by simpa using hr.symm);subst e;rw[w0p,decide_eq_false (idxe ha hi hn),tff,if_pos rfl]
 | cons x ra ih =>
  intro rb pa pb f ix len ha hb hp hr hi hn hf;obtain ⟨f,rfl⟩:∃g,f=g+1:=⟨f-1,by simp at hf;omega⟩;cases rb with
  | nil=>simp at hr
  | cons y rb =>
   have hlen:=congrArg List.length ha;simp at hlen;rw[w0p,decide_eq_true (idx ha hi hn),tft,b0g ha hi,b0g hb (by omega)];simp only[obs,k2q];rw[w64 (x:=ix+1) (by omega) (by omega)];by_cases h:x=y
   ·subst h;simp only[decide_true,Bool.not_true,tff];rw[ih rb (pa++[x]) (pb++[x]) f (ix+1) len (idxl ha) (idxl hb) (by simp;omega) (by simpa using hr) (idxs hi) hn (by simp at hf;omega)];simp
   ·rw[if_neg (by simp[h])];simp only[decide_eq_false h,Bool.not_false,tft]
theorem x0w (n:Nat) (a b:List Slo) (hL:a.length≤9223372036854775807):z0l (n+1) a b=some (decide (a=b)):=by
 rw[b2a];by_cases h:a.length=b.length
 ·rw[decide_eq_true (show ((a.length:Nat):Int)=(b.length:Nat) by omega)];simp only[Bool.not_true,tff];rw[t1g n a b hL a b [] [] a0d 0 _ rfl rfl rfl h rfl rfl (by unfold a0d;omega)];by_cases h':a=b
  ·rw[if_pos h',decide_eq_true h'];rfl
  ·rw[if_neg h',decide_eq_false h'];rfl
 ·rw[decide_eq_false (show ¬((a.length:Nat):Int)=(b.length:Nat) by omega),decide_eq_false (fun k:a=b=>h (by rw[k]))];rfl
noncomputable instance decSer (a b:Ser):Decidable (a=b):=Classical.propDecidable _
structure SerM (s:Ser):Prop where
 l:s.1.length≤9223372036854775807
 r:s.2.2.1.2.2.length≤9223372036854775807
 a:s.2.2.2.1.1.length≤9223372036854775807
 b:s.2.2.2.1.2.1.length≤9223372036854775807
 d:s.2.2.2.1.2.2.length≤9223372036854775807
theorem a2b (n:Nat) (a b:Ser) (h:SerM a):n0r (n+3) a b=some (decide (a=b)):=by
 rw[j1n,a1q,a2h,q0v n _ _ h.l,c1k n _ _ h.r,l0p (n+1) _ _ h.a,l0p (n+1) _ _ h.b,l0p (n+1) _ _ h.d];obtain ⟨a1,a2,⟨r1,r2,r3⟩,⟨t1,t2,t3⟩,a5⟩:=a;obtain ⟨b1,b2,⟨q1,q2,q3⟩,⟨u1,u2,u3⟩,b5⟩:=b;simp only[obs,k2q,tfd];by_cases h1:a1=b1
 case neg=>simp[h1]
 by_cases h2:a2=b2
 case neg=>simp[h1,h2]
 by_cases h3:r1=q1
 case neg=>simp[h1,h2,h3]
 by_cases h4:r2=q2
 case neg=>simp[h1,h2,h3,h4]
 by_cases h5:r3=q3
 case neg=>simp[h1,h2,h3,h4,h5]
 by_cases h6:t1=u1
 case neg=>simp[h1,h2,h3,h4,h5,h6]
 by_cases h7:t2=u2
 case neg=>simp[h1,h2,h3,h4,h5,h6,h7]
 by_cases h8:t3=u3
 case neg=>simp[h1,h2,h3,h4,h5,h6,h7,h8]
 by_cases h9:a5=b5
 case neg=>simp[h1,h2,h3,h4,h5,h6,h7,h8,h9]
 simp[h1,h2,h3,h4,h5,h6,h7,h8,h9]
theorem r15_same (n:Nat) (a b:Ser) (h:SerM a):z0j (n+3) a b=some (decide (a=b)):=by
 rw[a2w,b2e,a2y,x0x (n+1) _ _ h.l,i1t n _ _ h.r,x0w n _ _ h.a,x0w n _ _ h.b,x0w n _ _ h.d];obtain ⟨a1,a2,⟨r1,r2,r3⟩,⟨t1,t2,t3⟩,a5⟩:=a;obtain ⟨b1,b2,⟨q1,q2,q3⟩,⟨u1,u2,u3⟩,b5⟩:=b;simp only[obs,k2q,tfd,tfn];by_cases h1:a1=b1
 case neg=>simp[h1]
 by_cases h2:a2=b2
 case neg=>simp[h1,h2]
 by_cases h3:r1=q1
 case neg=>simp[h1,h2,h3]
 by_cases h4:r2=q2
 case neg=>simp[h1,h2,h3,h4]
 by_cases h5:r3=q3
 case neg=>simp[h1,h2,h3,h4,h5]
 by_cases h6:t1=u1
 case neg=>simp[h1,h2,h3,h4,h5,h6]
 by_cases h7:t2=u2
 case neg=>simp[h1,h2,h3,h4,h5,h6,h7]
 by_cases h8:t3=u3
 case neg=>simp[h1,h2,h3,h4,h5,h6,h7,h8]
 by_cases h9:a5=b5
 case neg=>simp[h1,h2,h3,h4,h5,h6,h7,h8,h9]
 simp[h1,h2,h3,h4,h5,h6,h7,h8,h9]
def oldV (now w m:Int):Int×Int:=if OfP now w∧1≤m∧m≤4096 then (if 0<now / w+1-m then now / w+1-m else 0,0) else (0,1)
theorem u1i (n:Nat) (now w m:Int):f0s (n+4) now w m=some (oldV now w m):=by
 rw[u1l,wi_of n now w,u1j];unfold oldV;by_cases h:OfP now w
 case neg=>rw[if_neg h,if_neg (fun k=>h k.1)];rfl
 rw[if_pos h];have hq:=z0x h;simp only[obs,decide_true,Bool.not_true,tff];by_cases h1:1≤m
 case neg=>simp[h,h1]
 by_cases h2:m≤4096
 case neg=>simp[h,h1,h2]
 rw[w64 (x:=now / w+1) (by omega) (by omega),w64 (x:=now / w+1-m) (by omega) (by omega)];simp[h,h1,h2]
theorem o1s (n:Nat) (now w m:Int):e0r (n+3) now w m=some (oldV now w m):=by
 rw[r1l,w1f n now w];unfold oldV;by_cases h:OfP now w
 case neg=>rw[if_neg h,if_neg (fun k=>h k.1)];rfl
 rw[if_pos h];have hq:=z0x h;simp only[obs,decide_true,Bool.not_true,tff,tfd];by_cases h1:m<1
 ·rw[if_pos h1,if_neg (by omega)]
 rw[if_neg h1];by_cases h2:4096<m
 ·rw[if_pos h2,if_neg (by omega)]
 rw[if_neg h2,w64 (x:=now / w-m) (by omega) (by omega),w64 (x:=now / w-m+1) (by omega) (by omega),if_pos (show OfP now w∧1≤m∧m≤4096 from ⟨h,by omega,by omega⟩)];have e:(if now / w-m+1<0 then (0:Int) else now / w-m+1)=if 0<now / w+1-m then now / w+1-m else 0:=by
  split<;>split<;>omega
 rw[e]
noncomputable def c1h (t now w m:Int):Bool:=decide (OfP t w∧(oldV now w m).2=0∧t / w<(oldV now w m).1)
theorem z1f (n:Nat) (t now w m:Int):f1g (n+5) t now w m=some (c1h t now w m):=by
 rw[f2y,wi_of (n+1) t w,u1i n now w m];unfold c1h;simp only[obs,tfd];by_cases h:OfP t w
 case neg=>rw[if_neg h,if_neg (by simp),decide_eq_false (fun k=>h k.1)]
 rw[if_pos h,if_pos rfl];by_cases h1:(oldV now w m).2=0
 ·rw[if_pos h1];exact congrArg some (decide_eq_decide.2 ⟨fun k=>⟨h,h1,k⟩,fun k=>k.2.2⟩)
 ·rw[if_neg h1,decide_eq_false (fun k=>h1 k.2.1)]
theorem r1k (n:Nat) (t now w m:Int):z0q (n+4) t now w m=some (c1h t now w m):=by
 rw[b2k,w1f (n+1) t w,o1s n now w m];unfold c1h;simp only[obs,tfd];by_cases h:OfP t w
 case neg=>rw[if_neg h,if_neg (by simp),decide_eq_false (fun k=>h k.1)]
 rw[if_pos h,if_pos rfl];by_cases h1:(oldV now w m).2=0
 ·rw[if_pos h1];exact congrArg some (decide_eq_decide.2 ⟨fun k=>⟨h,h1,k⟩,fun k=>k.2.2⟩)
 ·rw[if_neg h1,decide_eq_false (fun k=>h1 k.2.1)]
noncomputable def d2b (c:Conf) (last now:Int):Bool :=
 decide (OkC c)&&(c1h last now c.2.1.1 c.2.2.1.1&&(c1h last now c.2.1.2.1 c.2.2.1.2.1&&c1h last now c.2.1.2.2 c.2.2.1.2.2))
theorem a2c (n:Nat) (c:Conf) (last now:Int):x0f (n+6) c last now=some (d2b c last now):=by
 rw[j1o,c1m (n+2) c,z1f n,z1f n,z1f n];unfold d2b;by_cases h:OkC c
 case neg=>rw[if_neg h,decide_eq_false h];rfl
 rw[if_pos h,decide_eq_true h];simp only[obs,decide_true,tft,Bool.true_and];cases c1h last now c.2.1.1 c.2.2.1.1<;>cases c1h last now c.2.1.2.1 c.2.2.1.2.1<;>cases c1h last now c.2.1.2.2 c.2.2.1.2.2<;>rfl
theorem r15_dead (n:Nat) (c:Conf) (last now:Int):r1g (n+5) c last now=some (d2b c last now):=by
 rw[a2x,q0e (n+1) c,r1k n,r1k n,r1k n];unfold d2b;by_cases h:OkC c
 case neg=>rw[if_neg h,decide_eq_false h];rfl
 rw[if_pos h,decide_eq_true h];simp only[obs,decide_true,Bool.not_true,tff,Bool.true_and];cases c1h last now c.2.1.1 c.2.2.1.1<;>cases c1h last now c.2.1.2.1 c.2.2.1.2.1<;>cases c1h last now c.2.1.2.2 c.2.2.1.2.2<;>rfl
abbrev Sta:=Conf×(Int×(Int×List Ser))
structure StaW (s:Sta):Prop where
 len:s.2.2.2.length≤9223372036854775807
 ser:∀x∈s.2.2.2,SerW x∧SerM x
def Whole (s:Sta):Prop:=OkC s.1∧(s.2.2.2.length:Int)=s.1.2.2.2.1
noncomputable instance (s):Decidable (Whole s):=Classical.propDecidable _
def LvX (s:Sta) (x:Ser):Prop:=x≠ser0∧(s.2.2.1 = -1∨d2b s.1 x.2.1 s.2.2.1=false)
noncomputable instance (s x):Decidable (LvX s x):=Classical.propDecidable _
def u0v (t:Int):Prop:=0≤t∧t<35184372088832
instance (t):Decidable (u0v t):=by unfold u0v;infer_instance
def Clock (s:Sta):Prop:=u0v s.2.1∧(s.2.2.1 = -1∨u0v s.2.2.1)∧s.2.2.1≤s.2.1
instance (s):Decidable (Clock s):=by unfold Clock;infer_instance
def mk (s:Sta):Int:=s.2.1 / s.1.2.1.1*s.1.2.1.1
def Twin (s:Sta) (i:Nat) (x:Ser):Prop:=LvX s x∧∃k,k<i∧∃y,s.2.2.2[k]? = some y∧LvX s y∧y.1=x.1
noncomputable instance (s i x):Decidable (Twin s i x):=Classical.propDecidable _
def j0y (s:Sta) (i:Nat) (x:Ser):Prop:=x=ser0∨(SerOk s.1 x∧0≤x.2.1∧x.2.1<mk s+s.1.2.1.1∧¬Twin s i x)
noncomputable instance (s i x):Decidable (j0y s i x):=Classical.propDecidable _
structure StaOk (s:Sta):Prop where
 whole:Whole s
 clock:Clock s
 right:∀(i:Nat) x,s.2.2.2[i]? = some x→j0y s i x
noncomputable instance (s):Decidable (StaOk s):=Classical.propDecidable _
theorem Whole.len {s:Sta} (h:Whole s):s.2.2.2.length≤65536:=by
 have:=h.1.rng.cap;have:=h.2;omega
theorem u0u {α:Type} {l:List α} {i:Nat} {x:α} (h:l[i]? = some x):at? l (i:Int)=some x:=by
 unfold at?;rw[decide_eq_true (show (0:Int)≤(i:Int) by omega),Int.toNat_natCast];exact h
theorem StaW.at {s:Sta} (h:StaW s) {i:Nat} {x:Ser} (hx:s.2.2.2[i]? = some x):SerW x∧SerM x:=h.ser x (List.mem_of_getElem? hx)
theorem d2r (n:Nat) {x:Ser} (h:SerM x):y0o (n+4) x=some (decide (x=ser0)):=by
 have:=a2b n x ser0 h;rw[u1w];have e:n0r (n+3) x ([],((0:Int),(((0:Int),((0:Int),[])),(([],([],[])),((0:Int),z0)))))=some (decide (x=ser0)):=this
 change a0b (n0r (n+3) x ([],((0:Int),(((0:Int),((0:Int),[])),(([],([],[])),((0:Int),z0)))))) _=_
 rw[e];rfl
theorem v1t (n:Nat) {x:Ser} (h:SerM x):z0i (n+4) x=some (decide (x=ser0)):=by
 have:=r15_same n x ser0 h;rw[v1u];have e:z0j (n+3) x ([],((0:Int),(((0:Int),((0:Int),[])),(([],([],[])),((0:Int),z0)))))=some (decide (x=ser0)):=this
 change a0b (z0j (n+3) x ([],((0:Int),(((0:Int),((0:Int),[])),(([],([],[])),((0:Int),z0)))))) _=_
 rw[e];rfl
theorem e1p (n:Nat) {s:Sta} {i:Nat} {x:Ser} (hx:s.2.2.2[i]? = some x) (hm:SerM x):f0y (n+7) s (i:Int)=some (decide (LvX s x)):=by
 rw[b1h,u0u hx,obs,d2r (n+2) hm,obs,tfn,tfd,a2c n];by_cases h:x=ser0
 ·rw[if_pos h,decide_eq_false (fun k:LvX s x=>k.1 h)]
 rw[if_neg h,tfd];by_cases h1:s.2.2.1 = -1
 ·rw[if_pos h1,decide_eq_true (show LvX s x from ⟨h,.inl h1⟩)]
 ·rw[if_neg h1];cases hd:d2b s.1 x.2.1 s.2.2.1
  ·rw[decide_eq_true (show LvX s x from ⟨h,.inr hd⟩)];rfl
  ·rw[decide_eq_false (fun k:LvX s x=>by rcases k.2 with k | k;exact h1 k;rw[hd] at k;cases k)];rfl
theorem m0h (n:Nat) {s:Sta} {i:Nat} {x:Ser} (hx:s.2.2.2[i]? = some x) (hm:SerM x):p0z (n+6) s (i:Int)=some (decide (LvX s x)):=by
 rw[v1s,u0u hx,obs,v1t (n+1) hm,obs,tfn,tfd,obs,r15_dead n];by_cases h:x=ser0
 ·rw[if_pos h,decide_eq_false (fun k:LvX s x=>k.1 h)]
 rw[if_neg h,tfd];by_cases h1:s.2.2.1 = -1
 ·rw[if_pos h1,decide_eq_true (show LvX s x from ⟨h,.inl h1⟩)]
 ·rw[if_neg h1];cases hd:d2b s.1 x.2.1 s.2.2.1
  ·rw[decide_eq_true (show LvX s x from ⟨h,.inr hd⟩)];rfl
  ·rw[decide_eq_false (fun k:LvX s x=>by rcases k.2 with k | k;exact h1 k;rw[hd] at k;cases k)];rfl
theorem place_l (n:Nat) (is:(Int×Unit)→Option Bool) (p:Nat→Bool) (L:Nat) (hL:L≤1000000) (his:∀k:Nat,k<L→is ((k:Int),())=some (p k)):∀(d k f:Nat),k+d=L→d<f →
  (∃m:Nat,k≤m∧m<L∧p m=true∧(∀j,k≤j→j<m→p j=false)∧c0y n f (is,(L:Int),(k:Int),())=some (.inr (m:Int))) ∨
  ((∀j,k≤j→j<L→p j=false)∧c0y n f (is,(L:Int),(k:Int),())=some (.inl ())):=by
 intro d;induction d with
 | zero =>
  intro k f hk hf;obtain ⟨f,rfl⟩:∃g,f=g+1:=⟨f-1,by omega⟩;refine .inr ⟨fun j h1 h2=>by omega,?_⟩;rw[l0v,decide_eq_false (by omega),tff]
 | succ d ih =>
  intro k f hk hf;obtain ⟨f,rfl⟩:∃g,f=g+1:=⟨f-1,by omega⟩;rw[l0v,decide_eq_true (by omega),tft,his k (by omega),obs];cases hp:p k
  ·rw[tff,w64 (by omega) (by omega),show ((k:Int)+1)=((k+1:Nat):Int) by omega];rcases ih (k+1) f (by omega) (by omega) with ⟨m,h1,h2,h3,h4,h5⟩ | ⟨h1,h2⟩
   ·exact .inl ⟨m,by omega,h2,h3,fun j q1 q2=>by
     rcases Nat.lt_or_ge k j with q | q
     ·exact h4 j (by omega) q2
     ·rw[show j=k by omega];exact hp,h5⟩
   ·exact .inr ⟨fun j q1 q2=>by
     rcases Nat.lt_or_ge k j with q | q
     ·exact h1 j (by omega) q2
     ·rw[show j=k by omega];exact hp,h2⟩
  ·rw[tft];exact .inl ⟨k,Nat.le_refl _,by omega,hp,fun j q1 q2=>by omega,rfl⟩
theorem i1q (n:Nat) (s:Sta) (is:(Int×Unit)→Option Bool) (p:Nat→Bool) (hL:s.2.2.2.length≤1000000) (his:∀k:Nat,k<s.2.2.2.length→is ((k:Int),())=some (p k)) :
  (∃m:Nat,m<s.2.2.2.length∧p m=true∧(∀j,j<m→p j=false)∧f0x (n+1) s is=some (m:Int)) ∨
  ((∀j,j<s.2.2.2.length→p j=false)∧f0x (n+1) s is=some (-1)):=by
 rw[b1g];rcases place_l n is p _ hL his s.2.2.2.length 0 a0d (by omega) (by unfold a0d;omega) with ⟨m,h1,h2,h3,h4,h5⟩ | ⟨h1,h2⟩
 ·refine .inl ⟨m,h2,h3,fun j q=>h4 j (by omega) q,?_⟩;have h5':c0y n a0d (is,(s.2.2.2.length:Int),(0:Int),())=some (.inr (m:Int)):=h5;rw[h5'];rfl
 ·refine .inr ⟨fun j q=>h1 j (by omega) q,?_⟩;have h2':c0y n a0d (is,(s.2.2.2.length:Int),(0:Int),())=some (.inl ()):=h2;rw[h2'];rfl
theorem c1e (n:Nat) (a b:List Lab) (h:a.length≤9223372036854775807):i0y (n+2) a b=some (decide (a=b)):=by
 rw[a1q,q0v n a b h];rfl
def IsTw (s:Sta) (i k:Nat) (x:Ser):Prop:=k=i∨∃y,s.2.2.2[k]? = some y∧LvX s y∧y.1=x.1
noncomputable instance (s i k x):Decidable (IsTw s i k x):=Classical.propDecidable _
theorem st_twin (n:Nat) {s:Sta} (hw:StaW s) (hL:s.2.2.2.length≤1000000) {i:Nat} {x:Ser} (hx:s.2.2.2[i]? = some x):r0h (n+9) s (i:Int)=some (decide (Twin s i x)):=by
 have hil:i<s.2.2.2.length:=(List.getElem?_eq_some_iff.1 hx).1;have hm:=(hw.at hx).2;rw[d1x];have his:∀k:Nat,k<s.2.2.2.length→(fun y0:Int×Unit=>g0p (n+8) y0.1 (i:Int) s) ((k:Int),())=some (decide (IsTw s i k x)):=by
  intro k hk;have hy:s.2.2.2[k]? = some s.2.2.2[k]:=List.getElem?_eq_getElem hk;generalize s.2.2.2[k]=y at hy;have hmy:=(hw.at hy).2;show g0p (n+8) (k:Int) (i:Int) s=_;rw[y0m,tfd,e1p n hy hmy,obs,u0u hy,obs,u0u hx,obs,c1e (n+5) _ _ hmy.l,obs,tfd];by_cases h1:k=i
  ·rw[if_pos (by rw[h1]),decide_eq_true (show IsTw s i k x from .inl h1)]
  rw[if_neg (by omega)];by_cases h2:LvX s y
  ·rw[if_pos h2];refine congrArg some (decide_eq_decide.2 ⟨fun h3 => .inr ⟨y,hy,h2,h3⟩,fun h3 => ?_⟩);rcases h3 with h3 | ⟨z,z1,z2,z3⟩
   ·exact absurd h3 h1
   ·rw[hy] at z1;cases z1;exact z3
  ·rw[if_neg h2,decide_eq_false];rintro (h3 | ⟨z,z1,z2,z3⟩)
   ·exact h1 h3
   ·rw[hy] at z1;cases z1;exact h2 z2
 rcases i1q (n+7) s (fun y0:Int×Unit=>g0p (n+8) y0.1 (i:Int) s) (fun k=>decide (IsTw s i k x)) hL his with ⟨m,h1,h2,h3,h4⟩ | ⟨h1,h2⟩
 ·rw[h4,obs,tfd,e1p (n+1) hx hm];have h2:=of_decide_eq_true h2;have hmi:m≤i:=by
   rcases Nat.lt_or_ge i m with q | q
   ·have:=of_decide_eq_false (h3 i q);exact absurd (.inl rfl) this
   ·exact q
  by_cases q:m<i
  ·rw[if_pos (by omega),obs];refine congrArg some (decide_eq_decide.2 ⟨fun k=>⟨k,m,q,?_⟩,fun k=>k.1⟩);exact h2.resolve_left (by omega)
  ·rw[if_neg (by omega),decide_eq_false];rintro ⟨k1,k,k2,k3⟩;exact of_decide_eq_false (h3 k (by omega)) (.inr k3)
 ·exact absurd (.inl rfl) (of_decide_eq_false (h1 i hil))
theorem a1n {s:Sta} (h:u0v s.2.1) (hw:1≤s.1.2.1.1∧s.1.2.1.1≤1099511627776):0≤mk s∧mk s≤s.2.1∧s.2.1<mk s+s.1.2.1.1∧s.2.1-s.2.1 % s.1.2.1.1=mk s:=by
 have e:=Int.mul_ediv_add_emod s.2.1 s.1.2.1.1;have e1:=Int.emod_nonneg s.2.1 (show s.1.2.1.1≠0 by omega);have e2:=Int.emod_lt_of_pos s.2.1 (show 0<s.1.2.1.1 by omega);rw[Int.mul_comm] at e;have e3:0≤mk s:=Int.mul_nonneg (Int.ediv_nonneg h.1 (by omega)) (by omega);unfold mk at *
 exact ⟨e3,by omega,by omega,by omega⟩
theorem st_mark (n:Nat) {s:Sta} (h:u0v s.2.1) (hw:1≤s.1.2.1.1∧s.1.2.1.1≤1099511627776):r0i (n+1) s=some (mk s):=by
 have:=a1n h hw;have:=h.1;have:=h.2;rw[d1y,tfd,if_neg (by omega),g0d h.1,w64 (by omega) (by omega),(a1n h hw).2.2.2]
theorem st_right (n:Nat) {s:Sta} (hw:StaW s) (hh:Whole s) (ht:u0v s.2.1) {i:Nat} {x:Ser} (hx:s.2.2.2[i]? = some x):p0b (n+12) s (i:Int)=some (decide (j0y s i x)):=by
 have hm:=hw.at hx;have hr:=hh.1.rng;have hL:=hh.len;have hmk:=a1n ht hr.w0;have ht1:=ht.1;have ht2:=ht.2;have hw0:=hr.w0;obtain ⟨m1,m2,m3,m4⟩:=hmk;rw[b1f,u0u hx,obs,d2r (n+7) hm.2,obs,tfd,v1i n s.1 hm.1,obs,st_mark (n+10) ht hr.w0,obs,w64 (by omega) (by omega),st_twin (n+2) hw (by omega) hx,obs];simp only[tfd];by_cases h0:x=ser0
 ·rw[if_pos h0,decide_eq_true (show j0y s i x from .inl h0)]
 rw[if_neg h0];by_cases h1:SerOk s.1 x
 case neg=>rw[if_neg h1,if_neg (by decide),decide_eq_false (fun q:j0y s i x=>by rcases q with k | k;exact h0 k;exact h1 k.1)]
 rw[if_pos h1,if_pos rfl];by_cases h2:0≤x.2.1
 case neg=>rw[if_neg h2,decide_eq_false (fun q:j0y s i x=>by rcases q with k | k;exact h0 k;exact h2 k.2.1)]
 rw[if_pos h2];by_cases h3:x.2.1<mk s+s.1.2.1.1
 case neg=>rw[if_neg h3,decide_eq_false (fun q:j0y s i x=>by rcases q with k | k;exact h0 k;exact h3 k.2.2.1)]
 rw[if_pos h3];by_cases h4:Twin s i x
 ·rw[decide_eq_true h4,decide_eq_false (fun q:j0y s i x=>by rcases q with k | k;exact h0 k;exact k.2.2.2 h4)];rfl
 ·rw[decide_eq_false h4,decide_eq_true (show j0y s i x from .inr ⟨h1,h2,h3,h4⟩)];rfl
def sta0:Sta:=(((0:Int),(((0:Int),((0:Int),(0:Int))),(((0:Int),((0:Int),(0:Int))),((0:Int),(0:Int))))),((0:Int),((0:Int),[])))
theorem z1u (n:Nat) (s:Sta):y0n (n+4) s=some (if Whole s then (s,0) else (sta0,2)):=by
 rw[z1r,c1m n s.1,obs,tfn,tfd,tfn,tfd];by_cases h:OkC s.1
 case neg=>rw[if_neg h,if_neg (show ¬((2:Int)=0) by decide),if_neg (fun k:Whole s=>h k.1)];rfl
 rw[if_pos h,if_pos rfl];by_cases h1:(s.2.2.2.length:Int)=s.1.2.2.2.1
 ·rw[if_pos h1,if_pos (show Whole s from ⟨h,h1⟩)]
 ·rw[if_neg h1,if_neg (fun k:Whole s=>h1 k.2)];rfl
theorem k2m (n:Nat) (t:Int):e1m (n+1) t=some (decide (u0v t)):=by
 rw[z1q,tfd];by_cases h:0≤t
 ·rw[if_pos h];exact congrArg some (decide_eq_decide.2 ⟨fun k=>⟨h,k⟩,fun k=>k.2⟩)
 ·rw[if_neg h,decide_eq_false (fun k:u0v t=>h k.1)]
theorem t0m (n:Nat) (t:Int):z0f (n+1) t=some (decide (u0v t)):=by
 rw[a2q,tfd];by_cases h:0≤t
 ·rw[if_pos h];exact congrArg some (decide_eq_decide.2 ⟨fun k=>⟨h,k⟩,fun k=>k.2⟩)
 ·rw[if_neg h,decide_eq_false (fun k:u0v t=>h k.1)]
theorem st_clock (n:Nat) (s:Sta):p0c (n+2) s=some (decide (Clock s)):=by
 rw[b1i,k2m n,k2m n,obs,obs];simp only[tfd];by_cases h:u0v s.2.1
 case neg=>rw[if_neg h,decide_eq_false (fun k:Clock s=>h k.1)]
 rw[if_pos h];by_cases h1:s.2.2.1 = -1
 ·rw[if_pos h1];exact congrArg some (decide_eq_decide.2 ⟨fun k=>⟨h,.inl h1,k⟩,fun k=>k.2.2⟩)
 rw[if_neg h1];by_cases h2:u0v s.2.2.1
 ·rw[if_pos h2];exact congrArg some (decide_eq_decide.2 ⟨fun k=>⟨h,.inr h2,k⟩,fun k=>k.2.2⟩)
 ·rw[if_neg h2,decide_eq_false (fun k:Clock s=>by rcases k.2.1 with q | q;exact h1 q;exact h2 q)]
def Wrong (s:Sta) (k:Nat):Prop:=∃x,s.2.2.2[k]? = some x∧¬j0y s k x
noncomputable instance (s k):Decidable (Wrong s k):=Classical.propDecidable _
theorem y0p (n:Nat) {s:Sta} (hw:StaW s):f0d (n+14) s=some (if StaOk s then 0 else 2):=by
 rw[u1x,z1u (n+9) s,obs,tfn,tfd];by_cases h:Whole s
 case neg=>rw[if_neg h,if_neg (show ¬((sta0,(2:Int)).2=0) by decide),if_neg (fun k:StaOk s=>h k.whole)]
 rw[if_pos h,if_pos rfl,st_clock (n+11) s,obs,tfn,tfd];by_cases h1:Clock s
 case neg=>rw[if_neg h1,if_neg (fun k:StaOk s=>h1 k.clock)]
 rw[if_pos h1];have hL:=h.len;have his:∀k:Nat,k<s.2.2.2.length→(fun y2:Int×Unit=>f0l (n+13) y2.1 s) ((k:Int),())=some (decide (Wrong s k)):=by
  intro k hk;have hy:s.2.2.2[k]? = some s.2.2.2[k]:=List.getElem?_eq_getElem hk;generalize s.2.2.2[k]=y at hy;show f0l (n+13) (k:Int) s=_;rw[j1l,st_right n hw h h1.1 hy,obs];by_cases q:j0y s k y
  ·rw[decide_eq_true q,decide_eq_false (fun z:Wrong s k=>by obtain ⟨x,x1,x2⟩:=z;rw[hy] at x1;cases x1;exact x2 q)];rfl
  ·rw[decide_eq_false q,decide_eq_true (show Wrong s k from ⟨y,hy,q⟩)];rfl
 rcases i1q (n+12) s (fun y2:Int×Unit=>f0l (n+13) y2.1 s) (fun k=>decide (Wrong s k)) (by omega) his with ⟨m,q1,q2,q3,q4⟩ | ⟨q1,q2⟩
 ·rw[show (fun y2:Int×Unit=>f0l (n+13) y2.1 (s,(0:Int)).1)=fun y2:Int×Unit=>f0l (n+13) y2.1 s from rfl];obtain ⟨x,x1,x2⟩:=of_decide_eq_true q2;rw[q4,obs,tfd,if_pos (by omega),if_neg (fun k:StaOk s=>x2 (k.right m x x1))]
 ·rw[show (fun y2:Int×Unit=>f0l (n+13) y2.1 (s,(0:Int)).1)=fun y2:Int×Unit=>f0l (n+13) y2.1 s from rfl];rw[q2,obs,tfd,if_neg (by decide),if_pos];refine ⟨h,h1,fun i x hx => ?_⟩;have:=of_decide_eq_false (q1 i (List.getElem?_eq_some_iff.1 hx).1);exact Decidable.byContradiction fun k=>this ⟨x,hx,k⟩
theorem m0g (n:Nat) (s:Sta):p0y (n+4) s=some (decide (Whole s)):=by
 rw[v1r,q0e n s.1,obs,tfd];by_cases h:OkC s.1
 case neg=>rw[if_neg h,if_neg (show ¬((2:Int)=0) by decide),decide_eq_false (fun k:Whole s=>h k.1)]
 rw[if_pos h,if_pos rfl];exact congrArg some (decide_eq_decide.2 ⟨fun k=>⟨h,k⟩,fun k=>k.2⟩)
theorem r17_mark (n:Nat) {s:Sta} (hh:Whole s) (h:u0v s.2.1):z0h (n+5) s=some (mk s):=by
 have hw:=hh.1.rng.w0;obtain ⟨m1,m2,m3,m4⟩:=a1n h hw;have h1:=h.1;have h2:=h.2;rw[a2t,m0g n s,obs,tfn,tfd,if_pos hh,t0m (n+3),obs,tfn,tfd,if_pos h,tfd,if_neg (by omega),j0p h hw.1];rw[w64 (show -9223372036854775808≤s.2.1 / s.1.2.1.1*s.1.2.1.1 from by unfold mk at m1;omega) (by unfold mk at m2;omega)];rfl
theorem r17_l11 (n:Nat) {s:Sta} (hw:StaW s) (hL:s.2.2.2.length≤1000000) (i:Nat) (x:Ser) (hx:s.2.2.2[i]? = some x) (e:Int) (p:List Ser) (q r:Int):∀(d k f:Nat),k+d=i→d<f →
  ((∃j,k≤j∧j<i∧LvX s x∧∃y,s.2.2.2[j]? = some y∧LvX s y∧y.1=x.1)∧d0p (n+6) f (s,e,(i:Int),x,p,q,r,(i:Int),(k:Int),())=some (.inr 2)) ∨
  (¬(∃j,k≤j∧j<i∧LvX s x∧∃y,s.2.2.2[j]? = some y∧LvX s y∧y.1=x.1)∧d0p (n+6) f (s,e,(i:Int),x,p,q,r,(i:Int),(k:Int),())=some (.inl (s,e,p,q,r,()))):=by
 have hil:i<s.2.2.2.length:=(List.getElem?_eq_some_iff.1 hx).1;have hm:=(hw.at hx).2;intro d;induction d with
 | zero =>
  intro k f hk hf;obtain ⟨f,rfl⟩:∃g,f=g+1:=⟨f-1,by omega⟩;refine .inr ⟨fun ⟨j,h1,h2,_⟩=>by omega,?_⟩;rw[s0o,decide_eq_false (by omega),tff]
 | succ d ih =>
  intro k f hk hf;obtain ⟨f,rfl⟩:∃g,f=g+1:=⟨f-1,by omega⟩;have hkl:k<s.2.2.2.length:=by omega
  have hy:s.2.2.2[k]? = some s.2.2.2[k]:=List.getElem?_eq_getElem hkl;generalize s.2.2.2[k]=y at hy;have hmy:=(hw.at hy).2;have ih':=ih (k+1) f (by omega) (by omega);have step:¬(LvX s x∧LvX s y∧y.1=x.1)→((∃j,k+1≤j∧j<i∧LvX s x∧∃y,s.2.2.2[j]? = some y∧LvX s y∧y.1=x.1)↔(∃j,k≤j∧j<i∧LvX s x∧∃y,s.2.2.2[j]? = some y∧LvX s y∧y.1=x.1)):=by
   intro hn;constructor
   ·rintro ⟨j,h1,h2⟩;exact ⟨j,by omega,h2⟩
   ·rintro ⟨j,h1,h2,h3,z,h4,h5,h6⟩;rcases Nat.lt_or_ge k j with g | g
    ·exact ⟨j,by omega,h2,h3,z,h4,h5,h6⟩
    ·obtain rfl:j=k:=by omega
     rw[hy] at h4;cases h4;exact absurd ⟨h3,h5,h6⟩ hn
  rw[s0o,decide_eq_true (by omega),tft,m0h n hx hm,obs,tfd,m0h n hy hmy,obs,tfd,u0u hy,obs,x0x (n+5) _ _ hmy.l,obs,tfd,w64 (by omega) (by omega),show ((k:Int)+1)=((k+1:Nat):Int) by omega];by_cases h1:LvX s x
  case neg=>rw[if_neg h1,←step (fun z=>h1 z.1)];exact ih'
  rw[if_pos h1];by_cases h2:LvX s y
  case neg=>rw[if_neg h2,←step (fun z=>h2 z.2.1)];exact ih'
  rw[if_pos h2];by_cases h3:y.1=x.1
  case neg=>rw[if_neg h3,←step (fun z=>h3 z.2.2)];exact ih'
  rw[if_pos h3];exact .inl ⟨⟨k,Nat.le_refl _,by omega,h1,y,hy,h2,h3⟩,rfl⟩
theorem r17_l5 (n:Nat) {s:Sta} (hw:StaW s) (hh:Whole s) (ht:u0v s.2.1):∀(d i f:Nat),i+d=s.2.2.2.length→d<f →
  ((∀(j:Nat) x,i≤j→s.2.2.2[j]? = some x→j0y s j x)∧d0x (n+8) f (s,mk s+s.1.2.1.1,s.2.2.2,(s.2.2.2.length:Int),(i:Int),())=some (.inl ())) ∨
  (¬(∀(j:Nat) x,i≤j→s.2.2.2[j]? = some x→j0y s j x)∧d0x (n+8) f (s,mk s+s.1.2.1.1,s.2.2.2,(s.2.2.2.length:Int),(i:Int),())=some (.inr 2)):=by
 have hL:=hh.len;intro d;induction d with
 | zero =>
  intro i f hi hf;obtain ⟨f,rfl⟩:∃g,f=g+1:=⟨f-1,by omega⟩;refine .inl ⟨fun j x h1 h2 => ?_,?_⟩
  ·have:=(List.getElem?_eq_some_iff.1 h2).1;omega
  ·rw[t0n,decide_eq_false (by omega),tff]
 | succ d ih =>
  intro i f hi hf;obtain ⟨f,rfl⟩:∃g,f=g+1:=⟨f-1,by omega⟩;have hx:s.2.2.2[i]? = some (s.2.2.2[i]'(by omega)):=List.getElem?_eq_getElem (by omega);generalize s.2.2.2[i]'(by omega)=x at hx;have hm:=hw.at hx;have ih':=ih (i+1) f (by omega) (by omega);have step:j0y s i x→((∀(j:Nat) x,i+1≤j→s.2.2.2[j]? = some x→j0y s j x)↔(∀(j:Nat) x,i≤j→s.2.2.2[j]? = some x→j0y s j x)):=by
   intro hr;constructor
   ·intro h j y h1 h2;rcases Nat.lt_or_ge i j with g | g
    ·exact h j y (by omega) h2
    ·obtain rfl:j=i:=by omega
     rw[hx] at h2;cases h2;exact hr
   ·intro h j y h1 h2;exact h j y (by omega) h2
  have bad:¬j0y s i x→¬(∀(j:Nat) x,i≤j→s.2.2.2[j]? = some x→j0y s j x):=fun h k=>h (k i x (Nat.le_refl _) hx)
  rw[t0n,decide_eq_true (by omega),tft,u0u hx,obs,v1t (n+4) hm.2,obs,tfd,q0b n s.1 hm.1,obs,w64 (by omega) (by omega),show ((i:Int)+1)=((i+1:Nat):Int) by omega];by_cases h0:x=ser0
  ·rw[if_pos h0,←step (.inl h0)];exact ih'
  rw[if_neg h0,tfn,tfd];by_cases h1:SerOk s.1 x
  case neg=>rw[if_neg h1,if_neg (show ¬((2:Int)=0) by decide)];exact .inr ⟨bad fun k=>by rcases k with k | k;exact h0 k;exact h1 k.1,rfl⟩
  rw[if_pos h1,if_pos rfl,tfd];by_cases h2:x.2.1<0
  ·rw[if_pos h2];exact .inr ⟨bad fun k=>by rcases k with k | k;exact h0 k;have:=k.2.1;omega,rfl⟩
  rw[if_neg h2,tfd];by_cases h3:mk s+s.1.2.1.1≤x.2.1
  ·rw[if_pos h3];exact .inr ⟨bad fun k=>by rcases k with k | k;exact h0 k;have:=k.2.2.1;omega,rfl⟩
  rw[if_neg h3,decide_eq_true (show (0:Int)≤(i:Int) by omega),decide_eq_true (show (i:Int)≤(s.2.2.2.length:Int) by omega),Bool.and_self,tft,show (List.drop 0 (List.take (Int.toNat (i:Int)) s.2.2.2)).length=i by simp;omega];rcases r17_l11 (n+2) hw (by omega) i x hx (mk s+s.1.2.1.1) s.2.2.2 (s.2.2.2.length:Int) (i:Int) i 0 a0d (by omega) (by unfold a0d;omega) with ⟨q1,q2⟩ | ⟨q1,q2⟩
  ·have q2':d0p (n+8) a0d (s,mk s+s.1.2.1.1,(i:Int),x,s.2.2.2,(s.2.2.2.length:Int),(i:Int),(i:Int),(0:Int),())=some (.inr 2):=q2;rw[q2',obs,f0u];obtain ⟨j,j1,j2,j3,j4⟩:=q1;exact .inr ⟨bad fun k=>by rcases k with k | k;exact h0 k;exact k.2.2.2 ⟨j3,j,j2,j4⟩,rfl⟩
  ·have q2':d0p (n+8) a0d (s,mk s+s.1.2.1.1,(i:Int),x,s.2.2.2,(s.2.2.2.length:Int),(i:Int),(i:Int),(0:Int),())=some (.inl (s,mk s+s.1.2.1.1,s.2.2.2,(s.2.2.2.length:Int),(i:Int),())):=q2;rw[q2',obs,a0n];have hr:j0y s i x := .inr ⟨h1,by omega,by omega,fun ⟨k1,j,k2,k3⟩=>q1 ⟨j,by omega,k2,k1,k3⟩⟩;rw[←step hr,show IntKind.wrap .i64 ((i:Int)+1)=((i+1:Nat):Int) by rw[w64 (by omega) (by omega)];omega];exact ih'
theorem z0g (n:Nat) {s:Sta} (hw:StaW s):q0a (n+9) s=some (if StaOk s then 0 else 2):=by
 rw[v1v,m0g (n+4) s,obs,tfn,tfd];by_cases h:Whole s
 case neg=>rw[if_neg h,if_neg (fun k:StaOk s=>h k.whole)]
 rw[if_pos h,t0m,obs,tfn,tfd];by_cases h1:u0v s.2.1
 case neg=>rw[if_neg h1,if_neg (fun k:StaOk s=>h1 k.clock.1)]
 have tail:(Clock s)→(a0b (z0h (n+8) s) fun r3 =>
   a0b (d0x (n+8) a0d (s,((IntKind.wrap .i64 (r3+s.1.2.1.1)),(s.2.2.2,((((List.length s.2.2.2):Nat):Int),((0:Int),())))))) fun r4 =>
   b0d (fun y5=>some (0:Int)) (fun z6=>some z6) r4)=some (if StaOk s then 0 else 2):=by
  intro hcl;have hr:=h.1.rng;obtain ⟨m1,m2,m3,m4⟩:=a1n h1 hr.w0;have t2:=h1.2;have w0:=hr.w0;rw[r17_mark (n+3) h h1,obs,w64 (by omega) (by omega)];rcases r17_l5 n hw h h1 s.2.2.2.length 0 a0d (by omega) (by have:=h.len;unfold a0d;omega) with ⟨q1,q2⟩ | ⟨q1,q2⟩
  ·have q2':d0x (n+8) a0d (s,mk s+s.1.2.1.1,s.2.2.2,(s.2.2.2.length:Int),(0:Int),())=some (.inl ()):=q2;rw[q2',obs,a0n,if_pos (show StaOk s from ⟨h,hcl,fun i x hx=>q1 i x (by omega) hx⟩)]
  ·have q2':d0x (n+8) a0d (s,mk s+s.1.2.1.1,s.2.2.2,(s.2.2.2.length:Int),(0:Int),())=some (.inr 2):=q2;rw[q2',obs,f0u,if_neg (fun k:StaOk s=>q1 fun j x _ hx=>k.right j x hx)]
 rw[if_pos h1,tfn,tfd];by_cases h2:s.2.2.1 = -1
 ·rw[if_pos h2,tfd];by_cases h3:s.2.1<s.2.2.1
  ·have:=h1.1;omega
  ·rw[if_neg h3];exact tail ⟨h1,.inl h2,by omega⟩
 ·rw[if_neg h2,t0m,obs,tfn,tfd];by_cases h3:u0v s.2.2.1
  case neg=>rw[if_neg h3,if_neg (fun k:StaOk s=>by rcases k.clock.2.1 with q | q;exact h2 q;exact h3 q)]
  rw[if_pos h3,tfd];by_cases h4:s.2.1<s.2.2.1
  ·rw[if_pos h4,if_neg (fun k:StaOk s=>by have:=k.clock.2.2;omega)]
  ·rw[if_neg h4];exact tail ⟨h1,.inr h3,by omega⟩
theorem g2l (n:Nat) (l:List Ser) (hL:l.length≤1000000) (hm:∀x∈l,SerM x):∀(rest pre:List Ser) (f:Nat) (ix len:Int),l=pre++rest→ix=pre.length→len=l.length→rest.length<f →
  l0g (n+2) f (l,len,ix,())=some (.inl ())∨l0g (n+2) f (l,len,ix,())=some (.inr 0):=by
 intro rest;induction rest with
 | nil =>
  intro pre f ix len hl hi hn hf;obtain ⟨f,rfl⟩:∃g,f=g+1:=⟨f-1,by simp at hf;omega⟩;left;rw[u0o];simp only[tfd,if_neg (idxe hl hi hn)]
 | cons x rest ih =>
  intro pre f ix len hl hi hn hf;obtain ⟨f,rfl⟩:∃g,f=g+1:=⟨f-1,by simp at hf;omega⟩;have hx:SerM x:=hm x (by rw[hl];simp);rw[u0o];simp only[tfd,if_pos (idx hl hi hn),b0g hl hi,obs,idxw hl hi (show l.length≤1000000000000 by omega)];rcases m2x n x hx.l with h | h
  ·rw[h];right;rfl
  ·rw[h];simp only[obs,if_neg (show ¬((1:Int)=0) by decide)];exact ih (pre++[x]) f (ix+1) len (idxl hl) (idxs hi) hn (by simp at hf;omega)
theorem m2w (n:Nat) {s:Sta} (hw:StaW s):a1r (n+3) s=some 0∨(a1r (n+3) s=some 1∧s.2.2.2.length≤8):=by
 rw[x1s];simp only[tfd];by_cases h:(8:Int)<(s.2.2.2.length:Int)
 ·rw[if_pos h];exact .inl rfl
 ·rw[if_neg h];rcases g2l n s.2.2.2 (by omega) (fun x hx=>(hw.ser x hx).2) s.2.2.2 [] a0d 0 _ rfl rfl rfl (by unfold a0d;omega) with h1 | h1
  ·rw[h1];exact .inr ⟨rfl,by omega⟩
  ·rw[h1];exact .inl rfl
theorem ser_m' {s:Ser} (h:Wf a0w s):SerM s:=by
 obtain ⟨h1,h2,h3,⟨h4,h5,h6⟩,h7⟩:=h;have e1:=h1.1;have e3:=h3.2.2.1;have e4:=h4.1;have e5:=h5.1;have e6:=h6.1;simp only[maxLen] at e1 e3 e4 e5 e6;exact ⟨e1,e3,e4,e5,e6⟩
theorem sta_wf {s:Sta} (h:Wf a0i s):StaW s:=by
 obtain ⟨h1,h2,h3,h4⟩:=h;have e:=h4.1;simp only[maxLen] at e;exact ⟨e,fun x hx=>⟨ser_wf (h4.2 x hx),ser_m' (h4.2 x hx)⟩⟩
end Go.Proofs.YtgkpkajaepphjaaGreatDoor
namespace Go.Proofs.YtgkpkajaepphjaaGreatDoor
open Go.Flat Go.Plim
set_option linter.unusedVariables false
def d2i (c:Conf) (s:Trs) (o:Slo) (l:List Ev):Prop :=
 (l=[]∧o=s0∧∀t,FInv c s [] t)∨∃t,EndsAt l t∧FInv c s l t∧o=(t / c.2.1.1,cellOf (win c.2.1.1 l (t / c.2.1.1)))
theorem d2i.fold {c:Conf} {s:Trs} {o:Slo} {l:List Ev} (h:d2i c s o l):FoldOk c s:=by
 rcases h with ⟨_,_,h⟩ | ⟨t,_,h,_⟩
 ·exact (h 0).ok
 ·exact h.ok
end Go.Proofs.YtgkpkajaepphjaaGreatDoor
namespace Go.Proofs.YtgkpkajaepphjaaGreatDoor
open Go.Flat Go.Plim
set_option linter.unusedVariables false
set_option linter.unusedSimpArgs false
def rawOf (room:Int) (l:List Ev):Rw :=
 (if (l.length:Int)≤room then 0 else (l.length:Int)-room,(if (l.length:Int)≤room then 0 else ((l[l.length-room.toNat-1]?).getD e0).1,l.drop (l.length-room.toNat)))
structure SerInv (c:Conf) (s:Ser) (l:List Ev):Prop where
 lab:LabOk s.1
 len:l.length≤1000000
 raw:s.2.2.1=rawOf c.1 l
 opn:d2i c s.2.2.2.1 s.2.2.2.2 l
 last:(l=[]∧s.2.1 = -1)∨EndsAt l s.2.1
theorem SerInv.foll {c:Conf} {s:Ser} {l:List Ev} (h:SerInv c s l):Foll l:=by
 rcases h.last with ⟨rfl,_⟩ | h
 ·exact Foll.nil
 ·exact h.foll
theorem d1q {l:List Ev} {t:Int} (h:EndsAt l t):∃e,l.getLast? = some e∧e.1=t:=by
 obtain ⟨x,hx,hxt⟩:=h.last;rcases List.eq_nil_or_concat l with rfl | ⟨p,y,rfl⟩
 ·cases hx
 rw[List.concat_eq_append] at *
 have h1:=h.le y (by simp);refine ⟨y,by simp,?_⟩;rcases List.mem_append.1 hx with q | q
 ·have:=(s0h.1 h.foll).2.2 x q y (by simp);omega
 ·simp at q;rw[←q];exact hxt
theorem o2k {l:List Ev} {t u:Int} (h:EndsAt l t) (k:EndsAt l u):t=u:=by
 obtain ⟨e,h1,h2⟩:=d1q h;obtain ⟨e',k1,k2⟩:=d1q k;rw[h1] at k1;simp at k1;rw[←h2,←k2,k1]
theorem SerInv.at_ {c:Conf} {s:Ser} {l:List Ev} (h:SerInv c s l) (hl:l≠[]):EndsAt l s.2.1∧FInv c s.2.2.2.1 l s.2.1∧s.2.2.2.2=(s.2.1 / c.2.1.1,cellOf (win c.2.1.1 l (s.2.1 / c.2.1.1))):=by
 have he:=h.last.resolve_left fun k=>hl k.1
 rcases h.opn with k | ⟨t,k1,k2,k3⟩
 ·exact absurd k.1 hl
 ·have:=o2k he k1;subst this;exact ⟨he,k2,k3⟩
theorem j2c {a b:Int} (ha:1≤a) (hb:1≤b) (hm:b % a=0):0<b / a:=by
 rcases Int.lt_or_le 0 (b / a) with z | z
 ·exact z
 ·exfalso;have e:a*(b / a)=b:=by have:=Int.mul_ediv_add_emod b a;omega
  have:a*(b / a)≤a*0:=Int.mul_le_mul_of_nonneg_left z (by omega);omega
noncomputable def x0s (s:Sta) (l:List Lab):Option Nat:=s.2.2.2.findIdx? fun x=>decide (x.1=l∧LvX s x)
noncomputable def roomV (s:Sta):Option Nat:=s.2.2.2.findIdx? fun x=>decide (¬LvX s x)
noncomputable def lvAt (s:Sta) (i:Nat):Bool:=match s.2.2.2[i]? with | some x=>decide (LvX s x) | none=>false
noncomputable def u0k (s:Sta):List Nat:=(List.range s.2.2.2.length).filter (lvAt s)
theorem p1h {s:Sta} {l:List Lab} {i:Nat}:x0s s l=some i↔∃x,s.2.2.2[i]? = some x∧x.1=l∧LvX s x∧∀j,j<i→∀y,s.2.2.2[j]? = some y→¬(y.1=l∧LvX s y):=by
 unfold x0s;rw[List.findIdx?_eq_some_iff_getElem];constructor
 ·rintro ⟨h,h1,h2⟩;have h1:=of_decide_eq_true h1;refine ⟨_,List.getElem?_eq_getElem h,h1.1,h1.2,fun j hj y hy => ?_⟩;obtain ⟨hjl,e⟩:=List.getElem?_eq_some_iff.1 hy;have:=h2 j hj;rw[e] at this
  simpa using this
 ·rintro ⟨x,hx,h1,h2,h3⟩;obtain ⟨hl,e⟩:=List.getElem?_eq_some_iff.1 hx;refine ⟨hl,by rw[e];exact decide_eq_true ⟨h1,h2⟩,fun j hj => ?_⟩;have:=h3 j hj _ (List.getElem?_eq_getElem (by omega))
  simpa using this
theorem j2a {s:Sta} {l:List Lab}:x0s s l=none↔∀x∈s.2.2.2,¬(x.1=l∧LvX s x):=by
 unfold x0s;rw[List.findIdx?_eq_none_iff];simp
theorem m2o {s:Sta} {i:Nat} {x:Ser} (h:s.2.2.2[i]? = some x):lvAt s i=decide (LvX s x):=by
 unfold lvAt;rw[h]
theorem live_len (s:Sta):(u0k s).length≤s.2.2.2.length:=by
 have:=List.length_filter_le (lvAt s) (List.range s.2.2.2.length)
 simpa [u0k] using this
end Go.Proofs.YtgkpkajaepphjaaGreatDoor
namespace Go.Proofs.YtgkpkajaepphjaaGreatDoor
open Go.Flat
def rd (st:List UInt8×Bool) (k:Nat):Int×(List UInt8×Bool):=if st.2=true∨st.1.length<k then (0,([],true)) else (valI (bytesI (st.1.take k)),(st.1.drop k,false))
def q0 (s:List UInt8):=rd (s,false) 4
def q1 (s:List UInt8):=rd (q0 s).2 8
def q2 (s:List UInt8):=rd (q1 s).2 8
def q3 (s:List UInt8):=rd (q2 s).2 8
def q4 (s:List UInt8):=rd (q3 s).2 4
def q5 (s:List UInt8):=rd (q4 s).2 4
def q6 (s:List UInt8):=rd (q5 s).2 4
def q7 (s:List UInt8):=rd (q6 s).2 4
def q8 (s:List UInt8):=rd (q7 s).2 4
def q9 (s:List UInt8):=rd (q8 s).2 8
structure Full (s:List UInt8):Prop where
 z:(q9 s).1=0
 good:(q9 s).2.2=false
 left:(q9 s).2.1=[]
def idxC (c:Conf):Int:=prt c.2.2.2.2 120
def hom (c:Conf):Int:=1+idxC c+c.2.2.2.2
end Go.Proofs.YtgkpkajaepphjaaGreatDoor
namespace Go.Proofs.YtgkpkajaepphjaaGreatDoor
open Go.Flat Go.Plim
set_option linter.unusedVariables false
set_option linter.unusedSimpArgs false
theorem f2e {l:List Ser} {k:Nat} (h:k<l.length):∃y,l[k]? = some y:=⟨l[k],List.getElem?_eq_getElem h⟩
noncomputable def y1g (s:Sta) (l:List Lab):Int×Int:=if Whole s then (match x0s s l with | some i=>((i:Int),0) | none=>(0,3)) else (0,2)
noncomputable def c2l (s:Sta):List Int:=if Whole s then (u0k s).map Int.ofNat else []
def IsF (s:Sta) (l:List Lab) (k:Nat):Prop:=∃y,s.2.2.2[k]? = some y∧y.1=l∧LvX s y
noncomputable instance (s l k):Decidable (IsF s l k):=Classical.propDecidable _
theorem p1g {s:Sta} {l:List Lab} {m:Nat} (h:IsF s l m) (hn:∀j,j<m→¬IsF s l j):x0s s l=some m:=by
 obtain ⟨y,h1,h2,h3⟩:=h;exact p1h.2 ⟨y,h1,h2,h3,fun j hj z hz k=>hn j hj ⟨z,hz,k.1,k.2⟩⟩
theorem n2w {s:Sta} {l:List Lab} (hn:∀j,j<s.2.2.2.length→¬IsF s l j):x0s s l=none:=by
 refine j2a.2 fun x hx k => ?_
 obtain ⟨i,hi,e⟩:=List.getElem_of_mem hx;exact hn i hi ⟨x,by rw[List.getElem?_eq_getElem hi,e],k.1,k.2⟩
theorem stt_find (n:Nat) {s:Sta} (hw:StaW s) (l:List Lab):j0c (n+10) s l=some (y1g s l):=by
 rw[z1t,z1u (n+5) s,obs,tfn,tfd];unfold y1g;by_cases h:Whole s
 case neg=>rw[if_neg h,if_neg h,if_neg (show ¬((sta0,(2:Int)).2=0) by decide)]
 rw[if_pos h,if_pos h,if_pos rfl];have his:∀k:Nat,k<s.2.2.2.length→(fun y1:Int×Unit=>h0a (n+9) y1.1 s l s) ((k:Int),())=some (decide (IsF s l k)):=by
  intro k hk;obtain ⟨y,hy⟩:=f2e hk;have hm:=(hw.at hy).2;show h0a (n+9) (k:Int) s l s=_;rw[q1e,u0u hy,obs,c1e (n+6) _ _ hm.l,obs,tfd,e1p (n+1) hy hm,obs];by_cases h1:y.1=l
  ·rw[if_pos h1];refine congrArg some (decide_eq_decide.2 ⟨fun k=>⟨y,hy,h1,k⟩,fun ⟨z,z1,z2,z3⟩ => ?_⟩);rw[hy] at z1;cases z1;exact z3
  ·rw[if_neg h1,decide_eq_false (fun q:IsF s l k=>by obtain ⟨z,z1,z2,z3⟩:=q;rw[hy] at z1;cases z1;exact h1 z2)]
 rcases i1q (n+8) s (fun y1:Int×Unit=>h0a (n+9) y1.1 s l s) (fun k=>decide (IsF s l k)) (by have:=h.len;omega) his with ⟨m,q1,q2,q3,q4⟩ | ⟨q1,q2⟩
 ·rw[show (fun y1:Int×Unit=>h0a (n+9) y1.1 s l (s,(0:Int)).1)=fun y1:Int×Unit=>h0a (n+9) y1.1 s l s from rfl,q4,obs,tfd,if_neg (by omega),p1g (of_decide_eq_true q2) (fun j hj=>of_decide_eq_false (q3 j hj))]
 ·rw[show (fun y1:Int×Unit=>h0a (n+9) y1.1 s l (s,(0:Int)).1)=fun y1:Int×Unit=>h0a (n+9) y1.1 s l s from rfl,q2,obs,tfd,if_pos (by decide),n2w (fun j hj=>of_decide_eq_false (q1 j hj))]
theorem a2s (n:Nat) {s:Sta} (hw:StaW s) (hL:s.2.2.2.length≤1000000) (l:List Lab):∀(d k f:Nat),k+d=s.2.2.2.length→d<f →
  (∃m:Nat,k≤m∧IsF s l m∧(∀j,k≤j→j<m→¬IsF s l j)∧f0b (n+6) f (l,s,s.2.2.2,(s.2.2.2.length:Int),(k:Int),())=some (.inr ((m:Int),0))) ∨
  ((∀j,k≤j→j<s.2.2.2.length→¬IsF s l j)∧f0b (n+6) f (l,s,s.2.2.2,(s.2.2.2.length:Int),(k:Int),())=some (.inl ())):=by
 intro d;induction d with
 | zero =>
  intro k f hk hf;obtain ⟨f,rfl⟩:∃g,f=g+1:=⟨f-1,by omega⟩;refine .inr ⟨fun j h1 h2=>by omega,?_⟩;rw[w0o,decide_eq_false (by omega),tff]
 | succ d ih =>
  intro k f hk hf;obtain ⟨f,rfl⟩:∃g,f=g+1:=⟨f-1,by omega⟩;obtain ⟨y,hy⟩:=f2e (l:=s.2.2.2) (k:=k) (by omega);have hm:=(hw.at hy).2;have ih':=ih (k+1) f (by omega) (by omega);have next:¬IsF s l k→((∃m:Nat,k≤m∧IsF s l m∧(∀j,k≤j→j<m→¬IsF s l j)∧f0b (n+6) f (l,s,s.2.2.2,(s.2.2.2.length:Int),((k+1:Nat):Int),())=some (.inr ((m:Int),0))) ∨
  ((∀j,k≤j→j<s.2.2.2.length→¬IsF s l j)∧f0b (n+6) f (l,s,s.2.2.2,(s.2.2.2.length:Int),((k+1:Nat):Int),())=some (.inl ()))):=by
   intro hn;have low:∀j,k≤j→¬k+1≤j→¬IsF s l j:=fun j h1 h2=>by rw[show j=k by omega];exact hn
   rcases ih' with ⟨m,h1,h2,h3,h4⟩ | ⟨h1,h2⟩
   ·exact .inl ⟨m,by omega,h2,fun j q1 q2=>if z:k+1≤j then h3 j z q2 else low j q1 z,h4⟩
   ·exact .inr ⟨fun j q1 q2=>if z:k+1≤j then h1 j z q2 else low j q1 z,h2⟩
  rw[w0o,decide_eq_true (by omega),tft,u0u hy,obs,m0h n hy hm,obs,tfd,x0x (n+5) _ _ hm.l,obs,tfd,w64 (by omega) (by omega),show ((k:Int)+1)=((k+1:Nat):Int) by omega];by_cases h1:LvX s y
  case neg=>rw[if_neg h1];exact next (fun q=>by obtain ⟨z,z1,z2,z3⟩:=q;rw[hy] at z1;cases z1;exact h1 z3)
  rw[if_pos h1];by_cases h2:y.1=l
  case neg=>rw[if_neg h2];exact next (fun q=>by obtain ⟨z,z1,z2,z3⟩:=q;rw[hy] at z1;cases z1;exact h2 z2)
  rw[if_pos h2];exact .inl ⟨k,Nat.le_refl _,⟨y,hy,h2,h1⟩,fun j q1 q2=>by omega,rfl⟩
theorem r17_find (n:Nat) {s:Sta} (hw:StaW s) (l:List Lab):r1f (n+7) s l=some (y1g s l):=by
 rw[a2v,m0g (n+2) s,obs,tfn,tfd];unfold y1g;by_cases h:Whole s
 case neg=>rw[if_neg h,if_neg h]
 rw[if_pos h,if_pos h];have hL:=h.len;rcases a2s n hw (by omega) l s.2.2.2.length 0 a0d (by omega) (by unfold a0d;omega) with ⟨m,q1,q2,q3,q4⟩ | ⟨q1,q2⟩
 ·have q4':f0b (n+6) a0d (l,s,s.2.2.2,(s.2.2.2.length:Int),(0:Int),())=some (.inr ((m:Int),0)):=q4;rw[q4',obs,f0u,p1g q2 (fun j hj=>q3 j (by omega) hj)]
 ·have q2':f0b (n+6) a0d (l,s,s.2.2.2,(s.2.2.2.length:Int),(0:Int),())=some (.inl ()):=q2;rw[q2',obs,a0n,n2w (fun j hj=>q1 j (by omega) hj)]
theorem m2p {s:Sta} {k:Nat} {y:Ser} (h:s.2.2.2[k]? = some y):decide (LvX s y)=lvAt s k:=(m2o h).symm
theorem g2f (n:Nat) {s:Sta} (hw:StaW s) (hL:s.2.2.2.length≤1000000):∀(d k f:Nat) (out:List Int),k+d=s.2.2.2.length→d<f→out.length≤k →
  k0d (n+7) f (s,out,(s.2.2.2.length:Int),(k:Int),())=some (.inl (out++((List.range' k d).filter (lvAt s)).map Int.ofNat,())):=by
 intro d;induction d with
 | zero =>
  intro k f out hk hf ho;obtain ⟨f,rfl⟩:∃g,f=g+1:=⟨f-1,by omega⟩;rw[w0f,decide_eq_false (by omega),tff];simp
 | succ d ih =>
  intro k f out hk hf ho;obtain ⟨f,rfl⟩:∃g,f=g+1:=⟨f-1,by omega⟩;obtain ⟨y,hy⟩:=f2e (l:=s.2.2.2) (k:=k) (by omega);rw[w0f,decide_eq_true (by omega),tft,e1p n hy (hw.at hy).2,obs,m2p hy,w64 (by omega) (by omega),show ((k:Int)+1)=((k+1:Nat):Int) by omega,List.range'_succ];cases h:lvAt s k
  ·rw[tff,ih (k+1) f out (by omega) (by omega) (by omega),List.filter_cons_of_neg (by simp[h])]
  ·rw[tft,decide_eq_true (by omega),tft,ih (k+1) f _ (by omega) (by omega) (by simp;omega),List.filter_cons_of_pos h];simp
theorem stt_live (n:Nat) {s:Sta} (hw:StaW s):e1o (n+8) s=some (c2l s):=by
 rw[z1s,z1u (n+3) s,obs,tfn,tfd];unfold c2l;by_cases h:Whole s
 case neg=>rw[if_neg h,if_neg h,if_neg (show ¬((sta0,(2:Int)).2=0) by decide)]
 rw[if_pos h,if_pos h,if_pos rfl];have hL:=h.len;have e:k0d (n+7) a0d (s,([]:List Int),(s.2.2.2.length:Int),(0:Int),())=_:=g2f n hw (by omega) s.2.2.2.length 0 a0d [] (by omega) (by unfold a0d;omega) (by simp);simp only;rw[e,obs,a0n];unfold u0k;rw[List.range_eq_range'];rfl
theorem a2r (n:Nat) {s:Sta} (hw:StaW s) (hL:s.2.2.2.length≤1000000):∀(d k f:Nat) (out:List Int),k+d=s.2.2.2.length→d<f→out.length≤k →
  k0j (n+6) f (s,out,(s.2.2.2.length:Int),(k:Int),())=some (.inl (out++((List.range' k d).filter (lvAt s)).map Int.ofNat,())):=by
 intro d;induction d with
 | zero =>
  intro k f out hk hf ho;obtain ⟨f,rfl⟩:∃g,f=g+1:=⟨f-1,by omega⟩;rw[w0n,decide_eq_false (by omega),tff];simp
 | succ d ih =>
  intro k f out hk hf ho;obtain ⟨f,rfl⟩:∃g,f=g+1:=⟨f-1,by omega⟩;obtain ⟨y,hy⟩:=f2e (l:=s.2.2.2) (k:=k) (by omega);rw[w0n,decide_eq_true (by omega),tft,m0h n hy (hw.at hy).2,obs,m2p hy,w64 (by omega) (by omega),show ((k:Int)+1)=((k+1:Nat):Int) by omega,List.range'_succ];cases h:lvAt s k
  ·rw[tff,ih (k+1) f out (by omega) (by omega) (by omega),List.filter_cons_of_neg (by simp[h])]
  ·rw[tft,decide_eq_true (by omega),tft,ih (k+1) f _ (by omega) (by omega) (by simp;omega),List.filter_cons_of_pos h];simp
theorem r17_live (n:Nat) {s:Sta} (hw:StaW s):r1e (n+7) s=some (c2l s):=by
 rw[a2u,m0g (n+2) s,obs,tfn,tfd];unfold c2l;by_cases h:Whole s
 case neg=>rw[if_neg h,if_neg h]
 rw[if_pos h,if_pos h];have hL:=h.len;have e:k0j (n+6) a0d (s,([]:List Int),(s.2.2.2.length:Int),(0:Int),())=_:=a2r n hw (by omega) s.2.2.2.length 0 a0d [] (by omega) (by unfold a0d;omega) (by simp);rw[e,obs,a0n];unfold u0k;rw[List.range_eq_range'];rfl
theorem c2k (s:Sta):(c2l s).length≤65536:=by
 unfold c2l;split
 ·rename_i h;have:=h.len;have:=live_len s;simp;omega
 ·simp
structure Goes (s:Sta) (l:List Lab) (e:Ev):Prop where
 st:StaOk s
 lab:LabOk l
 ev:EvOk e
 lo:mk s≤e.1
 hi:e.1<mk s+s.1.2.1.1
inductive PlaceAt (s:Sta) (l:List Lab) (e:Ev):Nat→Ser→Bool→Prop
 | found {i:Nat} {x:Ser} (hf:x0s s l=some i) (hx:s.2.2.2[i]? = some x) (hl:x.1=l) (hlv:LvX s x) (ht:x.2.1<e.1):PlaceAt s l e i x false
 | room {i:Nat} (hf:x0s s l=none) (hs:e.2.2.2=false) (hr:roomV s=some i):PlaceAt s l e i (l,(-1,(r0w,(emp s.1,s0)))) true
theorem p1i {s:Sta} (h:Whole s) {l:List Lab} {i:Nat} (hf:x0s s l=some i):y1g s l=((i:Int),0):=by
 unfold y1g;rw[if_pos h,hf]
theorem p1j {s:Sta} (h:Whole s) {l:List Lab} (hf:x0s s l=none):y1g s l=(0,3):=by
 unfold y1g;rw[if_pos h,hf]
def f0j (c:Conf) (k:Int):Int:=if k=0 then c.2.1.1 else if k=1 then c.2.1.2.1 else c.2.1.2.2
def tierN (c:Conf) (k:Int):Int:=if k=0 then c.2.2.1.1 else if k=1 then c.2.2.1.2.1 else c.2.2.1.2.2
noncomputable def i2u (s:Sta) (k:Int):Int×(Int×Int) :=
 if StaOk s then (if k<0∨2<k then (0,(0,1)) else ((oldV s.2.1 (f0j s.1 k) (tierN s.1 k)).1,(s.2.1 / f0j s.1 k,0))) else (0,(0,2))
theorem s1c {now w m:Int} (h:OfP now w) (hm:1≤m∧m≤4096):(oldV now w m).2=0:=by
 unfold oldV;rw[if_pos ⟨h,hm.1,hm.2⟩]
theorem t1k (n:Nat) {s:Sta} (hw:StaW s) (k:Int):s0k (n+16) s k=some (i2u s k):=by
 rw[d2c,y1l,y0p n hw];unfold i2u;by_cases h:StaOk s
 case neg=>rw[if_neg h,if_neg h];rfl
 rw[if_pos h,if_pos h];have hr:=h.whole.1.rng;have ht:=h.clock.1;simp only[obs,decide_true,Bool.not_true,tff,tfd,tfn,u1i (n+11)];by_cases h1:k<0
 ·rw[if_pos h1,if_pos (Or.inl h1)];rfl
 rw[if_neg h1];by_cases h2:3≤k
 ·rw[if_pos h2,if_pos (show k<0∨2<k by omega)];rfl
 rw[if_neg h2,if_neg (show ¬(k<0∨2<k) by omega)];simp only[obs,if_true];have q0:=j0p ht hr.w0.1;have q1:=j0p ht hr.w1.1;have q2:=j0p ht hr.w2.1;rcases (by omega:k=0∨k=1∨k=2) with e | e | e
 ·subst e;simp only[if_true,if_neg (nz hr.w0.1),q0,s1c ⟨ht.1,ht.2,hr.w0.1,hr.w0.2⟩ hr.n0];rfl
 ·subst e;simp only[if_true,if_neg (show ¬((1:Int)=0) by decide),if_neg (nz hr.w1.1),q1,s1c ⟨ht.1,ht.2,hr.w1.1,hr.w1.2⟩ hr.n1];rfl
 ·subst e;simp only[if_true,if_neg (show ¬((2:Int)=0) by decide),if_neg (show ¬((2:Int)=1) by decide),if_neg (nz hr.w2.1),q2,s1c ⟨ht.1,ht.2,hr.w2.1,hr.w2.2⟩ hr.n2];rfl
theorem m2i {now w:Int} (h:OfP now w):(if OfP now w then (now / w,(0:Int)) else (0,1))=(now / w,0):=if_pos h
theorem r1d (n:Nat) {s:Sta} (hw:StaW s) (k:Int):z0e (n+10) s k=some (i2u s k):=by
 rw[a2p,z0g n hw];unfold i2u;by_cases h:StaOk s
 case neg=>rw[if_neg h,if_neg h];rfl
 rw[if_pos h,if_pos h];have hr:=h.whole.1.rng;have ht:=h.clock.1;simp only[obs,decide_true,Bool.not_true,tff,tfd,tfn,if_true,o1s (n+6),w1f (n+7)];by_cases h1:k<0
 ·rw[if_pos h1,if_pos (show k<0∨2<k from .inl h1)]
 rw[if_neg h1];by_cases h2:2<k
 ·rw[if_pos h2,if_pos (show k<0∨2<k from .inr h2)]
 rw[if_neg h2,if_neg (show ¬(k<0∨2<k) by omega)];have q0:=m2i (now:=s.2.1) ⟨ht.1,ht.2,hr.w0.1,hr.w0.2⟩;have q1:=m2i (now:=s.2.1) ⟨ht.1,ht.2,hr.w1.1,hr.w1.2⟩;have q2:=m2i (now:=s.2.1) ⟨ht.1,ht.2,hr.w2.1,hr.w2.2⟩;rcases (by omega:k=0∨k=1∨k=2) with e | e | e
 ·subst e;simp only[if_true,q0];rfl
 ·subst e;simp only[if_true,if_neg (show ¬((1:Int)=0) by decide),q1];rfl
 ·subst e;simp only[if_true,if_neg (show ¬((2:Int)=0) by decide),if_neg (show ¬((2:Int)=1) by decide),q2];rfl
theorem a1m {a b:Cel} (ha:b0y a) (hb:b0y b) (h:Ahead a b):mrgE a b=(mrg a b,0):=by
 unfold mrgE;rw[if_pos ⟨ha,hb⟩,if_pos h]
theorem p2j {w:Int}:∀(L:List Slo) (c:Cel) (lo hi:Int),Up L→(∀s∈L,FitsP s.2 w s.1∧lo≤s.1∧s.1<hi)→b0y c→(c=z0∨c.2.2.1.1 / w<lo)→lo≤hi→(allE c (L.map (·.2))).1=z0∨(allE c (L.map (·.2))).1.2.2.1.1 / w<hi:=by
 intro L;induction L with
 | nil=>intro c lo hi _ _ _ h hle;rcases h with h | h;exact .inl h;exact .inr (by simp only[List.map_nil,allE];omega)
 | cons s L ih =>
  intro c lo hi hu hs hc hl hle;unfold Up at hu;rw[List.pairwise_cons] at hu;obtain ⟨hf,h1,h2⟩:=hs s (by simp);have ha:Ahead c s.2:=by
   rcases hl with h | h
   ·exact .inl h
   ·refine .inr (.inr ?_);have e:=hf.f;rcases Int.lt_or_le c.2.2.1.1 s.2.2.1.1 with q | q
    ·exact q
    ·have:=Int.ediv_le_ediv (c:=w) (by have:=hf.w0;omega) q;omega
  simp only[List.map_cons,allE];rw[a1m hc hf.n.ok ha,if_pos rfl];refine ih _ (s.1+1) hi hu.2 (fun x hx=>⟨(hs x (by simp[hx])).1,by have:=hu.1 x hx;omega,(hs x (by simp[hx])).2.2⟩) (x1n hc hf.n.ok ha) (.inr ?_) (by omega);have el:(mrg c s.2).2.2.1.1=s.2.2.2.1.1:=by
   unfold mrg;by_cases k:c=z0
   ·rw[if_pos k]
   ·rw[if_neg k,if_neg hf.n.ne]
  rw[el,hf.l];omega
theorem o1f {t:List Slo} {w i j a:Int} (h:TierOk t w) (hb:b0b t a) (h0:0≤i) (ha:i≤a):b0y (h0x t i j).1∧((h0x t i j).1=z0∨(h0x t i j).1.2.2.1.1 / w<a):=by
 refine ⟨y0k _ _ _,?_⟩;unfold h0x;split
 ·exact .inl rfl
 ·unfold within;have hn:=(i0x h a).1 hb;refine p2j (w:=w) _ z0 i a ((q1d h).filter _) (fun s hs => ?_) u0j (.inl rfl) ha;obtain ⟨s1,s2⟩:=List.mem_filter.1 hs;have s2:=of_decide_eq_true s2;exact ⟨(n0m h s1).1,s2.1,hn s s1⟩
theorem f2r {a b:Cel} {w k:Int} (hw:1≤w) (ha:a=z0∨a.2.2.1.1 / w<k) (hb:b=z0∨b.2.1.1 / w=k):Ahead a b:=by
 rcases ha with ha | ha
 ·exact .inl ha
 rcases hb with hb | hb
 ·exact .inr (.inl hb)
 refine .inr (.inr ?_);rcases Int.lt_or_le a.2.2.1.1 b.2.1.1 with q | q
 ·exact q
 ·have:=Int.ediv_le_ediv (c:=w) (by omega) q;omega
theorem j2p {w:Int}:∀(L:List Slo) (c:Cel) (lo:Int),Up L→(∀s∈L,FitsP s.2 w s.1∧lo≤s.1)→b0y c→(c=z0∨c.2.2.1.1 / w<lo)→∀b:Int,(c=z0∨b≤c.2.1.1 / w)→b≤lo→(allE c (L.map (·.2))).1=z0∨b≤(allE c (L.map (·.2))).1.2.1.1 / w:=by
 intro L;induction L with
 | nil=>intro c lo _ _ _ _ b hb _;exact hb
 | cons s L ih =>
  intro c lo hu hs hc hl b hb hbl;unfold Up at hu;rw[List.pairwise_cons] at hu;obtain ⟨hf,h1⟩:=hs s (by simp);have ha:Ahead c s.2:=by
   rcases hl with h | h
   ·exact .inl h
   ·refine .inr (.inr ?_);have e:=hf.f;rcases Int.lt_or_le c.2.2.1.1 s.2.2.1.1 with q | q
    ·exact q
    ·have:=Int.ediv_le_ediv (c:=w) (by have:=hf.w0;omega) q;omega
  simp only[List.map_cons,allE];rw[a1m hc hf.n.ok ha,if_pos rfl];refine ih _ (s.1+1) hu.2 (fun x hx=>⟨(hs x (by simp[hx])).1,by have:=hu.1 x hx;omega⟩) (x1n hc hf.n.ok ha) (.inr ?_) b ?_ (by omega)
  ·have el:(mrg c s.2).2.2.1.1=s.2.2.2.1.1:=by
    unfold mrg;by_cases k:c=z0
    ·rw[if_pos k]
    ·rw[if_neg k,if_neg hf.n.ne]
   rw[el,hf.l];omega
  ·unfold mrg;by_cases k:c=z0
   ·rw[if_pos k,hf.f];exact .inr (by omega)
   ·rw[if_neg k,if_neg hf.n.ne];rcases hb with hb | hb
    ·exact absurd hb k
    ·exact .inr hb
theorem z1o {t:List Slo} {w i j:Int} (h:TierOk t w) (h0:0≤i):(h0x t i j).1=z0∨i≤(h0x t i j).1.2.1.1 / w:=by
 unfold h0x;split
 ·exact .inl rfl
 ·unfold within;refine j2p (w:=w) _ z0 i ((q1d h).filter _) (fun s hs => ?_) u0j (.inl rfl) i (.inl rfl) (Int.le_refl _);obtain ⟨s1,s2⟩:=List.mem_filter.1 hs;have s2:=of_decide_eq_true s2;exact ⟨(n0m h s1).1,s2.1⟩
end Go.Proofs.YtgkpkajaepphjaaGreatDoor
