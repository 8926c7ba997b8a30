/-
 Plain proofs about the functions of this seat, part 2 of 3.
-/
import Derived.Test.YtfibfcjepngbmaaGreatDoorQ1
import Derived.Test.YtfibfcjepngbmaaGreatDoorTr
import Derived.Test.YtfibfcjepngbmaaGreatDoorFlatM4
set_option linter.unusedVariables false
set_option linter.unusedSimpArgs false
open Go.IntKind (wrap)
namespace Go.Proofs.YtfibfcjepngbmaaGreatDoor
open Go.Flat Go.Plim
def Runs (key:a0c->Int)(d:List a0c)(B N:Nat):Prop:=∀c,B ∣ c->Srt key d c (min (c+B) N)
theorem j0h {B a c:Nat}(ha:B ∣ a)(hc:B ∣ c)(h:a<c):a+B<=c:=by
 obtain ⟨x,rfl⟩:=ha;obtain ⟨y,rfl⟩:=hc;have:x<y:=Nat.lt_of_mul_lt_mul_left h
 calc B*x+B=B*(x+1):=by rw[Nat.mul_succ]
  _<=B*y:=Nat.mul_le_mul_left B this
section
variable {cmp:(a0c×(a0c×Unit))->Option Int}{key:a0c->Int}(hc:Cmp cmp key)
include hc
theorem d2g (n:Nat)(N:Nat)(n_:Int)(hn:n_=N):∀(k f a:Nat) (d:List a0c),N-a<=k->k<f->20 ∣ a->a<=N->N=d.length->d.length<=100000000000->(∀c,20 ∣ c->c<a->Srt key d c (min (c+20) N)) ->
  ∃d' a',l0t (n+1) f (d,n_,cmp,(20:Int),(a:Int),((a+20:Nat):Int),())=some (.inl (d',n_,cmp,(20:Int),((a':Nat):Int),()))/\20 ∣ a'/\a'<=N/\N<a'+20/\Mv d d' 0 N /\
   (∀c,20 ∣ c->c<a'->Srt key d' c (min (c+20) N)):=by
 subst hn;intro k;induction k with
 | zero =>
  intro f a d hk hf h20 haN hN hL hs;obtain ⟨f,rfl⟩:∃g,f=g+1:=⟨f-1,by omega⟩;rw[u0e];simp only[tfd,q0n (show ¬(((a+20:Nat):Int)<=(N:Int)) by omega)];exact ⟨d,a,rfl,h20,haN,by omega,.refl _ _ _,hs⟩
 | succ k ih =>
  intro f a d hk hf h20 haN hN hL hs;obtain ⟨f,rfl⟩:∃g,f=g+1:=⟨f-1,by omega⟩;rw[u0e];by_cases hle:a+20<=N
  ·obtain ⟨d1,r1,r2,r3⟩:=ins_ok hc n (a:Int) ((a+20:Nat):Int) a (a+20) rfl rfl d (by omega) (by omega) (by omega);have l1:=r2.len;simp only[tfd,q0z (show (((a+20:Nat):Int)<=(N:Int)) by omega),r1,obs];rw[wn (x:=((a+20:Nat):Int)+20) (k:=a+20+20) (by omega) (by omega)];obtain ⟨d',a',s1,s2,s3,s4,s5,s6⟩:=ih f (a+20) d1 (by omega) (by omega) (by omega) (by omega) (by omega) (by omega) (fun c c1 c2=>by
    by_cases e:c<a
    ·have:=j0h c1 h20 e;exact (hs c c1 e).keep r2 (.inl (by omega))
    ·have:c=a:=by
      rcases Nat.lt_or_eq_of_le (Nat.le_of_not_lt e) with h | h
      ·have:=j0h h20 c1 h;omega
      ·exact h.symm
     subst this;rw[Nat.min_eq_left (by omega)]
     exact r3)
   exact ⟨d',a',s1,s2,s3,s4,(r2.mono (by omega) (by omega)).trans s5,s6⟩
  ·simp only[tfd,q0n (show ¬(((a+20:Nat):Int)<=(N:Int)) by omega)];exact ⟨d,a,rfl,h20,haN,by omega,.refl _ _ _,hs⟩
theorem d2e (n dd:Nat)(N B:Nat)(n_:Int)(hn:n_=N)(hB:0<B)(hBN:B<N)(hdd:N<=2^dd):∀(k f a:Nat) (d:List a0c),N-a<=k->k<f->2*B ∣ a->a<=N->N=d.length->d.length<=100000000000 ->
  (∀c,2*B ∣ c->c<a->Srt key d c (min (c+2*B) N))->(∀c,B ∣ c->a<=c->Srt key d c (min (c+B) N)) ->
  ∃d' a',q0m (n+dd+2) f (d,n_,cmp,(B:Int),(a:Int),((a+2*B:Nat):Int),())=some (.inl (d',n_,cmp,(B:Int),((a':Nat):Int),()))/\2*B ∣ a'/\a'<=N/\N<a'+2*B/\Mv d d' 0 N /\
   (∀c,2*B ∣ c->c<a'->Srt key d' c (min (c+2*B) N))/\(∀c,B ∣ c->a'<=c->Srt key d' c (min (c+B) N)):=by
 subst hn;have dB:B ∣ 2*B:=⟨2,by omega⟩;intro k;induction k with
 | zero =>
  intro f a d hk hf h20 haN hN hL hs hs';obtain ⟨f,rfl⟩:∃g,f=g+1:=⟨f-1,by omega⟩;rw[u0c];simp only[tfd,q0n (show ¬(((a+2*B:Nat):Int)<=(N:Int)) by omega)];exact ⟨d,a,rfl,h20,haN,by omega,.refl _ _ _,hs,hs'⟩
 | succ k ih =>
  intro f a d hk hf h20 haN hN hL hs hs';obtain ⟨f,rfl⟩:∃g,f=g+1:=⟨f-1,by omega⟩;rw[u0c];by_cases hle:a+2*B<=N
  ·have ba:B ∣ a:=Nat.dvd_trans dB h20;have q1:=hs' a ba (q2e _);have q2:=hs' (a+B) (Nat.dvd_add ba (Nat.dvd_refl _)) (by omega);rw[Nat.min_eq_left (by omega)] at q1 q2;rw[wn (x:=(a:Int)+B) (k:=a+B) (by omega) (by omega)];obtain ⟨d1,r1,r2,r3⟩:=a1l hc dd n (a:Int) ((a+B:Nat):Int) ((a+2*B:Nat):Int) a (a+B) (a+2*B) d rfl rfl rfl (by omega) (by omega) (by omega) (by omega) (by omega) q1 (q2.mono (by omega) (by omega));have l1:=r2.len;simp only[tfd,q0z (show (((a+2*B:Nat):Int)<=(N:Int)) by omega),r1,obs]
   rw[wn (x:=2*(B:Int)) (k:=2*B) (by omega) (by omega),wn (x:=((a+2*B:Nat):Int)+((2*B:Nat):Int)) (k:=a+2*B+2*B) (by omega) (by omega)];obtain ⟨d',a',s1,s2,s3,s4,s5,s6,s7⟩:=ih f (a+2*B) d1 (by omega) (by omega) (Nat.dvd_add h20 (Nat.dvd_refl _)) (by omega) (by omega) (by omega) (fun c c1 c2=>by
    by_cases e:c<a
    ·have:=j0h c1 h20 e;exact (hs c c1 e).keep r2 (.inl (by omega))
    ·have:c=a:=by
      rcases Nat.lt_or_eq_of_le (Nat.le_of_not_lt e) with h | h
      ·have:=j0h h20 c1 h;omega
      ·exact h.symm
     subst this;rw[Nat.min_eq_left (by omega)]
     exact r3)
    (fun c c1 c2=>(hs' c c1 (by omega)).keep r2 (.inr (by omega)))
   exact ⟨d',a',s1,s2,s3,s4,(r2.mono (by omega) (by omega)).trans s5,s6,s7⟩
  ·simp only[tfd,q0n (show ¬(((a+2*B:Nat):Int)<=(N:Int)) by omega)];exact ⟨d,a,rfl,h20,haN,by omega,.refl _ _ _,hs,hs'⟩
theorem d2f (n dd:Nat)(N:Nat)(n_:Int)(hn:n_=N)(hdd:N<=2^dd):∀(k f B:Nat) (d:List a0c),N-B<=k->k<f->0<B->B<=200000000000->N=d.length->d.length<=100000000000->Runs key d B N ->
  ∃d',j0m (n+dd+2) f (d,n_,cmp,(B:Int),())=some (.inl (d',()))/\Mv d d' 0 N/\Srt key d' 0 N:=by
 subst hn;intro k;induction k with
 | zero =>
  intro f B d hk hf hB hBl hN hL hs;obtain ⟨f,rfl⟩:∃g,f=g+1:=⟨f-1,by omega⟩;rw[u0d];simp only[tfd,q0n (show ¬((B:Int)<(N:Int)) by omega)];have:=hs 0 (Nat.dvd_zero _);rw[Nat.min_eq_right (by omega)] at this;exact ⟨d,rfl,.refl _ _ _,this⟩
 | succ k ih =>
  intro f B d hk hf hB hBl hN hL hs;obtain ⟨f,rfl⟩:∃g,f=g+1:=⟨f-1,by omega⟩;rw[u0d];by_cases hlt:B<N
  ·obtain ⟨d1,a,r1,r2,r3,r4,r5,r6,r7⟩:=d2e hc n dd N B (N:Int) rfl hB hlt hdd N a0b 0 d (by omega) (by unfold a0b;omega) (Nat.dvd_zero _) (by omega) hN hL (fun c _ h=>by omega) (fun c h _=>hs c h);have l1:=r5.len;rw[Nat.zero_add] at r1;simp only[tfd,q0z (show ((B:Int)<(N:Int)) by omega),wn (x:=2*(B:Int)) (k:=2*B) (by omega) (by omega)];rw[show (0:Int)=((0:Nat):Int) from rfl,r1];simp only[obs,b0h,wn (x:=(a:Int)+B) (k:=a+B) (by omega) (by omega),wn (x:=(B:Int)*2) (k:=2*B) (by omega) (by omega)];have dB:B ∣ 2*B:=⟨2,by omega⟩;have ba:B ∣ a:=Nat.dvd_trans dB r2
   by_cases hm:a+B<N
   ·have q1:=r7 a ba (q2e _);have q2:=r7 (a+B) (Nat.dvd_add ba (Nat.dvd_refl _)) (by omega);rw[Nat.min_eq_left (by omega)] at q1;rw[Nat.min_eq_right (by omega)] at q2;obtain ⟨d2,t1,t2,t3⟩:=a1l hc dd n (a:Int) ((a+B:Nat):Int) (N:Int) a (a+B) N d1 rfl rfl rfl (by omega) (by omega) (by omega) (by omega) (by omega) q1 q2;have l2:=t2.len;simp only[q0z (show (((a+B:Nat):Int)<(N:Int)) by omega),t1,obs];obtain ⟨d3,u1,u2,u3⟩:=ih f (2*B) d2 (by omega) (by omega) (by omega) (by omega) (by omega) (by omega) (fun c hcd=>by
     by_cases e:c<a
     ·have:=j0h hcd r2 e;exact (r6 c hcd e).keep t2 (.inl (by omega))
     ·by_cases e':c=a
      ·subst e';exact t3.mono (q2e _) (by omega)
      ·have:=j0h r2 hcd (by omega)
       exact Srt.one _ _ (by omega))
    exact ⟨d3,u1,(r5.trans (t2.mono (by omega) (by omega))).trans u2,u3⟩
   ·simp only[q0n (show ¬(((a+B:Nat):Int)<(N:Int)) by omega)];obtain ⟨d3,u1,u2,u3⟩:=ih f (2*B) d1 (by omega) (by omega) (by omega) (by omega) (by omega) (by omega) (fun c hcd=>by
     by_cases e:c<a
     ·exact r6 c hcd e
     ·by_cases e':c=a
      ·subst e';have q1:=r7 c ba (q2e _);exact q1.mono (q2e _) (by omega)
      ·have:=j0h r2 hcd (by omega)
       exact Srt.one _ _ (by omega))
    exact ⟨d3,u1,r5.trans u2,u3⟩
  ·simp only[tfd,q0n (show ¬((B:Int)<(N:Int)) by omega)];have:=hs 0 (Nat.dvd_zero _);rw[Nat.min_eq_right (by omega)] at this;exact ⟨d,rfl,.refl _ _ _,this⟩
theorem i1c (n dd:Nat)(d:List a0c)(hL:d.length<=2^dd)(hL':d.length<=100000000000) :
  ∃d',e0h (n+dd+4) d cmp=some d'/\d'.Perm d/\Srt key d' 0 d.length:=by
 rw[l0h,y1v];obtain ⟨d1,a,r1,r2,r3,r4,r5,r6⟩:=d2g hc (n+dd+1) d.length (d.length:Int) rfl d.length a0b 0 d (by omega) (by unfold a0b;omega) (Nat.dvd_zero _) (by omega) rfl hL' (fun c _ h=>by omega);have l1:=r5.len;obtain ⟨d2,s1,s2,s3⟩:=ins_ok hc (n+dd+1) (a:Int) (d.length:Int) a d.length rfl rfl d1 r3 (by omega) (by omega);have l2:=s2.len;obtain ⟨d3,t1,t2,t3⟩:=d2f hc n dd d.length (d.length:Int) rfl hL d.length a0b 20 d2 (by omega) (by unfold a0b;omega) (by omega) (by omega) (by omega) (by omega) (fun c hcd=>by
  by_cases e:c<a
  ·have:=j0h hcd r2 e;exact (r6 c hcd e).keep s2 (.inl (by omega))
  ·by_cases e':c=a
   ·subst e';exact s3.mono (q2e _) (by omega)
   ·have:=j0h r2 hcd (by omega)
    exact Srt.one _ _ (by omega))
 have r1':l0t (n+dd+2) a0b (d,((d.length:Nat):Int),cmp,(20:Int),(0:Int),(20:Int),())=_:=r1;rw[r1'];simp only[obs,b0h,s1];have t1':j0m (n+dd+2) a0b (d2,((d.length:Nat):Int),cmp,(20:Int),())=_:=t1;rw[t1'];exact ⟨d3,by simp,(t2.perm.trans s2.perm).trans r5.perm,t3⟩
end
end Go.Proofs.YtfibfcjepngbmaaGreatDoor
namespace Go.Plim
abbrev Slo:=Int×Cel
instance decSlo:DecidableEq Slo := @instDecidableEqProd _ _ _ decCel
def s0:Slo:=(0,z0)
structure FitsP (c:Cel)(w i:Int):Prop where
 n:CellN c
 w0:1<=w
 w1:w<=1099511627776
 f:c.2.1.1 / w=i
 l:c.2.2.1.1 / w=i
theorem FitsP.i0 {c:Cel}{w i:Int}(h:FitsP c w i):0<=i/\i<35184372088832:=by
 obtain ⟨n,w0,w1,f,l⟩:=h;have h1:=n.f.t0;have h2:=n.f.t1;have:0<=c.2.1.1 / w:=Int.ediv_nonneg h1 (by omega);have:c.2.1.1 / w<=c.2.1.1:=Int.ediv_le_self _ h1;omega
structure TierOk (l:List Slo)(w:Int):Prop where
 l0:1<=l.length
 l1:l.length<=4096
 w0:1<=w
 w1:w<=1099511627776
 s:∀(j:Nat) s,l[j]? = some s->s=s0\/(s.1 % (l.length:Int)=j/\FitsP s.2 w s.1)
noncomputable instance (c w i):Decidable (FitsP c w i):=Classical.propDecidable _
noncomputable instance (l w):Decidable (TierOk l w):=Classical.propDecidable _
def tget (l:List Slo)(i:Int):Cel :=
 if i<0 then z0 else match l[(i % (l.length:Int)).toNat]? with | some s=>if s.1=i then s.2 else z0 | none=>z0
def Up (l:List Slo):Prop:=l.Pairwise fun a b=>a.1<b.1
theorem up_perm:∀ {a b:List Slo},Up a->Up b->a.Perm b->a=b:=by
 intro a;induction a with
 | nil=>intro b _ _ h;exact h.nil_eq
 | cons x a ih =>
  intro b ha hb h;cases b with
  | nil=>exact absurd h.length_eq (by simp)
  | cons y b =>
   unfold Up at *
   rw[List.pairwise_cons] at ha hb;have hx:x∈y::b:=h.subset (by simp);have hy:y∈x::a:=h.symm.subset (by simp);have e:x=y:=by
    rcases q2l.1 hx with e | hx
    ·exact e
    ·rcases q2l.1 hy with e | hy
     ·exact e.symm
     ·have:=hb.1 x hx;have:=ha.1 y hy;omega
   subst e;rw[ih ha.2 hb.2 (List.Perm.cons_inv h)]
def f0y (l:List Slo):List Slo:=l.filter fun s=>decide (s≠s0)
theorem TierOk.apart {l:List Slo}{w:Int}(h:TierOk l w):(f0y l).Pairwise fun a b=>a.1≠b.1:=by
 have key:∀(m:List Slo) (k:Nat),(∀(j:Nat) s,m[j]? = some s->s=s0\/s.1 % (l.length:Int)=((k+j:Nat):Int))->(f0y m).Pairwise fun a b=>a.1≠b.1:=by
  intro m;induction m with
  | nil=>intro k _;exact .nil
  | cons x m ih =>
   intro k hm;have ih':=ih (k+1) (fun j s hs=>by
    have:=hm (j+1) s hs
    rwa [show k+(j+1)=k+1+j by omega] at this)
   unfold f0y at *
   by_cases hx:x=s0
   ·rw[List.filter_cons_of_neg (by simp[hx])];exact ih'
   ·rw[List.filter_cons_of_pos (by simp[hx])];refine List.pairwise_cons.2 ⟨fun y hy => ?_,ih'⟩;have hy':=q3m.1 hy;obtain ⟨j,hj⟩:=List.getElem?_of_mem hy'.1;have h1:=(hm 0 x rfl).resolve_left hx;have h2:=(hm (j+1) y hj).resolve_left (by simpa using hy'.2);intro e;rw[e,h2] at h1;omega
 exact key l 0 (fun j s hs=>by
  rcases h.s j s hs with e | e
  ·exact .inl e
  ·exact .inr (by rw[e.1,Nat.zero_add]))
def tall (l:List Slo):List Slo:=(f0y l).mergeSort fun a b=>decide (a.1<=b.1)
theorem t0t (l:List Slo):(tall l).Perm (f0y l):=List.mergeSort_perm _ _
theorem up_of {l:List Slo}(h:l.Pairwise fun a b=>a.1<=b.1)(h':l.Pairwise fun a b=>a.1≠b.1):Up l:=by
 have:=h.and h';exact this.imp (fun {a b} k=>by have:=k.1;have:=k.2;omega)
theorem tall_up {l:List Slo}{w:Int}(h:TierOk l w):Up (tall l):=by
 refine up_of ?_ ((t0t l).pairwise_iff (fun {a b} k=>k.symm) |>.2 h.apart);have:=List.pairwise_mergeSort (le:=fun a b:Slo=>decide (a.1<=b.1)) (fun a b c h1 h2=>by simp at *;omega) (fun a b=>by simp;omega) (f0y l);exact this.imp (fun {a b} k=>by simpa using k)
theorem c2w {l r:List Slo}{w:Int}(h:TierOk l w)(hp:r.Perm (f0y l))(hs:r.Pairwise fun a b=>a.1<=b.1):r=tall l:=by
 refine up_perm (up_of hs (hp.pairwise_iff (fun {a b} k=>k.symm) |>.2 h.apart)) (tall_up h) (hp.trans (t0t l).symm)
theorem r0e {l:List Slo}{s:Slo}:s∈tall l↔s∈l/\s≠s0:=by
 rw[(t0t l).mem_iff];simp[f0y]
theorem j0w {l:List Slo}{w:Int}(h:TierOk l w){s:Slo}(hs:s∈tall l):FitsP s.2 w s.1/\l[(s.1 % (l.length:Int)).toNat]? = some s:=by
 obtain ⟨h1,h2⟩:=r0e.1 hs;obtain ⟨j,hj⟩:=List.getElem?_of_mem h1;obtain ⟨h3,h4⟩:=(h.s j s hj).resolve_left h2;refine ⟨h4,?_⟩;rw[h3];exact hj
theorem tget_mem {l:List Slo}{w:Int}(h:TierOk l w){s:Slo}(hs:s∈tall l):tget l s.1=s.2:=by
 obtain ⟨h1,h2⟩:=j0w h hs;unfold tget;rw[q0n (by have:=h1.i0;omega),h2];simp
def within (l:List Slo)(i k:Int):List Cel:=((tall l).filter fun s=>decide (i<=s.1/\s.1<k)).map (·.2)
def m1k (l:List Slo)(i k:Int):Cel×Int:=if i<0\/k<i then (z0,1) else allE z0 (within l i k)
def tput (l:List Slo)(i:Int)(c:Cel):List Slo:=l.set (i % (l.length:Int)).toNat (i,c)
theorem h1g {l:List Slo}{w i:Int}{c:Cel}(h:TierOk l w)(hf:FitsP c w i):TierOk (tput l i c) w:=by
 obtain ⟨l0,l1,w0,w1,hs⟩:=h;refine ⟨by simpa [tput] using l0,by simpa [tput] using l1,w0,w1,fun j s hj => ?_⟩;unfold tput at hj;have hi:=hf.i0;have hm:0<=i % (l.length:Int):=Int.emod_nonneg _ (by omega);rw[List.getElem?_set] at hj;simp only[tput,q3k];by_cases e:(i % (l.length:Int)).toNat=j
 ·rw[q0z e] at hj;split at hj
  ·injection hj with hj;subst hj;exact .inr ⟨by simp only;omega,hf⟩
  ·cases hj
 ·rw[q0n e] at hj;exact hs j s hj
end Go.Plim
namespace Go.Proofs.YtfibfcjepngbmaaGreatDoor
open Go.Flat Go.Plim
structure SloW (s:Slo):Prop where
 i:I64 s.1
 c:CelW s.2
theorem d2l (a b:Slo):((decide (a.1=b.1))&&((decide (a.2.1=b.2.1))&&((decide (a.2.2.1.1=b.2.2.1.1))&&((decide (a.2.2.1.2.1=b.2.2.1.2.1))&&((decide (a.2.2.1.2.2.1=b.2.2.1.2.2.1))&&((a.2.2.1.2.2.2==b.2.2.1.2.2.2)&&((decide (a.2.2.2.1.1=b.2.2.2.1.1))&&((decide (a.2.2.2.1.2.1=b.2.2.2.1.2.1))&&((decide (a.2.2.2.1.2.2.1=b.2.2.2.1.2.2.1))&&((a.2.2.2.1.2.2.2==b.2.2.2.1.2.2.2)&&((decide (a.2.2.2.2.1.1=b.2.2.2.2.1.1))&&((decide (a.2.2.2.2.1.2=b.2.2.2.2.1.2))&&((decide (a.2.2.2.2.2.1=b.2.2.2.2.2.1))&&((decide (a.2.2.2.2.2.2.1=b.2.2.2.2.2.2.1))&&(decide (a.2.2.2.2.2.2.2=b.2.2.2.2.2.2.2))))))))))))))))=decide (a=b):=by
 rw[celEq a.2 b.2,Bool.eq_iff_iff];simp[Prod.ext_iff]
theorem x0x (a:Slo):((decide (a.1=(0:Int)))&&((decide (a.2.1=(0:Int)))&&((decide (a.2.2.1.1=(0:Int)))&&((decide (a.2.2.1.2.1=(0:Int)))&&((decide (a.2.2.1.2.2.1=(0:Int)))&&((a.2.2.1.2.2.2==false)&&((decide (a.2.2.2.1.1=(0:Int)))&&((decide (a.2.2.2.1.2.1=(0:Int)))&&((decide (a.2.2.2.1.2.2.1=(0:Int)))&&((a.2.2.2.1.2.2.2==false)&&((decide (a.2.2.2.2.1.1=(0:Int)))&&((decide (a.2.2.2.2.1.2=(0:Int)))&&((decide (a.2.2.2.2.2.1=(0:Int)))&&((decide (a.2.2.2.2.2.2.1=(0:Int)))&&(decide (a.2.2.2.2.2.2.2=(0:Int)))))))))))))))))=decide (a=s0):=d2l a s0
theorem wi_in (n:Nat)(x a b:Int):n0g (n+1) x a b=some (decide (a<=x/\x<=b)):=by
 rw[c1p];by_cases h1:a<=x<;>by_cases h2:x<=b<;>simp[h1,h2]
def OfP (t w:Int):Prop:=0<=t/\t<35184372088832/\1<=w/\w<=1099511627776
instance (t w:Int):Decidable (OfP t w):=by unfold OfP;infer_instance
theorem v0d {t w:Int}(h:OfP t w):0<=t / w/\t / w<35184372088832:=by
 obtain ⟨h1,h2,h3,h4⟩:=h;have:0<=t / w:=Int.ediv_nonneg h1 (by omega);have:t / w<=t:=Int.ediv_le_self _ h1;omega
theorem wi_of (n:Nat)(t w:Int):y1g (n+3) t w=some (if OfP t w then (t / w,0) else (0,1)):=by
 rw[wi_Of_eq,r1d,wi_in,wi_in];simp only[obs,tfn,tfd];by_cases h:OfP t w
 ·have hq:=v0d h;rw[q0z h];obtain ⟨h1,h2,h3,h4⟩:=h;rw[q0z (show (0:Int)<=t/\t<=35184372088831 by omega),q0z (And.intro h3 h4),q0n (show ¬(w=0) by omega),j0v h1,w64 (by omega) (by omega)]
 ·rw[q0n h];by_cases h1:(0:Int)<=t/\t<=35184372088831
  ·rw[q0z h1,q0n (fun k=>h ⟨h1.1,by omega,k.1,k.2⟩)]
  ·rw[q0n h1]
theorem w1l (n:Nat)(t w:Int):f1k (n+2) t w=some (if OfP t w then (t / w,0) else (0,1)):=by
 rw[e2n,o1e];simp only[tfd];by_cases h:OfP t w
 ·have hq:=v0d h;rw[q0z h];obtain ⟨h1,h2,h3,h4⟩:=h;rw[q0n (show ¬(t<0) by omega),q0n (show ¬((35184372088832:Int)<=t) by omega),q0z h3,q2a h4];simp only[obs,q2t,tff];rw[q0n (show ¬(w=0) by omega),e0k h1];have e:t-t % w=w*(t / w):=by have:=Int.mul_ediv_add_emod t w;omega
  have m0:=Int.emod_nonneg t (show w≠0 by omega);have m1:t % w<=t:=by
   have:=Int.mul_nonneg (show 0<=w by omega) hq.1;omega
  rw[w64 (x:=t-t % w) (by omega) (by omega),j0v (by omega),e,Int.mul_ediv_cancel_left _ (show w≠0 by omega),w64 (by omega) (by omega),q0n (show ¬(w=0) by omega)]
 ·rw[q0n h];by_cases h1:t<0
  ·rw[q0z h1]
  by_cases h2:(35184372088832:Int)<=t
  ·rw[q0n h1,q0z h2]
  rw[q0n h1,q0n h2];by_cases h3:(1:Int)<=w
  ·have h4:¬(w<=1099511627776):=fun k=>h ⟨by omega,by omega,h3,k⟩
   rw[q0z h3,q1z h4];rfl
  ·rw[q0n h3];rfl
def t0y (i n:Int):Int:=if i<0 then 0 else if n<1 then 0 else i % n
theorem c2h (n:Nat)(i m:Int):g1y (n+1) i m=some (t0y i m):=by
 rw[y1f];simp only[tfd];unfold t0y;by_cases h1:i<0
 ·rw[q0z h1,q0z h1]
 by_cases h2:m<1
 ·rw[q0n h1,q0n h1,q0z h2,q0z h2]
 rw[q0n h1,q0n h1,q0n h2,q0n h2,q0n (by omega),e0k (by omega)]
theorem j1a (n:Nat)(i m:Int):u0x (n+1) i m=some (t0y i m):=by
 rw[t1n];simp only[tfd];unfold t0y;by_cases h1:i<0
 ·rw[q0z h1,q0z h1]
 by_cases h2:m<1
 ·rw[q0n h1,q0n h1,q0z h2,q0z h2]
 rw[q0n h1,q0n h1,q0n h2,q0n h2,q0n (by omega),e0k (by omega)]
theorem l0r {i n:Int}(hi:0<=i)(hn:1<=n):t0y i n=i % n:=by
 unfold t0y;rw[q0n (by omega),q0n (by omega)]
theorem p1z (c:Cel)(w i:Int):FitsP c w i↔c≠z0/\b0x c/\OfP c.2.1.1 w/\c.2.1.1 / w=i/\OfP c.2.2.1.1 w/\c.2.2.1.1 / w=i:=by
 constructor
 ·rintro ⟨n,w0,w1,f,l⟩;exact ⟨n.ne,n.ok,⟨n.f.t0,n.f.t1,w0,w1⟩,f,⟨n.l.t0,n.l.t1,w0,w1⟩,l⟩
 ·rintro ⟨h1,h2,h3,h4,h5,h6⟩;exact ⟨h2.n h1,h3.2.2.1,h3.2.2.2,h4,h6⟩
theorem of01 (p:Prop)[Decidable p](x:Int):((if p then (x,(0:Int)) else (0,1)).2=0)↔p:=by by_cases h:p<;>simp[h]
theorem g2w (n f:Nat)(w i:Int)(s:Int×Int):e0l n (f+1) (w,i,s,(2:Int),())=some (.inl ()):=by
 rw[j0t,show (decide ((2:Int)<2))=false from rfl,tff]
theorem g2x (n f:Nat)(w i:Int)(s:Int×Int):e0l (n+3) (f+2) (w,i,s,(1:Int),())=some (if OfP s.2 w/\s.2 / w=i then .inl () else .inr false):=by
 rw[j0t,show (decide ((1:Int)<2))=true from rfl,tft,show (decide ((1:Int)=0))=false from rfl,tff,show (decide ((1:Int)=1))=true from rfl,tft,wi_of];simp only[tfd,tfn,obs,of01];rw[show wrap .i64 ((1:Int)+1)=2 from rfl,g2w];by_cases h3:OfP s.2 w
 ·rw[q0z h3,q0z h3];by_cases h4:s.2 / w=i
  ·rw[q0z h4,q0z (And.intro h3 h4)]
  ·rw[q0n h4,q0n (fun k=>h4 k.2)]
 ·rw[q0n h3,q0n (fun k=>h3 k.1)]
theorem g2y (n f:Nat)(w i:Int)(s:Int×Int):e0l (n+3) (f+3) (w,i,s,(0:Int),())=some (if (OfP s.1 w/\s.1 / w=i)/\(OfP s.2 w/\s.2 / w=i) then .inl () else .inr false):=by
 rw[j0t,show (decide ((0:Int)<2))=true from rfl,tft,show (decide ((0:Int)=0))=true from rfl,tft,wi_of];simp only[tfd,tfn,obs,of01];rw[show wrap .i64 ((0:Int)+1)=1 from rfl,g2x];by_cases h3:OfP s.1 w
 ·rw[q0z h3,q0z h3];by_cases h4:s.1 / w=i
  ·rw[q0z h4];by_cases h5:OfP s.2 w/\s.2 / w=i
   ·rw[q0z h5,q0z (And.intro (And.intro h3 h4) h5)]
   ·rw[q0n h5,q0n (fun k=>h5 k.2)]
  ·rw[q0n h4,q0n (fun k=>h4 k.1.2)]
 ·rw[q0n h3,q0n (fun k=>h3 k.1.1)]
theorem t0o (n:Nat){c:Cel}(hc:CelW c)(w i:Int):j0u (n+6) c w i=some (decide (FitsP c w i)):=by
 rw[m1i,x0q n hc];simp only[tfd,obs,tfn,z02];have e:a0b=(2^70-3)+3:=by decide
 rw[e,g2y];have hiff:=p1z c w i;by_cases h1:c.1=0
 ·rw[q0z h1,q1z];intro k;have:=k.n.n1;omega
 rw[q0n h1];by_cases h2:b0x c
 case neg=>rw[q0n h2,q1z (fun k=>h2 (hiff.1 k).2.1)]
 rw[q0z h2];by_cases h3:(OfP c.2.1.1 w/\c.2.1.1 / w=i)/\(OfP c.2.2.1.1 w/\c.2.2.1.1 / w=i)
 ·rw[q0z h3,q2a (hiff.2 ⟨mt h2.count.1.2 h1,h2,h3.1.1,h3.1.2,h3.2.1,h3.2.2⟩)];rfl
 ·rw[q0n h3,q1z (fun k=>h3 (by have:=hiff.1 k;exact ⟨⟨this.2.2.1,this.2.2.2.1⟩,this.2.2.2.2⟩))];rfl
theorem z0n (n:Nat){c:Cel}(hc:CelW c)(w i:Int):q0t (n+5) c w i=some (decide (FitsP c w i)):=by
 rw[t1h,b1d n hc,w1l,w1l];simp only[tfd,obs,tfn,z02,of01];have hiff:=p1z c w i;by_cases h2:b0x c
 case neg=>rw[q0n h2,q1z (fun k=>h2 (hiff.1 k).2.1)]
 rw[q0z h2];by_cases h1:c.1=0
 ·rw[q0z h1,q1z];intro k;have:=k.n.n1;omega
 rw[q0n h1];by_cases h3:OfP c.2.1.1 w
 case neg=>rw[q0n h3,q1z (fun k=>h3 (hiff.1 k).2.2.1)]
 rw[q0z h3,q0z h3];by_cases h5:OfP c.2.2.1.1 w
 case neg=>rw[q0n h5,q1z (fun k=>h5 (hiff.1 k).2.2.2.2.1)]
 rw[q0z h5,q0z h5];by_cases h4:c.2.1.1 / w=i
 case neg=>rw[q0n h4,q1z (fun k=>h4 (hiff.1 k).2.2.2.1)]
 rw[q0z h4];congr 1;exact q2s.2 ⟨fun h6=>hiff.2 ⟨mt h2.count.1.2 h1,h2,h3,h4,h5,h6⟩,fun k=>(hiff.1 k).2.2.2.2.2⟩
theorem t0n (n:Nat)(s:Slo):o0r (n+1) s=some (decide (s=s0)):=by rw[m1e,x0x]
def t0e (m w:Int)(j:Int)(s:Slo):Prop:=s=s0\/(t0y s.1 m=j/\FitsP s.2 w s.1)
theorem m1g (n:Nat)(l:List Slo)(w:Int)(hL:l.length<=4096)(hw:∀s∈l,SloW s):∀(rest pre:List Slo) (f:Nat) (i len:Int),l=pre++rest->i=pre.length->len=l.length->rest.length<f ->
  ((∀(j:Nat) s,rest[j]? = some s->t0e l.length w (i+j) s)->e0u (n+6) f (l,w,l,len,i,())=some (.inl ())) /\
  (¬(∀(j:Nat) s,rest[j]? = some s->t0e l.length w (i+j) s)->e0u (n+6) f (l,w,l,len,i,())=some (.inr 2)):=by
 intro rest;induction rest with
 | nil =>
  intro pre f i len hl hi hn hf;obtain ⟨f,rfl⟩:=FSu hf;rw[o0n];refine ⟨fun _=>by simp only[tfd,q0n (idxe hl hi hn)],fun h=>absurd ?_ h⟩;intro j s hs;simp at hs
 | cons x rest ih =>
  intro pre f i len hl hi hn hf;obtain ⟨f,rfl⟩:=FSu hf;rw[o0n];have hx:SloW x:=hw x (by rw[hl];simp);have ih':=ih (pre++[x]) f (i+1) len (idxl hl) (idxs hi) hn (by simp at hf;omega);simp only[tfd,tfn,q0z (idx hl hi hn),b0p hl hi,obs,t0n,c2h,t0o n hx.c,idxw hl hi (by omega)];have split:(∀(j:Nat) s,(x::rest)[j]? = some s->t0e l.length w (i+j) s)↔t0e l.length w i x/\(∀(j:Nat) s,rest[j]? = some s->t0e l.length w (i+1+j) s):=by
   constructor
   ·intro h;refine ⟨by simpa using h 0 x rfl,fun j s hs => ?_⟩;have:=h (j+1) s hs
    rwa [show i+((j+1:Nat):Int)=i+1+j by omega] at this
   ·rintro ⟨h1,h2⟩ j s hs;cases j with
    | zero=>simp at hs;subst hs;simpa using h1
    | succ j =>
     have:=h2 j s hs
     rwa [show i+((j+1:Nat):Int)=i+1+j by omega]
  rw[split];by_cases h0:x=s0
  ·rw[q0z h0];have hp:t0e l.length w i x := .inl h0;exact ⟨fun h=>ih'.1 h.2,fun h=>ih'.2 (fun k=>h ⟨hp,k⟩)⟩
  ·rw[q0n h0];by_cases h1:t0y x.1 l.length=i
   ·rw[q0z h1];by_cases h2:FitsP x.2 w x.1
    ·rw[q0z h2];have hp:t0e l.length w i x := .inr ⟨h1,h2⟩;exact ⟨fun h=>ih'.1 h.2,fun h=>ih'.2 (fun k=>h ⟨hp,k⟩)⟩
    ·rw[q0n h2];exact ⟨fun h=>absurd (h.1.resolve_left h0).2 h2,fun _=>rfl⟩
   ·rw[q0n h1];exact ⟨fun h=>absurd (h.1.resolve_left h0).1 h1,fun _=>rfl⟩
theorem t1c (n:Nat)(l:List Slo)(w:Int)(hL:l.length<=4096)(hw:∀s∈l,SloW s):∀(rest pre:List Slo) (f:Nat) (i len:Int),l=pre++rest->i=pre.length->len=l.length->rest.length<f ->
  ((∀(j:Nat) s,rest[j]? = some s->t0e l.length w (i+j) s)->g0c (n+5) f (l,w,l,len,i,())=some (.inl ())) /\
  (¬(∀(j:Nat) s,rest[j]? = some s->t0e l.length w (i+j) s)->g0c (n+5) f (l,w,l,len,i,())=some (.inr 2)):=by
 intro rest;induction rest with
 | nil =>
  intro pre f i len hl hi hn hf;obtain ⟨f,rfl⟩:=FSu hf;rw[p0b];refine ⟨fun _=>by simp only[tfd,q0n (idxe hl hi hn)],fun h=>absurd ?_ h⟩;intro j s hs;simp at hs
 | cons x rest ih =>
  intro pre f i len hl hi hn hf;obtain ⟨f,rfl⟩:=FSu hf;rw[p0b];have hx:SloW x:=hw x (by rw[hl];simp);have ih':=ih (pre++[x]) f (i+1) len (idxl hl) (idxs hi) hn (by simp at hf;omega);simp only[tfd,tfn,q0z (idx hl hi hn),b0p hl hi,obs,x0x,j1a,z0n n hx.c,idxw hl hi (by omega)];have split:(∀(j:Nat) s,(x::rest)[j]? = some s->t0e l.length w (i+j) s)↔t0e l.length w i x/\(∀(j:Nat) s,rest[j]? = some s->t0e l.length w (i+1+j) s):=by
   constructor
   ·intro h;refine ⟨by simpa using h 0 x rfl,fun j s hs => ?_⟩;have:=h (j+1) s hs
    rwa [show i+((j+1:Nat):Int)=i+1+j by omega] at this
   ·rintro ⟨h1,h2⟩ j s hs;cases j with
    | zero=>simp at hs;subst hs;simpa using h1
    | succ j =>
     have:=h2 j s hs
     rwa [show i+((j+1:Nat):Int)=i+1+j by omega]
  rw[split];by_cases h0:x=s0
  ·rw[q0z h0];have hp:t0e l.length w i x := .inl h0;exact ⟨fun h=>ih'.1 h.2,fun h=>ih'.2 (fun k=>h ⟨hp,k⟩)⟩
  ·rw[q0n h0];by_cases h2:FitsP x.2 w x.1
   ·rw[q0z h2];by_cases h1:t0y x.1 l.length=i
    ·rw[q0z h1];have hp:t0e l.length w i x := .inr ⟨h1,h2⟩;exact ⟨fun h=>ih'.1 h.2,fun h=>ih'.2 (fun k=>h ⟨hp,k⟩)⟩
    ·rw[q0n h1];exact ⟨fun h=>absurd (h.1.resolve_left h0).1 h1,fun _=>rfl⟩
   ·rw[q0n h2];exact ⟨fun h=>absurd (h.1.resolve_left h0).2 h2,fun _=>rfl⟩
theorem m1s {l:List Slo}{w:Int}(h0:1<=l.length):(∀(j:Nat) s,l[j]? = some s->t0e l.length w (0+j) s)↔(∀(j:Nat) s,l[j]? = some s->s=s0\/(s.1 % (l.length:Int)=j/\FitsP s.2 w s.1)):=by
 constructor
 ·intro h j s hs;rcases h j s hs with e | ⟨e,f⟩
  ·exact .inl e
  ·rw[l0r f.i0.1 (by omega)] at e;exact .inr ⟨by omega,f⟩
 ·intro h j s hs;rcases h j s hs with e | ⟨e,f⟩
  ·exact .inl e
  ·exact .inr ⟨by rw[l0r f.i0.1 (by omega)];omega,f⟩
theorem q0g (n:Nat)(l:List Slo)(w:Int)(hw:∀s∈l,SloW s):j0l (n+7) l w=some (if TierOk l w then 0 else 2):=by
 rw[h1j];simp only[tfd];by_cases h1:(l.length:Int)=0
 ·rw[q0z h1,q0n (fun k=>by have:=k.l0;omega)]
 by_cases h2:(4096:Int)<l.length
 ·rw[q0n h1,q0z h2,q0n (fun k=>by have:=k.l1;omega)]
 by_cases h3:w<1
 ·rw[q0n h1,q0n h2,q0z h3,q0n (fun k=>by have:=k.w0;omega)]
 by_cases h4:(1099511627776:Int)<w
 ·rw[q0n h1,q0n h2,q0n h3,q0z h4,q0n (fun k=>by have:=k.w1;omega)]
 rw[q0n h1,q0n h2,q0n h3,q0n h4];have hl:=m1g n l w (by omega) hw l [] a0b 0 l.length rfl rfl rfl (by unfold a0b;omega);rw[m1s (by omega)] at hl;by_cases h5:∀(j:Nat) s,l[j]? = some s->s=s0\/(s.1 % (l.length:Int)=j/\FitsP s.2 w s.1)
 ·rw[hl.1 h5,q0z ⟨by omega,by omega,by omega,by omega,h5⟩];rfl
 ·rw[hl.2 h5,q0n (fun k=>h5 k.s)];rfl
theorem u0q (n:Nat)(l:List Slo)(w:Int)(hw:∀s∈l,SloW s):l0y (n+6) l w=some (if TierOk l w then 0 else 2):=by
 rw[n1x];simp only[tfd];by_cases h1:(l.length:Int)<1
 ·rw[q0z h1,q0n (fun k=>by have:=k.l0;omega)]
 by_cases h2:(4096:Int)<l.length
 ·rw[q0n h1,q0z h2,q0n (fun k=>by have:=k.l1;omega)]
 by_cases h3:w<1
 ·rw[q0n h1,q0n h2,q0z h3,q0n (fun k=>by have:=k.w0;omega)]
 by_cases h4:(1099511627776:Int)<w
 ·rw[q0n h1,q0n h2,q0n h3,q0z h4,q0n (fun k=>by have:=k.w1;omega)]
 rw[q0n h1,q0n h2,q0n h3,q0n h4];have hl:=t1c n l w (by omega) hw l [] a0b 0 l.length rfl rfl rfl (by unfold a0b;omega);rw[m1s (by omega)] at hl;by_cases h5:∀(j:Nat) s,l[j]? = some s->s=s0\/(s.1 % (l.length:Int)=j/\FitsP s.2 w s.1)
 ·rw[hl.1 h5,q0z ⟨by omega,by omega,by omega,by omega,h5⟩];rfl
 ·rw[hl.2 h5,q0n (fun k=>h5 k.s)];rfl
theorem g1h (n:Nat)(l:List Slo)(h:l.length<=1000000):j0b (n+1) l=some l:=by
 rw[y0y];simp only[tfd,q0z (show (0+l.length)*120<=140737488355328 by omega),q2q];by_cases h0:l.length=0
 ·obtain rfl:=List.length_eq_zero_iff.1 h0;simp
 ·rw[q0n h0]
section
variable {del:a0c×Unit->Option Bool}{p:Slo->Bool}(hd:∀x,del (x,())=some (p x))
include hd
theorem g2k (n:Nat)(l:List Slo)(hL:l.length<=1000000):∀(rest pre:List Slo) (f:Nat) (i len:Int),l=pre++rest->i=pre.length->len=l.length->rest.length<f ->
  (c0q n f (l,del,len,i,())=some (.inl ())/\∀x∈rest,p x=false) \/
  (∃A x B,rest=A++x::B/\(∀y∈A,p y=false)/\p x=true/\c0q n f (l,del,len,i,())=some (.inr (i+A.length))):=by
 intro rest;induction rest with
 | nil =>
  intro pre f i len hl hi hn hf;obtain ⟨f,rfl⟩:=FSu hf;rw[g0j];exact .inl ⟨by simp only[tfd,q0n (idxe hl hi hn)],by simp⟩
 | cons x rest ih =>
  intro pre f i len hl hi hn hf;obtain ⟨f,rfl⟩:=FSu hf;rw[g0j];simp only[tfd,q0z (idx hl hi hn),b0p hl hi,obs,hd,idxw hl hi (by omega)];cases hp:p x with
  | true=>exact .inr ⟨[],x,rest,rfl,by simp,hp,by simp⟩
  | false =>
   rw[tff];rcases ih (pre++[x]) f (i+1) len (idxl hl) (idxs hi) hn (by simp at hf;omega) with ⟨h1,h2⟩ | ⟨A,y,B,h1,h2,h3,h4⟩
   ·exact .inl ⟨h1,by intro z hz;rcases q2l.1 hz with rfl | hz;exact hp;exact h2 z hz⟩
   ·refine .inr ⟨x::A,y,B,by rw[h1];rfl,?_,h3,by rw[h4,q2k,show i+1+(A.length:Int)=i+((A.length+1:Nat):Int) by omega]⟩;intro z hz;rcases q2l.1 hz with rfl | hz
    ·exact hp
    ·exact h2 z hz
theorem delete_l (n:Nat)(l0:List Slo)(hL:l0.length<=1000000):∀(rest F G:List Slo) (f:Nat) (i j:Int),(F++(G++rest)).length=l0.length->G≠[]->i=F.length->j=F.length+G.length->rest.length<f ->
  ∃G',c0k n f (F++(G++rest),del,i,j,())=some (.inl (F++rest.filter (fun x => !p x)++G',(F++rest.filter (fun x => !p x)).length,()))/\(F++rest.filter (fun x => !p x)++G').length=l0.length:=by
 intro rest;induction rest with
 | nil =>
  intro F G f i j hl hg hi hj hf;obtain ⟨f,rfl⟩:=FSu hf;rw[f0z];have:¬(j<((F++(G++[])).length:Int)):=by simp;omega
  simp only[tfd,q0n this];exact ⟨G,by simp[hi],by simpa using hl⟩
 | cons x rest ih =>
  intro F G f i j hl hg hi hj hf;obtain ⟨f,rfl⟩:=FSu hf;rw[f0z];simp only[q2d,q2k] at hl;have hlt:j<((F++(G++x::rest)).length:Int):=by simp;omega
  have hat:at? (F++(G++x::rest)) j=some x:=b0p (pre:=F++G) (rest:=rest) (by simp) (by simp;omega);have hget:(F++(G++x::rest))[j.toNat]? = some x:=by
   rw[show j.toNat=F.length+G.length by omega,q2h (by omega),q2h (by omega)];simp
  simp only[tfd,q0z hlt,hat,hget,obs,hd];have wj:wrap .i64 (j+1)=j+1:=by rw[w64 (by omega) (by omega)]
  have wi:wrap .i64 (i+1)=i+1:=by rw[w64 (by omega) (by omega)]
  rw[wj,wi]
  match G,hg with
  | g::G,_ =>
  cases hp:p x with
  | false =>
   have hat':at? (F++(g::G++x::rest)) i=some g:=b0p (pre:=F) (rest:=G++x::rest) (by simp) hi;have hget':(F++(g::G++x::rest))[i.toNat]? = some g:=by
    rw[show i.toNat=F.length by omega];simp
   have hset:(F++(g::G++x::rest)).set i.toNat x=(F++[x])++((G++[x])++rest):=by
    rw[show i.toNat=F.length by omega,q3p _ _ (by omega)];simp
   simp only[Bool.not_false,tft,hat',hget',obs,hset];obtain ⟨G',h1,h2⟩:=ih (F++[x]) (G++[x]) f (i+1) (j+1) (by simp at hl ⊢;omega) (by simp) (by simp;omega) (by simp at hj ⊢;omega) (by simp at hf;omega);refine ⟨G',?_,?_⟩
   ·rw[h1];simp[List.filter_cons,hp]
   ·rw[<-h2];simp[List.filter_cons,hp]
  | true =>
   simp only[q2t,tff];obtain ⟨G',h1,h2⟩:=ih F (g::G++[x]) f i (j+1) (by simp at hl ⊢;omega) (by simp) hi (by simp at hj ⊢;omega) (by simp at hf;omega);simp only[q2g,List.singleton_append] at h1;refine ⟨G',?_,?_⟩
   ·rw[h1];simp[List.filter_cons,hp]
   ·rw[<-h2];simp[List.filter_cons,hp]
theorem v1e (n:Nat)(l:List Slo)(hL:l.length<=1000000):g0l (n+2) l del=some (l.filter fun x => !p x):=by
 rw[o0v,i0r];rcases g2k hd n l hL l [] a0b 0 l.length rfl rfl rfl (by unfold a0b;omega) with ⟨h1,h2⟩ | ⟨A,x,B,h1,h2,h3,h4⟩
 ·rw[h1];simp only[obs,b0h,tfd,q0z trivial];exact congrArg some (List.filter_eq_self.2 fun y hy=>by simp[h2 y hy]).symm
 ·rw[h4];have hl:l.length=A.length+(B.length+1):=by rw[h1];simp
  simp only[obs,g0m,tfd,Int.zero_add];rw[q0n (by omega),w64 (x:=(A.length:Int)+1) (by omega) (by omega)];obtain ⟨G',g1,g2⟩:=delete_l hd (n+1) l hL B A [x] a0b (A.length:Int) (A.length+1) (by rw[h1];simp) (by simp) rfl (by simp) (by unfold a0b;omega);rw[show A++([x]++B)=l by rw[h1];simp] at g1;rw[g1];have hF:A++B.filter (fun x => !p x)=l.filter fun x => !p x:=by
   rw[h1,List.filter_append,List.filter_cons];have:A.filter (fun x => !p x)=A:=List.filter_eq_self.2 fun y hy=>by simp[h2 y hy]
   simp[h3,this]
  rw[hF] at g2 ⊢;generalize (l.filter fun x => !p x)=F at *
  simp only[obs,b0h,s0q,tfd,q2i];have hle:F.length<=(F++G').length:=by simp
  have k1:putRow (F++G') F.length (List.replicate ((F++G').length-F.length) s0)=F++List.replicate ((F++G').length-F.length) s0:=by
   unfold putRow;rw[List.drop_of_length_le (by simp)];simp
  have k2:=k1;simp only[s0,z0,e0] at k2;rw[k2,q0z (by omega),q0z hle,q0z (by omega),q0z (by omega),q0z (by simp;omega)];simp
end
theorem h2t (n:Nat)(x y:Int):h0s (n+2) x y=some (if x<y then -1 else if y<x then 1 else 0):=by
 rw[r0q,l0c,l0c];simp only[decide_true,q2t,obs,tff,tfd];by_cases h1:x<y
 ·rw[q0z h1,q0z h1]
 ·rw[q0n h1,q0n h1];by_cases h2:y<x
  ·rw[q0z h2,q0z h2]
  ·rw[q0n h2,q0n h2]
theorem h2u (n:Nat):Cmp (fun y3=>q0h (n+3) y3.1 y3.2.1) (fun s=>s.1):=by
 intro x y;refine ⟨if x.1<y.1 then -1 else if y.1<x.1 then 1 else 0,?_,?_⟩
 ·show q0h (n+3) x y=_;rw[h1l,h2t];rfl
 ·by_cases h1:x.1<y.1
  ·simp[h1]
  ·by_cases h2:y.1<x.1
   ·simp[h1,h2]
   ·simp[h1,h2]
theorem b1j {l:List Slo}(h:Srt (fun s=>s.1) l 0 l.length):l.Pairwise fun a b=>a.1<=b.1:=by
 rw[List.pairwise_iff_getElem];intro i j hi hj hij;exact h i j _ _ (by omega) hij hj (q2b hi) (q2b hj)
theorem tier_all (n:Nat){l:List Slo}{w:Int}(h:TierOk l w):h1m (n+17) l=some (tall l):=by
 have hl:=h.l1;rw[r1i,g1h _ l (by omega)];simp only[obs];rw[v1e (del:=fun y1=>o0r (n+16) y1.1) (p:=fun s=>decide (s=s0)) (fun x=>t0n (n+15) x) (n+14) l (by omega)];simp only[obs];have e:(l.filter fun x => !decide (x=s0))=f0y l:=by unfold f0y;congr 1;funext x;simp
 rw[e];have hle:(f0y l).length<=l.length:=List.length_filter_le _ _;obtain ⟨d',r1,r2,r3⟩:=i1c (h2u (n+13)) n 12 (f0y l) (by omega) (by omega);rw[r1];rw[<-r2.length_eq] at r3;rw[c2w h r2 (b1j r3)];rfl
theorem z1s (n:Nat)(out:List Slo)(s:Slo)(s8:List Slo)(s9 s10:Int)(hL:out.length<=1000000)(hs:out.Pairwise fun a b=>a.1<=b.1):∀(k f:Nat),k<=out.length->k<f->(∀x∈out.drop k,s.1<x.1) ->
  ∃k':Nat,q0u n f (out,s,(k:Int),s8,s9,s10,())=some (.inl (out,s,(k':Int),s8,s9,s10,()))/\k'<=out.length/\(∀x∈out.take k',x.1<=s.1)/\(∀x∈out.drop k',s.1<x.1):=by
 intro k;induction k with
 | zero =>
  intro f hk hf h;obtain ⟨f,rfl⟩:∃g,f=g+1:=⟨f-1,by omega⟩;rw[u0s];simp only[tfd,q0n (show ¬((0:Int)<((0:Nat):Int)) by omega)];exact ⟨0,rfl,by omega,by simp,h⟩
 | succ k ih =>
  intro f hk hf h;obtain ⟨f,rfl⟩:∃g,f=g+1:=⟨f-1,by omega⟩;rw[u0s];have lk:k<out.length:=by omega
  rw[wn (x:=((k+1:Nat):Int)-1) (k:=k) (by omega) (by omega)];simp only[tfd,q0z (show ((0:Int)<((k+1:Nat):Int)) by omega),at_some lk,q2i,q2b lk,obs];by_cases hc:s.1<out[k].1
  ·rw[q0z hc];refine ih f (by omega) (by omega) (fun x hx => ?_);rw[List.drop_eq_getElem_cons lk] at hx;rcases q2l.1 hx with rfl | hx
   ·exact hc
   ·exact h x hx
  ·rw[q0n hc];refine ⟨k+1,rfl,hk,fun x hx => ?_,h⟩;obtain ⟨j,hj,rfl⟩:=List.mem_iff_getElem.1 hx;have hj':j<k+1:=by simp at hj;omega
   rw[List.getElem_take];rcases Nat.lt_or_eq_of_le (Nat.le_of_lt_succ hj') with hjk | rfl
   ·have:=List.pairwise_iff_getElem.1 hs j k (by omega) lk hjk;omega
   ·omega
theorem insert_sorted {out:List Slo}{s:Slo}{k:Nat}(hs:out.Pairwise fun a b=>a.1<=b.1)(h1:∀x∈out.take k,x.1<=s.1)(h2:∀x∈out.drop k,s.1<x.1) :
  (out.take k++s::out.drop k).Pairwise fun a b=>a.1<=b.1:=by
 rw[List.pairwise_append];refine ⟨hs.sublist (List.take_sublist _ _),List.pairwise_cons.2 ⟨fun x hx=>Int.le_of_lt (h2 x hx),hs.sublist (List.drop_sublist _ _)⟩,fun a ha b hb => ?_⟩;rcases q2l.1 hb with rfl | hb
 ·exact h1 a ha
 ·have:=h1 a ha;have:=h2 b hb;omega
theorem z1t (n:Nat)(l:List Slo)(hL:l.length<=1000000):∀(rest pre:List Slo) (f:Nat) (out:List Slo) (i len:Int),l=pre++rest->i=pre.length->len=l.length->rest.length<f->out.Pairwise (fun a b=>a.1<=b.1)->out.Perm (f0y pre) ->
  ∃out',l0z n f (out,l,len,i,())=some (.inl (out',()))/\out'.Pairwise (fun a b=>a.1<=b.1)/\out'.Perm (f0y l):=by
 intro rest;induction rest with
 | nil =>
  intro pre f out i len hl hi hn hf hs hp;obtain ⟨f,rfl⟩:=FSu hf;rw[u0t];rw[q2x] at hl;exact ⟨out,by simp only[tfd,q0n (idxe (pre:=pre) (by rw[hl,q2x]) hi hn)],hs,by rw[hl];exact hp⟩
 | cons x rest ih =>
  intro pre f out i len hl hi hn hf hs hp;obtain ⟨f,rfl⟩:=FSu hf;rw[u0t];have hlen:out.length<=l.length:=by
   rw[hp.length_eq,hl];have:(f0y pre).length<=pre.length:=List.length_filter_le _ _;simp;omega
  simp only[tfd,q0z (idx hl hi hn),b0p hl hi,obs,x0x];by_cases h0:x=s0
  ·rw[q0z h0,idxw hl hi (by omega)];exact ih (pre++[x]) f out (i+1) len (idxl hl) (idxs hi) hn (by simp at hf;omega) hs (by simpa [f0y,List.filter_append,h0] using hp)
  ·rw[q0n h0];obtain ⟨k,r1,r2,r3,r4⟩:=z1s n out x l len i (by omega) hs out.length a0b (q2e _) (by unfold a0b;omega) (by simp);rw[r1];have t1:(List.take ((k:Int).toNat-0) (List.drop 0 out))=out.take k:=by simp
   have t2:(List.take (out.length-(k:Int).toNat) (List.drop (k:Int).toNat out))=out.drop k:=by
    rw[q2i,List.take_of_length_le (by simp)]
   simp only[obs,b0h,s0q,tfd];rw[t1,t2,q2q];have l1:(out.take k).length=k:=by simp;omega
   rw[q0z (by omega),q0z (by omega),q0z (by rw[l1];omega),q0z (by rw[l1];omega),q0z (by omega),q0z (by simp;omega),q0z (by simp;omega),idxw hl hi (by omega)];have e:out.take k++[x]++out.drop k=out.take k++x::out.drop k:=by simp
   rw[e];refine ih (pre++[x]) f _ (i+1) len (idxl hl) (idxs hi) hn (by simp at hf;omega) (insert_sorted hs r3 r4) ?_;have e2:f0y (pre++[x])=f0y pre++[x]:=by simp[f0y,List.filter_append,h0]
   rw[e2];refine (List.perm_middle).trans ?_;rw[q3d];exact (List.Perm.cons x hp).trans (List.perm_append_comm (l₁:=[x]))
theorem s0v (n:Nat){l:List Slo}{w:Int}(h:TierOk l w):n0x (n+1) l=some (tall l):=by
 have hl:=h.l1;rw[z1x];obtain ⟨out,r1,r2,r3⟩:=z1t n l (by omega) l [] a0b [] 0 l.length rfl rfl rfl (by unfold a0b;omega) .nil (by simp[f0y]);rw[r1];simp only[obs,b0h];rw[c2w h r3 r2]
theorem ev_wf {e:Ev}(h:Wf a0i e):EvW e:=by
 obtain ⟨h1,h2,h3,_⟩:=h;exact ⟨h1,h2,h3⟩
theorem cel_wf {c:Cel}(h:Wf a0t c):CelW c:=by
 obtain ⟨h1,h2,h3,⟨h4,h5⟩,h6,h7,h8⟩:=h;exact ⟨h1,ev_wf h2,ev_wf h3,⟨h4,h5⟩,h6,h7,h8⟩
theorem slo_wf {s:Slo}(h:Wf a0d s):SloW s:=by
 obtain ⟨h1,h2⟩:=h;exact ⟨h1,cel_wf h2⟩
theorem r1w {l:List Slo}(h:Wf (.slice a0d) l):∀s∈l,SloW s:=fun s hs=>slo_wf (h.2 s hs)
theorem r13_get (n:Nat){l:List Slo}(h0:1<=l.length)(i:Int):t1f (n+2) l i=some (tget l i):=by
 rw[z1w];simp only[tfd,tfn];unfold tget;by_cases h1:i<0
 ·rw[q0z h1,q0z h1];rfl
 rw[q0n h1,q0n h1,q0n (by omega),j1a,l0r (by omega) (by omega)];have hm:=Int.emod_nonneg i (show (l.length:Int)≠0 by omega);have hm':=Int.emod_lt_of_pos i (show (0:Int)<l.length by omega);have e:at? l (i % (l.length:Int))=l[(i % (l.length:Int)).toNat]? := by
  obtain ⟨k,hk⟩:=Int.eq_ofNat_of_zero_le hm;rw[hk];exact s0n l k
 have hlt:(i % (l.length:Int)).toNat<l.length:=by omega
 simp only[obs,e,q2b hlt];by_cases h2:l[(i % (l.length:Int)).toNat].1=i
 ·rw[q0z h2,q0z h2]
 ·rw[q0n h2,q0n h2];rfl
theorem h1h (n:Nat){l:List Slo}(w i:Int){c:Cel}(hw:∀s∈l,SloW s)(hc:CelW c):t0p (n+8) l w i c=some (if TierOk l w/\FitsP c w i then (tput l i c,0) else ([],2)):=by
 rw[r1g,q0g n l w hw,t0o (n+1) hc];simp only[obs,tfn,tfd,z02];by_cases h1:TierOk l w
 case neg=>rw[q0n h1,q0n (fun k=>h1 k.1)]
 by_cases h2:FitsP c w i
 case neg=>rw[q0z h1,q0n h2,q0n (fun k=>h2 k.2)]
 have l0:=h1.l0;have l1:=h1.l1;have hi:=h2.i0;rw[q0z h1,q0z h2,q0z (And.intro h1 h2),g1h _ l (by omega)];simp only[obs,c2h,l0r hi.1 (show (1:Int)<=l.length by omega)];have hm:=Int.emod_nonneg i (show (l.length:Int)≠0 by omega);have hm':=Int.emod_lt_of_pos i (show (0:Int)<l.length by omega);have e:at? l (i % (l.length:Int))=l[(i % (l.length:Int)).toNat]? := by
  obtain ⟨k,hk⟩:=Int.eq_ofNat_of_zero_le hm;rw[hk];exact s0n l k
 have hlt:(i % (l.length:Int)).toNat<l.length:=by omega
 simp only[e,q2b hlt,obs];rfl
theorem t1b (n:Nat){l:List Slo}(w i:Int){c:Cel}(hw:∀s∈l,SloW s)(hc:CelW c):k0h (n+7) l w i c=some (if TierOk l w/\FitsP c w i then (tput l i c,0) else ([],2)):=by
 rw[z1u,u0q n l w hw,z0n (n+1) hc];simp only[obs,tfn,tfd,z02];by_cases h1:TierOk l w
 case neg=>rw[q0n h1,q0n (fun k=>h1 k.1)]
 by_cases h2:FitsP c w i
 case neg=>rw[q0z h1,q0n h2,q0n (fun k=>h2 k.2)]
 have l0:=h1.l0;have l1:=h1.l1;have hi:=h2.i0;rw[q0z h1,q0z h2,q0z (And.intro h1 h2),q0z (by omega)];simp only[obs,j1a,l0r hi.1 (show (1:Int)<=l.length by omega),q2q];have hm:=Int.emod_nonneg i (show (l.length:Int)≠0 by omega);have hm':=Int.emod_lt_of_pos i (show (0:Int)<l.length by omega);have e:at? l (i % (l.length:Int))=l[(i % (l.length:Int)).toNat]? := by
  obtain ⟨k,hk⟩:=Int.eq_ofNat_of_zero_le hm;rw[hk];exact s0n l k
 have hlt:(i % (l.length:Int)).toNat<l.length:=by omega
 simp only[e,q2b hlt,obs];rfl
theorem tier_new (n:Nat)(m:Int):t0q (n+1) m=some (if 1<=m/\m<=4096 then List.replicate m.toNat s0 else []):=by
 rw[r1h];simp only[tfd,s0q];by_cases h1:m<1
 ·rw[q0z h1,q0n (by omega)]
 by_cases h2:4096<m
 ·rw[q0n h1,q0z h2,q0n (by omega)]
 rw[q0n h1,q0n h2,q0z (by omega),q0z (by omega),q0z (by omega),q0z (by omega)];rfl
theorem r13_new (n:Nat)(m:Int):a1z (n+1) m=some (if 1<=m/\m<=4096 then List.replicate m.toNat s0 else []):=by
 rw[z1v];simp only[tfd,s0q];by_cases h1:m<1
 ·rw[q0z h1,q0n (by omega)]
 by_cases h2:4096<m
 ·rw[q0n h1,q0z h2,q0n (by omega)]
 rw[q0n h1,q0n h2,q0z (by omega),q0z (by omega),q0z (by omega),q0z (by omega)];rfl
def inW (i k:Int)(s:Slo):Bool:=decide (i<=s.1/\s.1<k)
theorem r1f (n:Nat)(i k:Int)(s6:Cel)(l:List Slo)(hL:l.length<=1000000):∀(rest pre:List Slo) (f:Nat) (cells:List Cel) (ix len:Int),l=pre++rest->ix=pre.length->len=l.length->rest.length<f->cells.length<=pre.length ->
  f0x n f (i,k,s6,cells,l,len,ix,())=some (.inl (s6,cells++(rest.filter (inW i k)).map (·.2),())):=by
 intro rest;induction rest with
 | nil =>
  intro pre f cells ix len hl hi hn hf hc;obtain ⟨f,rfl⟩:=FSu hf;rw[o0s];simp only[tfd,q0n (idxe hl hi hn),List.filter_nil,List.map_nil,q2x]
 | cons x rest ih =>
  intro pre f cells ix len hl hi hn hf hc;obtain ⟨f,rfl⟩:=FSu hf;rw[o0s];have hp:pre.length+1<=l.length:=by have:=congrArg List.length hl;simp at this;omega
  simp only[tfd,q0z (idx hl hi hn),b0p hl hi,obs,idxw hl hi (by omega)];by_cases h1:i<=x.1
  ·rw[q0z h1];by_cases h2:x.1<k
   ·rw[q0z h2,q0z (by omega),ih (pre++[x]) f _ (ix+1) len (idxl hl) (idxs hi) hn (by simp at hf;omega) (by simp;omega)];have:inW i k x=true:=by simp[inW,h1,h2]
    rw[List.filter_cons_of_pos this];simp
   ·rw[q0n h2,ih (pre++[x]) f _ (ix+1) len (idxl hl) (idxs hi) hn (by simp at hf;omega) (by simp;omega)];rw[List.filter_cons_of_neg (by simp[inW,h2])]
  ·rw[q0n h1,ih (pre++[x]) f _ (ix+1) len (idxl hl) (idxs hi) hn (by simp at hf;omega) (by simp;omega)];rw[List.filter_cons_of_neg (by simp[inW,h1])]
theorem v1s {l:List Slo}{w:Int}(h:TierOk l w)(i k:Int):∀c∈within l i k,CellN c:=by
 intro c hc;simp only[within,q3g,q3m] at hc;obtain ⟨s,⟨hs,_⟩,rfl⟩:=hc;exact (j0w h hs).1.n
theorem q0i {l:List Slo}:(tall l).length<=l.length:=by
 rw[(t0t l).length_eq];exact List.length_filter_le _ _
theorem e1l (l:List Slo)(i k:Int):(within l i k).length<=l.length:=by
 unfold within;rw[List.length_map];exact q3n (List.length_filter_le _ _) q0i
theorem m1f (n:Nat){l:List Slo}{w:Int}(h:TierOk l w)(i k:Int):t0r (n+18) l i k=some (m1k l i k):=by
 have l1:=h.l1;have ht:=q0i (l:=l);rw[m1h];simp only[tfd];unfold m1k;by_cases h1:i<0
 ·rw[q0z h1,q0z (.inl h1)];rfl
 by_cases h2:k<i
 ·rw[q0n h1,q0z h2,q0z (.inr h2)];rfl
 rw[q0n h1,q0n h2,q0n (by omega),tier_all n h];simp only[obs];rw[r1f (n+17) i k _ (tall l) (by omega) (tall l) [] a0b [] 0 _ rfl rfl rfl (by unfold a0b;omega) (by simp)];simp only[obs,b0h,q2q];have e:List.map (·.2) (List.filter (inW i k) (tall l))=within l i k:=rfl;rw[e,cell_all (n+10) _ (by have:=e1l l i k;omega) (fun c hc => .ofN (v1s h i k c hc))];rfl
theorem z1r (n:Nat)(i k:Int)(s6:Cel)(l0:List Slo)(hl0:1<=l0.length)(l:List Slo)(hL:l.length<=1000000)(hg:∀s∈l,tget l0 s.1=s.2):∀(rest pre:List Slo) (f:Nat) (cells:List Cel) (ix len:Int),l=pre++rest->ix=pre.length->len=l.length->rest.length<f->cells.length<=pre.length ->
  f0t (n+2) f (l0,i,k,s6,cells,l,len,ix,())=some (.inl (s6,cells++(rest.filter (inW i k)).map (·.2),())):=by
 intro rest;induction rest with
 | nil =>
  intro pre f cells ix len hl hi hn hf hc;obtain ⟨f,rfl⟩:=FSu hf;rw[s0h];simp only[tfd,q0n (idxe hl hi hn),List.filter_nil,List.map_nil,q2x]
 | cons x rest ih =>
  intro pre f cells ix len hl hi hn hf hc;obtain ⟨f,rfl⟩:=FSu hf;rw[s0h];have hp:pre.length+1<=l.length:=by have:=congrArg List.length hl;simp at this;omega
  have hx:=hg x (by rw[hl];simp);simp only[tfd,q0z (idx hl hi hn),b0p hl hi,obs,idxw hl hi (by omega),r13_get n hl0,hx,celEq];by_cases h1:i<=x.1
  ·rw[q0z h1];by_cases h2:x.1<k
   ·rw[q0z h2,q0z trivial,q0z (by omega),ih (pre++[x]) f _ (ix+1) len (idxl hl) (idxs hi) hn (by simp at hf;omega) (by simp;omega)];have:inW i k x=true:=by simp[inW,h1,h2]
    rw[List.filter_cons_of_pos this];simp
   ·rw[q0n h2,ih (pre++[x]) f _ (ix+1) len (idxl hl) (idxs hi) hn (by simp at hf;omega) (by simp;omega)];rw[List.filter_cons_of_neg (by simp[inW,h2])]
  ·rw[q0n h1,ih (pre++[x]) f _ (ix+1) len (idxl hl) (idxs hi) hn (by simp at hf;omega) (by simp;omega)];rw[List.filter_cons_of_neg (by simp[inW,h1])]
theorem w1j (n:Nat){l:List Slo}{w:Int}(h:TierOk l w)(i k:Int):z0o (n+7) l i k=some (m1k l i k):=by
 have l1:=h.l1;have ht:=q0i (l:=l);rw[t1g];simp only[tfd];unfold m1k;by_cases h1:i<0
 ·rw[q0z h1,q0z (.inl h1)];rfl
 by_cases h2:k<i
 ·rw[q0n h1,q0z h2,q0z (.inr h2)];rfl
 rw[q0n h1,q0n h2,q0n (by omega),s0v _ h];simp only[obs];rw[z1r (n+4) i k _ l h.l0 (tall l) (by omega) (fun s hs=>tget_mem h hs) (tall l) [] a0b [] 0 _ rfl rfl rfl (by unfold a0b;omega) (by simp)];simp only[obs,b0h,q2q];have e:List.map (·.2) (List.filter (inW i k) (tall l))=within l i k:=rfl;rw[e,r08_all n _ (by have:=e1l l i k;omega) (fun c hc => .ofN (v1s h i k c hc))];rfl
theorem i1d:SloW s0:=⟨by simp[I64,s0],t0c⟩
theorem i0z {l:List Slo}{w:Int}(h:TierOk l w):∀s∈l,SloW s:=by
 intro s hs;obtain ⟨j,hj⟩:=List.getElem?_of_mem hs;rcases h.s j s hj with rfl | ⟨_,hf⟩
 ·exact i1d
 ·have:=hf.i0;exact ⟨by unfold I64;omega,.ofN hf.n⟩
theorem y0j {e:Ev}(h:EvOk e){w:Int}(hw:1<=w):wrap .i64 (Int.tdiv e.1 w)=e.1 / w:=by
 have h0:=h.t0;have h1:=h.t1;have:0<=e.1 / w:=Int.ediv_nonneg h0 (by omega);have:e.1 / w<=e.1:=Int.ediv_le_self _ h0;rw[j0v h0,w64 (by omega) (by omega)]
theorem o1o {e:Ev}(h:EvOk e){w:Int}(hw:1<=w):0<=e.1 / w/\e.1 / w<35184372088832:=by
 have h0:=h.t0;have h1:=h.t1;have:0<=e.1 / w:=Int.ediv_nonneg h0 (by omega);have:e.1 / w<=e.1:=Int.ediv_le_self _ h0;omega
end Go.Proofs.YtfibfcjepngbmaaGreatDoor
namespace Go.Plim
def rng (w:Int)(l:List Ev)(i k:Int):List Ev:=l.filter fun e=>decide (i<=e.1 / w/\e.1 / w<k)
def win (w:Int)(l:List Ev)(i:Int):List Ev:=l.filter fun e=>decide (e.1 / w=i)
theorem g1u {w:Int}{l:List Ev}(h:Foll l)(i:Int):Foll (win w l i):=h.sub List.filter_sublist
theorem c2j {w:Int}(hw:1<=w){a b:Ev}(h:a.1<b.1):a.1 / w<=b.1 / w:=Int.ediv_le_ediv (by omega) (by omega)
theorem foll_wd {w:Int}(hw:1<=w){l:List Ev}(h:Foll l):l.Pairwise fun a b=>a.1 / w<=b.1 / w:=h.inc.imp fun k=>c2j hw k
theorem k0z {l:List Slo}{w:Int}(h:TierOk l w){s:Slo}:s∈tall l↔s≠s0/\l[(s.1 % (l.length:Int)).toNat]? = some s:=by
 constructor
 ·intro hs;exact ⟨(r0e.1 hs).2,(j0w h hs).2⟩
 ·rintro ⟨h1,h2⟩;exact r0e.2 ⟨q3a h2,h1⟩
theorem tall_N {l:List Slo}{w:Int}(h:TierOk l w){s:Slo}(hs:s∈tall l):CellN s.2:=(j0w h hs).1.n
theorem rest_ne {a b n:Int}(hn:1<=n)(h1:a<b)(h2:b<a+n):a % n≠b % n:=by
 intro e;have:(b-a) % n=0:=by rw[Int.sub_emod,e];simp
 have h3:(b-a) % n=b-a:=Int.emod_eq_of_lt (by omega) (by omega);omega
theorem win_snoc (w:Int)(l:List Ev)(e:Ev)(i:Int):win w (l++[e]) i=if e.1 / w=i then win w l i++[e] else win w l i:=by
 unfold win;rw[List.filter_append];by_cases h:e.1 / w=i
 ·simp[h]
 ·simp[h]
theorem x0b {w:Int}{l:List Ev}{i:Int}{e:Ev}:e∈win w l i↔e∈l/\e.1 / w=i:=by simp[win]
structure TierInv (t:List Slo)(w:Int)(l:List Ev):Prop where
 ok:TierOk t w
 cells:∀s∈tall t,s.2=cellOf (win w l s.1)
 kept:∀i,(∃e∈l,e.1 / w=i)->(∀e∈l,e.1 / w<i+(t.length:Int))->(i,cellOf (win w l i))∈tall t
theorem s0r {n:Nat}{w:Int}(h0:1<=n)(h1:n<=4096)(w0:1<=w)(w1:w<=1099511627776):TierInv (List.replicate n s0) w []:=by
 have all:∀(j:Nat) s,(List.replicate n s0)[j]? = some s->s=s0:=fun j s hs=>List.eq_of_mem_replicate (q3a hs)
 refine ⟨⟨by simpa using h0,by simpa using h1,w0,w1,fun j s hs => .inl (all j s hs)⟩,fun s hs => ?_,fun i ⟨e,he,_⟩=>by cases he⟩;have:=r0e.1 hs;obtain ⟨j,hj⟩:=List.getElem?_of_mem this.1;exact absurd (all j s hj) this.2
theorem v1m {w i:Int}{l:List Ev}(h:Foll l)(hn:l≠[])(hi:∀e∈l,e.1 / w=i)(w0:1<=w)(w1:w<=1099511627776):FitsP (cellOf l) w i:=by
 have hs:=x1s h hn;exact ⟨hs.n,w0,w1,hi _ (List.mem_of_head? hs.first),hi _ (List.mem_of_getLast? hs.last)⟩
theorem tput_len (t:List Slo)(i:Int)(c:Cel):(tput t i c).length=t.length:=by simp[tput]
theorem a1i {t:List Slo}{w:Int}{l:List Ev}{e:Ev}(h:TierInv t w l)(hl:Foll (l++[e])):FitsP (cellOf (win w l (e.1 / w)++[e])) w (e.1 / w)/\TierInv (tput t (e.1 / w) (cellOf (win w l (e.1 / w)++[e]))) w (l++[e]):=by
 obtain ⟨hok,hcells,hkept⟩:=h;have w0:=hok.w0;have hl':=(d0b.1 hl).1;have hlt:∀x∈l,x.1<e.1:=fun x hx=>(d0b.1 hl).2.2 x hx e (by simp)
 have hle:∀x∈l,x.1 / w<=e.1 / w:=fun x hx=>c2j w0 (hlt x hx)
 have ews:win w (l++[e]) (e.1 / w)=win w l (e.1 / w)++[e]:=by rw[win_snoc,q0z rfl]
 have hwf:Foll (win w l (e.1 / w)++[e]):=by rw[<-ews];exact g1u hl _
 have hfit:FitsP (cellOf (win w l (e.1 / w)++[e])) w (e.1 / w):=by
  refine v1m hwf (by simp) (fun x hx => ?_) w0 hok.w1;rcases q2n.1 hx with hx | hx
  ·exact (x0b.1 hx).2
  ·simp at hx;rw[hx]
 generalize hi:e.1 / w=i at *
 generalize hc:cellOf (win w l i++[e])=c at *
 have hok':=h1g hok hfit;have hlen:=tput_len t i c;have hn:=hok.l0;have i0:=hfit.i0;have hm:=Int.emod_nonneg i (show (t.length:Int)≠0 by omega);have hm':=Int.emod_lt_of_pos i (show (0:Int)<t.length by omega);have cne:(i,c)≠s0:=fun k=>hfit.n.ne (congrArg Prod.snd k)
 have here:(tput t i c)[(i % (t.length:Int)).toNat]? = some (i,c):=by
  unfold tput;rw[List.getElem?_set,q0z rfl,q0z (by omega)]
 have there:∀j:Nat,j≠(i % (t.length:Int)).toNat->(tput t i c)[j]? = t[j]? := fun j hj=>by
  unfold tput;rw[List.getElem?_set,q0n (Ne.symm hj)]
 refine ⟨hfit,hok',fun s hs => ?_,fun j ⟨x,hx,hxj⟩ hall => ?_⟩
 ·rw[k0z hok',hlen] at hs;obtain ⟨s1,s2⟩:=hs;by_cases hj:(s.1 % (t.length:Int)).toNat=(i % (t.length:Int)).toNat
  ·rw[hj,here] at s2;injection s2 with s2;subst s2;rw[ews,hc]
  ·rw[there _ hj] at s2;have:=hcells s ((k0z hok).2 ⟨s1,s2⟩);rw[win_snoc,q0n (fun k=>hj (by rw[<-k,hi])),this]
 ·rw[hlen] at hall;rw[k0z hok',hlen];rcases q2n.1 hx with hx | hx
  ·by_cases hji:j=i
   ·subst hji;rw[ews,hc];exact ⟨cne,here⟩
   ·have hxi:=hle x hx;have hil:=hall e (by simp);have hjlt:j<i:=by omega
    have:=hkept j ⟨x,hx,hxj⟩ (fun y hy=>hall y (by simp[hy]));rw[k0z hok] at this;rw[win_snoc,q0n (by omega)];refine ⟨this.1,?_⟩;rw[there _ ?_]
    ·exact this.2
    ·intro k;have k:(j % (t.length:Int)).toNat=(i % (t.length:Int)).toNat:=k;have hjm:=Int.emod_nonneg j (show (t.length:Int)≠0 by omega);exact rest_ne (n:=(t.length:Int)) (by omega) hjlt (by omega) (by omega)
  ·simp at hx;subst hx;rw[hi] at hxj;subst hxj;rw[ews,hc];exact ⟨cne,here⟩
end Go.Plim
namespace Go.Proofs.YtfibfcjepngbmaaGreatDoor
open Go.Flat
abbrev Conf:=Int×((Int×(Int×Int))×((Int×(Int×Int))×(Int×Int)))
def prt (n e:Int):Int:=(n+e-1) / e
def plc (c:Conf):Int:=1+prt c.1 16+prt c.2.2.1.1 4+prt c.2.2.1.2.1 4+prt c.2.2.1.2.2 4
structure Rng (c:Conf):Prop where
 raw:1<=c.1/\c.1<=4096
 cap:1<=c.2.2.2.1/\c.2.2.2.1<=65536
 log:1<=c.2.2.2.2/\c.2.2.2.2<=8192
 w0:1<=c.2.1.1/\c.2.1.1<=1099511627776
 w1:1<=c.2.1.2.1/\c.2.1.2.1<=1099511627776
 w2:1<=c.2.1.2.2/\c.2.1.2.2<=1099511627776
 n0:1<=c.2.2.1.1/\c.2.2.1.1<=4096
 n1:1<=c.2.2.1.2.1/\c.2.2.1.2.1<=4096
 n2:1<=c.2.2.1.2.2/\c.2.2.1.2.2<=4096
structure OkC (c:Conf):Prop where
 rng:Rng c
 m1:c.2.1.2.1 % c.2.1.1=0
 d1:c.2.1.2.1 / c.2.1.1<=c.2.2.1.1
 m2:c.2.1.2.2 % c.2.1.2.1=0
 d2:c.2.1.2.2 / c.2.1.2.1<=c.2.2.1.2.1
 pl:plc c<c.2.2.2.2
theorem v0f (n:Nat)(x e:Int)(he:1<=e)(he':e<=1000)(hx:0<=x)(hx':x<=1000000000):j0p (n+1) x e=some (prt x e):=by
 rw[l1h];have h1:¬(e=0):=by omega
 simp only[tfd,q0n h1];rw[w64 (x:=x+e) (by omega) (by omega),w64 (x:=x+e-1) (by omega) (by omega),j0v (by omega)];have h2:0<=(x+e-1) / e:=Int.ediv_nonneg (by omega) (by omega);have h3:(x+e-1) / e<=x+e-1:=Int.ediv_le_self _ (by omega);rw[w64 (by omega) (by omega)];rfl
theorem prt_step (x e:Int)(he:1<=e):prt x e=1+prt (x-e) e:=by
 unfold prt;rw[show x+e-1=(x-e+e-1)+1*e by omega,Int.add_mul_ediv_right _ _ (by omega)];omega
theorem w1q (x e:Int)(h1 : -e<x)(hx:x<=0):prt x e=0:=Int.ediv_eq_zero_of_lt (by omega) (by omega)
theorem c1z (n:Nat)(e:Int)(he:1<=e)(he':e<=1000):∀(m f:Nat) (x k:Int),x<=m -> -e<x->m<f->0<=k->k+m<=1000000000->m<=1000000000->k0x n f (x,e,k,())=some (.inl (k+prt x e,())):=by
 intro m;induction m with
 | zero =>
  intro f x k hx hx' hf hk hkm hm;obtain ⟨f,rfl⟩:∃g,f=g+1:=⟨f-1,by omega⟩;rw[p0e];have h1:¬((0:Int)<x):=by omega
  simp only[tfd,q0n h1];rw[w1q x e hx' (by omega),Int.add_zero]
 | succ m ih =>
  intro f x k hx hx' hf hk hkm hm;obtain ⟨f,rfl⟩:∃g,f=g+1:=⟨f-1,by omega⟩;rw[p0e];by_cases h1:(0:Int)<x
  ·simp only[tfd,q0z h1];rw[w64 (x:=x-e) (by omega) (by omega),w64 (x:=k+1) (by omega) (by omega),ih f (x-e) (k+1) (by omega) (by omega) (by omega) (by omega) (by omega) (by omega),prt_step x e he];congr 3;omega
  ·simp only[tfd,q0n h1];rw[w1q x e hx' (by omega),Int.add_zero]
theorem j0e (n:Nat)(x e:Int)(he:1<=e)(he':e<=1000)(hx:0<=x)(hx':x<=100000000):m0a (n+1) x e=some (prt x e):=by
 rw[o1b,c1z n e he he' x.toNat a0b x 0 (by omega) (by omega) (by unfold a0b;omega) (by omega) (by omega) (by omega)];simp
theorem e0e {x e:Int}(he:1<=e)(hx:0<=x):0<=prt x e/\prt x e<=x:=by
 unfold prt;refine ⟨Int.ediv_nonneg (by omega) (by omega),?_⟩;have:x+e-1<(x+1)*e:=by
  have:=Int.mul_le_mul_of_nonneg_left he (show 0<=x by omega);rw[Int.add_mul];omega
 have:=Int.ediv_lt_of_lt_mul (by omega) this;omega
theorem plc_range {c:Conf}(h:Rng c):1<=plc c/\plc c<=20000:=by
 have a:=e0e (x:=c.1) (e:=16) (by omega) (by have:=h.raw;omega);have b:=e0e (x:=c.2.2.1.1) (e:=4) (by omega) (by have:=h.n0;omega);have d:=e0e (x:=c.2.2.1.2.1) (e:=4) (by omega) (by have:=h.n1;omega);have f:=e0e (x:=c.2.2.1.2.2) (e:=4) (by omega) (by have:=h.n2;omega);have:=h.raw;have:=h.n0;have:=h.n1;have:=h.n2;unfold plc;omega
theorem o1q (n:Nat){c:Conf}(h:Rng c):j0o (n+2) c=some (plc c):=by
 have h0:=h.raw;have h1:=h.n0;have h2:=h.n1;have h3:=h.n2;rw[l1g,v0f n _ 16 (by omega) (by omega) (by omega) (by omega),v0f n _ 4 (by omega) (by omega) (by omega) (by omega),v0f n _ 4 (by omega) (by omega) (by omega) (by omega),v0f n _ 4 (by omega) (by omega) (by omega) (by omega)];simp only[obs];have a:=e0e (x:=c.1) (e:=16) (by omega) (by omega);have b:=e0e (x:=c.2.2.1.1) (e:=4) (by omega) (by omega);have d:=e0e (x:=c.2.2.1.2.1) (e:=4) (by omega) (by omega);have f:=e0e (x:=c.2.2.1.2.2) (e:=4) (by omega) (by omega)
 rw[w64 (x:=1+_) (by omega) (by omega),w64 (x:=1+_+_) (by omega) (by omega),w64 (x:=1+_+_+_) (by omega) (by omega),w64 (by omega) (by omega)];rfl
theorem u0v (n:Nat){c:Conf}(h:Rng c):b1c (n+2) c=some (plc c):=by
 have h0:=h.raw;have h1:=h.n0;have h2:=h.n1;have h3:=h.n2;rw[o1a,j0e n _ 16 (by omega) (by omega) (by omega) (by omega),j0e n _ 4 (by omega) (by omega) (by omega) (by omega),j0e n _ 4 (by omega) (by omega) (by omega) (by omega),j0e n _ 4 (by omega) (by omega) (by omega) (by omega)];simp only[obs];have a:=e0e (x:=c.1) (e:=16) (by omega) (by omega);have b:=e0e (x:=c.2.2.1.1) (e:=4) (by omega) (by omega);have d:=e0e (x:=c.2.2.1.2.1) (e:=4) (by omega) (by omega);have f:=e0e (x:=c.2.2.1.2.2) (e:=4) (by omega) (by omega)
 rw[w64 (x:=1+_) (by omega) (by omega),w64 (x:=1+_+_) (by omega) (by omega),w64 (x:=1+_+_+_) (by omega) (by omega),w64 (by omega) (by omega)];rfl
theorem in_int (n:Nat)(x a b:Int):e0s (n+1) x a b=some (decide (a<=x/\x<=b)):=by
 rw[e1g];by_cases h1:a<=x<;>by_cases h2:x<=b<;>simp[h1,h2]
theorem x1f (n:Nat)(x a b:Int):g0x (n+1) x a b=some (decide (a<=x/\x<=b)):=by
 rw[z0f];by_cases h1:a<=x<;>by_cases h2:x<=b<;>simp[h1,h2]
theorem z0b {a b:Int}(ha:1<=a/\a<=1099511627776)(hb:1<=b):wrap .i64 (Int.tdiv a b)=a / b:=by
 rw[j0v (by omega)];have h2:0<=a / b:=Int.ediv_nonneg (by omega) (by omega);have h3:a / b<=a:=Int.ediv_le_self _ (by omega);rw[w64 (by omega) (by omega)]
theorem check_ok (n:Nat){c:Conf}(h:OkC c):f0f (n+3) c=some 0:=by
 obtain ⟨hr,m1,d1,m2,d2,pl⟩:=h;have hp:=o1q n hr;obtain ⟨raw,cap,log,w0,w1,w2,n0,n1,n2⟩:=hr;rw[v0y];simp only[in_int,x1f,obs,tfd,q0z raw,q0z cap,q0z log,q0z w0,q0z w1,q0z w2,q0z n0,q0z n1,q0z n2];have z0:¬(c.2.1.1=0):=by omega
 have z1:¬(c.2.1.2.1=0):=by omega
 rw[z0b w1 w0.1,z0b w2 w1.1,e0k (a:=c.2.1.2.1) (by omega),e0k (a:=c.2.1.2.2) (by omega)];have l:¬(c.2.2.2.2<=plc c):=by omega
 simp only[q0n z0,q0n z1,q0z m1,q0z d1,q0z m2,q0z d2,tfn,tfd,hp,obs,q0n l]
theorem check_no (n:Nat){c:Conf}(h:¬OkC c):f0f (n+3) c=some 2:=by
 rw[v0y];simp only[in_int,x1f,obs,tfd,tfn];by_cases raw:1<=c.1/\c.1<=4096
 case neg=>rw[q0n raw]
 rw[q0z raw];by_cases cap:1<=c.2.2.2.1/\c.2.2.2.1<=65536
 case neg=>rw[q0n cap]
 rw[q0z cap];by_cases log:1<=c.2.2.2.2/\c.2.2.2.2<=8192
 case neg=>rw[q0n log]
 rw[q0z log];by_cases w0:1<=c.2.1.1/\c.2.1.1<=1099511627776
 case neg=>rw[q0n w0]
 rw[q0z w0];by_cases n0:1<=c.2.2.1.1/\c.2.2.1.1<=4096
 case neg=>rw[q0n n0]
 rw[q0z n0];by_cases w1:1<=c.2.1.2.1/\c.2.1.2.1<=1099511627776
 case neg=>rw[q0n w1]
 rw[q0z w1];by_cases n1:1<=c.2.2.1.2.1/\c.2.2.1.2.1<=4096
 case neg=>rw[q0n n1]
 rw[q0z n1];by_cases w2:1<=c.2.1.2.2/\c.2.1.2.2<=1099511627776
 case neg=>rw[q0n w2]
 rw[q0z w2];by_cases n2:1<=c.2.2.1.2.2/\c.2.2.1.2.2<=4096
 case neg=>rw[q0n n2,q0n n2]
 rw[q0z n2];have hr:Rng c:=⟨raw,cap,log,w0,w1,w2,n0,n1,n2⟩;have hp:=o1q n hr;have z0:¬(c.2.1.1=0):=by omega
 have z1:¬(c.2.1.2.1=0):=by omega
 rw[z0b w1 w0.1,z0b w2 w1.1,e0k (a:=c.2.1.2.1) (by omega),e0k (a:=c.2.1.2.2) (by omega)];rw[q0n z0,q0n z0];by_cases m1:c.2.1.2.1 % c.2.1.1=0
 case neg=>rw[q0n m1]
 rw[q0z m1];by_cases d1:c.2.1.2.1 / c.2.1.1<=c.2.2.1.1
 case neg=>rw[q0n d1,q0n d1]
 rw[q0z d1,q0n z1,q0n z1];by_cases m2:c.2.1.2.2 % c.2.1.2.1=0
 case neg=>rw[q0n m2]
 rw[q0z m2];by_cases d2:c.2.1.2.2 / c.2.1.2.1<=c.2.2.1.2.1
 case neg=>rw[q0n d2,q0n d2]
 rw[q0z d2,q0z d2,hp];simp only[obs];by_cases pl:c.2.2.2.2<=plc c
 ·rw[q0z pl]
 ·exact absurd ⟨hr,m1,d1,m2,d2,by omega⟩ h
theorem o1c (n:Nat){c:Conf}(h:OkC c):e0o (n+3) c=some 0:=by
 obtain ⟨hr,m1,d1,m2,d2,pl⟩:=h;have hp:=u0v n hr;obtain ⟨raw,cap,log,w0,w1,w2,n0,n1,n2⟩:=hr;rw[y0g];rw[z0b w1 w0.1,z0b w2 w1.1,e0k (a:=c.2.1.2.1) (by omega),e0k (a:=c.2.1.2.2) (by omega)];have l:¬(c.2.2.2.2<=plc c):=by omega
 simp only[tfd,tfn,hp,obs];rw[q0n (by omega),q0n (by omega),q0n (by omega),q0n (by omega),q0n (by omega),q0n (by omega),q0n (by omega),q0n (by omega),q0n (by omega),q0n (by omega),q0n (by omega),q0n (by omega),q0n (by omega),q0n (by omega),q0n (by omega)];rw[q0z m1,q0n (by omega),q0n (by omega),q0n (by omega),q0n (by omega),q0n (by omega),q0n (by omega),q0n (by omega)];rw[q0z m2,q0n (by omega),q0n (by omega),q0n l]
theorem o1d (n:Nat){c:Conf}(h:¬OkC c):e0o (n+3) c=some 2:=by
 rw[y0g];simp only[tfd,tfn];by_cases raw:1<=c.1/\c.1<=4096
 case neg =>
  by_cases z:c.1<1
  ·rw[q0z z]
  ·rw[q0n z,q0z (by omega)]
 rw[q0n (by omega),q0n (by omega)];by_cases cap:1<=c.2.2.2.1/\c.2.2.2.1<=65536
 case neg =>
  by_cases z:c.2.2.2.1<1
  ·rw[q0z z]
  ·rw[q0n z,q0z (by omega)]
 rw[q0n (by omega),q0n (by omega)];by_cases log:1<=c.2.2.2.2/\c.2.2.2.2<=8192
 case neg =>
  by_cases z:c.2.2.2.2<1
  ·rw[q0z z]
  ·rw[q0n z,q0z (by omega)]
 rw[q0n (by omega),q0n (by omega)];by_cases w0:1<=c.2.1.1/\c.2.1.1<=1099511627776
 case neg =>
  by_cases z:c.2.1.1<1
  ·rw[q0z z]
  ·rw[q0n z,q0z (by omega)]
 rw[q0n (by omega),q0n (by omega)];by_cases n0:1<=c.2.2.1.1/\c.2.2.1.1<=4096
 case neg =>
  by_cases z:c.2.2.1.1<1
  ·rw[q0z z]
  ·rw[q0n z,q0z (by omega)]
 rw[q0n (by omega),q0n (by omega)];by_cases w1:1<=c.2.1.2.1/\c.2.1.2.1<=1099511627776
 case neg =>
  by_cases z:c.2.1.2.1<1
  ·rw[q0z z]
  ·rw[q0n z,q0z (by omega)]
 rw[q0n (by omega),q0n (by omega)];by_cases n1:1<=c.2.2.1.2.1/\c.2.2.1.2.1<=4096
 case neg =>
  by_cases z:c.2.2.1.2.1<1
  ·rw[q0z z]
  ·rw[q0n z,q0z (by omega)]
 rw[q0n (by omega),q0n (by omega),q0n (by omega)];rw[e0k (a:=c.2.1.2.1) (by omega),z0b w1 w0.1];by_cases m1:c.2.1.2.1 % c.2.1.1=0
 case neg=>rw[q0n m1]
 rw[q0z m1,q0n (by omega)];by_cases d1:c.2.1.2.1 / c.2.1.1<=c.2.2.1.1
 case neg=>rw[q0z (by omega)]
 rw[q0n (by omega)];by_cases w2:1<=c.2.1.2.2/\c.2.1.2.2<=1099511627776
 case neg =>
  by_cases z:c.2.1.2.2<1
  ·rw[q0z z]
  ·rw[q0n z,q0z (by omega)]
 rw[q0n (by omega),q0n (by omega)];by_cases n2:1<=c.2.2.1.2.2/\c.2.2.1.2.2<=4096
 case neg =>
  by_cases z:c.2.2.1.2.2<1
  ·rw[q0z z]
  ·rw[q0n z,q0z (by omega)]
 rw[q0n (by omega),q0n (by omega),q0n (by omega)];rw[e0k (a:=c.2.1.2.2) (by omega),z0b w2 w1.1];by_cases m2:c.2.1.2.2 % c.2.1.2.1=0
 case neg=>rw[q0n m2]
 rw[q0z m2,q0n (by omega)];by_cases d2:c.2.1.2.2 / c.2.1.2.1<=c.2.2.1.2.1
 case neg=>rw[q0z (by omega)]
 rw[q0n (by omega)];have hr:Rng c:=⟨raw,cap,log,w0,w1,w2,n0,n1,n2⟩;rw[u0v n hr];simp only[obs];by_cases pl:c.2.2.2.2<=plc c
 ·rw[q0z pl]
 ·exact absurd ⟨hr,m1,d1,m2,d2,by omega⟩ h
open Go.Flat Go.Plim
abbrev Trs:=List Slo×(List Slo×List Slo)
noncomputable instance (c:Conf):Decidable (OkC c):=Classical.propDecidable _
structure FoldOk (c:Conf)(s:Trs):Prop where
 cok:OkC c
 n0:(s.1.length:Int)=c.2.2.1.1
 n1:(s.2.1.length:Int)=c.2.2.1.2.1
 n2:(s.2.2.length:Int)=c.2.2.1.2.2
 t0:TierOk s.1 c.2.1.1
 t1:TierOk s.2.1 c.2.1.2.1
 t2:TierOk s.2.2 c.2.1.2.2
noncomputable instance (c:Conf) (s:Trs):Decidable (FoldOk c s):=Classical.propDecidable _
def mk1 (c:Conf)(s:Trs)(i:Int):Cel×Int:=m1k s.1 (i*(c.2.1.2.1 / c.2.1.1)) ((i+1)*(c.2.1.2.1 / c.2.1.1))
def mk2 (c:Conf)(s:Trs)(i:Int):Cel×Int:=m1k s.2.1 (i*(c.2.1.2.2 / c.2.1.2.1)) ((i+1)*(c.2.1.2.2 / c.2.1.2.1))
noncomputable def up1 (c:Conf)(s:Trs)(i j:Int):Trs :=
 if i*c.2.1.1 / c.2.1.2.1=j*c.2.1.1 / c.2.1.2.1 then s
 else if (mk1 c s (i*c.2.1.1 / c.2.1.2.1)).2=0/\FitsP (mk1 c s (i*c.2.1.1 / c.2.1.2.1)).1 c.2.1.2.1 (i*c.2.1.1 / c.2.1.2.1) then (s.1,(tput s.2.1 (i*c.2.1.1 / c.2.1.2.1) (mk1 c s (i*c.2.1.1 / c.2.1.2.1)).1,s.2.2))
 else s
noncomputable def up2 (c:Conf)(s:Trs)(i j:Int):Trs :=
 if i*c.2.1.1 / c.2.1.2.2=j*c.2.1.1 / c.2.1.2.2 then s
 else if (mk2 c s (i*c.2.1.1 / c.2.1.2.2)).2=0/\FitsP (mk2 c s (i*c.2.1.1 / c.2.1.2.2)).1 c.2.1.2.2 (i*c.2.1.1 / c.2.1.2.2) then (s.1,(s.2.1,tput s.2.2 (i*c.2.1.1 / c.2.1.2.2) (mk2 c s (i*c.2.1.1 / c.2.1.2.2)).1))
 else s
noncomputable def upw (c:Conf)(s:Trs)(i j:Int):Trs:=up2 c (up1 c s i j) i j
theorem c2l {c:Conf}{s:Trs}(h:FoldOk c s)(i j:Int):FoldOk c (up1 c s i j):=by
 unfold up1;split
 ·exact h
 ·split
  ·rename_i k;exact ⟨h.cok,h.n0,by simpa [tput] using h.n1,h.n2,h.t0,h1g h.t1 k.2,h.t2⟩
  ·exact h
theorem up2_ok {c:Conf}{s:Trs}(h:FoldOk c s)(i j:Int):FoldOk c (up2 c s i j):=by
 unfold up2;split
 ·exact h
 ·split
  ·rename_i k;exact ⟨h.cok,h.n0,h.n1,by simpa [tput] using h.n2,h.t0,h.t1,h1g h.t2 k.2⟩
  ·exact h
theorem upw_ok {c:Conf}{s:Trs}(h:FoldOk c s)(i j:Int):FoldOk c (upw c s i j):=up2_ok (c2l h i j) i j
theorem a2p {a w m:Int}(hw:1<=w)(h:a<=m / w):a*w<=m :=
 Int.le_trans (Int.mul_le_mul_of_nonneg_right h (by omega)) (Int.ediv_mul_le m (by omega))
def d0w (w i:Int):Prop:=0<=i/\i<=35184372088831 / w
instance (w i:Int):Decidable (d0w w i):=by unfold d0w;infer_instance
theorem d0w.mul {w i:Int}(hw:1<=w)(h:d0w w i):0<=i*w/\i*w<=35184372088831:=⟨Int.mul_nonneg h.1 (by omega),a2p hw h.2⟩
theorem g1g {x w:Int}(hw:1<=w)(h:0<=x/\x<=35184372088831):d0w w (x / w):=⟨Int.ediv_nonneg h.1 (by omega),Int.ediv_le_ediv (by omega) h.2⟩
theorem q1t {w i:Int}(hw:1<=w)(h:d0w w i):i<=35184372088831:=by
 have:=Int.ediv_le_self w (a:=35184372088831) (by decide);have:=h.2;omega
theorem a2q {a b i:Int}(ha:1<=a/\a<=1099511627776)(hb:1<=b/\b<=1099511627776)(hm:b % a=0)(h:d0w b i) :
  1<=b / a/\b / a<=1099511627776/\b / a*a=b/\0<=i*(b / a)/\i*(b / a)<=35184372088831/\(i+1)*(b / a)=i*(b / a)+b / a:=by
 have e:b / a*a=b:=by have:=Int.mul_ediv_add_emod b a;rw[Int.mul_comm];omega
 have h0:0<=b / a:=Int.ediv_nonneg (by omega) (by omega);have h1:b / a<=b:=Int.ediv_le_self _ (by omega);have h2:1<=b / a:=by
  rcases Int.lt_or_le 0 (b / a) with k | k
  ·omega
  ·have:b / a=0:=by omega
   rw[this] at e;omega
 have hi:=h.mul hb.1;have h3:0<=i*(b / a):=Int.mul_nonneg h.1 h0;have h4:i*(b / a)<=i*b:=Int.mul_le_mul_of_nonneg_left h1 h.1;exact ⟨h2,by omega,e,h3,by omega,by rw[Int.add_mul,Int.one_mul]⟩
structure TrsW (s:Trs):Prop where
 a:∀x∈s.1,SloW x
 b:∀x∈s.2.1,SloW x
 c:∀x∈s.2.2,SloW x
theorem FoldOk.w {c:Conf}{s:Trs}(h:FoldOk c s):TrsW s:=⟨i0z h.t0,i0z h.t1,i0z h.t2⟩
theorem m0r (n:Nat)(c:Conf):f0f (n+3) c=some (if OkC c then 0 else 2):=by
 by_cases h:OkC c
 ·rw[q0z h,check_ok n h]
 ·rw[q0n h,check_no n h]
theorem i0e (n:Nat)(c:Conf):e0o (n+3) c=some (if OkC c then 0 else 2):=by
 by_cases h:OkC c
 ·rw[q0z h,o1c n h]
 ·rw[q0n h,o1d n h]
theorem v0s (n:Nat)(c:Conf){s:Trs}(hw:TrsW s):v0t (n+8) c s=some (if FoldOk c s then (some (c,s),0) else (none,2)):=by
 rw[p1y,m0r (n+4),q0g n _ _ hw.a,q0g n _ _ hw.b,q0g n _ _ hw.c];simp only[obs,tfn,tfd];by_cases h0:OkC c
 case neg=>rw[q0n (mt (z02 _).1 h0),q0n h0,q0n (fun k:FoldOk c s=>h0 k.cok)]
 rw[q0z ((z02 _).2 h0)];by_cases h1:(s.1.length:Int)=c.2.2.1.1
 case neg=>rw[q0n h1,q0n (fun k:FoldOk c s=>h1 k.n0)]
 rw[q0z h1];by_cases h2:TierOk s.1 c.2.1.1
 case neg=>rw[q0n (mt (z02 _).1 h2),q0n (fun k:FoldOk c s=>h2 k.t0)]
 rw[q0z ((z02 _).2 h2)];by_cases h3:(s.2.1.length:Int)=c.2.2.1.2.1
 case neg=>rw[q0n h3,q0n (fun k:FoldOk c s=>h3 k.n1)]
 rw[q0z h3];by_cases h4:TierOk s.2.1 c.2.1.2.1
 case neg=>rw[q0n (mt (z02 _).1 h4),q0n (fun k:FoldOk c s=>h4 k.t1)]
 rw[q0z ((z02 _).2 h4)];by_cases h5:(s.2.2.length:Int)=c.2.2.1.2.2
 case neg=>rw[q0n h5,q0n (fun k:FoldOk c s=>h5 k.n2)]
 rw[q0z h5];by_cases h6:TierOk s.2.2 c.2.1.2.2
 case neg=>rw[q0n (mt (z02 _).1 h6),q0n (fun k:FoldOk c s=>h6 k.t2)]
 rw[q0z ((z02 _).2 h6),q0z (⟨h0,h1,h3,h5,h2,h4,h6⟩:FoldOk c s)]
theorem n1t (n:Nat)(c:Conf){s:Trs}(hw:TrsW s):u0p (n+7) c s=some (if FoldOk c s then 0 else 2):=by
 rw[n1w,i0e (n+3),u0q n _ _ hw.a,u0q n _ _ hw.b,u0q n _ _ hw.c];simp only[obs,tfn,tfd];by_cases h0:OkC c
 case neg=>rw[q0n (mt (z02 _).1 h0),q0n (fun k:FoldOk c s=>h0 k.cok)]
 rw[q0z ((z02 _).2 h0)];by_cases h1:(s.1.length:Int)=c.2.2.1.1
 case neg=>rw[q0n h1,q0n (fun k:FoldOk c s=>h1 k.n0)]
 rw[q0z h1];by_cases h2:TierOk s.1 c.2.1.1
 case neg=>rw[q0n (mt (z02 _).1 h2),q0n (fun k:FoldOk c s=>h2 k.t0)]
 rw[q0z ((z02 _).2 h2)];by_cases h3:(s.2.1.length:Int)=c.2.2.1.2.1
 case neg=>rw[q0n h3,q0n (fun k:FoldOk c s=>h3 k.n1)]
 rw[q0z h3];by_cases h4:TierOk s.2.1 c.2.1.2.1
 case neg=>rw[q0n (mt (z02 _).1 h4),q0n (fun k:FoldOk c s=>h4 k.t1)]
 rw[q0z ((z02 _).2 h4)];by_cases h5:(s.2.2.length:Int)=c.2.2.1.2.2
 case neg=>rw[q0n h5,q0n (fun k:FoldOk c s=>h5 k.n2)]
 rw[q0z h5];by_cases h6:TierOk s.2.2 c.2.1.2.2
 case neg=>rw[q0n (mt (z02 _).1 h6),q0n (fun k:FoldOk c s=>h6 k.t2)]
 rw[q0z ((z02 _).2 h6),q0z (⟨h0,h1,h3,h5,h2,h4,h6⟩:FoldOk c s)]
theorem b2i (n:Nat)(c:Conf){s:Trs}(hw:TrsW s):x0j (n+9) c s=some (if FoldOk c s then 0 else 2):=by
 rw[k1j,v0s n c hw];by_cases h:FoldOk c s
 ·rw[q0z h,q0z h];rfl
 ·rw[q0n h,q0n h];rfl
noncomputable def emp (c:Conf):Trs:=if OkC c then (List.replicate c.2.2.1.1.toNat s0,(List.replicate c.2.2.1.2.1.toNat s0,List.replicate c.2.2.1.2.2.toNat s0)) else ([],([],[]))
theorem b2g (n:Nat)(c:Conf):x0h (n+4) c=some (emp c):=by
 rw[k1h,m0r n];simp only[obs,tfn,tfd,tier_new];unfold emp;by_cases h:OkC c
 ·have h0:=h.rng.n0;have h1:=h.rng.n1;have h2:=h.rng.n2;rw[q0z ((z02 _).2 h),q0z h,q0z h0,q0z h1,q0z h2]
 ·rw[q0n (mt (z02 _).1 h),q0n h]
theorem e2l (n:Nat)(c:Conf):a1x (n+4) c=some (emp c):=by
 rw[n1u,i0e n];simp only[obs,tfn,tfd,r13_new];unfold emp;by_cases h:OkC c
 ·have h0:=h.rng.n0;have h1:=h.rng.n1;have h2:=h.rng.n2;rw[q0z ((z02 _).2 h),q0z h,q0z h0,q0z h1,q0z h2]
 ·rw[q0n (mt (z02 _).1 h),q0n h]
theorem e2v {w:Int}(hw:1<=w):wrap .i64 (Int.tdiv 35184372088831 w)=35184372088831 / w:=by
 have:0<=(35184372088831:Int) / w:=Int.ediv_nonneg (by decide) (by omega);have:(35184372088831:Int) / w<=35184372088831:=Int.ediv_le_self _ (by decide);rw[j0v (by decide),w64 (by omega) (by omega)]
theorem begins_0 (n:Nat)(c:Conf)(s:Trs)(h:1<=c.2.1.1)(i:Int):o0e (n+1) (c,s) 0 i=some (decide (d0w c.2.1.1 i),(c,s)):=by
 rw[z0d];simp only[tfd,q0n (show ¬(c.2.1.1=0) by omega),e2v h];by_cases h0:(0:Int)<=i
 ·rw[q0z h0];refine congrArg (fun b=>some (b,(c,s))) (q2s.2 ⟨fun k=>⟨h0,k⟩,fun k=>k.2⟩)
 ·rw[q0n h0,q1z (fun k:d0w c.2.1.1 i=>h0 k.1)]
theorem c1y (n:Nat){w:Int}(h:1<=w)(i:Int):q0s (n+1) i w=some (decide (d0w w i)):=by
 rw[i1y];simp only[tfd,q0n (show ¬(w=0) by omega),e2v h];by_cases h0:(0:Int)<=i
 ·rw[q0z h0];exact congrArg some (q2s.2 ⟨fun k=>⟨h0,k⟩,fun k=>k.2⟩)
 ·rw[q0n h0,q1z (fun k:d0w w i=>h0 k.1)]
theorem allE_okc (l:List Cel):∀c,b0x c->b0x (allE c l).1:=by
 induction l with
 | nil=>intro c h;exact h
 | cons x l ih =>
  intro c h;simp only[allE];split
  ·rename_i k;exact ih _ (u1n k).2.2.2.2
  ·exact f2k
theorem t0s (l:List Slo)(i k:Int):b0x (m1k l i k).1:=by
 unfold m1k;split
 ·exact f2k
 ·exact allE_okc _ _ f2k
theorem r0f {a b i:Int}(ha:1<=a/\a<=1099511627776)(hb:1<=b/\b<=1099511627776)(hm:b % a=0)(h:d0w b i) :
  wrap .i64 (i*(b / a))=i*(b / a)/\wrap .i64 ((wrap .i64 (i+1))*(b / a))=(i+1)*(b / a):=by
 obtain ⟨h1,h2,h3,h4,h5,h6⟩:=a2q ha hb hm h;have:=q1t hb.1 h;have:=h.1;rw[w64 (x:=i+1) (by omega) (by omega),h6,w64 (by omega) (by omega),w64 (by omega) (by omega)];exact ⟨rfl,rfl⟩
theorem b2f (n:Nat){c:Conf}{s:Trs}(h:FoldOk c s){i:Int}(hb:d0w c.2.1.2.1 i):f0m (n+19) (c,s) 1 i=some ((mk1 c s i).1,((mk1 c s i).2,(c,s))):=by
 have hr:=h.cok.rng;obtain ⟨e1,e2⟩:=r0f hr.w0 hr.w1 h.cok.m1 hb;rw[e1b];simp only[tfd,q0n (show ¬(c.2.1.1=0) by have:=hr.w0;omega),z0b hr.w1 hr.w0.1,e1,e2,m1f n h.t0,obs];rfl
theorem b2e (n:Nat){c:Conf}{s:Trs}(h:FoldOk c s){i:Int}(hb:d0w c.2.1.2.2 i):f0m (n+19) (c,s) 2 i=some ((mk2 c s i).1,((mk2 c s i).2,(c,s))):=by
 have hr:=h.cok.rng;obtain ⟨e1,e2⟩:=r0f hr.w1 hr.w2 h.cok.m2 hb;rw[e1a];simp only[tfd,q0n (show ¬(c.2.1.2.1=0) by have:=hr.w1;omega),z0b hr.w2 hr.w1.1,e1,e2,m1f n h.t1,obs];rfl
theorem t1m (n:Nat){c:Conf}(h:OkC c):m0b (n+4) c 1=some (c.2.1.2.1 / c.2.1.1):=by
 have hr:=h.rng;rw[u0w,i0e n c,q0z h];rw[show wrap .i64 ((1:Int)-1)=0 from rfl];simp only[obs,decide_true,q2t,tff];rw[show (decide ((1:Int)<1))=false from rfl,tff,show (decide ((2:Int)<1))=false from rfl,tff,show (decide ((1:Int)=0))=false from rfl,tff];simp only[tft,tfd,q0n (show ¬(c.2.1.1=0) by have:=hr.w0;omega),z0b hr.w1 hr.w0.1]
theorem t1l (n:Nat){c:Conf}(h:OkC c):m0b (n+4) c 2=some (c.2.1.2.2 / c.2.1.2.1):=by
 have hr:=h.rng;rw[u0w,i0e n c,q0z h];rw[show wrap .i64 ((2:Int)-1)=1 from rfl];simp only[obs,decide_true,q2t,tff];rw[show (decide ((2:Int)<1))=false from rfl,tff,show (decide ((2:Int)<2))=false from rfl,tff,show (decide ((2:Int)=0))=false from rfl,tff,show (decide ((2:Int)=1))=false from rfl,tff,show (decide ((1:Int)=0))=false from rfl,tff];simp only[decide_true,tft,tfd,q0n (show ¬(c.2.1.2.1=0) by have:=hr.w1;omega),z0b hr.w2 hr.w1.1]
theorem e2k (n:Nat){c:Conf}{s:Trs}(h:FoldOk c s){i:Int}(hb:d0w c.2.1.2.1 i):g0q (n+8) c s 1 i=some (mk1 c s i):=by
 have hr:=h.cok.rng;obtain ⟨e1,e2⟩:=r0f hr.w0 hr.w1 h.cok.m1 hb;rw[i1x,t1m (n+3) h.cok];simp only[obs,e1,e2,w1j n h.t0];rfl
theorem e2j (n:Nat){c:Conf}{s:Trs}(h:FoldOk c s){i:Int}(hb:d0w c.2.1.2.2 i):g0q (n+8) c s 2 i=some (mk2 c s i):=by
 have hr:=h.cok.rng;obtain ⟨e1,e2⟩:=r0f hr.w1 hr.w2 h.cok.m2 hb;rw[i1w,t1l (n+3) h.cok];simp only[obs,e1,e2,w1j n h.t1];rfl
theorem g2u (n:Nat){c:Conf}{s:Trs}(h:FoldOk c s)(i:Int){x:Cel}(hx:CelW x):e0j (n+9) (c,s) 0 i x=some (if FitsP x c.2.1.1 i then (0,(c,(tput s.1 i x,s.2))) else (2,(c,s))):=by
 rw[k1o,h1h n _ _ (i0z h.t0) hx];simp only[obs,tfd];by_cases hf:FitsP x c.2.1.1 i
 ·rw[q0z (And.intro h.t0 hf),q0z hf];rfl
 ·have hn:¬(TierOk s.1 c.2.1.1/\FitsP x c.2.1.1 i):=fun k=>hf k.2
  rw[q0n hn,q0n hf];rfl
theorem g2t (n:Nat){c:Conf}{s:Trs}(h:FoldOk c s)(i:Int){x:Cel}(hx:CelW x):e0j (n+9) (c,s) 1 i x=some (if FitsP x c.2.1.2.1 i then (0,(c,(s.1,(tput s.2.1 i x,s.2.2)))) else (2,(c,s))):=by
 rw[k1n,h1h n _ _ (i0z h.t1) hx];simp only[obs,tfd];by_cases hf:FitsP x c.2.1.2.1 i
 ·rw[q0z (And.intro h.t1 hf),q0z hf];rfl
 ·have hn:¬(TierOk s.2.1 c.2.1.2.1/\FitsP x c.2.1.2.1 i):=fun k=>hf k.2
  rw[q0n hn,q0n hf];rfl
theorem g2s (n:Nat){c:Conf}{s:Trs}(h:FoldOk c s)(i:Int){x:Cel}(hx:CelW x):e0j (n+9) (c,s) 2 i x=some (if FitsP x c.2.1.2.2 i then (0,(c,(s.1,(s.2.1,tput s.2.2 i x)))) else (2,(c,s))):=by
 rw[k1m,h1h n _ _ (i0z h.t2) hx];simp only[obs,tfd];by_cases hf:FitsP x c.2.1.2.2 i
 ·rw[q0z (And.intro h.t2 hf),q0z hf];rfl
 ·have hn:¬(TierOk s.2.2 c.2.1.2.2/\FitsP x c.2.1.2.2 i):=fun k=>hf k.2
  rw[q0n hn,q0n hf];rfl
theorem g0f {a w i j:Int}(ha:1<=a)(hw:1<=w)(h0:0<=i)(hij:i<=j)(hj:d0w a j) :
  wrap .i64 (Int.tdiv (wrap .i64 (i*a)) w)=i*a / w/\d0w w (i*a / w):=by
 have hm:=hj.mul ha;have h1:0<=i*a:=Int.mul_nonneg h0 (by omega);have h2:i*a<=j*a:=Int.mul_le_mul_of_nonneg_right hij (by omega);have h3:0<=i*a / w:=Int.ediv_nonneg h1 (by omega);have h4:i*a / w<=i*a:=Int.ediv_le_self _ h1;rw[w64 (x:=i*a) (by omega) (by omega),j0v h1,w64 (by omega) (by omega)];exact ⟨rfl,g1g hw ⟨h1,by omega⟩⟩
theorem d2d (n:Nat){c:Conf}{s:Trs}(h:FoldOk c s){i j:Int}(h0:0<=i)(hij:i<=j)(hj:d0w c.2.1.1 j) :
  (tif (decide (wrap .i64 (Int.tdiv (wrap .i64 (i*c.2.1.1)) c.2.1.2.2)=wrap .i64 (Int.tdiv (wrap .i64 (j*c.2.1.1)) c.2.1.2.2))) (some (c,s))
   (a0a (f0m (n+19) (c,s) (2:Int) (wrap .i64 (Int.tdiv (wrap .i64 (i*c.2.1.1)) c.2.1.2.2))) fun r0 =>
    tif (decide (r0.2.1=(0:Int))) (tif (decide ((0:Int)<r0.1.1)) (a0a (e0j (n+19) r0.2.2 (2:Int) (wrap .i64 (Int.tdiv (wrap .i64 (i*c.2.1.1)) c.2.1.2.2)) r0.1) fun r1=>some r1.2) (some r0.2.2)) (some r0.2.2)))=some (c,up2 c s i j):=by
 have hr:=h.cok.rng;have hjj:0<=j:=hj.1;obtain ⟨e1,b1⟩:=g0f hr.w0.1 hr.w2.1 h0 hij hj;obtain ⟨e2,_⟩:=g0f hr.w0.1 hr.w2.1 hjj (Int.le_refl j) hj;rw[e1,e2,b2e n h b1];simp only[obs,tfd];unfold up2;by_cases c1:i*c.2.1.1 / c.2.1.2.2=j*c.2.1.1 / c.2.1.2.2
 ·rw[q0z c1,q0z c1]
 rw[q0n c1,q0n c1];generalize i*c.2.1.1 / c.2.1.2.2=a at *
 have hok:b0x (mk2 c s a).1:=t0s _ _ _;by_cases c2:(mk2 c s a).2=0
 ·rw[q0z c2];by_cases c3:0<(mk2 c s a).1.1
  ·rw[q0z c3,g2s (n+10) h a (CelW.of hok)];by_cases c4:FitsP (mk2 c s a).1 c.2.1.2.2 a
   ·rw[q0z c4,q0z (And.intro c2 c4)];rfl
   ·rw[q0n c4,q0n (fun k=>c4 k.2)];rfl
  ·rw[q0n c3,q0n (fun k=>c3 (by have:=k.2.n.n1;omega))]
 ·rw[q0n c2,q0n (fun k=>c2 k.1)]
theorem fold_up (n:Nat){c:Conf}{s:Trs}(h:FoldOk c s){i j:Int}(h0:0<=i)(hij:i<=j)(hj:d0w c.2.1.1 j):k1l (n+20) (c,s) i j=some (c,upw c s i j):=by
 have hr:=h.cok.rng;have hjj:0<=j:=hj.1;obtain ⟨e1,b1⟩:=g0f hr.w0.1 hr.w1.1 h0 hij hj;obtain ⟨e2,_⟩:=g0f hr.w0.1 hr.w1.1 hjj (Int.le_refl j) hj;have z1:¬(c.2.1.2.1=0):=by have:=hr.w1;omega
 have z2:¬(c.2.1.2.2=0):=by have:=hr.w2;omega
 rw[b2n];simp only[e1,e2,q1z z1,q1z z2,tff,b2f n h b1,obs,d2d n h h0 hij hj];unfold upw;simp only[tfd];by_cases c1:i*c.2.1.1 / c.2.1.2.1=j*c.2.1.1 / c.2.1.2.1
 ·have:up1 c s i j=s:=by unfold up1;rw[q0z c1]
  rw[q0z c1,this]
 rw[q0n c1];have e3:up1 c s i j=if (mk1 c s (i*c.2.1.1 / c.2.1.2.1)).2=0/\FitsP (mk1 c s (i*c.2.1.1 / c.2.1.2.1)).1 c.2.1.2.1 (i*c.2.1.1 / c.2.1.2.1) then (s.1,(tput s.2.1 (i*c.2.1.1 / c.2.1.2.1) (mk1 c s (i*c.2.1.1 / c.2.1.2.1)).1,s.2.2)) else s:=by
  unfold up1;rw[q0n c1]
 have hk:=c2l h i j;rw[e3] at hk ⊢;generalize i*c.2.1.1 / c.2.1.2.1=a at *
 have hok:b0x (mk1 c s a).1:=t0s _ _ _;by_cases c2:(mk1 c s a).2=0
 ·rw[q0z c2];by_cases c3:0<(mk1 c s a).1.1
  ·rw[q0z c3,g2t (n+10) h a (CelW.of hok)];by_cases c4:FitsP (mk1 c s a).1 c.2.1.2.1 a
   ·rw[q0z (And.intro c2 c4)] at hk ⊢;rw[q0z c4];have:=d2d n hk h0 hij hj;simp only[obs,q0n z2];simp only[tfd] at this ⊢;exact this
   ·have hn1:¬((mk1 c s a).2=0/\FitsP (mk1 c s a).1 c.2.1.2.1 a):=fun k=>c4 k.2
    rw[q0n hn1] at hk ⊢;rw[q0n c4];have:=d2d n hk h0 hij hj;simp only[obs,q0n z2];simp only[tfd] at this ⊢;exact this
  ·rw[q0n c3,q0n (fun k=>c3 (by have:=k.2.n.n1;omega))]
 ·rw[q0n c2,q0n (fun k=>c2 k.1)]
theorem f1j (n:Nat){c:Conf}{s:Trs}(h:FoldOk c s){i j:Int}(h0:0<=i)(hij:i<=j)(hj:d0w c.2.1.1 j) :
  (tif (decide (wrap .i64 (Int.tdiv (wrap .i64 (i*c.2.1.1)) c.2.1.2.2)=wrap .i64 (Int.tdiv (wrap .i64 (j*c.2.1.1)) c.2.1.2.2))) (some s)
   (a0a (g0q (n+8) c s (2:Int) (wrap .i64 (Int.tdiv (wrap .i64 (i*c.2.1.1)) c.2.1.2.2))) fun r0 =>
    tif (decide (r0.2=(0:Int))) (tif (decide ((0:Int)<r0.1.1)) (a0a (k0h (n+8) s.2.2 c.2.1.2.2 (wrap .i64 (Int.tdiv (wrap .i64 (i*c.2.1.1)) c.2.1.2.2)) r0.1) fun r1=>tif (decide (r1.2=(0:Int))) (some (s.1,(s.2.1,r1.1))) (some s)) (some s)) (some s)))=some (up2 c s i j):=by
 have hr:=h.cok.rng;have hjj:0<=j:=hj.1;obtain ⟨e1,b1⟩:=g0f hr.w0.1 hr.w2.1 h0 hij hj;obtain ⟨e2,_⟩:=g0f hr.w0.1 hr.w2.1 hjj (Int.le_refl j) hj;rw[e1,e2,e2j n h b1];simp only[obs,tfd];unfold up2;by_cases c1:i*c.2.1.1 / c.2.1.2.2=j*c.2.1.1 / c.2.1.2.2
 ·rw[q0z c1,q0z c1]
 rw[q0n c1,q0n c1];generalize i*c.2.1.1 / c.2.1.2.2=a at *
 have hok:b0x (mk2 c s a).1:=t0s _ _ _;by_cases c2:(mk2 c s a).2=0
 ·rw[q0z c2];by_cases c3:0<(mk2 c s a).1.1
  ·rw[q0z c3,t1b (n+1) _ _ (i0z h.t2) (CelW.of hok)];by_cases c4:FitsP (mk2 c s a).1 c.2.1.2.2 a
   ·rw[q0z (And.intro h.t2 c4),q0z (And.intro c2 c4)];rfl
   ·have hn:¬(TierOk s.2.2 c.2.1.2.2/\FitsP (mk2 c s a).1 c.2.1.2.2 a):=fun k=>c4 k.2
    have hn':¬((mk2 c s a).2=0/\FitsP (mk2 c s a).1 c.2.1.2.2 a):=fun k=>c4 k.2
    rw[q0n hn,q0n hn'];rfl
  ·rw[q0n c3,q0n (fun k=>c3 (by have:=k.2.n.n1;omega))]
 ·rw[q0n c2,q0n (fun k=>c2 k.1)]
theorem z1q (n:Nat){c:Conf}{s:Trs}(h:FoldOk c s){i j:Int}(h0:0<=i)(hij:i<=j)(hj:d0w c.2.1.1 j):w1h (n+9) c s i j=some (upw c s i j):=by
 have hr:=h.cok.rng;have hjj:0<=j:=hj.1;obtain ⟨e1,b1⟩:=g0f hr.w0.1 hr.w1.1 h0 hij hj;obtain ⟨e2,_⟩:=g0f hr.w0.1 hr.w1.1 hjj (Int.le_refl j) hj;have z1:¬(c.2.1.2.1=0):=by have:=hr.w1;omega
 have z2:¬(c.2.1.2.2=0):=by have:=hr.w2;omega
 rw[e2i];simp only[e1,e2,q1z z1,q1z z2,tff,e2k n h b1,obs,f1j n h h0 hij hj];unfold upw;simp only[tfd];by_cases c1:i*c.2.1.1 / c.2.1.2.1=j*c.2.1.1 / c.2.1.2.1
 ·have:up1 c s i j=s:=by unfold up1;rw[q0z c1]
  rw[q0z c1,this]
 rw[q0n c1];have e3:up1 c s i j=if (mk1 c s (i*c.2.1.1 / c.2.1.2.1)).2=0/\FitsP (mk1 c s (i*c.2.1.1 / c.2.1.2.1)).1 c.2.1.2.1 (i*c.2.1.1 / c.2.1.2.1) then (s.1,(tput s.2.1 (i*c.2.1.1 / c.2.1.2.1) (mk1 c s (i*c.2.1.1 / c.2.1.2.1)).1,s.2.2)) else s:=by
  unfold up1;rw[q0n c1]
 have hk:=c2l h i j;rw[e3] at hk ⊢;generalize i*c.2.1.1 / c.2.1.2.1=a at *
 have hok:b0x (mk1 c s a).1:=t0s _ _ _;by_cases c2:(mk1 c s a).2=0
 ·rw[q0z c2];by_cases c3:0<(mk1 c s a).1.1
  ·rw[q0z c3,t1b (n+1) _ _ (i0z h.t1) (CelW.of hok)];by_cases c4:FitsP (mk1 c s a).1 c.2.1.2.1 a
   ·rw[q0z (And.intro c2 c4)] at hk ⊢;rw[q0z (And.intro h.t1 c4)];have:=f1j n hk h0 hij hj;simp only[obs,q0n z2,if_true];simp only[tfd] at this ⊢;exact this
   ·have hn1:¬((mk1 c s a).2=0/\FitsP (mk1 c s a).1 c.2.1.2.1 a):=fun k=>c4 k.2
    rw[q0n hn1] at hk ⊢;have hn:¬(TierOk s.2.1 c.2.1.2.1/\FitsP (mk1 c s a).1 c.2.1.2.1 a):=fun k=>c4 k.2
    rw[q0n hn];rfl
  ·rw[q0n c3,q0n (fun k=>c3 (by have:=k.2.n.n1;omega))]
 ·rw[q0n c2,q0n (fun k=>c2 k.1)]
noncomputable def i0x (c:Conf)(s:Trs)(was:Slo)(j:Int):Trs×Int :=
 if FoldOk c s then
  (if was=s0 then (s,0)
   else if FitsP was.2 c.2.1.1 was.1 then
    (if was.1=j then (s,0) else if was.1<=j/\d0w c.2.1.1 j then (upw c (tput s.1 was.1 was.2,s.2) was.1 j,0) else (([],([],[])),1))
   else (([],([],[])),2))
 else (([],([],[])),2)
theorem s0x {c:Conf}{s:Trs}(h:FoldOk c s){i:Int}{x:Cel}(hf:FitsP x c.2.1.1 i):FoldOk c (tput s.1 i x,s.2) :=
 ⟨h.cok,by simpa [tput] using h.n0,h.n1,h.n2,h1g h.t0 hf,h.t1,h.t2⟩
theorem b2h (n:Nat)(c:Conf){s:Trs}(hw:TrsW s){was:Slo}(hx:SloW was)(j:Int):x0i (n+21) c s was j=some (i0x c s was j):=by
 rw[k1i,v0s (n+12) c hw];unfold i0x;by_cases h:FoldOk c s
 case neg=>rw[q0n h,q0n h];rfl
 have hr:=h.cok.rng;rw[q0z h,q0z h];simp only[obs,r0b,decide_true,q2t,tff,x0x,tfn,tfd,if_true,t0o (n+14) hx.c];by_cases c1:was=s0
 ·rw[q0z c1,q0z c1,q0z c1]
 rw[q0n c1,q0n c1,q0n c1];by_cases c2:FitsP was.2 c.2.1.1 was.1
 case neg=>rw[q0n c2,q0n c2]
 rw[q0z c2,q0z c2];by_cases c3:was.1=j
 ·rw[q0z c3,q0z c3]
 rw[q0n c3,q0n c3];by_cases c4:j<was.1
 ·rw[q0z c4,q0n (fun q=>by omega)]
 rw[q0n c4,begins_0 (n+19) c s hr.w0.1 j];simp only[obs,tfn,tfd];by_cases hb:d0w c.2.1.1 j
 ·have hi:=c2.i0;rw[q0z hb,q0z ⟨by omega,hb⟩,g2u (n+11) h was.1 hx.c,q0z c2];simp only[obs,if_true,fold_up n (s0x h c2) hi.1 (show was.1<=j by omega) hb]
 ·rw[q0n hb,q0n (fun q=>hb q.2)]
theorem e2m (n:Nat)(c:Conf){s:Trs}(hw:TrsW s){was:Slo}(hx:SloW was)(j:Int):a1y (n+10) c s was j=some (i0x c s was j):=by
 rw[n1v,n1t (n+2) c hw];unfold i0x;by_cases h:FoldOk c s
 case neg=>rw[q0n h,q0n h];rfl
 have hr:=h.cok.rng;rw[q0z h,q0z h];simp only[obs,decide_true,q2t,tff,x0x,tfn,tfd,if_true,z0n (n+4) hx.c];by_cases c1:was=s0
 ·rw[q0z c1,q0z c1,q0z c1]
 rw[q0n c1,q0n c1,q0n c1];by_cases c2:FitsP was.2 c.2.1.1 was.1
 case neg=>rw[q0n c2,q0n c2]
 rw[q0z c2,q0z c2];by_cases c3:was.1=j
 ·rw[q0z c3,q0z c3]
 rw[q0n c3,q0n c3];by_cases c4:j<was.1
 ·rw[q0z c4,q0n (fun q=>by omega)]
 rw[q0n c4,c1y (n+8) hr.w0.1 j];simp only[obs,tfn,tfd];by_cases hb:d0w c.2.1.1 j
 ·have hi:=c2.i0;rw[q0z hb,q0z ⟨by omega,hb⟩,t1b (n+2) _ _ (i0z h.t0) hx.c,q0z (And.intro h.t0 c2)];simp only[obs,z1q n (s0x h c2) hi.1 (show was.1<=j by omega) hb]
 ·rw[q0n hb,q0n (fun q=>hb q.2)]
theorem FoldOk.lens {c:Conf}{s:Trs}(h:FoldOk c s):s.1.length<=1000000/\s.2.1.length<=1000000/\s.2.2.length<=1000000:=by
 have:=h.t0.l1;have:=h.t1.l1;have:=h.t2.l1;omega
theorem trs_wf {s:Trs}(h:Wf (.wrap (.pair (.slice a0d) (.pair (.slice a0d) (.slice a0d)))) s):TrsW s:=by
 obtain ⟨h1,h2,h3⟩:=h;exact ⟨r1w h1,r1w h2,r1w h3⟩
abbrev Ser:=List Lab×(Int×(Rw×(Trs×Slo)))
structure SerW (s:Ser):Prop where
 last:I64 s.2.1
 raw:RawW s.2.2.1
 trs:TrsW s.2.2.2.1
 opn:SloW s.2.2.2.2
def a0r (l:List Slo)(i:Int):Prop:=∀s∈l,0<s.2.1->s.1<i
noncomputable instance (l i):Decidable (a0r l i):=Classical.propDecidable _
structure Fresh (s:Ser):Prop where
 raw:s.2.2.1.2.2=[]
 opn:s.2.2.2.2=s0
 b0:a0r s.2.2.2.1.1 0
 b1:a0r s.2.2.2.1.2.1 0
 b2:a0r s.2.2.2.1.2.2 0
structure EndsP (c:Conf)(s:Ser):Prop where
 last:∃e,s.2.2.1.2.2.getLast? = some e/\e.1=s.2.1
 ol:s.2.2.2.2.2.2.2.1.1=s.2.1
 fit:FitsP s.2.2.2.2.2 c.2.1.1 s.2.2.2.2.1
 b0:a0r s.2.2.2.1.1 (s.2.1 / c.2.1.1)
 b1:a0r s.2.2.2.1.2.1 (s.2.1 / c.2.1.2.1)
 b2:a0r s.2.2.2.1.2.2 (s.2.1 / c.2.1.2.2)
structure SerOk (c:Conf)(s:Ser):Prop where
 fold:FoldOk c s.2.2.2.1
 lab:LabOk s.1
 raw:RawOk s.2.2.1 c.1
 st:(s.2.1 = -1/\Fresh s)\/(s.2.1 ≠ -1/\EndsP c s)
noncomputable instance (s):Decidable (Fresh s):=Classical.propDecidable _
noncomputable instance (c s):Decidable (EndsP c s):=Classical.propDecidable _
noncomputable instance (c s):Decidable (SerOk c s):=Classical.propDecidable _
theorem l1e (n:Nat){del:a0c×Unit->Option Bool}{p:Slo->Bool}(hd:∀x,del (x,())=some (p x))(l:List Slo)(hL:l.length<=1000000):f0j (n+2) l del=some (l.any p):=by
 rw[n0o,i0r];rcases g2k hd n l hL l [] a0b 0 l.length rfl rfl rfl (by unfold a0b;omega) with ⟨h1,h2⟩ | ⟨A,x,B,h1,h2,h3,h4⟩
 ·rw[h1];have:l.any p=false:=by rw[List.any_eq_false];intro x hx;simp[h2 x hx]
  rw[this];rfl
 ·rw[h4];have:l.any p=true:=List.any_eq_true.2 ⟨x,by rw[h1];simp,h3⟩;simp only[obs,g0m,this,Int.zero_add];rw[q2a (by omega)]
theorem c0x (n:Nat)(l:List Slo)(i:Int)(hL:l.length<=1000000):d0h (n+3) l i=some (!decide (a0r l i)):=by
 rw[y0z,l1e (p:=fun s=>decide (0<s.2.1/\i<=s.1)) n (fun x=>by
  show k0a (n+1+1) x i=_;rw[u0i]
  by_cases h1:0<x.2.1<;>by_cases h2:i<=x.1<;>simp[h1,h2]) l hL]
 simp only[obs];refine congrArg some ?_;by_cases h:a0r l i
 ·rw[q2a h];rw[List.any_eq_false.2]
  ·rfl
  ·intro x hx k;have:=of_decide_eq_true k;have:=h x hx this.1;omega
 ·rw[q1z h];have:∃x∈l,0<x.2.1/\i<=x.1:=Classical.byContradiction fun k=>h fun x hx hc=>by
   rcases Int.lt_or_le x.1 i with q | q
   ·exact q
   ·exact absurd ⟨x,hx,hc,q⟩ k
  obtain ⟨x,hx,hq⟩:=this;rw[List.any_eq_true.2 ⟨x,hx,q2a hq⟩];rfl
theorem a2x (n:Nat)(c:Conf){s:Ser}(hf:FoldOk c s.2.2.2.1):a1m (n+4) (c,s)=some (decide (Fresh s)):=by
 obtain ⟨l0,l1,l2⟩:=hf.lens;rw[m1q,x0x,c0x n _ _ l0,c0x n _ _ l1,c0x n _ _ l2];simp only[obs,Bool.not_not,tfd];by_cases h1:(s.2.2.1.2.2.length:Int)=0
 case neg=>rw[q0n h1,q1z (fun k:Fresh s=>h1 (by rw[k.raw];rfl))]
 rw[q0z h1];by_cases h2:s.2.2.2.2=s0
 case neg=>rw[q0n h2,q1z (fun k:Fresh s=>h2 k.opn)]
 rw[q0z h2];by_cases h3:a0r s.2.2.2.1.1 0
 case neg=>rw[q0n h3,q1z (fun k:Fresh s=>h3 k.b0)]
 rw[q0z h3];by_cases h4:a0r s.2.2.2.1.2.1 0
 case neg=>rw[q0n h4,q1z (fun k:Fresh s=>h4 k.b1)]
 rw[q0z h4];refine congrArg some (q2s.2 ⟨fun k=>⟨List.length_eq_zero_iff.1 (by omega),h2,h3,h4,k⟩,fun k=>k.b2⟩)
theorem u1p {c:Conf}{s:Ser}(hr:RawOk s.2.2.1 c.1){e:Ev}(he:s.2.2.1.2.2.getLast? = some e):EvOk e:=hr.f.ok e (List.mem_of_getLast? he)
theorem g2g (n:Nat)(c:Conf){s:Ser}(hf:FoldOk c s.2.2.2.1)(hr:RawOk s.2.2.1 c.1)(hw:SerW s):z0j (n+7) (c,s)=some (decide (EndsP c s)):=by
 obtain ⟨l0,l1,l2⟩:=hf.lens;have hg:=hf.cok.rng;have hlen:=hr.len;have hm1:=hr.m1;rw[r1t,w1b (n+5) s.2.2.1 (by omega)];cases hl:s.2.2.1.2.2.getLast? with
 | none =>
  simp only[obs];rw[show (decide ((3:Int)=0))=false from rfl,tff,q1z];intro k;obtain ⟨e,he,_⟩:=k.last;rw[hl] at he;cases he
 | some e =>
  have heo:=u1p hr hl;simp only[obs,decide_true,tft,tfd,if_true];by_cases h1:e.1=s.2.1
  case neg =>
   rw[q0n h1,q1z];intro k;obtain ⟨e',he,hq⟩:=k.last;rw[hl] at he;injection he with he;subst he;exact h1 hq
  rw[q0z h1];by_cases h2:s.2.2.2.2.2.2.2.1.1=s.2.1
  case neg=>rw[q0n h2,q1z (fun k:EndsP c s=>h2 k.ol)]
  have q0:=y0j heo hg.w0.1;have q1:=y0j heo hg.w1.1;have q2:=y0j heo hg.w2.1;rw[h1] at q0 q1 q2;rw[q0z h2,t0o n hw.opn.c];simp only[obs,tfd,q0,q1,q2,c0x (n+3) _ _ l0,c0x (n+3) _ _ l1,c0x (n+3) _ _ l2,Bool.not_not,q0n (show ¬(c.2.1.1=0) by have:=hg.w0;omega),q0n (show ¬(c.2.1.2.1=0) by have:=hg.w1;omega),q0n (show ¬(c.2.1.2.2=0) by have:=hg.w2;omega)];by_cases h3:FitsP s.2.2.2.2.2 c.2.1.1 s.2.2.2.2.1
  case neg=>rw[q0n h3,q1z (fun k:EndsP c s=>h3 k.fit)]
  rw[q0z h3];by_cases h4:a0r s.2.2.2.1.1 (s.2.1 / c.2.1.1)
  case neg=>rw[q0n h4,q1z (fun k:EndsP c s=>h4 k.b0)]
  rw[q0z h4];by_cases h5:a0r s.2.2.2.1.2.1 (s.2.1 / c.2.1.2.1)
  case neg=>rw[q0n h5,q1z (fun k:EndsP c s=>h5 k.b1)]
  rw[q0z h5];refine congrArg some (q2s.2 ⟨fun k=>⟨⟨e,hl,h1⟩,h2,h3,h4,h5,k⟩,fun k=>k.b2⟩)
theorem z08 (p:Prop)[Decidable p]:((if p then (0:Int) else 8)=0)↔p:=by by_cases h:p<;>simp[h]
theorem o0x (n:Nat)(c:Conf){s:Ser}(hw:SerW s):n0r (n+10) c s=some (if SerOk c s then (some (c,s),0) else (none,2)):=by
 rw[c1s,b2i n c hw.trs,s0w (n+3),n1e (n+4) _ _ hw.raw];simp only[obs,tfn,tfd];by_cases h1:FoldOk c s.2.2.2.1
 case neg=>rw[q0n (mt (z02 _).1 h1),q0n (fun k:SerOk c s=>h1 k.fold)]
 by_cases h2:LabOk s.1
 case neg=>rw[q0z ((z02 _).2 h1),q0n (mt (z08 _).1 h2),q0n (fun k:SerOk c s=>h2 k.lab)]
 by_cases h3:RawOk s.2.2.1 c.1
 case neg=>rw[q0z ((z02 _).2 h1),q0z ((z08 _).2 h2),q0n (mt (z02 _).1 h3),q0n (fun k:SerOk c s=>h3 k.raw)]
 rw[q0z ((z02 _).2 h1),q0z ((z08 _).2 h2),q0z ((z02 _).2 h3),a2x (n+5) c h1,g2g (n+2) c h1 h3 hw];simp only[obs,tfd];by_cases h4:s.2.1 = -1
 ·rw[q0z h4];by_cases h5:Fresh s
  ·rw[q0z h5,q0z (⟨h1,h2,h3,.inl ⟨h4,h5⟩⟩:SerOk c s)]
  ·rw[q0n h5,q0z h4,q0n (fun k:SerOk c s=>by
    rcases k.st with q | q
    ·exact h5 q.2
    ·exact q.1 h4)]
 ·rw[q0n h4,q0n h4];by_cases h5:EndsP c s
  ·rw[q0z h5,q0z (⟨h1,h2,h3,.inr ⟨h4,h5⟩⟩:SerOk c s)]
  ·rw[q0n h5,q0n (fun k:SerOk c s=>by
    rcases k.st with q | q
    ·exact h4 q.1
    ·exact h5 q.2)]
theorem i0g {l:List Slo}{w:Int}(h:TierOk l w)(i:Int):a0r l i↔∀s∈tall l,s.1<i:=by
 constructor
 ·intro k s hs;have:=(tall_N h hs).n1;exact k s (r0e.1 hs).1 (by omega)
 ·intro k s hs hc;exact k s (r0e.2 ⟨hs,fun e=>by rw[e] at hc;simp[s0,z0] at hc⟩)
theorem m0k {l:List Slo}{w:Int}(h:TierOk l w):a0r l 0↔tall l=[]:=by
 rw[i0g h];constructor
 ·intro k;by_cases e:tall l=[]
  ·exact e
  ·obtain ⟨s,hs⟩:=List.exists_mem_of_ne_nil _ e;have:=(j0w h hs).1.i0;have:=k s hs;omega
 ·intro e s hs;rw[e] at hs;cases hs
theorem r15_l7_3 (n f:Nat)(s:Ser):e0n n (f+1) (s,(3:Int),())=some (.inl ()):=by
 rw[g0p,show (decide ((3:Int)<3))=false from rfl,tff]
theorem r15_l7 (n f:Nat)(c:Conf){s:Ser}(h:FoldOk c s.2.2.2.1):e0n (n+1) (f+4) (s,(0:Int),())=some (if a0r s.2.2.2.1.1 0/\a0r s.2.2.2.1.2.1 0/\a0r s.2.2.2.1.2.2 0 then .inl () else .inr 2):=by
 have n0:=m0k h.t0;have n1:=m0k h.t1;have n2:=m0k h.t2;have len:∀ {l:List Slo},((0:Int)<(tall l).length)↔tall l≠[]:=fun {l}=>by
  have:=List.length_pos_iff (l:=tall l);constructor
  ·intro k;exact this.1 (by omega)
  ·intro k;have:=this.2 k;omega
 rw[g0p,show (decide ((0:Int)<3))=true from rfl,tft,show (decide ((0:Int)=0))=true from rfl,tft,s0v n h.t0];simp only[obs,tfd];by_cases c0:a0r s.2.2.2.1.1 0
 case neg=>rw[q0z (len.2 (mt n0.2 c0)),q0n (fun k=>c0 k.1)]
 rw[q0n (fun k=>(len.1 k) (n0.1 c0)),show wrap .i64 ((0:Int)+1)=1 from rfl,g0p,show (decide ((1:Int)<3))=true from rfl,tft,show (decide ((1:Int)=0))=false from rfl,tff,show (decide ((1:Int)=1))=true from rfl,tft,s0v n h.t1];simp only[obs,tfd];by_cases c1:a0r s.2.2.2.1.2.1 0
 case neg=>rw[q0z (len.2 (mt n1.2 c1)),q0n (fun k=>c1 k.2.1)]
 rw[q0n (fun k=>(len.1 k) (n1.1 c1)),show wrap .i64 ((1:Int)+1)=2 from rfl,g0p,show (decide ((2:Int)<3))=true from rfl,tft,show (decide ((2:Int)=0))=false from rfl,tff,show (decide ((2:Int)=1))=false from rfl,tff,show (decide ((2:Int)=2))=true from rfl,tft,s0v n h.t2];simp only[obs,tfd];by_cases c2:a0r s.2.2.2.1.2.2 0
 case neg=>rw[q0z (len.2 (mt n2.2 c2)),q0n (fun k=>c2 k.2.2)]
 rw[q0n (fun k=>(len.1 k) (n2.1 c2)),show wrap .i64 ((2:Int)+1)=3 from rfl,r15_l7_3,q0z ⟨c0,c1,c2⟩]
theorem e2g (n:Nat)(c:Conf)(s:Ser)(at_:Int)(hw:1<=c.2.1.1)(hq:wrap .i64 (Int.tdiv s.2.1 c.2.1.1)=at_)(l:List Slo)(hL:l.length<=1000000):∀(rest pre:List Slo) (f:Nat) (ix len:Int),l=pre++rest->ix=pre.length->len=l.length->rest.length<f ->
  ((∀x∈rest,x.1<at_)->b0t n f (c,s,(0:Int),l,len,ix,())=some (.inl (c,s,(0:Int),())))/\(¬(∀x∈rest,x.1<at_)->b0t n f (c,s,(0:Int),l,len,ix,())=some (.inr 2)):=by
 intro rest;induction rest with
 | nil =>
  intro pre f ix len hl hi hn hf;obtain ⟨f,rfl⟩:=FSu hf;rw[d0f];exact ⟨fun _=>by simp only[tfd,q0n (idxe hl hi hn)],fun k=>absurd (by simp) k⟩
 | cons x rest ih =>
  intro pre f ix len hl hi hn hf;obtain ⟨f,rfl⟩:=FSu hf;rw[d0f,q2a (idx hl hi hn),tft,b0p hl hi,obs];rw[show (decide ((0:Int)=0))=true from rfl,tft];simp only[tfd,q0n (show ¬(c.2.1.1=0) by omega),hq,idxw hl hi (show l.length<=1000000000000 by omega)];have ih':=ih (pre++[x]) f (ix+1) len (idxl hl) (idxs hi) hn (by simp at hf;omega);by_cases h1:at_<=x.1
  ·rw[q0z h1];exact ⟨fun k=>by have:=k x (by simp);omega,fun _=>rfl⟩
  ·rw[q0n h1];exact ⟨fun k=>ih'.1 fun y hy=>k y (by simp[hy]),fun k=>ih'.2 fun q=>k fun y hy=>by
    rcases q2l.1 hy with rfl | hy
    ·omega
    ·exact q y hy⟩
theorem e2f (n:Nat)(c:Conf)(s:Ser)(at_:Int)(hw:1<=c.2.1.2.1)(hq:wrap .i64 (Int.tdiv s.2.1 c.2.1.2.1)=at_)(l:List Slo)(hL:l.length<=1000000):∀(rest pre:List Slo) (f:Nat) (ix len:Int),l=pre++rest->ix=pre.length->len=l.length->rest.length<f ->
  ((∀x∈rest,x.1<at_)->b0t n f (c,s,(1:Int),l,len,ix,())=some (.inl (c,s,(1:Int),())))/\(¬(∀x∈rest,x.1<at_)->b0t n f (c,s,(1:Int),l,len,ix,())=some (.inr 2)):=by
 intro rest;induction rest with
 | nil =>
  intro pre f ix len hl hi hn hf;obtain ⟨f,rfl⟩:=FSu hf;rw[d0f];exact ⟨fun _=>by simp only[tfd,q0n (idxe hl hi hn)],fun k=>absurd (by simp) k⟩
 | cons x rest ih =>
  intro pre f ix len hl hi hn hf;obtain ⟨f,rfl⟩:=FSu hf;rw[d0f,q2a (idx hl hi hn),tft,b0p hl hi,obs];rw[show (decide ((1:Int)=0))=false from rfl,tff,show (decide ((1:Int)=1))=true from rfl,tft];simp only[tfd,q0n (show ¬(c.2.1.2.1=0) by omega),hq,idxw hl hi (show l.length<=1000000000000 by omega)];have ih':=ih (pre++[x]) f (ix+1) len (idxl hl) (idxs hi) hn (by simp at hf;omega);by_cases h1:at_<=x.1
  ·rw[q0z h1];exact ⟨fun k=>by have:=k x (by simp);omega,fun _=>rfl⟩
  ·rw[q0n h1];exact ⟨fun k=>ih'.1 fun y hy=>k y (by simp[hy]),fun k=>ih'.2 fun q=>k fun y hy=>by
    rcases q2l.1 hy with rfl | hy
    ·omega
    ·exact q y hy⟩
theorem e2e (n:Nat)(c:Conf)(s:Ser)(at_:Int)(hw:1<=c.2.1.2.2)(hq:wrap .i64 (Int.tdiv s.2.1 c.2.1.2.2)=at_)(l:List Slo)(hL:l.length<=1000000):∀(rest pre:List Slo) (f:Nat) (ix len:Int),l=pre++rest->ix=pre.length->len=l.length->rest.length<f ->
  ((∀x∈rest,x.1<at_)->b0t n f (c,s,(2:Int),l,len,ix,())=some (.inl (c,s,(2:Int),())))/\(¬(∀x∈rest,x.1<at_)->b0t n f (c,s,(2:Int),l,len,ix,())=some (.inr 2)):=by
 intro rest;induction rest with
 | nil =>
  intro pre f ix len hl hi hn hf;obtain ⟨f,rfl⟩:=FSu hf;rw[d0f];exact ⟨fun _=>by simp only[tfd,q0n (idxe hl hi hn)],fun k=>absurd (by simp) k⟩
 | cons x rest ih =>
  intro pre f ix len hl hi hn hf;obtain ⟨f,rfl⟩:=FSu hf;rw[d0f,q2a (idx hl hi hn),tft,b0p hl hi,obs];rw[show (decide ((2:Int)=0))=false from rfl,tff,show (decide ((2:Int)=1))=false from rfl,tff,show (decide ((2:Int)=2))=true from rfl,tft];simp only[tfd,q0n (show ¬(c.2.1.2.2=0) by omega),hq,idxw hl hi (show l.length<=1000000000000 by omega)];have ih':=ih (pre++[x]) f (ix+1) len (idxl hl) (idxs hi) hn (by simp at hf;omega);by_cases h1:at_<=x.1
  ·rw[q0z h1];exact ⟨fun k=>by have:=k x (by simp);omega,fun _=>rfl⟩
  ·rw[q0n h1];exact ⟨fun k=>ih'.1 fun y hy=>k y (by simp[hy]),fun k=>ih'.2 fun q=>k fun y hy=>by
    rcases q2l.1 hy with rfl | hy
    ·omega
    ·exact q y hy⟩
theorem e2h (n f:Nat)(c:Conf)(s:Ser):e0b n (f+1) (c,s,(3:Int),())=some (.inl ()):=by
 rw[f0r,show (decide ((3:Int)<3))=false from rfl,tff]
theorem r15_l16 (n f:Nat)(c:Conf){s:Ser}(h:FoldOk c s.2.2.2.1){e:Ev}(he:EvOk e)(hes:e.1=s.2.1):e0b (n+1) (f+4) (c,s,(0:Int),()) =
  some (if a0r s.2.2.2.1.1 (s.2.1 / c.2.1.1)/\a0r s.2.2.2.1.2.1 (s.2.1 / c.2.1.2.1)/\a0r s.2.2.2.1.2.2 (s.2.1 / c.2.1.2.2) then .inl () else .inr 2):=by
 have n0:=i0g h.t0 (s.2.1 / c.2.1.1);have n1:=i0g h.t1 (s.2.1 / c.2.1.2.1);have n2:=i0g h.t2 (s.2.1 / c.2.1.2.2);have hg:=h.cok.rng;have q0:=y0j he hg.w0.1;have q1:=y0j he hg.w1.1;have q2:=y0j he hg.w2.1;rw[hes] at q0 q1 q2;obtain ⟨l0,l1,l2⟩:=h.lens;have t0:=q0i (l:=s.2.2.2.1.1);have t1:=q0i (l:=s.2.2.2.1.2.1);have t2:=q0i (l:=s.2.2.2.1.2.2);have k0:=e2g (n+1) c s _ hg.w0.1 q0 (tall s.2.2.2.1.1) (by omega) (tall s.2.2.2.1.1) [] a0b 0 ((tall s.2.2.2.1.1).length:Int) rfl rfl rfl (by unfold a0b;omega)
 have k1:=e2f (n+1) c s _ hg.w1.1 q1 (tall s.2.2.2.1.2.1) (by omega) (tall s.2.2.2.1.2.1) [] a0b 0 ((tall s.2.2.2.1.2.1).length:Int) rfl rfl rfl (by unfold a0b;omega);have k2:=e2e (n+1) c s _ hg.w2.1 q2 (tall s.2.2.2.1.2.2) (by omega) (tall s.2.2.2.1.2.2) [] a0b 0 ((tall s.2.2.2.1.2.2).length:Int) rfl rfl rfl (by unfold a0b;omega);rw[<-n0] at k0;rw[<-n1] at k1;rw[<-n2] at k2;rw[f0r,show (decide ((0:Int)<3))=true from rfl,tft,show (decide ((0:Int)=0))=true from rfl,tft,s0v n h.t0,obs];by_cases c0:a0r s.2.2.2.1.1 (s.2.1 / c.2.1.1)
 case neg=>rw[k0.2 c0,q0n (fun k=>c0 k.1)];rfl
 rw[k0.1 c0];simp only[obs,b0h];rw[show wrap .i64 ((0:Int)+1)=1 from rfl,f0r,show (decide ((1:Int)<3))=true from rfl,tft,show (decide ((1:Int)=0))=false from rfl,tff,show (decide ((1:Int)=1))=true from rfl,tft,s0v n h.t1,obs];by_cases c1:a0r s.2.2.2.1.2.1 (s.2.1 / c.2.1.2.1)
 case neg=>rw[k1.2 c1,q0n (fun k=>c1 k.2.1)];rfl
 rw[k1.1 c1];simp only[obs,b0h];rw[show wrap .i64 ((1:Int)+1)=2 from rfl,f0r,show (decide ((2:Int)<3))=true from rfl,tft,show (decide ((2:Int)=0))=false from rfl,tff,show (decide ((2:Int)=1))=false from rfl,tff,show (decide ((2:Int)=2))=true from rfl,tft,s0v n h.t2,obs];by_cases c2:a0r s.2.2.2.1.2.2 (s.2.1 / c.2.1.2.2)
 case neg=>rw[k2.2 c2,q0n (fun k=>c2 k.2.2)];rfl
 rw[k2.1 c2];simp only[obs,b0h];rw[show wrap .i64 ((2:Int)+1)=3 from rfl,e2h,q0z ⟨c0,c1,c2⟩]
theorem n1r (n:Nat)(c:Conf){s:Ser}(hw:SerW s):u0o (n+8) c s=some (if SerOk c s then 0 else 2):=by
 rw[n1s,i0e (n+4),b1f (n+5),n1y (n+5) _ _ hw.raw,n1t n c hw.trs];simp only[obs,tfn,tfd,x0x];by_cases h0:OkC c
 case neg=>rw[q0n (mt (z02 _).1 h0),q0n (fun k:SerOk c s=>h0 k.fold.cok)]
 by_cases h2:LabOk s.1
 case neg=>rw[q0z ((z02 _).2 h0),q0n (mt (z08 _).1 h2),q0n (fun k:SerOk c s=>h2 k.lab)]
 by_cases h3:RawOk s.2.2.1 c.1
 case neg=>rw[q0z ((z02 _).2 h0),q0z ((z08 _).2 h2),q0n (mt (z02 _).1 h3),q0n (fun k:SerOk c s=>h3 k.raw)]
 by_cases h1:FoldOk c s.2.2.2.1
 case neg=>rw[q0z ((z02 _).2 h0),q0z ((z08 _).2 h2),q0z ((z02 _).2 h3),q0n (mt (z02 _).1 h1),q0n (fun k:SerOk c s=>h1 k.fold)]
 have hlen:=h3.len;have hm1:=h3.m1;rw[q0z ((z02 _).2 h0),q0z ((z08 _).2 h2),q0z ((z02 _).2 h3),q0z ((z02 _).2 h1),show a0b=(2^70-4)+4 from by decide,r15_l7 (n+6) _ c h1,r12_last _ _ (by omega),z0n (n+2) hw.opn.c];by_cases h4:s.2.1 = -1
 ·rw[q0z h4];by_cases h5:(0:Int)<s.2.2.1.2.2.length
  ·rw[q0z h5,q0n (fun k:SerOk c s=>by
    rcases k.st with q | q
    ·rw[q.2.raw] at h5;simp at h5
    ·exact q.1 h4)]
  rw[q0n h5];by_cases h6:s.2.2.2.2=s0
  case neg=>rw[q0n h6,q0n (fun k:SerOk c s=>by
    rcases k.st with q | q
    ·exact h6 q.2.opn
    ·exact q.1 h4)]
  rw[q0z h6,obs];by_cases h7:a0r s.2.2.2.1.1 0/\a0r s.2.2.2.1.2.1 0/\a0r s.2.2.2.1.2.2 0
  ·rw[q0z h7,q0z (⟨h1,h2,h3,.inl ⟨h4,⟨List.length_eq_zero_iff.1 (by omega),h6,h7.1,h7.2.1,h7.2.2⟩⟩⟩:SerOk c s)];rfl
  ·rw[q0n h7,q0n (fun k:SerOk c s=>by
    rcases k.st with q | q
    ·exact h7 ⟨q.2.b0,q.2.b1,q.2.b2⟩
    ·exact q.1 h4)];rfl
 ·rw[q0n h4];have no:∀ {p:Prop},(EndsP c s->p)->¬p->(if SerOk c s then (0:Int) else 2)=2:=fun hp hn=>q0n (fun k:SerOk c s=>by
   rcases k.st with q | q
   ·exact h4 q.1
   ·exact hn (hp q.2))
  cases hl:s.2.2.1.2.2.getLast? with
  | none =>
   simp only[obs];rw[q0n (by decide),no (fun k=>k.last) (fun ⟨e,he,_⟩=>by rw[hl] at he;cases he)]
  | some e =>
   have heo:=u1p h3 hl;simp only[obs,if_true,tfd];by_cases h5:e.1=s.2.1
   case neg=>rw[q0n h5,no (fun k=>k.last) (fun ⟨e',he,hq⟩=>by rw[hl] at he;injection he with he;subst he;exact h5 hq)]
   rw[q0z h5];by_cases h6:FitsP s.2.2.2.2.2 c.2.1.1 s.2.2.2.2.1
   case neg=>rw[q0n h6,no (fun k=>k.fit) h6]
   rw[q0z h6];by_cases h7:s.2.2.2.2.2.2.2.1.1=s.2.1
   case neg=>rw[q0n h7,no (fun k=>k.ol) h7]
   rw[q0z h7,r15_l16 (n+6) _ c h1 heo h5,obs];by_cases h8:a0r s.2.2.2.1.1 (s.2.1 / c.2.1.1)/\a0r s.2.2.2.1.2.1 (s.2.1 / c.2.1.2.1)/\a0r s.2.2.2.1.2.2 (s.2.1 / c.2.1.2.2)
   ·rw[q0z h8,q0z (⟨h1,h2,h3,.inr ⟨h4,⟨⟨e,hl,h5⟩,h7,h6,h8.1,h8.2.1,h8.2.2⟩⟩⟩:SerOk c s)];rfl
   ·rw[q0n h8,no (fun k=>And.intro k.b0 (And.intro k.b1 k.b2)) h8];rfl
theorem r08_of1 (n:Nat){e:Ev}(he:EvW e):e2r (n+2) [e]=some (if EvOk e then (c0c e,0) else (z0,2)):=by
 have a0:at? [e] (0:Int)=some e:=rfl;have l2:∀f,p0f (n+1) (f+2) ([e],z0,[e],([e].length:Int),(0:Int),())=some (if EvOk e then .inl ([e],z0,()) else .inr (z0,2)):=by
  intro f;rw[y0i,show (decide ((0:Int)<(([e].length:Nat):Int)))=true from rfl,tft,a0,obs,g0s n he,obs];simp only[tfn,tfd,z02];by_cases h:EvOk e
  ·rw[q0z h,q0z h,show wrap .i64 ((0:Int)+1)=1 from rfl,y0i,show (decide ((1:Int)<(([e].length:Nat):Int)))=false from rfl,tff]
  ·rw[q0n h,q0n h];rfl
 have l9:∀f,i0f (n+1) (f+2) ([e],z0,z0,[e],([e].length:Int),(0:Int),())=some (.inl (z0,c0c e,())):=by
  intro f;rw[y0h,show (decide ((0:Int)<(([e].length:Nat):Int)))=true from rfl,tft,a0,obs,show (decide ((0:Int)<0))=false from rfl,tff,show (decide ((0:Int)=0))=true from rfl,tft,show wrap .i64 ((0:Int)+1)=1 from rfl,y0h,show (decide ((1:Int)<(([e].length:Nat):Int)))=false from rfl,tff];rfl
 rw[e2q,show a0b=(2^70-2)+2 from by decide];have l2':=l2 (2^70-2);have l9':=l9 (2^70-2);have e1:p0f (n+1) ((2^70-2)+2) ([e],((0:Int),(((0:Int),((0:Int),((0:Int),false))),(((0:Int),((0:Int),((0:Int),false))),(((0:Int),(0:Int)),((0:Int),((0:Int),(0:Int))))))),[e],([e].length:Int),(0:Int),())=_:=l2';rw[e1];by_cases h:EvOk e
 ·rw[q0z h,q0z h];simp only[obs,b0h];have e2:i0f (n+1) ((2^70-2)+2) ([e],z0,((0:Int),(((0:Int),((0:Int),((0:Int),false))),(((0:Int),((0:Int),((0:Int),false))),(((0:Int),(0:Int)),((0:Int),((0:Int),(0:Int))))))),[e],([e].length:Int),(0:Int),())=_:=l9';rw[e2];simp
 ·rw[q0n h,q0n h];simp
theorem e2p (n:Nat){c:Cel}{e:Ev}(hc:CelW c)(he:EvW e):b1e (n+6) c e=some (if EvOk e then mrgE c (c0c e) else (z0,2)):=by
 rw[a2b,r08_of1 (n+3) he];by_cases h:EvOk e
 ·rw[q0z h,q0z h];simp only[obs,decide_true,q2t,tff,o1g n hc (x1n he)]
 ·rw[q0n h,q0n h];rfl
theorem nn {α:Type}{a b:α}(h:a=b):¬(a≠b):=fun k=>k h
def ser0:Ser:=([],(0,(r0w,(([],([],[])),s0))))
def l1r (s:Ser)(i:Int):Prop:=s.2.2.2.2≠s0/\s.2.2.2.2.1≠i
noncomputable instance (s i):Decidable (l1r s i):=Classical.propDecidable _
noncomputable def turned (c:Conf)(s:Ser)(i:Int):(Trs×Slo)×Int :=
 if l1r s i then (if (i0x c s.2.2.2.1 s.2.2.2.2 i).2=0 then (((i0x c s.2.2.2.1 s.2.2.2.2 i).1,s0),0) else ((s.2.2.2.1,s.2.2.2.2),(i0x c s.2.2.2.1 s.2.2.2.2 i).2)) else ((s.2.2.2.1,s.2.2.2.2),0)
noncomputable def putE (c:Conf)(s:Ser)(e:Ev):Ser×Int :=
 if SerOk c s/\EvOk e then
  (if e.1<=s.2.1 then (ser0,9)
   else if (turned c s (e.1 / c.2.1.1)).2≠0 then (ser0,(turned c s (e.1 / c.2.1.1)).2)
   else if (g0b s.2.2.1 c.1 e).2≠0 then (ser0,(g0b s.2.2.1 c.1 e).2)
   else if (mrgE (turned c s (e.1 / c.2.1.1)).1.2.2 (c0c e)).2≠0 then (ser0,(mrgE (turned c s (e.1 / c.2.1.1)).1.2.2 (c0c e)).2)
   else ((s.1,(e.1,((g0b s.2.2.1 c.1 e).1,((turned c s (e.1 / c.2.1.1)).1.1,(e.1 / c.2.1.1,(mrgE (turned c s (e.1 / c.2.1.1)).1.2.2 (c0c e)).1))))),0))
 else (ser0,2)
theorem o1z {c:Conf}{s:Ser}(h:SerOk c s):s.2.2.2.2.2.1=0↔s.2.2.2.2=s0:=by
 constructor
 ·intro k;rcases h.st with q | q
  ·exact q.2.opn
  ·have:=q.2.fit.n.n1;omega
 ·intro k;rw[k];rfl
theorem turned_w {c:Conf}{s:Ser}(hw:SerW s)(i:Int):SloW (turned c s i).1.2:=by
 unfold turned;split
 ·split
  ·exact i1d
  ·exact hw.opn
 ·exact hw.opn
theorem g2f (n:Nat)(c:Conf){s:Ser}(h:SerOk c s)(hw:SerW s)(i:Int):i1b (n+22) (c,s) i=some ((turned c s i).2,(c,(s.1,(s.2.1,(s.2.2.1,(turned c s i).1))))):=by
 rw[r1s];simp only[tfd,b2h n c hw.trs hw.opn i,obs];unfold turned;by_cases h1:s.2.2.2.2.1=i
 ·rw[q0z h1,q0n (fun k:l1r s i=>k.2 h1)]
 rw[q0n h1];by_cases h2:s.2.2.2.2.2.1=0
 ·rw[q0z h2,q0n (fun k:l1r s i=>k.1 ((o1z h).1 h2))]
 have ht:l1r s i:=⟨fun k=>h2 ((o1z h).2 k),h1⟩;rw[q0n h2,q0z ht];by_cases h3:(i0x c s.2.2.2.1 s.2.2.2.2 i).2=0
 ·rw[q0z h3,q0z h3,h3];rfl
 ·rw[q0n h3,q0n h3]
theorem y1z (n:Nat)(c:Conf){s:Ser}(hw:SerW s){e:Ev}(he:EvW e):w0n (n+23) c s e=some (putE c s e):=by
 rw[i1g,o0x (n+12) c hw,f0u _ he];unfold putE;by_cases h1:SerOk c s
 case neg=>rw[q0n h1,q0n (fun k:SerOk c s/\EvOk e=>h1 k.1)];rfl
 rw[q0z h1];have hg:=h1.fold.cok.rng;simp only[obs,r0b,decide_true,q2t,tff,tfn,tfd];by_cases h2:EvOk e
 case neg=>rw[q0n (mt (z02 _).1 h2),q0n (fun k:SerOk c s/\EvOk e=>h2 k.2)];rfl
 rw[q0z ((z02 _).2 h2),q0z (And.intro h1 h2)];by_cases h3:e.1<=s.2.1
 ·rw[q0z h3,q0z h3];rfl
 rw[q0n h3,q0n h3,q0n (show ¬(c.2.1.1=0) by have:=hg.w0;omega),y0j h2 hg.w0.1,g2f n c h1 hw];generalize ht:turned c s (e.1 / c.2.1.1)=t;have htw:=turned_w (c:=c) hw (e.1 / c.2.1.1);rw[ht] at htw;simp only[obs];by_cases h4:t.2=0
 case neg=>rw[q0n h4,q0z h4];rfl
 rw[q0z h4,q0n (nn h4),y1m,raw_put (n+15) c.1 hw.raw he,cell_add (n+14) htw.c he,q0z h2];simp only[obs,tfn,tfd];by_cases h5:(g0b s.2.2.1 c.1 e).2=0
 case neg =>
  rw[q0n h5,q0z h5];simp only[obs];rw[q0n h5];rfl
 rw[q0z h5,q0n (nn h5)];simp only[obs];by_cases h6:(mrgE t.1.2.2 (c0c e)).2=0
 ·rw[q0z h6,q0n (nn h6)];simp only[if_true]
 ·rw[q0n h6,q0z h6];rfl
theorem e2d (n:Nat)(c:Conf){s:Ser}(hw:SerW s){e:Ev}(he:EvW e):i1u (n+11) c s e=some (putE c s e):=by
 rw[z1o,n1r (n+2) c hw,g0s _ he];unfold putE;simp only[obs,tfn,tfd,x0x];by_cases h1:SerOk c s
 case neg=>rw[q0n (mt (z02 _).1 h1),q0n (fun k:SerOk c s/\EvOk e=>h1 k.1)];rfl
 have hg:=h1.fold.cok.rng;by_cases h2:EvOk e
 case neg=>rw[q0z ((z02 _).2 h1),q0n (mt (z02 _).1 h2),q0n (fun k:SerOk c s/\EvOk e=>h2 k.2)];rfl
 rw[q0z ((z02 _).2 h1),q0z ((z02 _).2 h2),q0z (And.intro h1 h2)];by_cases h3:e.1<=s.2.1
 ·rw[q0z h3,q0z h3];rfl
 rw[q0n h3,q0n h3,q0n (show ¬(c.2.1.1=0) by have:=hg.w0;omega),y0j h2 hg.w0.1,e2m n c hw.trs hw.opn,r12_put (n+7) c.1 hw.raw he];have e0:((0:Int),(((0:Int),((0:Int),((0:Int),false))),(((0:Int),((0:Int),((0:Int),false))),(((0:Int),(0:Int)),((0:Int),((0:Int),(0:Int)))))))=z0:=rfl;simp only[obs,e0,e2p (n+4) t0c he,e2p (n+4) hw.opn.c he,q0z h2]
 have tail:∀(t:Trs×Slo),(if (g0b s.2.2.1 c.1 e).2=0 then (if (mrgE t.2.2 (c0c e)).2=0 then some ((s.1,(e.1,((g0b s.2.2.1 c.1 e).1,(t.1,(e.1 / c.2.1.1,(mrgE t.2.2 (c0c e)).1))))),(0:Int)) else some (ser0,(mrgE t.2.2 (c0c e)).2)) else some (ser0,(g0b s.2.2.1 c.1 e).2)) =
   some (if (g0b s.2.2.1 c.1 e).2≠0 then (ser0,(g0b s.2.2.1 c.1 e).2) else if (mrgE t.2.2 (c0c e)).2≠0 then (ser0,(mrgE t.2.2 (c0c e)).2) else ((s.1,(e.1,((g0b s.2.2.1 c.1 e).1,(t.1,(e.1 / c.2.1.1,(mrgE t.2.2 (c0c e)).1))))),0)):=by
  intro t;by_cases h5:(g0b s.2.2.1 c.1 e).2=0
  ·rw[q0z h5,q0n (nn h5)];by_cases h6:(mrgE t.2.2 (c0c e)).2=0
   ·rw[q0z h6,q0n (nn h6)]
   ·rw[q0n h6,q0z h6]
  ·rw[q0n h5,q0z h5]
 have stay:¬l1r s (e.1 / c.2.1.1)->turned c s (e.1 / c.2.1.1)=((s.2.2.2.1,s.2.2.2.2),0):=fun k=>by unfold turned;rw[q0n k]
 by_cases c1:s.2.2.2.2=s0
 ·rw[q0z c1,stay (fun k=>k.1 c1),q0n (nn (rfl:((s.2.2.2.1,s.2.2.2.2),(0:Int)).2=0))];exact tail (s.2.2.2.1,s.2.2.2.2)
 rw[q0n c1];by_cases c2:s.2.2.2.2.1=e.1 / c.2.1.1
 ·rw[q0z c2,stay (fun k=>k.2 c2),q0n (nn (rfl:((s.2.2.2.1,s.2.2.2.2),(0:Int)).2=0))];exact tail (s.2.2.2.1,s.2.2.2.2)
 rw[q0n c2];have ht:turned c s (e.1 / c.2.1.1)=if (i0x c s.2.2.2.1 s.2.2.2.2 (e.1 / c.2.1.1)).2=0 then (((i0x c s.2.2.2.1 s.2.2.2.2 (e.1 / c.2.1.1)).1,s0),0) else ((s.2.2.2.1,s.2.2.2.2),(i0x c s.2.2.2.1 s.2.2.2.2 (e.1 / c.2.1.1)).2):=by
  have hts:l1r s (e.1 / c.2.1.1):=⟨c1,c2⟩;unfold turned;rw[q0z hts]
 rw[ht];by_cases c3:(i0x c s.2.2.2.1 s.2.2.2.2 (e.1 / c.2.1.1)).2=0
 ·rw[q0z c3,q0z c3,q0n (nn (rfl:(((i0x c s.2.2.2.1 s.2.2.2.2 (e.1 / c.2.1.1)).1,s0),(0:Int)).2=0))];exact tail ((i0x c s.2.2.2.1 s.2.2.2.2 (e.1 / c.2.1.1)).1,s0)
 ·rw[q0n c3,q0n c3,q0z c3];rfl
end Go.Proofs.YtfibfcjepngbmaaGreatDoor
namespace Go.Plim
def below (w:Int)(l:List Ev)(t:Int):List Ev:=l.filter fun e=>decide (e.1 / w<t / w)
structure EndsAt (l:List Ev)(t:Int):Prop where
 foll:Foll l
 le:∀e∈l,e.1<=t
 last:∃e∈l,e.1=t
theorem EndsAt.wle {l:List Ev}{t:Int}(h:EndsAt l t){w:Int}(hw:1<=w):∀e∈l,e.1 / w<=t / w:=fun e he=>Int.ediv_le_ediv (by omega) (h.le e he)
theorem b2r {l:List Ev}{t:Int}(h:EndsAt l t){w:Int}(hw:1<=w):l=below w l t++win w l (t / w):=by
 have key:∀(m:List Ev),(∀e∈m,e.1 / w<=t / w)->m.Pairwise (fun a b=>a.1 / w<=b.1 / w)->m=below w m t++win w m (t / w):=by
  intro m;induction m with
  | nil=>intro _ _;rfl
  | cons x m ih =>
   intro h1 h2;rw[List.pairwise_cons] at h2;have ih':=ih (fun e he=>h1 e (by simp[he])) h2.2;have hx:=h1 x (by simp);unfold below win at *
   by_cases c:x.1 / w<t / w
   ·rw[List.filter_cons_of_pos (by simpa using c),List.filter_cons_of_neg (by simp;omega),q3t,<-ih']
   ·have e0:m.filter (fun e=>decide (e.1 / w<t / w))=[]:=by
     rw[List.filter_eq_nil_iff];intro y hy;have:=h2.1 y hy;simp;omega
    rw[List.filter_cons_of_neg (by simpa using c),List.filter_cons_of_pos (by simp;omega),e0,q2q];rw[e0,q2q] at ih';rw[<-ih']
 exact key l (h.wle hw) (foll_wd hw h.foll)
theorem c2o (t:List Slo)(i:Int)(a b:Cel):tput (tput t i a) i b=tput t i b:=by
 unfold tput;rw[q3k,List.set_set]
theorem h1p {t:List Slo}{w a:Int}{l:List Ev}(h:TierInv t w l):∀(n:Nat) (B:List Ev),B.length=n+1->Foll (l++B)->(∀e∈B,e.1 / w=a) ->
  FitsP (cellOf (win w (l++B) a)) w a/\TierInv (tput t a (cellOf (win w (l++B) a))) w (l++B):=by
 intro n;induction n with
 | zero =>
  intro B hB hf ha
  match B,hB with
  | [e],_ =>
   have he:=ha e (by simp);have:=a1i h hf;rw[he] at this;rw[win_snoc,q0z he];exact this
 | succ n ih =>
  intro B hB hf ha;rcases List.eq_nil_or_concat B with rfl | ⟨B',e,rfl⟩
  ·cases hB
  rw[List.concat_eq_append] at *
  have he:=ha e (by simp);have hf':Foll (l++B'++[e]):=by rw[q2g];exact hf
  obtain ⟨h1,h2⟩:=ih B' (by simp at hB;exact hB) (d0b.1 hf').1 (fun x hx=>ha x (by simp[hx]));have:=a1i h2 hf';rw[he,c2o,q2g] at this;rw[<-q2g,win_snoc,q0z he];rw[q2g];exact this
theorem h1o {s:List Slo}{w:Int}{l:List Ev}{t:Int}(he:EndsAt l t)(h:TierInv s w (below w l t)):FitsP (cellOf (win w l (t / w))) w (t / w)/\TierInv (tput s (t / w) (cellOf (win w l (t / w)))) w l:=by
 have hw:=h.ok.w0;have hs:=b2r he hw;obtain ⟨e,hel,het⟩:=he.last;have hne:win w l (t / w)≠[]:=fun k=>by
  have:e∈win w l (t / w):=x0b.2 ⟨hel,by rw[het]⟩;rw[k] at this;cases this
 have hlen:(win w l (t / w)).length=((win w l (t / w)).length-1)+1:=by have:=List.length_pos_iff.2 hne;omega
 have:=h1p h _ (win w l (t / w)) hlen (by rw[<-hs];exact he.foll) (fun x hx=>(x0b.1 hx).2);rw[<-hs] at this;exact this
theorem edvm {t a b:Int}(ha:1<=a)(hb:1<=b)(hm:b % a=0):t / a*a / b=t / b/\t / a / (b / a)=t / b:=by
 have e:a*(b / a)=b:=by have:=Int.mul_ediv_add_emod b a;omega
 have h1:t / a / (b / a)=t / b:=by rw[Int.ediv_ediv_of_nonneg (by omega),e]
 refine ⟨?_,h1⟩;rw[<-h1]
 conv=>lhs;rw[<-e,Int.mul_comm (t / a) a]
 exact Int.mul_ediv_mul_of_pos _ _ (by omega)
end Go.Plim
namespace Go.Proofs.YtfibfcjepngbmaaGreatDoor
open Go.Flat Go.Plim
structure FInv (c:Conf)(s:Trs)(l:List Ev)(t:Int):Prop where
 ok:FoldOk c s
 i0:TierInv s.1 c.2.1.1 (below c.2.1.1 l t)
 i1:TierInv s.2.1 c.2.1.2.1 (below c.2.1.2.1 l t)
 i2:TierInv s.2.2 c.2.1.2.2 (below c.2.1.2.2 l t)
theorem OkC.m02 {c:Conf}(h:OkC c):c.2.1.2.2 % c.2.1.1=0:=by
 have h1:=Int.dvd_of_emod_eq_zero h.m1;have h2:=Int.dvd_of_emod_eq_zero h.m2;exact Int.emod_eq_zero_of_dvd (Int.dvd_trans h1 h2)
theorem z1b {c:Conf}{s:Ser}(h:SerOk c s)(hn:¬(s.2.1 = -1)):EndsP c s/\∃e,EvOk e/\e.1=s.2.1:=by
 rcases h.st with q | q
 ·exact absurd q.1 hn
 ·obtain ⟨e,he,h1⟩:=q.2.last;exact ⟨q.2,e,u1p h.raw he,h1⟩
structure At (c:Conf)(s:Ser):Prop where
 l0:0<=s.2.1
 l1:s.2.1<35184372088832
theorem serOk_at {c:Conf}{s:Ser}(h:SerOk c s)(hn:¬(s.2.1 = -1)):0<=s.2.1/\s.2.1<35184372088832:=by
 obtain ⟨_,e,he,h1⟩:=z1b h hn;rw[<-h1];exact ⟨he.t0,he.t1⟩
theorem quo_at {t:Int}(ht:0<=t/\t<35184372088832){w:Int}(hw:1<=w):wrap .i64 (Int.tdiv t w)=t / w:=by
 have:0<=t / w:=Int.ediv_nonneg ht.1 (by omega);have:t / w<=t:=Int.ediv_le_self _ ht.1;rw[j0v ht.1,w64 (by omega) (by omega)]
theorem y1n (n f:Nat)(s:Trs):d0i n (f+1) (s,(3:Int),())=some (.inl ()):=by
 rw[g0v,show (decide ((3:Int)<3))=false from rfl,tff]
theorem y1o (n f:Nat)(s:Trs):d0i n (f+2) (s,(2:Int),())=some (if (40:Int)<s.2.2.length then .inr 0 else .inl ()):=by
 rw[g0v,show (decide ((2:Int)<3))=true from rfl,tft,show (decide ((2:Int)=0))=false from rfl,tff,show (decide ((2:Int)=1))=false from rfl,tff,show (decide ((2:Int)=2))=true from rfl,tft];rw[show wrap .i64 ((2:Int)+1)=3 from rfl,y1n];simp only[tfd];split<;>rfl
theorem y1p (n f:Nat)(s:Trs):d0i n (f+3) (s,(1:Int),())=some (if (40:Int)<s.2.1.length\/(40:Int)<s.2.2.length then .inr 0 else .inl ()):=by
 rw[g0v,show (decide ((1:Int)<3))=true from rfl,tft,show (decide ((1:Int)=0))=false from rfl,tff,show (decide ((1:Int)=1))=true from rfl,tft];rw[show wrap .i64 ((1:Int)+1)=2 from rfl,y1o];simp only[tfd];by_cases h:(40:Int)<s.2.1.length
 ·rw[q0z h,q0z (.inl h)]
 ·rw[q0n h];by_cases h':(40:Int)<s.2.2.length
  ·rw[q0z h',q0z (.inr h')]
  ·rw[q0n h',q0n (fun k=>k.elim h h')]
theorem y1q (n f:Nat)(s:Trs):d0i n (f+4) (s,(0:Int),())=some (if (40:Int)<s.1.length\/(40:Int)<s.2.1.length\/(40:Int)<s.2.2.length then .inr 0 else .inl ()):=by
 rw[g0v,show (decide ((0:Int)<3))=true from rfl,tft,show (decide ((0:Int)=0))=true from rfl,tft];rw[show wrap .i64 ((0:Int)+1)=1 from rfl,y1p];simp only[tfd];by_cases h:(40:Int)<s.1.length
 ·rw[q0z h,q0z (.inl h)]
 ·rw[q0n h];by_cases h':(40:Int)<s.2.1.length\/(40:Int)<s.2.2.length
  ·rw[q0z h',q0z (.inr h')]
  ·rw[q0n h',q0n (fun k=>k.elim h h')]
def x0v (s:Trs):Prop:=s.1.length<=40/\s.2.1.length<=40/\s.2.2.length<=40
instance (s:Trs):Decidable (x0v s):=by unfold x0v;infer_instance
theorem g2b (n:Nat)(s:Trs):b1r (n+1) s=some (if x0v s then 1 else 0):=by
 rw[p1o,show a0b=(2^70-4)+4 from by decide,y1q];by_cases h:x0v s
 ·rw[q0z h,q0n (by unfold x0v at h;omega)];rfl
 ·rw[q0n h,q0z (by unfold x0v at h;omega)];rfl
theorem r05_same_l (n:Nat)(l:List Lab)(hL:l.length<=1000000):∀(rest pre:List Lab) (f:Nat) (ix len:Int),l=pre++rest->ix=pre.length->len=l.length->rest.length<f->k0j n f (l,l,len,ix,())=some (.inl ()):=by
 intro rest;induction rest with
 | nil =>
  intro pre f ix len hl hi hn hf;obtain ⟨f,rfl⟩:=FSu hf;rw[h0y];simp only[tfd,q0n (idxe hl hi hn)]
 | cons x rest ih =>
  intro pre f ix len hl hi hn hf;obtain ⟨f,rfl⟩:=FSu hf;rw[h0y];simp only[tfd,q0z (idx hl hi hn),b0p hl hi,obs,labEq,decide_true,q2t,tff,idxw hl hi (by omega)];exact ih (pre++[x]) f (ix+1) len (idxl hl) (idxs hi) hn (by simp at hf;omega)
structure SerL (s:Ser):Prop where
 l:s.1.length<=1000000
 r:s.2.2.1.2.2.length<=1000000
 a:s.2.2.2.1.1.length<=1000000
 b:s.2.2.2.1.2.1.length<=1000000
 d:s.2.2.2.1.2.2.length<=1000000
theorem m1u (n:Nat)(c:Conf){s:Ser}(hw:SerW s):o0y (n+11) c s=some (if SerOk c s then 0 else 2):=by
 rw[a1s,o0x n c hw];by_cases h:SerOk c s
 ·rw[q0z h,q0z h];rfl
 ·rw[q0n h,q0n h];rfl
theorem d2k (n:Nat)(l:List Lab)(hL:l.length<=9223372036854775807):∀(rest pre:List Lab) (f:Nat) (ix len:Int),l=pre++rest->ix=pre.length->len=l.length->rest.length<f ->
  e0q n f (l,len,ix,())=some (.inl ())\/e0q n f (l,len,ix,())=some (.inr 0):=by
 intro rest;induction rest with
 | nil =>
  intro pre f ix len hl hi hn hf;obtain ⟨f,rfl⟩:=FSu hf;left;rw[g0w];simp only[tfd,q0n (idxe hl hi hn)]
 | cons x rest ih =>
  intro pre f ix len hl hi hn hf;obtain ⟨f,rfl⟩:=FSu hf;have hlen:=congrArg List.length hl;simp at hlen;rw[g0w];simp only[tfd,q0z (idx hl hi hn),b0p hl hi,obs];rw[w64 (x:=ix+1) (by omega) (by omega)];by_cases h1:ix=40
  ·right;rw[q0z h1]
  rw[q0n h1];by_cases h2:(1000:Int)<x.1.length
  ·right;rw[q0z h2]
  rw[q0n h2];by_cases h3:(1000:Int)<x.2.length
  ·right;rw[q0z h3]
  rw[q0n h3];exact ih (pre++[x]) f (ix+1) len (idxl hl) (idxs hi) hn (by simp at hf;omega)
theorem g2d (n:Nat)(l:List Lab)(hL:l.length<=9223372036854775807):k0m (n+1) l=some 0\/k0m (n+1) l=some 1:=by
 rw[y0n];rcases d2k n l hL l [] a0b 0 _ rfl rfl rfl (by unfold a0b;omega) with h | h
 ·right;rw[h];rfl
 ·left;rw[h];rfl
theorem g2a (n:Nat)(s:Ser)(hL:s.1.length<=9223372036854775807):v0o (n+2) s=some 0\/v0o (n+2) s=some 1:=by
 rw[p1n];rcases g2d n s.1 hL with h | h
 ·left;rw[h];rfl
 ·rw[h];simp only[obs,tfd,q0n (show ¬((1:Int)=0) by omega)];by_cases h1:(60:Int)<s.2.2.1.2.2.length
  ·left;rw[q0z h1]
  rw[q0n h1,g2b];simp only[obs];split
  ·right;rfl
  ·left;rfl
theorem ser_wf {s:Ser}(h:Wf a0q s):SerW s:=by
 obtain ⟨h1,h2,h3,h4,h5⟩:=h;refine ⟨h2,?_,trs_wf h4,slo_wf h5⟩;intro e he;exact ev_wf (h3.2.2.2 e he)
theorem s0z (n:Nat)(a b:List Lab)(hL:a.length<=9223372036854775807):∀(ra rb pa pb:List Lab) (f:Nat) (ix len:Int),a=pa++ra->b=pb++rb->pa.length=pb.length->ra.length=rb.length->ix=pa.length->len=a.length->ra.length<f ->
  e0x n f (a,b,len,ix,())=some (if ra=rb then .inl () else .inr false):=by
 intro ra;induction ra with
 | nil =>
  intro rb pa pb f ix len ha hb hp hr hi hn hf;obtain ⟨f,rfl⟩:=FSu hf;have e:rb=[]:=List.length_eq_zero_iff.1 (by simpa using hr.symm);subst e;rw[i0s,q1z (idxe ha hi hn),tff,q0z rfl]
 | cons x ra ih =>
  intro rb pa pb f ix len ha hb hp hr hi hn hf;obtain ⟨f,rfl⟩:=FSu hf;cases rb with
  | nil=>simp at hr
  | cons y rb =>
   have hlen:=congrArg List.length ha;simp at hlen;rw[i0s,q2a (idx ha hi hn),tft,b0p ha hi,b0p hb (by omega)];simp only[obs,labEq];rw[w64 (x:=ix+1) (by omega) (by omega)];by_cases h:x=y
   ·subst h;simp only[decide_true,q2t,tff];rw[ih rb (pa++[x]) (pb++[x]) f (ix+1) len (idxl ha) (idxl hb) (by simp;omega) (by simpa using hr) (idxs hi) hn (by simp at hf;omega)];simp
   ·rw[q0n (by simp[h])];simp only[q1z h,Bool.not_false,tft]
theorem m0p (n:Nat)(a b:List Lab)(hL:a.length<=9223372036854775807):l0i (n+1) a b=some (decide (a=b)):=by
 rw[w0j];by_cases h:a.length=b.length
 ·rw[q2a (show ((a.length:Nat):Int)=(b.length:Nat) by omega)];simp only[q2t,tff];rw[s0z n a b hL a b [] [] a0b 0 _ rfl rfl rfl h rfl rfl (by unfold a0b;omega)];by_cases h':a=b
  ·rw[q0z h',q2a h'];rfl
  ·rw[q0n h',q1z h'];rfl
 ·rw[q1z (show ¬((a.length:Nat):Int)=(b.length:Nat) by omega),q1z (fun k:a=b=>h (by rw[k]))];rfl
theorem t0a (n:Nat)(a b:List Ev)(hL:a.length<=9223372036854775807):∀(ra rb pa pb:List Ev) (f:Nat) (ix len:Int),a=pa++ra->b=pb++rb->pa.length=pb.length->ra.length=rb.length->ix=pa.length->len=a.length->ra.length<f ->
  e0y n f (a,b,len,ix,())=some (if ra=rb then .inl () else .inr false):=by
 intro ra;induction ra with
 | nil =>
  intro rb pa pb f ix len ha hb hp hr hi hn hf;obtain ⟨f,rfl⟩:=FSu hf;have e:rb=[]:=List.length_eq_zero_iff.1 (by simpa using hr.symm);subst e;rw[i0t,q1z (idxe ha hi hn),tff,q0z rfl]
 | cons x ra ih =>
  intro rb pa pb f ix len ha hb hp hr hi hn hf;obtain ⟨f,rfl⟩:=FSu hf;cases rb with
  | nil=>simp at hr
  | cons y rb =>
   have hlen:=congrArg List.length ha;simp at hlen;rw[i0t,q2a (idx ha hi hn),tft,b0p ha hi,b0p hb (by omega)];simp only[obs,evEq];rw[w64 (x:=ix+1) (by omega) (by omega)];by_cases h:x=y
   ·subst h;simp only[decide_true,q2t,tff];rw[ih rb (pa++[x]) (pb++[x]) f (ix+1) len (idxl ha) (idxl hb) (by simp;omega) (by simpa using hr) (idxs hi) hn (by simp at hf;omega)];simp
   ·rw[q0n (by simp[h])];simp only[q1z h,Bool.not_false,tft]
theorem x0m (n:Nat)(a b:List Ev)(hL:a.length<=9223372036854775807):l0j (n+1) a b=some (decide (a=b)):=by
 rw[w0k];by_cases h:a.length=b.length
 ·rw[q2a (show ((a.length:Nat):Int)=(b.length:Nat) by omega)];simp only[q2t,tff];rw[t0a n a b hL a b [] [] a0b 0 _ rfl rfl rfl h rfl rfl (by unfold a0b;omega)];by_cases h':a=b
  ·rw[q0z h',q2a h'];rfl
  ·rw[q0n h',q1z h'];rfl
 ·rw[q1z (show ¬((a.length:Nat):Int)=(b.length:Nat) by omega),q1z (fun k:a=b=>h (by rw[k]))];rfl
theorem v0v (n:Nat)(a b:List Slo)(hL:a.length<=9223372036854775807):∀(ra rb pa pb:List Slo) (f:Nat) (ix len:Int),a=pa++ra->b=pb++rb->pa.length=pb.length->ra.length=rb.length->ix=pa.length->len=a.length->ra.length<f ->
  f0q n f (a,b,len,ix,())=some (if ra=rb then .inl () else .inr false):=by
 intro ra;induction ra with
 | nil =>
  intro rb pa pb f ix len ha hb hp hr hi hn hf;obtain ⟨f,rfl⟩:=FSu hf;have e:rb=[]:=List.length_eq_zero_iff.1 (by simpa using hr.symm);subst e;rw[j0y,q1z (idxe ha hi hn),tff,q0z rfl]
 | cons x ra ih =>
  intro rb pa pb f ix len ha hb hp hr hi hn hf;obtain ⟨f,rfl⟩:=FSu hf;cases rb with
  | nil=>simp at hr
  | cons y rb =>
   have hlen:=congrArg List.length ha;simp at hlen;rw[j0y,q2a (idx ha hi hn),tft,b0p ha hi,b0p hb (by omega)];simp only[obs,d2l];rw[w64 (x:=ix+1) (by omega) (by omega)];by_cases h:x=y
   ·subst h;simp only[decide_true,q2t,tff];rw[ih rb (pa++[x]) (pb++[x]) f (ix+1) len (idxl ha) (idxl hb) (by simp;omega) (by simpa using hr) (idxs hi) hn (by simp at hf;omega)];simp
   ·rw[q0n (by simp[h])];simp only[q1z h,Bool.not_false,tft]
theorem i0n (n:Nat)(a b:List Slo)(hL:a.length<=9223372036854775807):g0k (n+1) a b=some (decide (a=b)):=by
 rw[y0x];by_cases h:a.length=b.length
 ·rw[q2a (show ((a.length:Nat):Int)=(b.length:Nat) by omega)];simp only[q2t,tff];rw[v0v n a b hL a b [] [] a0b 0 _ rfl rfl rfl h rfl rfl (by unfold a0b;omega)];by_cases h':a=b
  ·rw[q0z h',q2a h'];rfl
  ·rw[q0n h',q1z h'];rfl
 ·rw[q1z (show ¬((a.length:Nat):Int)=(b.length:Nat) by omega),q1z (fun k:a=b=>h (by rw[k]))];rfl
theorem k1x (n:Nat)(a b:List Lab)(hL:a.length<=9223372036854775807):∀(ra rb pa pb:List Lab) (f:Nat) (ix len:Int),a=pa++ra->b=pb++rb->pa.length=pb.length->ra.length=rb.length->ix=pa.length->len=a.length->ra.length<f ->
  k0j n f (a,b,len,ix,())=some (if ra=rb then .inl () else .inr false):=by
 intro ra;induction ra with
 | nil =>
  intro rb pa pb f ix len ha hb hp hr hi hn hf;obtain ⟨f,rfl⟩:=FSu hf;have e:rb=[]:=List.length_eq_zero_iff.1 (by simpa using hr.symm);subst e;rw[h0y,q1z (idxe ha hi hn),tff,q0z rfl]
 | cons x ra ih =>
  intro rb pa pb f ix len ha hb hp hr hi hn hf;obtain ⟨f,rfl⟩:=FSu hf;cases rb with
  | nil=>simp at hr
  | cons y rb =>
   have hlen:=congrArg List.length ha;simp at hlen;rw[h0y,q2a (idx ha hi hn),tft,b0p ha hi,b0p hb (by omega)];simp only[obs,labEq];rw[w64 (x:=ix+1) (by omega) (by omega)];by_cases h:x=y
   ·subst h;simp only[decide_true,q2t,tff];rw[ih rb (pa++[x]) (pb++[x]) f (ix+1) len (idxl ha) (idxl hb) (by simp;omega) (by simpa using hr) (idxs hi) hn (by simp at hf;omega)];simp
   ·rw[q0n (by simp[h])];simp only[q1z h,Bool.not_false,tft]
theorem o0h (n:Nat)(a b:List Lab)(hL:a.length<=9223372036854775807):q0v (n+1) a b=some (decide (a=b)):=by
 rw[t1u];by_cases h:a.length=b.length
 ·rw[q2a (show ((a.length:Nat):Int)=(b.length:Nat) by omega)];simp only[q2t,tff];rw[k1x n a b hL a b [] [] a0b 0 _ rfl rfl rfl h rfl rfl (by unfold a0b;omega)];by_cases h':a=b
  ·rw[q0z h',q2a h'];rfl
  ·rw[q0n h',q1z h'];rfl
 ·rw[q1z (show ¬((a.length:Nat):Int)=(b.length:Nat) by omega),q1z (fun k:a=b=>h (by rw[k]))];rfl
theorem x0n (n:Nat)(a b:List Ev)(hL:a.length<=9223372036854775807):∀(ra rb pa pb:List Ev) (f:Nat) (ix len:Int),a=pa++ra->b=pb++rb->pa.length=pb.length->ra.length=rb.length->ix=pa.length->len=a.length->ra.length<f ->
  g0r n f (a,b,len,ix,())=some (if ra=rb then .inl () else .inr false):=by
 intro ra;induction ra with
 | nil =>
  intro rb pa pb f ix len ha hb hp hr hi hn hf;obtain ⟨f,rfl⟩:=FSu hf;have e:rb=[]:=List.length_eq_zero_iff.1 (by simpa using hr.symm);subst e;rw[k0w,q1z (idxe ha hi hn),tff,q0z rfl]
 | cons x ra ih =>
  intro rb pa pb f ix len ha hb hp hr hi hn hf;obtain ⟨f,rfl⟩:=FSu hf;cases rb with
  | nil=>simp at hr
  | cons y rb =>
   have hlen:=congrArg List.length ha;simp at hlen;rw[k0w,q2a (idx ha hi hn),tft,b0p ha hi,b0p hb (by omega)];simp only[obs,evEq];rw[w64 (x:=ix+1) (by omega) (by omega)];by_cases h:x=y
   ·subst h;simp only[decide_true,q2t,tff];rw[ih rb (pa++[x]) (pb++[x]) f (ix+1) len (idxl ha) (idxl hb) (by simp;omega) (by simpa using hr) (idxs hi) hn (by simp at hf;omega)];simp
   ·rw[q0n (by simp[h])];simp only[q1z h,Bool.not_false,tft]
theorem b1x (n:Nat)(a b:List Ev)(hL:a.length<=9223372036854775807):p0c (n+1) a b=some (decide (a=b)):=by
 rw[b1a];by_cases h:a.length=b.length
 ·rw[q2a (show ((a.length:Nat):Int)=(b.length:Nat) by omega)];simp only[q2t,tff];rw[x0n n a b hL a b [] [] a0b 0 _ rfl rfl rfl h rfl rfl (by unfold a0b;omega)];by_cases h':a=b
  ·rw[q0z h',q2a h'];rfl
  ·rw[q0n h',q1z h'];rfl
 ·rw[q1z (show ¬((a.length:Nat):Int)=(b.length:Nat) by omega),q1z (fun k:a=b=>h (by rw[k]))];rfl
theorem k1w (n:Nat)(a b:List Slo)(hL:a.length<=9223372036854775807):∀(ra rb pa pb:List Slo) (f:Nat) (ix len:Int),a=pa++ra->b=pb++rb->pa.length=pb.length->ra.length=rb.length->ix=pa.length->len=a.length->ra.length<f ->
  n0w n f (a,b,len,ix,())=some (if ra=rb then .inl () else .inr false):=by
 intro ra;induction ra with
 | nil =>
  intro rb pa pb f ix len ha hb hp hr hi hn hf;obtain ⟨f,rfl⟩:=FSu hf;have e:rb=[]:=List.length_eq_zero_iff.1 (by simpa using hr.symm);subst e;rw[s0g,q1z (idxe ha hi hn),tff,q0z rfl]
 | cons x ra ih =>
  intro rb pa pb f ix len ha hb hp hr hi hn hf;obtain ⟨f,rfl⟩:=FSu hf;cases rb with
  | nil=>simp at hr
  | cons y rb =>
   have hlen:=congrArg List.length ha;simp at hlen;rw[s0g,q2a (idx ha hi hn),tft,b0p ha hi,b0p hb (by omega)];simp only[obs,d2l];rw[w64 (x:=ix+1) (by omega) (by omega)];by_cases h:x=y
   ·subst h;simp only[decide_true,q2t,tff];rw[ih rb (pa++[x]) (pb++[x]) f (ix+1) len (idxl ha) (idxl hb) (by simp;omega) (by simpa using hr) (idxs hi) hn (by simp at hf;omega)];simp
   ·rw[q0n (by simp[h])];simp only[q1z h,Bool.not_false,tft]
theorem t0b (n:Nat)(a b:List Slo)(hL:a.length<=9223372036854775807):u0r (n+1) a b=some (decide (a=b)):=by
 rw[t1e];by_cases h:a.length=b.length
 ·rw[q2a (show ((a.length:Nat):Int)=(b.length:Nat) by omega)];simp only[q2t,tff];rw[k1w n a b hL a b [] [] a0b 0 _ rfl rfl rfl h rfl rfl (by unfold a0b;omega)];by_cases h':a=b
  ·rw[q0z h',q2a h'];rfl
  ·rw[q0n h',q1z h'];rfl
 ·rw[q1z (show ¬((a.length:Nat):Int)=(b.length:Nat) by omega),q1z (fun k:a=b=>h (by rw[k]))];rfl
noncomputable instance decSer (a b:Ser):Decidable (a=b):=Classical.propDecidable _
structure SerM (s:Ser):Prop where
 l:s.1.length<=9223372036854775807
 r:s.2.2.1.2.2.length<=9223372036854775807
 a:s.2.2.2.1.1.length<=9223372036854775807
 b:s.2.2.2.1.2.1.length<=9223372036854775807
 d:s.2.2.2.1.2.2.length<=9223372036854775807
theorem r1z (n:Nat)(a b:Ser)(h:SerM a):k0b (n+3) a b=some (decide (a=b)):=by
 rw[c1t,v0k,s1i,m0p n _ _ h.l,x0m n _ _ h.r,i0n (n+1) _ _ h.a,i0n (n+1) _ _ h.b,i0n (n+1) _ _ h.d];obtain ⟨a1,a2,⟨r1,r2,r3⟩,⟨t1,t2,t3⟩,a5⟩:=a;obtain ⟨b1,b2,⟨q1,q2,q3⟩,⟨u1,u2,u3⟩,b5⟩:=b;simp only[obs,d2l,tfd];by_cases h1:a1=b1
 case neg=>simp[h1]
 by_cases h2:a2=b2
 case neg=>simp[h1,h2]
 by_cases h3:r1=q1
 case neg=>simp[h1,h2,h3]
 by_cases h4:r2=q2
 case neg=>simp[h1,h2,h3,h4]
 by_cases h5:r3=q3
 case neg=>simp[h1,h2,h3,h4,h5]
 by_cases h6:t1=u1
 case neg=>simp[h1,h2,h3,h4,h5,h6]
 by_cases h7:t2=u2
 case neg=>simp[h1,h2,h3,h4,h5,h6,h7]
 by_cases h8:t3=u3
 case neg=>simp[h1,h2,h3,h4,h5,h6,h7,h8]
 by_cases h9:a5=b5
 case neg=>simp[h1,h2,h3,h4,h5,h6,h7,h8,h9]
 simp[h1,h2,h3,h4,h5,h6,h7,h8,h9]
theorem w1g (n:Nat)(a b:Ser)(h:SerM a):q0r (n+3) a b=some (decide (a=b)):=by
 rw[s1x,t1j,t1a,o0h (n+1) _ _ h.l,b1x n _ _ h.r,t0b n _ _ h.a,t0b n _ _ h.b,t0b n _ _ h.d];obtain ⟨a1,a2,⟨r1,r2,r3⟩,⟨t1,t2,t3⟩,a5⟩:=a;obtain ⟨b1,b2,⟨q1,q2,q3⟩,⟨u1,u2,u3⟩,b5⟩:=b;simp only[obs,d2l,tfd,tfn];by_cases h1:a1=b1
 case neg=>simp[h1]
 by_cases h2:a2=b2
 case neg=>simp[h1,h2]
 by_cases h3:r1=q1
 case neg=>simp[h1,h2,h3]
 by_cases h4:r2=q2
 case neg=>simp[h1,h2,h3,h4]
 by_cases h5:r3=q3
 case neg=>simp[h1,h2,h3,h4,h5]
 by_cases h6:t1=u1
 case neg=>simp[h1,h2,h3,h4,h5,h6]
 by_cases h7:t2=u2
 case neg=>simp[h1,h2,h3,h4,h5,h6,h7]
 by_cases h8:t3=u3
 case neg=>simp[h1,h2,h3,h4,h5,h6,h7,h8]
 by_cases h9:a5=b5
 case neg=>simp[h1,h2,h3,h4,h5,h6,h7,h8,h9]
 simp[h1,h2,h3,h4,h5,h6,h7,h8,h9]
def oldV (now w m:Int):Int×Int:=if OfP now w/\1<=m/\m<=4096 then (if 0<now / w+1-m then now / w+1-m else 0,0) else (0,1)
theorem c2i (n:Nat)(now w m:Int):a1e (n+4) now w m=some (oldV now w m):=by
 rw[m1b,wi_of n now w,l1z];unfold oldV;by_cases h:OfP now w
 case neg=>rw[q0n h,q0n (fun k=>h k.1)];rfl
 rw[q0z h];have hq:=v0d h;simp only[obs,decide_true,q2t,tff];by_cases h1:1<=m
 case neg=>simp[h,h1]
 by_cases h2:m<=4096
 case neg=>simp[h,h1,h2]
 rw[w64 (x:=now / w+1) (by omega) (by omega),w64 (x:=now / w+1-m) (by omega) (by omega)];simp[h,h1,h2]
theorem z1z (n:Nat)(now w m:Int):w0u (n+3) now w m=some (oldV now w m):=by
 rw[j1c,w1l n now w];unfold oldV;by_cases h:OfP now w
 case neg=>rw[q0n h,q0n (fun k=>h k.1)];rfl
 rw[q0z h];have hq:=v0d h;simp only[obs,decide_true,q2t,tff,tfd];by_cases h1:m<1
 ·rw[q0z h1,q0n (by omega)]
 rw[q0n h1];by_cases h2:4096<m
 ·rw[q0z h2,q0n (by omega)]
 rw[q0n h2,w64 (x:=now / w-m) (by omega) (by omega),w64 (x:=now / w-m+1) (by omega) (by omega),q0z (show OfP now w/\1<=m/\m<=4096 from ⟨h,by omega,by omega⟩)];have e:(if now / w-m+1<0 then (0:Int) else now / w-m+1)=if 0<now / w+1-m then now / w+1-m else 0:=by
  split<;>split<;>omega
 rw[e]
noncomputable def x0f (t now w m:Int):Bool:=decide (OfP t w/\(oldV now w m).2=0/\t / w<(oldV now w m).1)
theorem r1e (n:Nat)(t now w m:Int):a1f (n+5) t now w m=some (x0f t now w m):=by
 rw[y1h,wi_of (n+1) t w,c2i n now w m];unfold x0f;simp only[obs,tfd];by_cases h:OfP t w
 case neg=>rw[q0n h,q0n (by simp),q1z (fun k=>h k.1)]
 rw[q0z h,q0z rfl];by_cases h1:(oldV now w m).2=0
 ·rw[q0z h1];exact congrArg some (q2s.2 ⟨fun k=>⟨h,h1,k⟩,fun k=>k.2.2⟩)
 ·rw[q0n h1,q1z (fun k=>h1 k.2.1)]
theorem j1b (n:Nat)(t now w m:Int):u0y (n+4) t now w m=some (x0f t now w m):=by
 rw[t1o,w1l (n+1) t w,z1z n now w m];unfold x0f;simp only[obs,tfd];by_cases h:OfP t w
 case neg=>rw[q0n h,q0n (by simp),q1z (fun k=>h k.1)]
 rw[q0z h,q0z rfl];by_cases h1:(oldV now w m).2=0
 ·rw[q0z h1];exact congrArg some (q2s.2 ⟨fun k=>⟨h,h1,k⟩,fun k=>k.2.2⟩)
 ·rw[q0n h1,q1z (fun k=>h1 k.2.1)]
noncomputable def v1f (c:Conf)(last now:Int):Bool :=
 decide (OkC c)&&(x0f last now c.2.1.1 c.2.2.1.1&&(x0f last now c.2.1.2.1 c.2.2.1.2.1&&x0f last now c.2.1.2.2 c.2.2.1.2.2))
theorem s1a (n:Nat)(c:Conf)(last now:Int):s0s (n+6) c last now=some (v1f c last now):=by
 rw[c1u,m0r (n+2) c,r1e n,r1e n,r1e n];unfold v1f;by_cases h:OkC c
 case neg=>rw[q0n h,q1z h];rfl
 rw[q0z h,q2a h];simp only[obs,decide_true,tft,Bool.true_and];cases x0f last now c.2.1.1 c.2.2.1.1<;>cases x0f last now c.2.1.2.1 c.2.2.1.2.1<;>cases x0f last now c.2.1.2.2 c.2.2.1.2.2<;>rfl
theorem r15_dead (n:Nat)(c:Conf)(last now:Int):i1v (n+5) c last now=some (v1f c last now):=by
 rw[s1z,i0e (n+1) c,j1b n,j1b n,j1b n];unfold v1f;by_cases h:OkC c
 case neg=>rw[q0n h,q1z h];rfl
 rw[q0z h,q2a h];simp only[obs,decide_true,q2t,tff,Bool.true_and];cases x0f last now c.2.1.1 c.2.2.1.1<;>cases x0f last now c.2.1.2.1 c.2.2.1.2.1<;>cases x0f last now c.2.1.2.2 c.2.2.1.2.2<;>rfl
noncomputable def newV (c:Conf)(l:List Lab):Ser×Int :=
 if OkC c then (if LabOk l then ((l,(-1,(r0w,(emp c,s0)))),0) else (ser0,8)) else (ser0,2)
theorem v1g (n:Nat)(l:List Lab)(h:l.length<=1000000):l0k (n+1) l=some l:=by
 rw[w0l,q2a (show (0+l.length)*32<=140737488355328 by omega)];simp only[tft,q2q];by_cases h0:l.length=0
 ·rw[q2a h0,tft,List.length_eq_zero_iff.1 h0,q1s]
 ·rw[q1z h0,tff]
theorem z1a (n:Nat)(c:Conf)(l:List Lab):q0q (n+7) c l=some (newV c l):=by
 rw[i1h,m0r (n+3) c,s0w n l];unfold newV;by_cases h:OkC c
 case neg=>rw[q0n h,q0n h];rfl
 rw[q0z h,q0z h];simp only[obs,decide_true,q2t,tff];by_cases h1:LabOk l
 case neg=>rw[q0n h1,q0n h1];rfl
 rw[q0z h1,q0z h1,v1g (n+5) l (by have:=h1.n1;omega),b2g (n+2) c];rfl
abbrev Sta:=Conf×(Int×(Int×List Ser))
structure StaW (s:Sta):Prop where
 len:s.2.2.2.length<=9223372036854775807
 ser:∀x∈s.2.2.2,SerW x/\SerM x
def Whole (s:Sta):Prop:=OkC s.1/\(s.2.2.2.length:Int)=s.1.2.2.2.1
noncomputable instance (s):Decidable (Whole s):=Classical.propDecidable _
def LvX (s:Sta)(x:Ser):Prop:=x≠ser0/\(s.2.2.1 = -1\/v1f s.1 x.2.1 s.2.2.1=false)
noncomputable instance (s x):Decidable (LvX s x):=Classical.propDecidable _
def m0x (t:Int):Prop:=0<=t/\t<35184372088832
instance (t):Decidable (m0x t):=by unfold m0x;infer_instance
def Clock (s:Sta):Prop:=m0x s.2.1/\(s.2.2.1 = -1\/m0x s.2.2.1)/\s.2.2.1<=s.2.1
instance (s):Decidable (Clock s):=by unfold Clock;infer_instance
def mk (s:Sta):Int:=s.2.1 / s.1.2.1.1*s.1.2.1.1
def Twin (s:Sta)(i:Nat)(x:Ser):Prop:=LvX s x/\∃k,k<i/\∃y,s.2.2.2[k]? = some y/\LvX s y/\y.1=x.1
noncomputable instance (s i x):Decidable (Twin s i x):=Classical.propDecidable _
def h0a (s:Sta)(i:Nat)(x:Ser):Prop:=x=ser0\/(SerOk s.1 x/\0<=x.2.1/\x.2.1<mk s+s.1.2.1.1/\¬Twin s i x)
noncomputable instance (s i x):Decidable (h0a s i x):=Classical.propDecidable _
structure StaOk (s:Sta):Prop where
 whole:Whole s
 clock:Clock s
 right:∀(i:Nat) x,s.2.2.2[i]? = some x->h0a s i x
noncomputable instance (s):Decidable (StaOk s):=Classical.propDecidable _
theorem Whole.len {s:Sta}(h:Whole s):s.2.2.2.length<=65536:=by
 have:=h.1.rng.cap;have:=h.2;omega
theorem q0d {α:Type}{l:List α}{i:Nat}{x:α}(h:l[i]? = some x):at? l (i:Int)=some x:=by
 unfold at?;rw[q2a (show (0:Int)<=(i:Int) by omega),q2i];exact h
theorem StaW.at {s:Sta}(h:StaW s){i:Nat}{x:Ser}(hx:s.2.2.2[i]? = some x):SerW x/\SerM x:=h.ser x (q3a hx)
theorem v1w (n:Nat){x:Ser}(h:SerM x):t0w (n+4) x=some (decide (x=ser0)):=by
 have:=r1z n x ser0 h;rw[m1n];have e:k0b (n+3) x ([],((0:Int),(((0:Int),((0:Int),[])),(([],([],[])),((0:Int),z0)))))=some (decide (x=ser0)):=this
 change a0a (k0b (n+3) x ([],((0:Int),(((0:Int),((0:Int),[])),(([],([],[])),((0:Int),z0)))))) _=_
 rw[e];rfl
theorem n1m (n:Nat){x:Ser}(h:SerM x):u0m (n+4) x=some (decide (x=ser0)):=by
 have:=w1g n x ser0 h;rw[n1p];have e:q0r (n+3) x ([],((0:Int),(((0:Int),((0:Int),[])),(([],([],[])),((0:Int),z0)))))=some (decide (x=ser0)):=this
 change a0a (q0r (n+3) x ([],((0:Int),(((0:Int),((0:Int),[])),(([],([],[])),((0:Int),z0)))))) _=_
 rw[e];rfl
theorem z0i (n:Nat){s:Sta}{i:Nat}{x:Ser}(hx:s.2.2.2[i]? = some x)(hm:SerM x):e0f (n+7) s (i:Int)=some (decide (LvX s x)):=by
 rw[w0h,q0d hx,obs,v1w (n+2) hm,obs,tfn,tfd,s1a n];by_cases h:x=ser0
 ·rw[q0z h,q1z (fun k:LvX s x=>k.1 h)]
 rw[q0n h,tfd];by_cases h1:s.2.2.1 = -1
 ·rw[q0z h1,q2a (show LvX s x from ⟨h,.inl h1⟩)]
 ·rw[q0n h1];cases hd:v1f s.1 x.2.1 s.2.2.1
  ·rw[q2a (show LvX s x from ⟨h,.inr hd⟩)];rfl
  ·rw[q1z (fun k:LvX s x=>by rcases k.2 with k | k;exact h1 k;rw[hd] at k;cases k)];rfl
theorem j0d (n:Nat){s:Sta}{i:Nat}{x:Ser}(hx:s.2.2.2[i]? = some x)(hm:SerM x):l0x (n+6) s (i:Int)=some (decide (LvX s x)):=by
 rw[n1k,q0d hx,obs,n1m (n+1) hm,obs,tfn,tfd,obs,r15_dead n];by_cases h:x=ser0
 ·rw[q0z h,q1z (fun k:LvX s x=>k.1 h)]
 rw[q0n h,tfd];by_cases h1:s.2.2.1 = -1
 ·rw[q0z h1,q2a (show LvX s x from ⟨h,.inl h1⟩)]
 ·rw[q0n h1];cases hd:v1f s.1 x.2.1 s.2.2.1
  ·rw[q2a (show LvX s x from ⟨h,.inr hd⟩)];rfl
  ·rw[q1z (fun k:LvX s x=>by rcases k.2 with k | k;exact h1 k;rw[hd] at k;cases k)];rfl
theorem place_l (n:Nat)(is:(Int×Unit)->Option Bool)(p:Nat->Bool)(L:Nat)(hL:L<=1000000)(his:∀k:Nat,k<L->is ((k:Int),())=some (p k)):∀(d k f:Nat),k+d=L->d<f ->
  (∃m:Nat,k<=m/\m<L/\p m=true/\(∀j,k<=j->j<m->p j=false)/\c0g n f (is,(L:Int),(k:Int),())=some (.inr (m:Int))) \/
  ((∀j,k<=j->j<L->p j=false)/\c0g n f (is,(L:Int),(k:Int),())=some (.inl ())):=by
 intro d;induction d with
 | zero =>
  intro k f hk hf;obtain ⟨f,rfl⟩:∃g,f=g+1:=⟨f-1,by omega⟩;refine .inr ⟨fun j h1 h2=>by omega,?_⟩;rw[i0q,q1z (by omega),tff]
 | succ d ih =>
  intro k f hk hf;obtain ⟨f,rfl⟩:∃g,f=g+1:=⟨f-1,by omega⟩;rw[i0q,q2a (by omega),tft,his k (by omega),obs];cases hp:p k
  ·rw[tff,w64 (by omega) (by omega),show ((k:Int)+1)=((k+1:Nat):Int) by omega];rcases ih (k+1) f (by omega) (by omega) with ⟨m,h1,h2,h3,h4,h5⟩ | ⟨h1,h2⟩
   ·exact .inl ⟨m,by omega,h2,h3,fun j q1 q2=>by
     rcases Nat.lt_or_ge k j with q | q
     ·exact h4 j (by omega) q2
     ·rw[show j=k by omega];exact hp,h5⟩
   ·exact .inr ⟨fun j q1 q2=>by
     rcases Nat.lt_or_ge k j with q | q
     ·exact h1 j (by omega) q2
     ·rw[show j=k by omega];exact hp,h2⟩
  ·rw[tft];exact .inl ⟨k,q2e _,by omega,hp,fun j q1 q2=>by omega,rfl⟩
theorem v0u (n:Nat)(s:Sta)(is:(Int×Unit)->Option Bool)(p:Nat->Bool)(hL:s.2.2.2.length<=1000000)(his:∀k:Nat,k<s.2.2.2.length->is ((k:Int),())=some (p k)) :
  (∃m:Nat,m<s.2.2.2.length/\p m=true/\(∀j,j<m->p j=false)/\d0l (n+1) s is=some (m:Int)) \/
  ((∀j,j<s.2.2.2.length->p j=false)/\d0l (n+1) s is=some (-1)):=by
 rw[w0g];rcases place_l n is p _ hL his s.2.2.2.length 0 a0b (by omega) (by unfold a0b;omega) with ⟨m,h1,h2,h3,h4,h5⟩ | ⟨h1,h2⟩
 ·refine .inl ⟨m,h2,h3,fun j q=>h4 j (by omega) q,?_⟩;have h5':c0g n a0b (is,(s.2.2.2.length:Int),(0:Int),())=some (.inr (m:Int)):=h5;rw[h5'];rfl
 ·refine .inr ⟨fun j q=>h1 j (by omega) q,?_⟩;have h2':c0g n a0b (is,(s.2.2.2.length:Int),(0:Int),())=some (.inl ()):=h2;rw[h2'];rfl
theorem f1v (n:Nat)(a b:List Lab)(h:a.length<=9223372036854775807):m0l (n+2) a b=some (decide (a=b)):=by
 rw[v0k,m0p n a b h];rfl
def IsTw (s:Sta)(i k:Nat)(x:Ser):Prop:=k=i\/∃y,s.2.2.2[k]? = some y/\LvX s y/\y.1=x.1
noncomputable instance (s i k x):Decidable (IsTw s i k x):=Classical.propDecidable _
theorem st_twin (n:Nat){s:Sta}(hw:StaW s)(hL:s.2.2.2.length<=1000000){i:Nat}{x:Ser}(hx:s.2.2.2[i]? = some x):n0l (n+9) s (i:Int)=some (decide (Twin s i x)):=by
 have hil:i<s.2.2.2.length:=(q2p.1 hx).1;have hm:=(hw.at hx).2;rw[y0v];have his:∀k:Nat,k<s.2.2.2.length->(fun y0:Int×Unit=>e0m (n+8) y0.1 (i:Int) s) ((k:Int),())=some (decide (IsTw s i k x)):=by
  intro k hk;have hy:s.2.2.2[k]? = some s.2.2.2[k]:=q2b hk;generalize s.2.2.2[k]=y at hy;have hmy:=(hw.at hy).2;show e0m (n+8) (k:Int) (i:Int) s=_;rw[t0u,tfd,z0i n hy hmy,obs,q0d hy,obs,q0d hx,obs,f1v (n+5) _ _ hmy.l,obs,tfd];by_cases h1:k=i
  ·rw[q0z (by rw[h1]),q2a (show IsTw s i k x from .inl h1)]
  rw[q0n (by omega)];by_cases h2:LvX s y
  ·rw[q0z h2];refine congrArg some (q2s.2 ⟨fun h3 => .inr ⟨y,hy,h2,h3⟩,fun h3 => ?_⟩);rcases h3 with h3 | ⟨z,z1,z2,z3⟩
   ·exact absurd h3 h1
   ·rw[hy] at z1;cases z1;exact z3
  ·rw[q0n h2,q1z];rintro (h3 | ⟨z,z1,z2,z3⟩)
   ·exact h1 h3
   ·rw[hy] at z1;cases z1;exact h2 z2
 rcases v0u (n+7) s (fun y0:Int×Unit=>e0m (n+8) y0.1 (i:Int) s) (fun k=>decide (IsTw s i k x)) hL his with ⟨m,h1,h2,h3,h4⟩ | ⟨h1,h2⟩
 ·rw[h4,obs,tfd,z0i (n+1) hx hm];have h2:=of_decide_eq_true h2;have hmi:m<=i:=by
   rcases Nat.lt_or_ge i m with q | q
   ·have:=of_decide_eq_false (h3 i q);exact absurd (.inl rfl) this
   ·exact q
  by_cases q:m<i
  ·rw[q0z (by omega),obs];refine congrArg some (q2s.2 ⟨fun k=>⟨k,m,q,?_⟩,fun k=>k.1⟩);exact h2.resolve_left (by omega)
  ·rw[q0n (by omega),q1z];rintro ⟨k1,k,k2,k3⟩;exact of_decide_eq_false (h3 k (by omega)) (.inr k3)
 ·exact absurd (.inl rfl) (of_decide_eq_false (h1 i hil))
theorem r0d {s:Sta}(h:m0x s.2.1)(hw:1<=s.1.2.1.1/\s.1.2.1.1<=1099511627776):0<=mk s/\mk s<=s.2.1/\s.2.1<mk s+s.1.2.1.1/\s.2.1-s.2.1 % s.1.2.1.1=mk s:=by
 have e:=Int.mul_ediv_add_emod s.2.1 s.1.2.1.1;have e1:=Int.emod_nonneg s.2.1 (show s.1.2.1.1≠0 by omega);have e2:=Int.emod_lt_of_pos s.2.1 (show 0<s.1.2.1.1 by omega);rw[Int.mul_comm] at e;have e3:0<=mk s:=Int.mul_nonneg (Int.ediv_nonneg h.1 (by omega)) (by omega);unfold mk at *
 exact ⟨e3,by omega,by omega,by omega⟩
theorem d2h (n:Nat){s:Sta}(h:m0x s.2.1)(hw:1<=s.1.2.1.1/\s.1.2.1.1<=1099511627776):j0a (n+1) s=some (mk s):=by
 have:=r0d h hw;have:=h.1;have:=h.2;rw[y0w,tfd,q0n (by omega),e0k h.1,w64 (by omega) (by omega),(r0d h hw).2.2.2]
theorem st_right (n:Nat){s:Sta}(hw:StaW s)(hh:Whole s)(ht:m0x s.2.1){i:Nat}{x:Ser}(hx:s.2.2.2[i]? = some x):l0f (n+12) s (i:Int)=some (decide (h0a s i x)):=by
 have hm:=hw.at hx;have hr:=hh.1.rng;have hL:=hh.len;have hmk:=r0d ht hr.w0;have ht1:=ht.1;have ht2:=ht.2;have hw0:=hr.w0;obtain ⟨m1,m2,m3,m4⟩:=hmk;rw[w0f,q0d hx,obs,v1w (n+7) hm.2,obs,tfd,m1u n s.1 hm.1,obs,d2h (n+10) ht hr.w0,obs,w64 (by omega) (by omega),st_twin (n+2) hw (by omega) hx,obs];simp only[tfd];by_cases h0:x=ser0
 ·rw[q0z h0,q2a (show h0a s i x from .inl h0)]
 rw[q0n h0];by_cases h1:SerOk s.1 x
 case neg=>rw[q0n h1,q0n (by decide),q1z (fun q:h0a s i x=>by rcases q with k | k;exact h0 k;exact h1 k.1)]
 rw[q0z h1,q0z rfl];by_cases h2:0<=x.2.1
 case neg=>rw[q0n h2,q1z (fun q:h0a s i x=>by rcases q with k | k;exact h0 k;exact h2 k.2.1)]
 rw[q0z h2];by_cases h3:x.2.1<mk s+s.1.2.1.1
 case neg=>rw[q0n h3,q1z (fun q:h0a s i x=>by rcases q with k | k;exact h0 k;exact h3 k.2.2.1)]
 rw[q0z h3];by_cases h4:Twin s i x
 ·rw[q2a h4,q1z (fun q:h0a s i x=>by rcases q with k | k;exact h0 k;exact k.2.2.2 h4)];rfl
 ·rw[q1z h4,q2a (show h0a s i x from .inr ⟨h1,h2,h3,h4⟩)];rfl
def sta0:Sta:=(((0:Int),(((0:Int),((0:Int),(0:Int))),(((0:Int),((0:Int),(0:Int))),((0:Int),(0:Int))))),((0:Int),((0:Int),[])))
theorem i1a (n:Nat)(s:Sta):q0j (n+4) s=some (if Whole s then (s,0) else (sta0,2)):=by
 rw[r1n,m0r n s.1,obs,tfn,tfd,tfn,tfd];by_cases h:OkC s.1
 case neg=>rw[q0n h,q0n (show ¬((2:Int)=0) by decide),q0n (fun k:Whole s=>h k.1)];rfl
 rw[q0z h,q0z rfl];by_cases h1:(s.2.2.2.length:Int)=s.1.2.2.2.1
 ·rw[q0z h1,q0z (show Whole s from ⟨h,h1⟩)]
 ·rw[q0n h1,q0n (fun k:Whole s=>h1 k.2)];rfl
theorem r1r (n:Nat)(t:Int):t0v (n+1) t=some (decide (m0x t)):=by
 rw[r1m,tfd];by_cases h:0<=t
 ·rw[q0z h];exact congrArg some (q2s.2 ⟨fun k=>⟨h,k⟩,fun k=>k.2⟩)
 ·rw[q0n h,q1z (fun k:m0x t=>h k.1)]
theorem k0v (n:Nat)(t:Int):u0l (n+1) t=some (decide (m0x t)):=by
 rw[s1r,tfd];by_cases h:0<=t
 ·rw[q0z h];exact congrArg some (q2s.2 ⟨fun k=>⟨h,k⟩,fun k=>k.2⟩)
 ·rw[q0n h,q1z (fun k:m0x t=>h k.1)]
theorem st_clock (n:Nat)(s:Sta):l0g (n+2) s=some (decide (Clock s)):=by
 rw[w0i,r1r n,r1r n,obs,obs];simp only[tfd];by_cases h:m0x s.2.1
 case neg=>rw[q0n h,q1z (fun k:Clock s=>h k.1)]
 rw[q0z h];by_cases h1:s.2.2.1 = -1
 ·rw[q0z h1];exact congrArg some (q2s.2 ⟨fun k=>⟨h,.inl h1,k⟩,fun k=>k.2.2⟩)
 rw[q0n h1];by_cases h2:m0x s.2.2.1
 ·rw[q0z h2];exact congrArg some (q2s.2 ⟨fun k=>⟨h,.inr h2,k⟩,fun k=>k.2.2⟩)
 ·rw[q0n h2,q1z (fun k:Clock s=>by rcases k.2.1 with q | q;exact h1 q;exact h2 q)]
def Wrong (s:Sta)(k:Nat):Prop:=∃x,s.2.2.2[k]? = some x/\¬h0a s k x
noncomputable instance (s k):Decidable (Wrong s k):=Classical.propDecidable _
theorem m1o (n:Nat){s:Sta}(hw:StaW s):t0x (n+14) s=some (if StaOk s then 0 else 2):=by
 rw[m1p,i1a (n+9) s,obs,tfn,tfd];by_cases h:Whole s
 case neg=>rw[q0n h,q0n (show ¬((sta0,(2:Int)).2=0) by decide),q0n (fun k:StaOk s=>h k.whole)]
 rw[q0z h,q0z rfl,st_clock (n+11) s,obs,tfn,tfd];by_cases h1:Clock s
 case neg=>rw[q0n h1,q0n (fun k:StaOk s=>h1 k.clock)]
 rw[q0z h1];have hL:=h.len;have his:∀k:Nat,k<s.2.2.2.length->(fun y2:Int×Unit=>d0z (n+13) y2.1 s) ((k:Int),())=some (decide (Wrong s k)):=by
  intro k hk;have hy:s.2.2.2[k]? = some s.2.2.2[k]:=q2b hk;generalize s.2.2.2[k]=y at hy;show d0z (n+13) (k:Int) s=_;rw[c1r,st_right n hw h h1.1 hy,obs];by_cases q:h0a s k y
  ·rw[q2a q,q1z (fun z:Wrong s k=>by obtain ⟨x,x1,x2⟩:=z;rw[hy] at x1;cases x1;exact x2 q)];rfl
  ·rw[q1z q,q2a (show Wrong s k from ⟨y,hy,q⟩)];rfl
 rcases v0u (n+12) s (fun y2:Int×Unit=>d0z (n+13) y2.1 s) (fun k=>decide (Wrong s k)) (by omega) his with ⟨m,q1,q2,q3,q4⟩ | ⟨q1,q2⟩
 ·rw[show (fun y2:Int×Unit=>d0z (n+13) y2.1 (s,(0:Int)).1)=fun y2:Int×Unit=>d0z (n+13) y2.1 s from rfl];obtain ⟨x,x1,x2⟩:=of_decide_eq_true q2;rw[q4,obs,tfd,q0z (by omega),q0n (fun k:StaOk s=>x2 (k.right m x x1))]
 ·rw[show (fun y2:Int×Unit=>d0z (n+13) y2.1 (s,(0:Int)).1)=fun y2:Int×Unit=>d0z (n+13) y2.1 s from rfl];rw[q2,obs,tfd,q0n (by decide),q0z];refine ⟨h,h1,fun i x hx => ?_⟩;have:=of_decide_eq_false (q1 i (q2p.1 hx).1);exact Decidable.byContradiction fun k=>this ⟨x,hx,k⟩
end Go.Proofs.YtfibfcjepngbmaaGreatDoor
