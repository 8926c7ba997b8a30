/-
 Plain proofs about the functions of this seat, part 2 of 4.
-/
import Derived.Test.YtagnkfbpgkckiaaGreatQ1
set_option linter.unusedVariables false
set_option linter.unusedSimpArgs false
open Go.IntKind (wrap)
namespace Go.Proofs.YtagnkfbpgkckiaaGreat
open Go.Flat Go.Plim
def Runs (key:a0d->Int)(d:List a0d)(B N:Nat):Prop:=∀c,B ∣ c->Srt key d c (min (c+B) N)
theorem n0g {B a c:Nat}(ha:B ∣ a)(hc:B ∣ c)(h:a<c):a+B<=c:=by
 obtain ⟨x,rfl⟩:=ha;obtain ⟨y,rfl⟩:=hc;have:x<y:=Nat.lt_of_mul_lt_mul_left h
 calc B*x+B=B*(x+1):=by rw[Nat.mul_succ]
  _<=B*y:=Nat.mul_le_mul_left B this
section
variable {cmp:(a0d×(a0d×Unit))->Option Int}{key:a0d->Int}(hc:Cmp cmp key)
include hc
theorem i2b (n:Nat)(N:Nat)(n_:Int)(hn:n_=N):∀(k f a:Nat) (d:List a0d),N-a<=k->k<f->20 ∣ a->a<=N->N=d.length->d.length<=100000000000->(∀c,20 ∣ c->c<a->Srt key d c (min (c+20) N)) ->
  ∃d' a',q0x (n+1) f (d,n_,cmp,(20:Int),(a:Int),((a+20:Nat):Int),())=some (.inl (d',n_,cmp,(20:Int),((a':Nat):Int),()))/\20 ∣ a'/\a'<=N/\N<a'+20/\Mv d d' 0 N /\
   (∀c,20 ∣ c->c<a'->Srt key d' c (min (c+20) N)):=by
 subst hn;intro k;induction k with
 | zero =>
  intro f a d hk hf h20 haN hN hL hs;obtain ⟨f,rfl⟩:∃g,f=g+1:=⟨f-1,by omega⟩;rw[a1j];simp only[tfd,q0n (show ¬(((a+20:Nat):Int)<=(N:Int)) by omega)];exact ⟨d,a,rfl,h20,haN,by omega,.refl _ _ _,hs⟩
 | succ k ih =>
  intro f a d hk hf h20 haN hN hL hs;obtain ⟨f,rfl⟩:∃g,f=g+1:=⟨f-1,by omega⟩;rw[a1j];by_cases hle:a+20<=N
  ·obtain ⟨d1,r1,r2,r3⟩:=ins_ok hc n (a:Int) ((a+20:Nat):Int) a (a+20) rfl rfl d (by omega) (by omega) (by omega);have l1:=r2.len;simp only[tfd,q0z (show (((a+20:Nat):Int)<=(N:Int)) by omega),r1,obs];rw[wn (x:=((a+20:Nat):Int)+20) (k:=a+20+20) (by omega) (by omega)];obtain ⟨d',a',s1,s2,s3,s4,s5,s6⟩:=ih f (a+20) d1 (by omega) (by omega) (by omega) (by omega) (by omega) (by omega) (fun c c1 c2=>by
    by_cases e:c<a
    ·have:=n0g c1 h20 e;exact (hs c c1 e).keep r2 (.inl (by omega))
    ·have:c=a:=by
      rcases Nat.lt_or_eq_of_le (Nat.le_of_not_lt e) with h | h
      ·have:=n0g h20 c1 h;omega
      ·exact h.symm
     subst this;rw[q3i (by omega)]
     exact r3)
   exact ⟨d',a',s1,s2,s3,s4,(r2.mono (by omega) (by omega)).trans s5,s6⟩
  ·simp only[tfd,q0n (show ¬(((a+20:Nat):Int)<=(N:Int)) by omega)];exact ⟨d,a,rfl,h20,haN,by omega,.refl _ _ _,hs⟩
theorem h2y (n dd:Nat)(N B:Nat)(n_:Int)(hn:n_=N)(hB:0<B)(hBN:B<N)(hdd:N<=2^dd):∀(k f a:Nat) (d:List a0d),N-a<=k->k<f->2*B ∣ a->a<=N->N=d.length->d.length<=100000000000 ->
  (∀c,2*B ∣ c->c<a->Srt key d c (min (c+2*B) N))->(∀c,B ∣ c->a<=c->Srt key d c (min (c+B) N)) ->
  ∃d' a',w0m (n+dd+2) f (d,n_,cmp,(B:Int),(a:Int),((a+2*B:Nat):Int),())=some (.inl (d',n_,cmp,(B:Int),((a':Nat):Int),()))/\2*B ∣ a'/\a'<=N/\N<a'+2*B/\Mv d d' 0 N /\
   (∀c,2*B ∣ c->c<a'->Srt key d' c (min (c+2*B) N))/\(∀c,B ∣ c->a'<=c->Srt key d' c (min (c+B) N)):=by
 subst hn;have dB:B ∣ 2*B:=⟨2,by omega⟩;intro k;induction k with
 | zero =>
  intro f a d hk hf h20 haN hN hL hs hs';obtain ⟨f,rfl⟩:∃g,f=g+1:=⟨f-1,by omega⟩;rw[a1h];simp only[tfd,q0n (show ¬(((a+2*B:Nat):Int)<=(N:Int)) by omega)];exact ⟨d,a,rfl,h20,haN,by omega,.refl _ _ _,hs,hs'⟩
 | succ k ih =>
  intro f a d hk hf h20 haN hN hL hs hs';obtain ⟨f,rfl⟩:∃g,f=g+1:=⟨f-1,by omega⟩;rw[a1h];by_cases hle:a+2*B<=N
  ·have ba:B ∣ a:=Nat.dvd_trans dB h20;have q1:=hs' a ba (q2e _);have q2:=hs' (a+B) (Nat.dvd_add ba (Nat.dvd_refl _)) (by omega);rw[q3i (by omega)] at q1 q2;rw[wn (x:=(a:Int)+B) (k:=a+B) (by omega) (by omega)];obtain ⟨d1,r1,r2,r3⟩:=h1u hc dd n (a:Int) ((a+B:Nat):Int) ((a+2*B:Nat):Int) a (a+B) (a+2*B) d rfl rfl rfl (by omega) (by omega) (by omega) (by omega) (by omega) q1 (q2.mono (by omega) (by omega));have l1:=r2.len;simp only[tfd,q0z (show (((a+2*B:Nat):Int)<=(N:Int)) by omega),r1,obs]
   rw[wn (x:=2*(B:Int)) (k:=2*B) (by omega) (by omega),wn (x:=((a+2*B:Nat):Int)+((2*B:Nat):Int)) (k:=a+2*B+2*B) (by omega) (by omega)];obtain ⟨d',a',s1,s2,s3,s4,s5,s6,s7⟩:=ih f (a+2*B) d1 (by omega) (by omega) (Nat.dvd_add h20 (Nat.dvd_refl _)) (by omega) (by omega) (by omega) (fun c c1 c2=>by
    by_cases e:c<a
    ·have:=n0g c1 h20 e;exact (hs c c1 e).keep r2 (.inl (by omega))
    ·have:c=a:=by
      rcases Nat.lt_or_eq_of_le (Nat.le_of_not_lt e) with h | h
      ·have:=n0g h20 c1 h;omega
      ·exact h.symm
     subst this;rw[q3i (by omega)]
     exact r3)
    (fun c c1 c2=>(hs' c c1 (by omega)).keep r2 (.inr (by omega)))
   exact ⟨d',a',s1,s2,s3,s4,(r2.mono (by omega) (by omega)).trans s5,s6,s7⟩
  ·simp only[tfd,q0n (show ¬(((a+2*B:Nat):Int)<=(N:Int)) by omega)];exact ⟨d,a,rfl,h20,haN,by omega,.refl _ _ _,hs,hs'⟩
theorem i2a (n dd:Nat)(N:Nat)(n_:Int)(hn:n_=N)(hdd:N<=2^dd):∀(k f B:Nat) (d:List a0d),N-B<=k->k<f->0<B->B<=200000000000->N=d.length->d.length<=100000000000->Runs key d B N ->
  ∃d',n0j (n+dd+2) f (d,n_,cmp,(B:Int),())=some (.inl (d',()))/\Mv d d' 0 N/\Srt key d' 0 N:=by
 subst hn;intro k;induction k with
 | zero =>
  intro f B d hk hf hB hBl hN hL hs;obtain ⟨f,rfl⟩:∃g,f=g+1:=⟨f-1,by omega⟩;rw[a1i];simp only[tfd,q0n (show ¬((B:Int)<(N:Int)) by omega)];have:=hs 0 (Nat.dvd_zero _);rw[Nat.min_eq_right (by omega)] at this;exact ⟨d,rfl,.refl _ _ _,this⟩
 | succ k ih =>
  intro f B d hk hf hB hBl hN hL hs;obtain ⟨f,rfl⟩:∃g,f=g+1:=⟨f-1,by omega⟩;rw[a1i];by_cases hlt:B<N
  ·obtain ⟨d1,a,r1,r2,r3,r4,r5,r6,r7⟩:=h2y hc n dd N B (N:Int) rfl hB hlt hdd N a0b 0 d (by omega) (by unfold a0b;omega) (Nat.dvd_zero _) (by omega) hN hL (fun c _ h=>by omega) (fun c h _=>hs c h);have l1:=r5.len;rw[Nat.zero_add] at r1;simp only[tfd,q0z (show ((B:Int)<(N:Int)) by omega),wn (x:=2*(B:Int)) (k:=2*B) (by omega) (by omega)];rw[show (0:Int)=((0:Nat):Int) from rfl,r1];simp only[obs,a0m,wn (x:=(a:Int)+B) (k:=a+B) (by omega) (by omega),wn (x:=(B:Int)*2) (k:=2*B) (by omega) (by omega)];have dB:B ∣ 2*B:=⟨2,by omega⟩;have ba:B ∣ a:=Nat.dvd_trans dB r2
   by_cases hm:a+B<N
   ·have q1:=r7 a ba (q2e _);have q2:=r7 (a+B) (Nat.dvd_add ba (Nat.dvd_refl _)) (by omega);rw[q3i (by omega)] at q1;rw[Nat.min_eq_right (by omega)] at q2;obtain ⟨d2,t1,t2,t3⟩:=h1u hc dd n (a:Int) ((a+B:Nat):Int) (N:Int) a (a+B) N d1 rfl rfl rfl (by omega) (by omega) (by omega) (by omega) (by omega) q1 q2;have l2:=t2.len;simp only[q0z (show (((a+B:Nat):Int)<(N:Int)) by omega),t1,obs];obtain ⟨d3,u1,u2,u3⟩:=ih f (2*B) d2 (by omega) (by omega) (by omega) (by omega) (by omega) (by omega) (fun c hcd=>by
     by_cases e:c<a
     ·have:=n0g hcd r2 e;exact (r6 c hcd e).keep t2 (.inl (by omega))
     ·by_cases e':c=a
      ·subst e';exact t3.mono (q2e _) (by omega)
      ·have:=n0g r2 hcd (by omega)
       exact Srt.one _ _ (by omega))
    exact ⟨d3,u1,(r5.trans (t2.mono (by omega) (by omega))).trans u2,u3⟩
   ·simp only[q0n (show ¬(((a+B:Nat):Int)<(N:Int)) by omega)];obtain ⟨d3,u1,u2,u3⟩:=ih f (2*B) d1 (by omega) (by omega) (by omega) (by omega) (by omega) (by omega) (fun c hcd=>by
     by_cases e:c<a
     ·exact r6 c hcd e
     ·by_cases e':c=a
      ·subst e';have q1:=r7 c ba (q2e _);exact q1.mono (q2e _) (by omega)
      ·have:=n0g r2 hcd (by omega)
       exact Srt.one _ _ (by omega))
    exact ⟨d3,u1,r5.trans u2,u3⟩
  ·simp only[tfd,q0n (show ¬((B:Int)<(N:Int)) by omega)];have:=hs 0 (Nat.dvd_zero _);rw[Nat.min_eq_right (by omega)] at this;exact ⟨d,rfl,.refl _ _ _,this⟩
theorem p1c (n dd:Nat)(d:List a0d)(hL:d.length<=2^dd)(hL':d.length<=100000000000) :
  ∃d',g0q (n+dd+4) d cmp=some d'/\d'.Perm d/\Srt key d' 0 d.length:=by
 rw[q0j,e2j];obtain ⟨d1,a,r1,r2,r3,r4,r5,r6⟩:=i2b hc (n+dd+1) d.length (d.length:Int) rfl d.length a0b 0 d (by omega) (by unfold a0b;omega) (Nat.dvd_zero _) (by omega) rfl hL' (fun c _ h=>by omega);have l1:=r5.len;obtain ⟨d2,s1,s2,s3⟩:=ins_ok hc (n+dd+1) (a:Int) (d.length:Int) a d.length rfl rfl d1 r3 (by omega) (by omega);have l2:=s2.len;obtain ⟨d3,t1,t2,t3⟩:=i2a hc n dd d.length (d.length:Int) rfl hL d.length a0b 20 d2 (by omega) (by unfold a0b;omega) (by omega) (by omega) (by omega) (by omega) (fun c hcd=>by
  by_cases e:c<a
  ·have:=n0g hcd r2 e;exact (r6 c hcd e).keep s2 (.inl (by omega))
  ·by_cases e':c=a
   ·subst e';exact s3.mono (q2e _) (by omega)
   ·have:=n0g r2 hcd (by omega)
    exact Srt.one _ _ (by omega))
 have r1':q0x (n+dd+2) a0b (d,((d.length:Nat):Int),cmp,(20:Int),(0:Int),(20:Int),())=_:=r1;rw[r1'];simp only[obs,a0m,s1];have t1':n0j (n+dd+2) a0b (d2,((d.length:Nat):Int),cmp,(20:Int),())=_:=t1;rw[t1'];exact ⟨d3,by simp,(t2.perm.trans s2.perm).trans r5.perm,t3⟩
end
end Go.Proofs.YtagnkfbpgkckiaaGreat
namespace Go.Plim
abbrev Slo:=Int×Cel
instance decSlo:DecidableEq Slo := @instDecidableEqProd _ _ _ decCel
def s0:Slo:=(0,z0)
structure FitsP (c:Cel)(w i:Int):Prop where
 n:CellN c
 w0:1<=w
 w1:w<=1099511627776
 f:c.2.1.1 / w=i
 l:c.2.2.1.1 / w=i
theorem FitsP.i0 {c:Cel}{w i:Int}(h:FitsP c w i):0<=i/\i<35184372088832:=by
 obtain ⟨n,w0,w1,f,l⟩:=h;have h1:=n.f.t0;have h2:=n.f.t1;have:0<=c.2.1.1 / w:=Int.ediv_nonneg h1 (by omega);have:c.2.1.1 / w<=c.2.1.1:=Int.ediv_le_self _ h1;omega
structure TierOk (l:List Slo)(w:Int):Prop where
 l0:1<=l.length
 l1:l.length<=4096
 w0:1<=w
 w1:w<=1099511627776
 s:∀(j:Nat) s,l[j]? = some s->s=s0\/(s.1 % (l.length:Int)=j/\FitsP s.2 w s.1)
noncomputable instance (c w i):Decidable (FitsP c w i):=Classical.propDecidable _
noncomputable instance (l w):Decidable (TierOk l w):=Classical.propDecidable _
def Up (l:List Slo):Prop:=l.Pairwise fun a b=>a.1<b.1
theorem up_perm:∀ {a b:List Slo},Up a->Up b->a.Perm b->a=b:=by
 intro a;induction a with
 | nil=>intro b _ _ h;exact h.nil_eq
 | cons x a ih =>
  intro b ha hb h;cases b with
  | nil=>exact absurd h.length_eq (by simp)
  | cons y b =>
   unfold Up at *
   rw[List.pairwise_cons] at ha hb;have hx:x∈y::b:=h.subset (by simp);have hy:y∈x::a:=h.symm.subset (by simp);have e:x=y:=by
    rcases q2m.1 hx with e | hx
    ·exact e
    ·rcases q2m.1 hy with e | hy
     ·exact e.symm
     ·have:=hb.1 x hx;have:=ha.1 y hy;omega
   subst e;rw[ih ha.2 hb.2 (List.Perm.cons_inv h)]
def j0h (l:List Slo):List Slo:=l.filter fun s=>decide (s≠s0)
theorem TierOk.apart {l:List Slo}{w:Int}(h:TierOk l w):(j0h l).Pairwise fun a b=>a.1≠b.1:=by
 have key:∀(m:List Slo) (k:Nat),(∀(j:Nat) s,m[j]? = some s->s=s0\/s.1 % (l.length:Int)=((k+j:Nat):Int))->(j0h m).Pairwise fun a b=>a.1≠b.1:=by
  intro m;induction m with
  | nil=>intro k _;exact .nil
  | cons x m ih =>
   intro k hm;have ih':=ih (k+1) (fun j s hs=>by
    have:=hm (j+1) s hs
    rwa [show k+(j+1)=k+1+j by omega] at this)
   unfold j0h at *
   by_cases hx:x=s0
   ·rw[List.filter_cons_of_neg (by simp[hx])];exact ih'
   ·rw[List.filter_cons_of_pos (by simp[hx])];refine List.pairwise_cons.2 ⟨fun y hy => ?_,ih'⟩;have hy':=q3s.1 hy;obtain ⟨j,hj⟩:=List.getElem?_of_mem hy'.1;have h1:=(hm 0 x rfl).resolve_left hx;have h2:=(hm (j+1) y hj).resolve_left (by simpa using hy'.2);intro e;rw[e,h2] at h1;omega
 exact key l 0 (fun j s hs=>by
  rcases h.s j s hs with e | e
  ·exact .inl e
  ·exact .inr (by rw[e.1,Nat.zero_add]))
def tall (l:List Slo):List Slo:=(j0h l).mergeSort fun a b=>decide (a.1<=b.1)
theorem z0w (l:List Slo):(tall l).Perm (j0h l):=List.mergeSort_perm _ _
theorem up_of {l:List Slo}(h:l.Pairwise fun a b=>a.1<=b.1)(h':l.Pairwise fun a b=>a.1≠b.1):Up l:=by
 have:=h.and h';exact this.imp (fun {a b} k=>by have:=k.1;have:=k.2;omega)
theorem tall_up {l:List Slo}{w:Int}(h:TierOk l w):Up (tall l):=by
 refine up_of ?_ ((z0w l).pairwise_iff (fun {a b} k=>k.symm) |>.2 h.apart);have:=List.pairwise_mergeSort (le:=fun a b:Slo=>decide (a.1<=b.1)) (fun a b c h1 h2=>by simp at *;omega) (fun a b=>by simp;omega) (j0h l);exact this.imp (fun {a b} k=>by simpa using k)
theorem h2s {l r:List Slo}{w:Int}(h:TierOk l w)(hp:r.Perm (j0h l))(hs:r.Pairwise fun a b=>a.1<=b.1):r=tall l:=by
 refine up_perm (up_of hs (hp.pairwise_iff (fun {a b} k=>k.symm) |>.2 h.apart)) (tall_up h) (hp.trans (z0w l).symm)
theorem q1i {l:List Slo}{s:Slo}:s∈tall l↔s∈l/\s≠s0:=by
 rw[(z0w l).mem_iff];simp[j0h]
theorem s1m {l:List Slo}{w:Int}(h:TierOk l w){s:Slo}(hs:s∈tall l):FitsP s.2 w s.1/\l[(s.1 % (l.length:Int)).toNat]? = some s:=by
 obtain ⟨h1,h2⟩:=q1i.1 hs;obtain ⟨j,hj⟩:=List.getElem?_of_mem h1;obtain ⟨h3,h4⟩:=(h.s j s hj).resolve_left h2;refine ⟨h4,?_⟩;rw[h3];exact hj
def within (l:List Slo)(i k:Int):List Cel:=((tall l).filter fun s=>decide (i<=s.1/\s.1<k)).map (·.2)
def tfold (l:List Slo)(i k:Int):Cel×Int:=if i<0\/k<i then (z0,1) else allE z0 (within l i k)
end Go.Plim
namespace Go.Proofs.YtagnkfbpgkckiaaGreat
open Go.Flat Go.Plim
structure SloW (s:Slo):Prop where
 i:I64 s.1
 c:CelW s.2
theorem i2d (a b:Slo):((decide (a.1=b.1))&&((decide (a.2.1=b.2.1))&&((decide (a.2.2.1.1=b.2.2.1.1))&&((decide (a.2.2.1.2.1=b.2.2.1.2.1))&&((decide (a.2.2.1.2.2.1=b.2.2.1.2.2.1))&&((a.2.2.1.2.2.2==b.2.2.1.2.2.2)&&((decide (a.2.2.2.1.1=b.2.2.2.1.1))&&((decide (a.2.2.2.1.2.1=b.2.2.2.1.2.1))&&((decide (a.2.2.2.1.2.2.1=b.2.2.2.1.2.2.1))&&((a.2.2.2.1.2.2.2==b.2.2.2.1.2.2.2)&&((decide (a.2.2.2.2.1.1=b.2.2.2.2.1.1))&&((decide (a.2.2.2.2.1.2=b.2.2.2.2.1.2))&&((decide (a.2.2.2.2.2.1=b.2.2.2.2.2.1))&&((decide (a.2.2.2.2.2.2.1=b.2.2.2.2.2.2.1))&&(decide (a.2.2.2.2.2.2.2=b.2.2.2.2.2.2.2))))))))))))))))=decide (a=b):=by
 rw[celEq a.2 b.2,Bool.eq_iff_iff];simp[Prod.ext_iff]
theorem s1v (a:Slo):((decide (a.1=(0:Int)))&&((decide (a.2.1=(0:Int)))&&((decide (a.2.2.1.1=(0:Int)))&&((decide (a.2.2.1.2.1=(0:Int)))&&((decide (a.2.2.1.2.2.1=(0:Int)))&&((a.2.2.1.2.2.2==false)&&((decide (a.2.2.2.1.1=(0:Int)))&&((decide (a.2.2.2.1.2.1=(0:Int)))&&((decide (a.2.2.2.1.2.2.1=(0:Int)))&&((a.2.2.2.1.2.2.2==false)&&((decide (a.2.2.2.2.1.1=(0:Int)))&&((decide (a.2.2.2.2.1.2=(0:Int)))&&((decide (a.2.2.2.2.2.1=(0:Int)))&&((decide (a.2.2.2.2.2.2.1=(0:Int)))&&(decide (a.2.2.2.2.2.2.2=(0:Int)))))))))))))))))=decide (a=s0):=i2d a s0
theorem wi_in (n:Nat)(x a b:Int):s0c (n+1) x a b=some (decide (a<=x/\x<=b)):=by
 rw[l1b];by_cases h1:a<=x<;>by_cases h2:x<=b<;>simp[h1,h2]
def OfP (t w:Int):Prop:=0<=t/\t<35184372088832/\1<=w/\w<=1099511627776
instance (t w:Int):Decidable (OfP t w):=by unfold OfP;infer_instance
theorem b1r {t w:Int}(h:OfP t w):0<=t / w/\t / w<35184372088832:=by
 obtain ⟨h1,h2,h3,h4⟩:=h;have:0<=t / w:=Int.ediv_nonneg h1 (by omega);have:t / w<=t:=Int.ediv_le_self _ h1;omega
theorem wi_of (n:Nat)(t w:Int):d2y (n+3) t w=some (if OfP t w then (t / w,0) else (0,1)):=by
 rw[wi_Of_eq,x1c,wi_in,wi_in];simp only[obs,tfn,tfd];by_cases h:OfP t w
 ·have hq:=b1r h;rw[q0z h];obtain ⟨h1,h2,h3,h4⟩:=h;rw[q0z (show (0:Int)<=t/\t<=35184372088831 by omega),q0z (And.intro h3 h4),q0n (show ¬(w=0) by omega),q0f h1,w64 (by omega) (by omega)]
 ·rw[q0n h];by_cases h1:(0:Int)<=t/\t<=35184372088831
  ·rw[q0z h1,q0n (fun k=>h ⟨h1.1,by omega,k.1,k.2⟩)]
  ·rw[q0n h1]
theorem b2y (n:Nat)(t w:Int):n1n (n+2) t w=some (if OfP t w then (t / w,0) else (0,1)):=by
 rw[j2h,u1e];simp only[tfd];by_cases h:OfP t w
 ·have hq:=b1r h;rw[q0z h];obtain ⟨h1,h2,h3,h4⟩:=h;rw[q0n (show ¬(t<0) by omega),q0n (show ¬((35184372088832:Int)<=t) by omega),q0z h3,q2a h4];simp only[obs,q2u,tff];rw[q0n (show ¬(w=0) by omega),i0i h1];have e:t-t % w=w*(t / w):=by have:=Int.mul_ediv_add_emod t w;omega
  have m0:=Int.emod_nonneg t (show w≠0 by omega);have m1:t % w<=t:=by
   have:=Int.mul_nonneg (show 0<=w by omega) hq.1;omega
  rw[w64 (x:=t-t % w) (by omega) (by omega),q0f (by omega),e,Int.mul_ediv_cancel_left _ (show w≠0 by omega),w64 (by omega) (by omega),q0n (show ¬(w=0) by omega)]
 ·rw[q0n h];by_cases h1:t<0
  ·rw[q0z h1]
  by_cases h2:(35184372088832:Int)<=t
  ·rw[q0n h1,q0z h2]
  rw[q0n h1,q0n h2];by_cases h3:(1:Int)<=w
  ·have h4:¬(w<=1099511627776):=fun k=>h ⟨by omega,by omega,h3,k⟩
   rw[q0z h3,q1z h4];rfl
  ·rw[q0n h3];rfl
def a1d (i n:Int):Int:=if i<0 then 0 else if n<1 then 0 else i % n
theorem wi_slot (n:Nat)(i m:Int):x1e (n+1) i m=some (a1d i m):=by
 rw[d2x];simp only[tfd];unfold a1d;by_cases h1:i<0
 ·rw[q0z h1,q0z h1]
 by_cases h2:m<1
 ·rw[q0n h1,q0n h1,q0z h2,q0z h2]
 rw[q0n h1,q0n h1,q0n h2,q0n h2,q0n (by omega),i0i (by omega)]
theorem r09_slot (n:Nat)(i m:Int):p1t (n+1) i m=some (a1d i m):=by
 rw[y1z];simp only[tfd];unfold a1d;by_cases h1:i<0
 ·rw[q0z h1,q0z h1]
 by_cases h2:m<1
 ·rw[q0n h1,q0n h1,q0z h2,q0z h2]
 rw[q0n h1,q0n h1,q0n h2,q0n h2,q0n (by omega),i0i (by omega)]
theorem m1u {i n:Int}(hi:0<=i)(hn:1<=n):a1d i n=i % n:=by
 unfold a1d;rw[q0n (by omega),q0n (by omega)]
theorem w1c (c:Cel)(w i:Int):FitsP c w i↔c≠z0/\m0g c/\OfP c.2.1.1 w/\c.2.1.1 / w=i/\OfP c.2.2.1.1 w/\c.2.2.1.1 / w=i:=by
 constructor
 ·rintro ⟨n,w0,w1,f,l⟩;exact ⟨n.ne,n.ok,⟨n.f.t0,n.f.t1,w0,w1⟩,f,⟨n.l.t0,n.l.t1,w0,w1⟩,l⟩
 ·rintro ⟨h1,h2,h3,h4,h5,h6⟩;exact ⟨h2.n h1,h3.2.2.1,h3.2.2.2,h4,h6⟩
theorem of01 (p:Prop)[Decidable p](x:Int):((if p then (x,(0:Int)) else (0,1)).2=0)↔p:=by by_cases h:p<;>simp[h]
theorem l2j (n f:Nat)(w i:Int)(s:Int×Int):g0x n (f+1) (w,i,s,(2:Int),())=some (.inl ()):=by
 rw[n0v,show (decide ((2:Int)<2))=false from rfl,tff]
theorem l2k (n f:Nat)(w i:Int)(s:Int×Int):g0x (n+3) (f+2) (w,i,s,(1:Int),())=some (if OfP s.2 w/\s.2 / w=i then .inl () else .inr false):=by
 rw[n0v,show (decide ((1:Int)<2))=true from rfl,tft,show (decide ((1:Int)=0))=false from rfl,tff,show (decide ((1:Int)=1))=true from rfl,tft,wi_of];simp only[tfd,tfn,obs,of01];rw[show wrap .i64 ((1:Int)+1)=2 from rfl,l2j];by_cases h3:OfP s.2 w
 ·rw[q0z h3,q0z h3];by_cases h4:s.2 / w=i
  ·rw[q0z h4,q0z (And.intro h3 h4)]
  ·rw[q0n h4,q0n (fun k=>h4 k.2)]
 ·rw[q0n h3,q0n (fun k=>h3 k.1)]
theorem l2l (n f:Nat)(w i:Int)(s:Int×Int):g0x (n+3) (f+3) (w,i,s,(0:Int),())=some (if (OfP s.1 w/\s.1 / w=i)/\(OfP s.2 w/\s.2 / w=i) then .inl () else .inr false):=by
 rw[n0v,show (decide ((0:Int)<2))=true from rfl,tft,show (decide ((0:Int)=0))=true from rfl,tft,wi_of];simp only[tfd,tfn,obs,of01];rw[show wrap .i64 ((0:Int)+1)=1 from rfl,l2k];by_cases h3:OfP s.1 w
 ·rw[q0z h3,q0z h3];by_cases h4:s.1 / w=i
  ·rw[q0z h4];by_cases h5:OfP s.2 w/\s.2 / w=i
   ·rw[q0z h5,q0z (And.intro (And.intro h3 h4) h5)]
   ·rw[q0n h5,q0n (fun k=>h5 k.2)]
  ·rw[q0n h4,q0n (fun k=>h4 k.1.2)]
 ·rw[q0n h3,q0n (fun k=>h3 k.1.1)]
theorem s1h (n:Nat){c:Cel}(hc:CelW c)(w i:Int):z0v (n+6) c w i=some (decide (FitsP c w i)):=by
 rw[s1j,g2r n hc];simp only[tfd,obs,tfn,z02];have e:a0b=(2^70-3)+3:=by decide
 rw[e,l2l];have hiff:=w1c c w i;by_cases h1:c.1=0
 ·rw[q0z h1,q1z];intro k;have:=k.n.n1;omega
 rw[q0n h1];by_cases h2:m0g c
 case neg=>rw[q0n h2,q1z (fun k=>h2 (hiff.1 k).2.1)]
 rw[q0z h2];by_cases h3:(OfP c.2.1.1 w/\c.2.1.1 / w=i)/\(OfP c.2.2.1.1 w/\c.2.2.1.1 / w=i)
 ·rw[q0z h3,q2a (hiff.2 ⟨mt h2.count.1.2 h1,h2,h3.1.1,h3.1.2,h3.2.1,h3.2.2⟩)];rfl
 ·rw[q0n h3,q1z (fun k=>h3 (by have:=hiff.1 k;exact ⟨⟨this.2.2.1,this.2.2.2.1⟩,this.2.2.2.2⟩))];rfl
theorem b2w (n:Nat){c:Cel}(hc:CelW c)(w i:Int):g1q (n+5) c w i=some (decide (FitsP c w i)):=by
 rw[y1t,j2i n hc,b2y,b2y];simp only[tfd,obs,tfn,z02,of01];have hiff:=w1c c w i;by_cases h2:m0g c
 case neg=>rw[q0n h2,q1z (fun k=>h2 (hiff.1 k).2.1)]
 rw[q0z h2];by_cases h1:c.1=0
 ·rw[q0z h1,q1z];intro k;have:=k.n.n1;omega
 rw[q0n h1];by_cases h3:OfP c.2.1.1 w
 case neg=>rw[q0n h3,q1z (fun k=>h3 (hiff.1 k).2.2.1)]
 rw[q0z h3,q0z h3];by_cases h5:OfP c.2.2.1.1 w
 case neg=>rw[q0n h5,q1z (fun k=>h5 (hiff.1 k).2.2.2.2.1)]
 rw[q0z h5,q0z h5];by_cases h4:c.2.1.1 / w=i
 case neg=>rw[q0n h4,q1z (fun k=>h4 (hiff.1 k).2.2.2.1)]
 rw[q0z h4];congr 1;exact q2t.2 ⟨fun h6=>hiff.2 ⟨mt h2.count.1.2 h1,h2,h3,h4,h5,h6⟩,fun k=>(hiff.1 k).2.2.2.2.2⟩
theorem z0u (n:Nat)(s:Slo):u0m (n+1) s=some (decide (s=s0)):=by rw[s1g,s1v]
def z0k (m w:Int)(j:Int)(s:Slo):Prop:=s=s0\/(a1d s.1 m=j/\FitsP s.2 w s.1)
theorem s1i (n:Nat)(l:List Slo)(w:Int)(hL:l.length<=4096)(hw:∀s∈l,SloW s):∀(rest pre:List Slo) (f:Nat) (i len:Int),l=pre++rest->i=pre.length->len=l.length->rest.length<f ->
  ((∀(j:Nat) s,rest[j]? = some s->z0k l.length w (i+j) s)->h0p (n+6) f (l,w,l,len,i,())=some (.inl ())) /\
  (¬(∀(j:Nat) s,rest[j]? = some s->z0k l.length w (i+j) s)->h0p (n+6) f (l,w,l,len,i,())=some (.inr 2)):=by
 intro rest;induction rest with
 | nil =>
  intro pre f i len hl hi hn hf;obtain ⟨f,rfl⟩:=FSu hf;rw[t0t];refine ⟨fun _=>by simp only[tfd,q0n (idxe hl hi hn)],fun h=>absurd ?_ h⟩;intro j s hs;simp at hs
 | cons x rest ih =>
  intro pre f i len hl hi hn hf;obtain ⟨f,rfl⟩:=FSu hf;rw[t0t];have hx:SloW x:=hw x (by rw[hl];simp);have ih':=ih (pre++[x]) f (i+1) len (idxl hl) (idxs hi) hn (by simp at hf;omega);simp only[tfd,tfn,q0z (idx hl hi hn),b0o hl hi,obs,z0u,wi_slot,s1h n hx.c,idxw hl hi (by omega)];have split:(∀(j:Nat) s,(x::rest)[j]? = some s->z0k l.length w (i+j) s)↔z0k l.length w i x/\(∀(j:Nat) s,rest[j]? = some s->z0k l.length w (i+1+j) s):=by
   constructor
   ·intro h;refine ⟨by simpa using h 0 x rfl,fun j s hs => ?_⟩;have:=h (j+1) s hs
    rwa [show i+((j+1:Nat):Int)=i+1+j by omega] at this
   ·rintro ⟨h1,h2⟩ j s hs;cases j with
    | zero=>simp at hs;subst hs;simpa using h1
    | succ j =>
     have:=h2 j s hs
     rwa [show i+((j+1:Nat):Int)=i+1+j by omega]
  rw[split];by_cases h0:x=s0
  ·rw[q0z h0];have hp:z0k l.length w i x := .inl h0;exact ⟨fun h=>ih'.1 h.2,fun h=>ih'.2 (fun k=>h ⟨hp,k⟩)⟩
  ·rw[q0n h0];by_cases h1:a1d x.1 l.length=i
   ·rw[q0z h1];by_cases h2:FitsP x.2 w x.1
    ·rw[q0z h2];have hp:z0k l.length w i x := .inr ⟨h1,h2⟩;exact ⟨fun h=>ih'.1 h.2,fun h=>ih'.2 (fun k=>h ⟨hp,k⟩)⟩
    ·rw[q0n h2];exact ⟨fun h=>absurd (h.1.resolve_left h0).2 h2,fun _=>rfl⟩
   ·rw[q0n h1];exact ⟨fun h=>absurd (h.1.resolve_left h0).1 h1,fun _=>rfl⟩
theorem y1r (n:Nat)(l:List Slo)(w:Int)(hL:l.length<=4096)(hw:∀s∈l,SloW s):∀(rest pre:List Slo) (f:Nat) (i len:Int),l=pre++rest->i=pre.length->len=l.length->rest.length<f ->
  ((∀(j:Nat) s,rest[j]? = some s->z0k l.length w (i+j) s)->j0j (n+5) f (l,w,l,len,i,())=some (.inl ())) /\
  (¬(∀(j:Nat) s,rest[j]? = some s->z0k l.length w (i+j) s)->j0j (n+5) f (l,w,l,len,i,())=some (.inr 2)):=by
 intro rest;induction rest with
 | nil =>
  intro pre f i len hl hi hn hf;obtain ⟨f,rfl⟩:=FSu hf;rw[v0a];refine ⟨fun _=>by simp only[tfd,q0n (idxe hl hi hn)],fun h=>absurd ?_ h⟩;intro j s hs;simp at hs
 | cons x rest ih =>
  intro pre f i len hl hi hn hf;obtain ⟨f,rfl⟩:=FSu hf;rw[v0a];have hx:SloW x:=hw x (by rw[hl];simp);have ih':=ih (pre++[x]) f (i+1) len (idxl hl) (idxs hi) hn (by simp at hf;omega);simp only[tfd,tfn,q0z (idx hl hi hn),b0o hl hi,obs,s1v,r09_slot,b2w n hx.c,idxw hl hi (by omega)];have split:(∀(j:Nat) s,(x::rest)[j]? = some s->z0k l.length w (i+j) s)↔z0k l.length w i x/\(∀(j:Nat) s,rest[j]? = some s->z0k l.length w (i+1+j) s):=by
   constructor
   ·intro h;refine ⟨by simpa using h 0 x rfl,fun j s hs => ?_⟩;have:=h (j+1) s hs
    rwa [show i+((j+1:Nat):Int)=i+1+j by omega] at this
   ·rintro ⟨h1,h2⟩ j s hs;cases j with
    | zero=>simp at hs;subst hs;simpa using h1
    | succ j =>
     have:=h2 j s hs
     rwa [show i+((j+1:Nat):Int)=i+1+j by omega]
  rw[split];by_cases h0:x=s0
  ·rw[q0z h0];have hp:z0k l.length w i x := .inl h0;exact ⟨fun h=>ih'.1 h.2,fun h=>ih'.2 (fun k=>h ⟨hp,k⟩)⟩
  ·rw[q0n h0];by_cases h2:FitsP x.2 w x.1
   ·rw[q0z h2];by_cases h1:a1d x.1 l.length=i
    ·rw[q0z h1];have hp:z0k l.length w i x := .inr ⟨h1,h2⟩;exact ⟨fun h=>ih'.1 h.2,fun h=>ih'.2 (fun k=>h ⟨hp,k⟩)⟩
    ·rw[q0n h1];exact ⟨fun h=>absurd (h.1.resolve_left h0).1 h1,fun _=>rfl⟩
   ·rw[q0n h2];exact ⟨fun h=>absurd (h.1.resolve_left h0).2 h2,fun _=>rfl⟩
theorem s1u {l:List Slo}{w:Int}(h0:1<=l.length):(∀(j:Nat) s,l[j]? = some s->z0k l.length w (0+j) s)↔(∀(j:Nat) s,l[j]? = some s->s=s0\/(s.1 % (l.length:Int)=j/\FitsP s.2 w s.1)):=by
 constructor
 ·intro h j s hs;rcases h j s hs with e | ⟨e,f⟩
  ·exact .inl e
  ·rw[m1u f.i0.1 (by omega)] at e;exact .inr ⟨by omega,f⟩
 ·intro h j s hs;rcases h j s hs with e | ⟨e,f⟩
  ·exact .inl e
  ·exact .inr ⟨by rw[m1u f.i0.1 (by omega)];omega,f⟩
theorem d1c (n:Nat)(l:List Slo)(w:Int)(hw:∀s∈l,SloW s):q0u (n+7) l w=some (if TierOk l w then 0 else 2):=by
 rw[o1v];simp only[tfd];by_cases h1:(l.length:Int)=0
 ·rw[q0z h1,q0n (fun k=>by have:=k.l0;omega)]
 by_cases h2:(4096:Int)<l.length
 ·rw[q0n h1,q0z h2,q0n (fun k=>by have:=k.l1;omega)]
 by_cases h3:w<1
 ·rw[q0n h1,q0n h2,q0z h3,q0n (fun k=>by have:=k.w0;omega)]
 by_cases h4:(1099511627776:Int)<w
 ·rw[q0n h1,q0n h2,q0n h3,q0z h4,q0n (fun k=>by have:=k.w1;omega)]
 rw[q0n h1,q0n h2,q0n h3,q0n h4];have hl:=s1i n l w (by omega) hw l [] a0b 0 l.length rfl rfl rfl (by unfold a0b;omega);rw[s1u (by omega)] at hl;by_cases h5:∀(j:Nat) s,l[j]? = some s->s=s0\/(s.1 % (l.length:Int)=j/\FitsP s.2 w s.1)
 ·rw[hl.1 h5,q0z ⟨by omega,by omega,by omega,by omega,h5⟩];rfl
 ·rw[hl.2 h5,q0n (fun k=>h5 k.s)];rfl
theorem i1w (n:Nat)(l:List Slo)(w:Int)(hw:∀s∈l,SloW s):v0b (n+6) l w=some (if TierOk l w then 0 else 2):=by
 rw[t1x];simp only[tfd];by_cases h1:(l.length:Int)<1
 ·rw[q0z h1,q0n (fun k=>by have:=k.l0;omega)]
 by_cases h2:(4096:Int)<l.length
 ·rw[q0n h1,q0z h2,q0n (fun k=>by have:=k.l1;omega)]
 by_cases h3:w<1
 ·rw[q0n h1,q0n h2,q0z h3,q0n (fun k=>by have:=k.w0;omega)]
 by_cases h4:(1099511627776:Int)<w
 ·rw[q0n h1,q0n h2,q0n h3,q0z h4,q0n (fun k=>by have:=k.w1;omega)]
 rw[q0n h1,q0n h2,q0n h3,q0n h4];have hl:=y1r n l w (by omega) hw l [] a0b 0 l.length rfl rfl rfl (by unfold a0b;omega);rw[s1u (by omega)] at hl;by_cases h5:∀(j:Nat) s,l[j]? = some s->s=s0\/(s.1 % (l.length:Int)=j/\FitsP s.2 w s.1)
 ·rw[hl.1 h5,q0z ⟨by omega,by omega,by omega,by omega,h5⟩];rfl
 ·rw[hl.2 h5,q0n (fun k=>h5 k.s)];rfl
theorem wst (n:Nat)(b s:List UInt8)(hl:b.length+s.length<=100000000000000):a0t (n+1) b s=some ((s.length:Int),false,b++s):=by
 rw[l0t,h0h,tfd,q0z (by omega)]
theorem lfu {k:Nat}(h:k<=1000000000000):a0b=(a0b-k-1)+k+1:=by unfold a0b;omega
theorem c1u:∀(l:List Lab) (p:Option (List UInt8)),chkL p l->∀x∈l,x.1.length<=64/\x.2.length<=128
 | [],_,_,x,hx=>by cases hx
 | y::l,p,h,x,hx=>by
  rcases q2m.1 hx with rfl | hx
  ·exact ⟨h.1.len,h.2.1⟩
  ·exact c1u l _ h.2.2.2 x hx
def padB (s:List UInt8)(k:Nat):List UInt8:=s++List.replicate (k-s.length) 0
theorem m0z (s:List UInt8)(k:Nat):(padB s k).length=max s.length k:=by unfold padB;simp;omega
def n8I (x:Int):List Int:=beI 8 (wrap .u64 x)
def n8B (x:Int):List UInt8:=toB (n8I x)
theorem y0t (x:Int):(n8I x).length=8:=by simp[n8I,b0n]
theorem f0r (x:Int):(n8B x).length=8:=by simp[n8B,c0p,y0t]
theorem u0l (a b:List Int):toB (a++b)=toB a++toB b:=by simp[toB]
theorem k2h (x:Int):n8I (wrap .i64 x)=n8I x:=by
 unfold n8I;congr 1;rw[IntKind.wrap_u64,IntKind.wrap_u64,IntKind.wrap_i64];omega
def u0r (e:Ev):List Int:=n8I e.1++(n8I e.2.1++(n8I e.2.2.1++[if e.2.2.2=true then 1 else 0]))
def p0c (e:Ev):List UInt8:=toB (u0r e)
theorem r0b (e:Ev):(u0r e).length=25:=by simp[u0r,y0t]
theorem w0p (e:Ev):(p0c e).length=25:=by simp[p0c,c0p,r0b]
def d0g (e:Ev):List UInt8:=padB (p0c e) 32
theorem g0p (e:Ev):(d0g e).length=32:=by rw[d0g,m0z,w0p];rfl
def sloI (s:Slo):List Int:=n8I s.1++(n8I s.2.1++(u0r s.2.2.1++(u0r s.2.2.2.1++(n8I s.2.2.2.2.1.1++(n8I s.2.2.2.2.1.2++(n8I s.2.2.2.2.2.1++(n8I s.2.2.2.2.2.2.1++n8I s.2.2.2.2.2.2.2)))))))
theorem b2l (s:Slo):(sloI s).length=106:=by simp[sloI,y0t,r0b]
def b0z (s:Slo):List UInt8:=padB (toB (sloI s)) 128
theorem d0s (s:Slo):(b0z s).length=128:=by rw[b0z,m0z,c0p,b2l];rfl
theorem num_l (n:Nat)(l:List Int)(hl:l.length<=1000):∀(rest pre:List Int) (f:Nat) (w:List Int) (i:Int),l=pre++rest->i=pre.length->w.length+8*rest.length<=100000 ->
  p0v (n+1) (f+rest.length+1) (w,l,(l.length:Int),i,())=some (.inl (w++rest.flatMap n8I,())):=by
 intro rest;induction rest with
 | nil =>
  intro pre f w i h hi hw;rw[v0x];simp only[tfd,q0n (idxe h hi rfl)];simp
 | cons a rest ih =>
  intro pre f w i h hi hw;have hlen:=congrArg List.length h;simp at hlen hw;rw[show f+(a::rest).length+1=(f+rest.length+1)+1 by simp;omega,v0x];simp only[tfd,q0z (idx h hi rfl)];rw[b0o h hi,obs,c0g n w 8 8 _ rfl (by omega) (by omega) (by omega),obs,w64 (x:=i+1) (by omega) (by omega),ih (pre++[a]) f _ (i+1) (idxl h) (idxs hi) (by simp[b0n];omega)];simp[n8I]
theorem b1w (n:Nat)(w l:List Int)(hl:l.length<=1000)(hw:w.length+8*l.length<=100000):o0o (n+2) w l=some (w++l.flatMap n8I):=by
 rw[v1t];have:=num_l n l hl l [] (a0b-l.length-1) w 0 rfl rfl hw;rw[<-lfu (by omega)] at this;rw[this,obs,a0m]
theorem i1f (n:Nat)(w:List Int)(e:Ev)(hw:w.length<=10000):o0m (n+3) w e=some (w++u0r e):=by
 rw[l1w,b1w n w _ (by simp) (by simp;omega),obs];have hl:(w++List.flatMap n8I [e.1,wrap .i64 e.2.1,e.2.2.1]).length<=20000:=by simp[y0t];omega
 have e1:List.flatMap n8I [e.1,wrap .i64 e.2.1,e.2.2.1]=n8I e.1++(n8I e.2.1++n8I e.2.2.1):=by
  simp[k2h]
 rw[e1] at hl ⊢;unfold u0r;cases h:e.2.2.2 with
 | true=>rw[tft,c0g (n+1) _ 1 1 1 rfl (by omega) (by omega) (by omega),obs,q0z rfl,show beI 1 1=[1] from rfl];simp
 | false=>rw[tff,c0g (n+1) _ 1 1 0 rfl (by omega) (by omega) (by omega),obs,q0n (by decide),show beI 1 0=[0] from rfl];simp
theorem g0n (n:Nat)(x:Int):e0y (n+2) x=some (n8B x):=by
 have h:=IntKind.wrap_u64 x;rw[t1k,g0i n 8 8 _ rfl (by omega) (by omega) (by omega) (by omega),obs];rfl
theorem q1y (n:Nat){x:Int}(h0:0<=x)(h1:x<=18446744073709551615):d0b (n+1) 8 x=some (n8B x):=by
 rw[g0i n 8 8 x rfl (by omega) (by omega) h0 h1];unfold n8B n8I;rw[wu64 (by omega) (by omega)]
theorem u0s (n:Nat)(k:Int)(hk:k<=100000000000):o0g (n+1) k=some (List.replicate k.toNat 0):=by
 rw[l1i,tfd];by_cases h:k<=0
 ·rw[q0z h,show k.toNat=0 by omega];rfl
 ·rw[q0n h];have c1:(decide ((0:Int)<=k)&&(decide (k<=k)&&decide (k*(1:Int)<=(140737488355328:Int))))=true:=by
   rw[q1n,q1n,q2c,q2c,q2c];omega
  rw[c1,tft,List.map_replicate];rfl
theorem w0q (n:Nat)(s:List UInt8)(k:Nat)(hs:s.length<=1000000000)(hk:k<=1000000000):s0s (n+2) s (k:Int)=some (padB s k):=by
 rw[e2u,w64 (by omega) (by omega),u0s n _ (by omega),obs,show ((k:Int)-((s.length:Nat):Int)).toNat=k-s.length by omega,tfd,q0z (by simp;omega)];rfl
theorem d1p (n:Nat)(e:Ev)(h:EvW e):u0u (n+3) e=some (p0c e):=by
 have l1:=f0r e.1;have l2:=f0r e.2.1;have l3:=f0r e.2.2.1;rw[t1g,g0n n,obs,q1y (n+1) h.v.1 h.v.2,obs,tfd,q0z (by omega),g0n n,obs,tfd,q0z (by simp;omega)];have hl:(n8B e.1++n8B e.2.1++n8B e.2.2.1).length+1<=9223372036854775807:=by simp;omega
 unfold p0c u0r;rw[u0l,u0l,u0l];cases hst:e.2.2.2 with
 | true=>rw[tft,tfd,q0z hl,q0z rfl];simp[n8B,toB]
 | false=>rw[tff,tfd,q0z hl,q0n (by decide)];simp[n8B,toB]
theorem e2r (n:Nat)(e:Ev)(h:EvW e):i1s (n+4) e=some (d0g e):=by
 have hl:=w0p e;rw[t1n,d1p n e h,obs,show (32:Int)=((32:Nat):Int) from rfl,w0q (n+1) _ 32 (by omega) (by omega),obs];rfl
theorem t1b (n:Nat)(s:Slo)(h:SloW s):g1p (n+4) s=some (b0z s):=by
 have hw:=h.c.w;have f:=d1p n s.2.2.1 h.c.f;have g:=d1p n s.2.2.2.1 h.c.l;have e1:=w0p s.2.2.1;have e2:=w0p s.2.2.2.1;have n1:=f0r s.1;have n2:=f0r s.2.1;have n3:=f0r s.2.2.2.2.1.1;have n4:=f0r s.2.2.2.2.1.2;have n5:=f0r s.2.2.2.2.2.1;have n6:=f0r s.2.2.2.2.2.2.1;have n7:=f0r s.2.2.2.2.2.2.2;rw[y1h,g0n (n+1),obs,g0n (n+1),obs,tfd,q0z (by omega),f,obs,tfd,q0z (by simp;omega),g,obs,tfd,q0z (by simp;omega),
  q1y (n+2) hw.1.1 hw.1.2,obs,tfd,q0z (by simp;omega),q1y (n+2) hw.2.1 hw.2.2,obs,tfd,q0z (by simp;omega),
  g0n (n+1),obs,tfd,q0z (by simp;omega),g0n (n+1),obs,tfd,q0z (by simp;omega),g0n (n+1),obs,tfd,q0z (by simp;omega),
  show (128:Int)=((128:Nat):Int) from rfl,w0q (n+1) _ 128 (by simp;omega) (by omega),obs]
 unfold b0z sloI n8B p0c;simp only[u0l,q2g]
theorem rps_loop (n:Nat)(r:(List UInt8))(m:Nat)(hm:m<=16777216):∀(f k:Nat),1<=k->k<=m->m-k<=f ->
  g0c n (f+1) (List.replicate k r++List.replicate (m-k) [],(k:Int),())=some (.inl (List.replicate m r,())):=by
 intro f;induction f with
 | zero =>
  intro k h1 h2 h3;obtain rfl:k=m:=by omega
  rw[k0p];simp[tfd]
 | succ f ih =>
  intro k h1 h2 h3;rw[k0p];have hlen:(List.replicate k r++List.replicate (m-k) ([]:(List UInt8))).length=m:=by simp;omega
  rw[hlen];by_cases hk:k=m
  ·subst hk;simp[tfd]
  ·have c1:((k:Int)<(m:Int)):=by omega
   have c2:((0:Int)<=(k:Int)):=by omega
   have c3:(Int.toNat (k:Int)<=m):=by simp;omega
   have c4:(decide ((0:Int)<=(k:Int))&&decide ((k:Int)<=(m:Int)))=true:=by simp;omega
   have c5:(Int.toNat (k:Int)+(m-Int.toNat (k:Int))<=m):=by simp;omega
   rw[c4];simp only[y0m,q2c,q0z c1,q0z c2,q0z c3,q0z c5,if_true];have e1:List.take (Int.toNat (k:Int)-0) (List.drop 0 (List.replicate k r++List.replicate (m-k) ([]:(List UInt8))))=List.replicate k r:=by simp
   rw[e1];have e2:List.take (m-Int.toNat (k:Int)) (List.replicate k r)=List.replicate (min (m-k) k) r:=by simp
   rw[e2];have e3:(k:Int)+((List.replicate (min (m-k) k) r).length:Int)=((k+min (m-k) k:Nat):Int):=by simp
   rw[e3,w64 (by omega) (by omega)];have e4:Go.Flat.putRow (List.replicate k r++List.replicate (m-k) ([]:(List UInt8))) (Int.toNat (k:Int)) (List.replicate (min (m-k) k) r)=List.replicate (k+min (m-k) k) r++List.replicate (m-(k+min (m-k) k)) []:=by
    unfold Go.Flat.putRow;rw[show Int.toNat (k:Int)=k by simp,List.take_left' (by simp),List.drop_append,List.drop_of_length_le (by simp),List.replicate_append_replicate];simp;omega
   rw[e4];exact ih (k+min (m-k) k) (by omega) (by omega) (by omega)
theorem y1b (n:Nat)(r:(List UInt8))(m:Nat)(h1:1<=m)(h2:m<=16777216):m0h (n+3) [r] (m:Int)=some (List.replicate m r):=by
 rw[y0n];have c1:¬((m:Int)<0):=by omega
 have e1:((List.length [r]:Nat):Int)=1:=rfl;rw[e1,wu64 (x:=1) (by omega) (by omega),wu64 (x:=(m:Int)) (by omega) (by omega),u0e,mul64 n 1 (m:Int) (by omega) (by omega)];have e2:(1:Int)*(m:Int) / 18446744073709551616=0:=by omega
 have e3:(1:Int)*(m:Int) % 18446744073709551616=(m:Int):=by omega
 rw[e2,e3,obs,obs];have c2:¬((9223372036854775807:Int)<(m:Int)):=by omega
 have e4:wrap .i64 (m:Int)=(m:Int):=w64 (by omega) (by omega);rw[e4];have c3:(decide ((0:Int)<=(m:Int))&&(decide ((m:Int)<=(m:Int))&&decide ((m:Int)*16<=(140737488355328:Int))))=true:=by simp;omega
 rw[c3];simp only[y0m,q2c,q0n c1,q0n c2,if_true,Int.lt_irrefl,if_false,q2i,q3b];have e5:List.take m [r]=[r]:=by
  cases m with
  | zero=>omega
  | succ m=>simp
 have e6:Go.Flat.putRow (List.replicate m ([]:(List UInt8))) 0 [r]=List.replicate 1 r++List.replicate (m-1) []:=by simp[Go.Flat.putRow]
 rw[e5,e6];have:=rps_loop (n+2) r m h2 (a0b-1) 1 (q2e _) h1 (by unfold a0b;omega);rw[show a0b-1+1=a0b by unfold a0b;omega] at this;have e7:((List.length [r]:Nat):Int)=((1:Nat):Int):=rfl;rw[e7,this,obs,a0m]
theorem rpb_loop (n m:Nat)(hm:m<=100000):∀(f k:Nat),1<=k->k<=m->m-k<=f ->
  d0x (n+1) (f+1) ((m:Int),(m:Int),List.replicate k (0:UInt8),())=some (.inl (List.replicate m 0,())):=by
 intro f;induction f with
 | zero =>
  intro k h1 h2 h3;obtain rfl:k=m:=by omega
  rw[l0s,e0q,obs];dsimp only;rw[q3b,tfd,q0n (by omega)]
 | succ f ih =>
  intro k h1 h2 h3;rw[l0s,e0q,obs];dsimp only;rw[q3b,tfd];by_cases hk:k=m
  ·subst hk;rw[q0n (by omega)]
  ·rw[q0z (by omega),e0q,obs];dsimp only;rw[e0q,obs];dsimp only;rw[c0q,obs];dsimp only;rw[q3b,w64 (by omega) (by omega)];have e:(if (m:Int)<(if (k:Int)<(m:Int)-(k:Int) then (k:Int) else (m:Int)-(k:Int)) then (m:Int) else (if (k:Int)<(m:Int)-(k:Int) then (k:Int) else (m:Int)-(k:Int)))=((min k (m-k):Nat):Int):=by
    split<;>split<;>omega
   rw[e,q2i];have c1:(decide ((0:Int)<=((min k (m-k):Nat):Int))&&decide (((min k (m-k):Nat):Int)<=((k:Nat):Int)))=true:=by
    rw[q1n,q2c,q2c];omega
   have e2:List.drop 0 (List.take (min k (m-k)) (List.replicate k (0:UInt8)))=List.replicate (min k (m-k)) 0:=by
    rw[List.drop_zero,List.take_replicate];congr 1;omega
   rw[c1,tft,e2,wst n _ _ (by simp;omega),obs];dsimp only;rw[List.replicate_append_replicate];exact ih (k+min k (m-k)) (by omega) (by omega) (by omega)
theorem rep_val (n c:Nat)(hc:c<=8192):strings_Repeat (n+4) [0] (c:Int)=some (List.replicate c 0):=by
 rw[q0i,tfd];by_cases h0:(c:Int)=0
 ·obtain rfl:c=0:=by omega
  rw[q0z h0];rfl
 rw[q0n h0,tfd];by_cases h1:(c:Int)=1
 ·obtain rfl:c=1:=by omega
  rw[q0z h1];rfl
 rw[q0n h1,tfd,q0n (by omega),wu64 (x:=(c:Int)) (by omega) (by omega),u0e,mul64 (n+1) 1 (c:Int) (by omega) (by omega)];have e2:(1:Int)*(c:Int) / 18446744073709551616=0:=by omega
 have e3:(1:Int)*(c:Int) % 18446744073709551616=(c:Int):=by omega
 rw[e2,e3,obs,obs];dsimp only;rw[tfd,q0n (by omega),tfd,q0n (by omega),w64 (x:=(c:Int)) (by omega) (by omega)];have hg:c0f (n+3) [] (c:Int)=some []:=by
  rw[j0t,v1w];rw[show (decide (([]:List UInt8).length=0)&&(decide ((0:Int)<=(c:Int))&&decide ((c:Int)<=70368744177664)))=true by
   rw[q1n,q1n,q2c,q2c,q2c]
   exact ⟨rfl,by omega,by omega⟩,tft]
 rw[tfd,q0n (by omega),hg,obs,wst (n+2) [] _ (by simp),obs];dsimp only;have:=rpb_loop (n+2) c (by omega) (a0b-1) 1 (q2e _) (by omega) (by unfold a0b;omega);rw[show a0b-1+1=a0b by unfold a0b;omega] at this
 change a0a (d0x (n+3) a0b ((c:Int),(c:Int),List.replicate 1 (0:UInt8),())) _=_
 rw[this,obs,a0m];dsimp only;rw[c0q,obs]
abbrev Rw:=Int×(Int×List Ev)
structure RawOk (r:Rw)(room:Int):Prop where
 m0:1<=room
 m1:room<=4096
 len:(r.2.2.length:Int)<=room
 l0:0<=r.1
 l1:r.1<=70368744177664
 f:Foll r.2.2
 z:r.1=0->r.2.1=0
 p:r.1≠0->(r.2.2.length:Int)=room/\0<=r.2.1/\∀x,r.2.2.head? = some x->r.2.1<x.1
noncomputable instance (r room):Decidable (RawOk r room):=Classical.propDecidable _
def RawW (r:Rw):Prop:=∀e∈r.2.2,EvW e
theorem last_at {l pre rest:List Ev}{x:Ev}{i:Int}(hl:l=pre++x::rest)(hi:i=pre.length)(hL:l.length<=1000000)(h:0<i):∃q,pre.getLast? = some q/\at? l (wrap .i64 (i-1))=some q:=by
 rcases List.eq_nil_or_concat pre with rfl | ⟨q,y,rfl⟩
 ·simp at hi;omega
 rw[List.concat_eq_append] at *
 have hlen:=congrArg List.length hl;simp at hlen hi;refine ⟨y,by simp,?_⟩;rw[w64 (by omega) (by omega)];exact b0o (pre:=q) (rest:=x::rest) (by rw[hl];simp) (by omega)
theorem v1z {pre rest:List Ev}{x:Ev}(hp:Foll pre):(EvOk x/\(∀q,pre.getLast? = some q->q.1<x.1))↔Foll (pre++[x]):=by
 constructor
 ·rintro ⟨h1,h2⟩;refine v1y.2 ⟨hp,h1,?_⟩;rcases List.eq_nil_or_concat pre with rfl | ⟨q,y,rfl⟩
  ·simp
  ·rw[List.concat_eq_append] at *
   exact last_all hp (y:=y) (by simp) (h2 y (by simp))
 ·intro h;obtain ⟨h1,h2,h3⟩:=v1y.1 h;exact ⟨h2,fun q hq=>h3 q (List.mem_of_getLast? hq)⟩
theorem c2t {l pre rest:List Ev}{x:Ev}(hl:l=pre++x::rest)(h:Foll l):Foll (pre++[x]):=by
 rw[idxl hl] at h;exact (t0m.1 h).1
theorem t1e (n:Nat)(l:List Ev)(hL:l.length<=1000000)(hw:∀e∈l,EvW e):∀(rest pre:List Ev) (f:Nat) (i len:Int),l=pre++rest->i=pre.length->len=l.length->rest.length<f->Foll pre ->
  (Foll l->h0v (n+3) f (l,l,len,i,())=some (.inl ()))/\(¬Foll l->h0v (n+3) f (l,l,len,i,())=some (.inr false)):=by
 intro rest;induction rest with
 | nil =>
  intro pre f i len hl hi hn hf hp;obtain ⟨f,rfl⟩:=FSu hf;rw[t0w];have e:l=pre:=by rw[hl,q2x]
  exact ⟨fun _=>by simp only[tfd,q0n (idxe hl hi hn)],fun k=>absurd (e ▸ hp) k⟩
 | cons x rest ih =>
  intro pre f i len hl hi hn hf hp;obtain ⟨f,rfl⟩:=FSu hf;rw[t0w];have hx:EvW x:=hw x (by rw[hl];simp);have ih':=ih (pre++[x]) f (i+1) len (idxl hl) (idxs hi) hn (by simp at hf;omega);simp only[tfd,tfn,q0z (idx hl hi hn),b0o hl hi,obs,z0e _ hx,z02,idxw hl hi (by omega)];have nx:=v1z (rest:=rest) (x:=x) hp;by_cases c1:EvOk x
  case neg=>rw[q0n c1];exact ⟨fun k=>absurd (k.ok x (by rw[hl];simp)) c1,fun _=>rfl⟩
  rw[q0z c1];by_cases c2:0<i
  ·obtain ⟨q,hq,hat⟩:=last_at hl hi hL c2;have hqo:EvOk q:=hp.ok q (List.mem_of_getLast? hq);rw[q0z c2,hat,obs,f1s n (.of hqo) hx];simp only[obs,tfd];by_cases c3:q.1<x.1
   ·rw[q0z ⟨hqo,c1,c3⟩];exact ih' (nx.1 ⟨c1,fun z hz=>by rw[hq] at hz;injection hz with hz;rw[<-hz];exact c3⟩)
   ·rw[q0n (fun k=>c3 k.2.2)];exact ⟨fun k=>absurd ((nx.2 (c2t hl k)).2 q hq) c3,fun _=>rfl⟩
  ·have hpe:pre=[]:=List.length_eq_zero_iff.1 (by omega);rw[q0n c2];exact ih' (nx.1 ⟨c1,fun z hz=>by rw[hpe] at hz;cases hz⟩)
noncomputable instance (l:List Ev):Decidable (Foll l):=Classical.propDecidable _
theorem l1h (n:Nat)(l:List Ev)(hL:l.length<=1000000)(hw:∀e∈l,EvW e):d1r (n+4) l=some (decide (Foll l)):=by
 rw[p1k];have h:=t1e n l hL hw l [] a0b 0 l.length rfl rfl rfl (by unfold a0b;omega) Foll.nil;by_cases c:Foll l
 ·rw[h.1 c,q2a c];rfl
 ·rw[h.2 c,q1z c];rfl
theorem l2d (l:List Ev):at? l (0:Int)=l.head? := by cases l<;>rfl
theorem i2y (n:Nat)(r:Rw)(room:Int)(hw:RawW r):i1n (n+5) r room=some (if RawOk r room then 0 else 2):=by
 rw[t1f];simp only[tfd];by_cases h1:room<1
 ·rw[q0z h1,q0n (fun k:RawOk r room=>by have:=k.m0;omega)]
 by_cases h2:4096<room
 ·rw[q0n h1,q0z h2,q0n (fun k:RawOk r room=>by have:=k.m1;omega)]
 by_cases h3:room<r.2.2.length
 ·rw[q0n h1,q0n h2,q0z h3,q0n (fun k:RawOk r room=>by have:=k.len;omega)]
 by_cases h4:r.1<0
 ·rw[q0n h1,q0n h2,q0n h3,q0z h4,q0n (fun k:RawOk r room=>by have:=k.l0;omega)]
 by_cases h5:70368744177664<r.1
 ·rw[q0n h1,q0n h2,q0n h3,q0n h4,q0z h5,q0n (fun k:RawOk r room=>by have:=k.l1;omega)]
 rw[q0n h1,q0n h2,q0n h3,q0n h4,q0n h5,l1h n r.2.2 (by omega) hw,p1m];simp only[obs,tfn,tfd];by_cases h6:Foll r.2.2
 case neg=>rw[q0n h6,q0n (fun k:RawOk r room=>h6 k.f)]
 rw[q0z h6];by_cases h7:r.1=0
 ·rw[q0z h7,obs];simp only[tfd];by_cases h8:r.2.1=0
  ·rw[q0z h8,q0z (⟨by omega,by omega,by omega,by omega,by omega,h6,fun _=>h8,fun k=>absurd h7 k⟩:RawOk r room)]
  ·rw[q0n h8,q0n (fun k:RawOk r room=>h8 (k.z h7))]
 rw[q0n h7];by_cases h8:(r.2.2.length:Int)=room
 case neg=>rw[q0n h8,q0n (fun k:RawOk r room=>h8 (k.p h7).1)];rfl
 rw[q0z h8];by_cases h9:(0:Int)<=r.2.1
 case neg=>rw[q0n h9,q0n (fun k:RawOk r room=>h9 (k.p h7).2.1)];rfl
 rw[q0z h9,l2d];obtain ⟨x,hx⟩:∃x,r.2.2.head? = some x:=by
  cases hh:r.2.2 with
  | nil=>rw[hh] at h8;simp at h8;omega
  | cons x l=>exact ⟨x,rfl⟩
 rw[hx,obs,obs];simp only[tfd];by_cases h10:r.2.1<x.1
 ·rw[q0z h10,q0z (⟨by omega,by omega,by omega,by omega,by omega,h6,fun k=>absurd k h7,fun _=>⟨h8,h9,fun y hy=>by rw[hx] at hy;injection hy with hy;rw[<-hy];exact h10⟩⟩:RawOk r room)]
 ·rw[q0n h10,q0n (fun k:RawOk r room=>h10 ((k.p h7).2.2 x hx))]
theorem y1u (n:Nat)(room:Int)(r:Rw)(hL:r.2.2.length<=1000000)(hw:RawW r):∀(rest pre:List Ev) (f:Nat) (i len:Int),r.2.2=pre++rest->i=pre.length->len=r.2.2.length->rest.length<f->Foll pre ->
  (Foll r.2.2->j0k (n+1) f (room,r,r.2.2,len,i,())=some (.inl (room,r,())))/\(¬Foll r.2.2->j0k (n+1) f (room,r,r.2.2,len,i,())=some (.inr 2)):=by
 intro rest;induction rest with
 | nil =>
  intro pre f i len hl hi hn hf hp;obtain ⟨f,rfl⟩:=FSu hf;rw[v0e];have e:r.2.2=pre:=by rw[hl,q2x]
  exact ⟨fun _=>by simp only[tfd,q0n (idxe hl hi hn)],fun k=>absurd (e ▸ hp) k⟩
 | cons x rest ih =>
  intro pre f i len hl hi hn hf hp;obtain ⟨f,rfl⟩:=FSu hf;rw[v0e];have hx:EvW x:=hw x (by rw[hl];simp);have ih':=ih (pre++[x]) f (i+1) len (idxl hl) (idxs hi) hn (by simp at hf;omega);simp only[tfd,tfn,q0z (idx hl hi hn),b0o hl hi,obs,j1a _ hx,z02,idxw hl hi (by omega)];have nx:=v1z (rest:=rest) (x:=x) hp;by_cases c1:EvOk x
  case neg=>rw[q0n c1];exact ⟨fun k=>absurd (k.ok x (by rw[hl];simp)) c1,fun _=>rfl⟩
  rw[q0z c1];by_cases c2:0<i
  ·obtain ⟨q,hq,hat⟩:=last_at hl hi hL c2;rw[q0z c2,hat,obs];by_cases c3:x.1<=q.1
   ·rw[q0z c3];exact ⟨fun k=>by have:=(nx.2 (c2t hl k)).2 q hq;omega,fun _=>rfl⟩
   ·rw[q0n c3];exact ih' (nx.1 ⟨c1,fun z hz=>by rw[hq] at hz;injection hz with hz;rw[<-hz];omega⟩)
  ·have hpe:pre=[]:=List.length_eq_zero_iff.1 (by omega);rw[q0n c2];exact ih' (nx.1 ⟨c1,fun z hz=>by rw[hpe] at hz;cases hz⟩)
theorem j2g (n:Nat)(r:Rw)(room:Int)(hw:RawW r):i1y (n+2) r room=some (if RawOk r room then 0 else 2):=by
 rw[t1y];simp only[tfd];by_cases h1:room<1
 ·rw[q0z h1,q0n (fun k:RawOk r room=>by have:=k.m0;omega)]
 by_cases h2:4096<room
 ·rw[q0n h1,q0z h2,q0n (fun k:RawOk r room=>by have:=k.m1;omega)]
 by_cases h3:room<r.2.2.length
 ·rw[q0n h1,q0n h2,q0z h3,q0n (fun k:RawOk r room=>by have:=k.len;omega)]
 by_cases h4:r.1<0
 ·rw[q0n h1,q0n h2,q0n h3,q0z h4,q0n (fun k:RawOk r room=>by have:=k.l0;omega)]
 by_cases h5:70368744177664<r.1
 ·rw[q0n h1,q0n h2,q0n h3,q0n h4,q0z h5,q0n (fun k:RawOk r room=>by have:=k.l1;omega)]
 rw[q0n h1,q0n h2,q0n h3,q0n h4,q0n h5];have hl:=y1u n room r (by omega) hw r.2.2 [] a0b 0 _ rfl rfl rfl (by unfold a0b;omega) Foll.nil;by_cases h6:Foll r.2.2
 case neg=>rw[hl.2 h6,q0n (fun k:RawOk r room=>h6 k.f)];rfl
 rw[hl.1 h6];simp only[obs,a0m,tfn,tfd];by_cases h7:r.1=0
 ·rw[q0z h7];by_cases h8:r.2.1=0
  ·rw[q0z h8,q0z (⟨by omega,by omega,by omega,by omega,by omega,h6,fun _=>h8,fun k=>absurd h7 k⟩:RawOk r room)]
  ·rw[q0n h8,q0n (fun k:RawOk r room=>h8 (k.z h7))]
 rw[q0n h7];by_cases h9:r.2.1<0
 ·rw[q0z h9,q0n (fun k:RawOk r room=>by have:=(k.p h7).2.1;omega)]
 rw[q0n h9];have hd:∀k:RawOk r room,∃x,r.2.2.head? = some x/\EvOk x:=fun k=>by
  have h8:=(k.p h7).1;have:=k.m0;cases hh:r.2.2 with
  | nil=>rw[hh] at h8;simp at h8;omega
  | cons x l=>exact ⟨x,rfl,h6.ok x (by rw[hh];simp)⟩
 by_cases h10:(35184372088832:Int)<=r.2.1
 ·rw[q0z h10,q0n];intro k;obtain ⟨x,hx,hxo⟩:=hd k;have:=(k.p h7).2.2 x hx;have:=hxo.t1;omega
 rw[q0n h10];by_cases h8:(r.2.2.length:Int)=room
 case neg=>rw[q0n h8,q0n (fun k:RawOk r room=>h8 (k.p h7).1)]
 rw[q0z h8,l2d];obtain ⟨x,hx⟩:∃x,r.2.2.head? = some x:=by
  cases hh:r.2.2 with
  | nil=>rw[hh] at h8;simp at h8;omega
  | cons x l=>exact ⟨x,rfl⟩
 rw[hx,obs];by_cases h11:x.1<=r.2.1
 ·rw[q0z h11,q0n (fun k:RawOk r room=>by have:=(k.p h7).2.2 x hx;omega)]
 ·rw[q0n h11,q0z (⟨by omega,by omega,by omega,by omega,by omega,h6,fun k=>absurd k h7,fun _=>⟨h8,by omega,fun y hy=>by rw[hx] at hy;injection hy with hy;rw[<-hy];omega⟩⟩:RawOk r room)]
theorem raw_last (n:Nat)(r:Rw)(hL:r.2.2.length<=1000000):p1n (n+1) r=some (match r.2.2.getLast? with | some e=>(e,0) | none=>(e0,3)):=by
 rw[y1e];simp only[tfd];rcases List.eq_nil_or_concat r.2.2 with h | ⟨q,y,h⟩
 ·rw[h,q0z (by simp)];rfl
 ·rw[List.concat_eq_append] at h;have hlen:=congrArg List.length h;simp at hlen;rw[q0n (by omega),w64 (by omega) (by omega),b0o (pre:=q) (rest:=[]) h (by omega),h];simp
theorem r12_last (n:Nat)(r:Rw)(hL:r.2.2.length<=1000000):p1r (n+1) r=some (match r.2.2.getLast? with | some e=>(e,0) | none=>(e0,3)):=by
 rw[y1w];simp only[tfd];rcases List.eq_nil_or_concat r.2.2 with h | ⟨q,y,h⟩
 ·rw[h,q0z (by simp)];rfl
 ·rw[List.concat_eq_append] at h;have hlen:=congrArg List.length h;simp at hlen;rw[q0n (by omega),w64 (by omega) (by omega),b0o (pre:=q) (rest:=[]) h (by omega),h];simp
def r0w:Rw:=(0,(0,[]))
theorem g2o (n:Nat)(l:List Slo)(h:l.length<=1000000):s0l (n+1) l=some l:=by
 rw[g1c];simp only[tfd,q0z (show (0+l.length)*120<=140737488355328 by omega),q2r];by_cases h0:l.length=0
 ·obtain rfl:=List.length_eq_zero_iff.1 h0;simp
 ·rw[q0n h0]
section
variable {del:a0d×Unit->Option Bool}{p:Slo->Bool}(hd:∀x,del (x,())=some (p x))
include hd
theorem l2b (n:Nat)(l:List Slo)(hL:l.length<=1000000):∀(rest pre:List Slo) (f:Nat) (i len:Int),l=pre++rest->i=pre.length->len=l.length->rest.length<f ->
  (e0d n f (l,del,len,i,())=some (.inl ())/\∀x∈rest,p x=false) \/
  (∃A x B,rest=A++x::B/\(∀y∈A,p y=false)/\p x=true/\e0d n f (l,del,len,i,())=some (.inr (i+A.length))):=by
 intro rest;induction rest with
 | nil =>
  intro pre f i len hl hi hn hf;obtain ⟨f,rfl⟩:=FSu hf;rw[j0v];exact .inl ⟨by simp only[tfd,q0n (idxe hl hi hn)],by simp⟩
 | cons x rest ih =>
  intro pre f i len hl hi hn hf;obtain ⟨f,rfl⟩:=FSu hf;rw[j0v];simp only[tfd,q0z (idx hl hi hn),b0o hl hi,obs,hd,idxw hl hi (by omega)];cases hp:p x with
  | true=>exact .inr ⟨[],x,rest,rfl,by simp,hp,by simp⟩
  | false =>
   rw[tff];rcases ih (pre++[x]) f (i+1) len (idxl hl) (idxs hi) hn (by simp at hf;omega) with ⟨h1,h2⟩ | ⟨A,y,B,h1,h2,h3,h4⟩
   ·exact .inl ⟨h1,by intro z hz;rcases q2m.1 hz with rfl | hz;exact hp;exact h2 z hz⟩
   ·refine .inr ⟨x::A,y,B,by rw[h1];rfl,?_,h3,by rw[h4,q2k,show i+1+(A.length:Int)=i+((A.length+1:Nat):Int) by omega]⟩;intro z hz;rcases q2m.1 hz with rfl | hz
    ·exact hp
    ·exact h2 z hz
theorem delete_l (n:Nat)(l0:List Slo)(hL:l0.length<=1000000):∀(rest F G:List Slo) (f:Nat) (i j:Int),(F++(G++rest)).length=l0.length->G≠[]->i=F.length->j=F.length+G.length->rest.length<f ->
  ∃G',d0u n f (F++(G++rest),del,i,j,())=some (.inl (F++rest.filter (fun x => !p x)++G',(F++rest.filter (fun x => !p x)).length,()))/\(F++rest.filter (fun x => !p x)++G').length=l0.length:=by
 intro rest;induction rest with
 | nil =>
  intro F G f i j hl hg hi hj hf;obtain ⟨f,rfl⟩:=FSu hf;rw[j0i];have:¬(j<((F++(G++[])).length:Int)):=by simp;omega
  simp only[tfd,q0n this];exact ⟨G,by simp[hi],by simpa using hl⟩
 | cons x rest ih =>
  intro F G f i j hl hg hi hj hf;obtain ⟨f,rfl⟩:=FSu hf;rw[j0i];simp only[q2d,q2k] at hl;have hlt:j<((F++(G++x::rest)).length:Int):=by simp;omega
  have hat:at? (F++(G++x::rest)) j=some x:=b0o (pre:=F++G) (rest:=rest) (by simp) (by simp;omega);have hget:(F++(G++x::rest))[j.toNat]? = some x:=by
   rw[show j.toNat=F.length+G.length by omega,q2h (by omega),q2h (by omega)];simp
  simp only[tfd,q0z hlt,hat,hget,obs,hd];have wj:wrap .i64 (j+1)=j+1:=by rw[w64 (by omega) (by omega)]
  have wi:wrap .i64 (i+1)=i+1:=by rw[w64 (by omega) (by omega)]
  rw[wj,wi]
  match G,hg with
  | g::G,_ =>
  cases hp:p x with
  | false =>
   have hat':at? (F++(g::G++x::rest)) i=some g:=b0o (pre:=F) (rest:=G++x::rest) (by simp) hi;have hget':(F++(g::G++x::rest))[i.toNat]? = some g:=by
    rw[show i.toNat=F.length by omega];simp
   have hset:(F++(g::G++x::rest)).set i.toNat x=(F++[x])++((G++[x])++rest):=by
    rw[show i.toNat=F.length by omega,q3v _ _ (by omega)];simp
   simp only[q3e,tft,hat',hget',obs,hset];obtain ⟨G',h1,h2⟩:=ih (F++[x]) (G++[x]) f (i+1) (j+1) (by simp at hl ⊢;omega) (by simp) (by simp;omega) (by simp at hj ⊢;omega) (by simp at hf;omega);refine ⟨G',?_,?_⟩
   ·rw[h1];simp[List.filter_cons,hp]
   ·rw[<-h2];simp[List.filter_cons,hp]
  | true =>
   simp only[q2u,tff];obtain ⟨G',h1,h2⟩:=ih F (g::G++[x]) f i (j+1) (by simp at hl ⊢;omega) (by simp) hi (by simp at hj ⊢;omega) (by simp at hf;omega);simp only[q2g,List.singleton_append] at h1;refine ⟨G',?_,?_⟩
   ·rw[h1];simp[List.filter_cons,hp]
   ·rw[<-h2];simp[List.filter_cons,hp]
theorem a2r (n:Nat)(l:List Slo)(hL:l.length<=1000000):j0y (n+2) l del=some (l.filter fun x => !p x):=by
 rw[u0q,m0o];rcases l2b hd n l hL l [] a0b 0 l.length rfl rfl rfl (by unfold a0b;omega) with ⟨h1,h2⟩ | ⟨A,x,B,h1,h2,h3,h4⟩
 ·rw[h1];simp only[obs,a0m,tfd,q0z trivial];exact congrArg some (List.filter_eq_self.2 fun y hy=>by simp[h2 y hy]).symm
 ·rw[h4];have hl:l.length=A.length+(B.length+1):=by rw[h1];simp
  simp only[obs,j0z,tfd,Int.zero_add];rw[q0n (by omega),w64 (x:=(A.length:Int)+1) (by omega) (by omega)];obtain ⟨G',g1,g2⟩:=delete_l hd (n+1) l hL B A [x] a0b (A.length:Int) (A.length+1) (by rw[h1];simp) (by simp) rfl (by simp) (by unfold a0b;omega);rw[show A++([x]++B)=l by rw[h1];simp] at g1;rw[g1];have hF:A++B.filter (fun x => !p x)=l.filter fun x => !p x:=by
   rw[h1,List.filter_append,List.filter_cons];have:A.filter (fun x => !p x)=A:=List.filter_eq_self.2 fun y hy=>by simp[h2 y hy]
   simp[h3,this]
  rw[hF] at g2 ⊢;generalize (l.filter fun x => !p x)=F at *
  simp only[obs,a0m,d1a,tfd,q2i];have hle:F.length<=(F++G').length:=by simp
  have k1:putRow (F++G') F.length (List.replicate ((F++G').length-F.length) s0)=F++List.replicate ((F++G').length-F.length) s0:=by
   unfold putRow;rw[List.drop_of_length_le (by simp)];simp
  have k2:=k1;simp only[s0,z0,e0] at k2;rw[k2,q0z (by omega),q0z hle,q0z (by omega),q0z (by omega),q0z (by simp;omega)];simp
end
theorem m2e (n:Nat)(x y:Int):l0h (n+2) x y=some (if x<y then -1 else if y<x then 1 else 0):=by
 rw[x0r,q0a,q0a];simp only[decide_true,q2u,obs,tff,tfd];by_cases h1:x<y
 ·rw[q0z h1,q0z h1]
 ·rw[q0n h1,q0n h1];by_cases h2:y<x
  ·rw[q0z h2,q0z h2]
  ·rw[q0n h2,q0n h2]
theorem m2f (n:Nat):Cmp (fun y3=>w0j (n+3) y3.1 y3.2.1) (fun s=>s.1):=by
 intro x y;refine ⟨if x.1<y.1 then -1 else if y.1<x.1 then 1 else 0,?_,?_⟩
 ·show w0j (n+3) x y=_;rw[o1w,m2e];rfl
 ·by_cases h1:x.1<y.1
  ·simp[h1]
  ·by_cases h2:y.1<x.1
   ·simp[h1,h2]
   ·simp[h1,h2]
theorem j1i {l:List Slo}(h:Srt (fun s=>s.1) l 0 l.length):l.Pairwise fun a b=>a.1<=b.1:=by
 rw[List.pairwise_iff_getElem];intro i j hi hj hij;exact h i j _ _ (by omega) hij hj (q2b hi) (q2b hj)
theorem tier_all (n:Nat){l:List Slo}{w:Int}(h:TierOk l w):b2f (n+17) l=some (tall l):=by
 have hl:=h.l1;rw[x1g,g2o _ l (by omega)];simp only[obs];rw[a2r (del:=fun y1=>u0m (n+16) y1.1) (p:=fun s=>decide (s=s0)) (fun x=>z0u (n+15) x) (n+14) l (by omega)];simp only[obs];have e:(l.filter fun x => !decide (x=s0))=j0h l:=by unfold j0h;congr 1;funext x;simp
 rw[e];have hle:(j0h l).length<=l.length:=List.length_filter_le _ _;obtain ⟨d',r1,r2,r3⟩:=p1c (m2f (n+13)) n 12 (j0h l) (by omega) (by omega);rw[r1];rw[<-r2.length_eq] at r3;rw[h2s h r2 (j1i r3)];rfl
theorem e2y (n:Nat)(out:List Slo)(s:Slo)(s8:List Slo)(s9 s10:Int)(hL:out.length<=1000000)(hs:out.Pairwise fun a b=>a.1<=b.1):∀(k f:Nat),k<=out.length->k<f->(∀x∈out.drop k,s.1<x.1) ->
  ∃k':Nat,w0z n f (out,s,(k:Int),s8,s9,s10,())=some (.inl (out,s,(k':Int),s8,s9,s10,()))/\k'<=out.length/\(∀x∈out.take k',x.1<=s.1)/\(∀x∈out.drop k',s.1<x.1):=by
 intro k;induction k with
 | zero =>
  intro f hk hf h;obtain ⟨f,rfl⟩:∃g,f=g+1:=⟨f-1,by omega⟩;rw[b1g];simp only[tfd,q0n (show ¬((0:Int)<((0:Nat):Int)) by omega)];exact ⟨0,rfl,by omega,by simp,h⟩
 | succ k ih =>
  intro f hk hf h;obtain ⟨f,rfl⟩:∃g,f=g+1:=⟨f-1,by omega⟩;rw[b1g];have lk:k<out.length:=by omega
  rw[wn (x:=((k+1:Nat):Int)-1) (k:=k) (by omega) (by omega)];simp only[tfd,q0z (show ((0:Int)<((k+1:Nat):Int)) by omega),at_some lk,q2i,q2b lk,obs];by_cases hc:s.1<out[k].1
  ·rw[q0z hc];refine ih f (by omega) (by omega) (fun x hx => ?_);rw[q3a lk] at hx;rcases q2m.1 hx with rfl | hx
   ·exact hc
   ·exact h x hx
  ·rw[q0n hc];refine ⟨k+1,rfl,hk,fun x hx => ?_,h⟩;obtain ⟨j,hj,rfl⟩:=List.mem_iff_getElem.1 hx;have hj':j<k+1:=by simp at hj;omega
   rw[List.getElem_take];rcases Nat.lt_or_eq_of_le (Nat.le_of_lt_succ hj') with hjk | rfl
   ·have:=List.pairwise_iff_getElem.1 hs j k (by omega) lk hjk;omega
   ·omega
theorem insert_sorted {out:List Slo}{s:Slo}{k:Nat}(hs:out.Pairwise fun a b=>a.1<=b.1)(h1:∀x∈out.take k,x.1<=s.1)(h2:∀x∈out.drop k,s.1<x.1) :
  (out.take k++s::out.drop k).Pairwise fun a b=>a.1<=b.1:=by
 rw[List.pairwise_append];refine ⟨hs.sublist (List.take_sublist _ _),List.pairwise_cons.2 ⟨fun x hx=>Int.le_of_lt (h2 x hx),hs.sublist (List.drop_sublist _ _)⟩,fun a ha b hb => ?_⟩;rcases q2m.1 hb with rfl | hb
 ·exact h1 a ha
 ·have:=h1 a ha;have:=h2 b hb;omega
theorem e2z (n:Nat)(l:List Slo)(hL:l.length<=1000000):∀(rest pre:List Slo) (f:Nat) (out:List Slo) (i len:Int),l=pre++rest->i=pre.length->len=l.length->rest.length<f->out.Pairwise (fun a b=>a.1<=b.1)->out.Perm (j0h pre) ->
  ∃out',r0e n f (out,l,len,i,())=some (.inl (out',()))/\out'.Pairwise (fun a b=>a.1<=b.1)/\out'.Perm (j0h l):=by
 intro rest;induction rest with
 | nil =>
  intro pre f out i len hl hi hn hf hs hp;obtain ⟨f,rfl⟩:=FSu hf;rw[b1h];rw[q2x] at hl;exact ⟨out,by simp only[tfd,q0n (idxe (pre:=pre) (by rw[hl,q2x]) hi hn)],hs,by rw[hl];exact hp⟩
 | cons x rest ih =>
  intro pre f out i len hl hi hn hf hs hp;obtain ⟨f,rfl⟩:=FSu hf;rw[b1h];have hlen:out.length<=l.length:=by
   rw[hp.length_eq,hl];have:(j0h pre).length<=pre.length:=List.length_filter_le _ _;simp;omega
  simp only[tfd,q0z (idx hl hi hn),b0o hl hi,obs,s1v];by_cases h0:x=s0
  ·rw[q0z h0,idxw hl hi (by omega)];exact ih (pre++[x]) f out (i+1) len (idxl hl) (idxs hi) hn (by simp at hf;omega) hs (by simpa [j0h,List.filter_append,h0] using hp)
  ·rw[q0n h0];obtain ⟨k,r1,r2,r3,r4⟩:=e2y n out x l len i (by omega) hs out.length a0b (q2e _) (by unfold a0b;omega) (by simp);rw[r1];have t1:(List.take ((k:Int).toNat-0) (List.drop 0 out))=out.take k:=by simp
   have t2:(List.take (out.length-(k:Int).toNat) (List.drop (k:Int).toNat out))=out.drop k:=by
    rw[q2i,q3j (by simp)]
   simp only[obs,a0m,d1a,tfd];rw[t1,t2,q2r];have l1:(out.take k).length=k:=by simp;omega
   rw[q0z (by omega),q0z (by omega),q0z (by rw[l1];omega),q0z (by rw[l1];omega),q0z (by omega),q0z (by simp;omega),q0z (by simp;omega),idxw hl hi (by omega)];have e:out.take k++[x]++out.drop k=out.take k++x::out.drop k:=by simp
   rw[e];refine ih (pre++[x]) f _ (i+1) len (idxl hl) (idxs hi) hn (by simp at hf;omega) (insert_sorted hs r3 r4) ?_;have e2:j0h (pre++[x])=j0h pre++[x]:=by simp[j0h,List.filter_append,h0]
   rw[e2];refine (List.perm_middle).trans ?_;rw[q3d];exact (List.Perm.cons x hp).trans (List.perm_append_comm (l₁:=[x]))
theorem d1t (n:Nat){l:List Slo}{w:Int}(h:TierOk l w):v0c (n+1) l=some (tall l):=by
 have hl:=h.l1;rw[f2a];obtain ⟨out,r1,r2,r3⟩:=e2z n l (by omega) l [] a0b [] 0 l.length rfl rfl rfl (by unfold a0b;omega) .nil (by simp[j0h]);rw[r1];simp only[obs,a0m];rw[h2s h r3 r2]
theorem o1z {l:List Slo}:(tall l).length<=l.length:=by
 rw[(z0w l).length_eq];exact List.length_filter_le _ _
theorem x1u:SloW s0:=⟨by simp[I64,s0],m2m⟩
theorem o1x {l:List Slo}{w:Int}(h:TierOk l w):∀s∈l,SloW s:=by
 intro s hs;obtain ⟨j,hj⟩:=List.getElem?_of_mem hs;rcases h.s j s hj with rfl | ⟨_,hf⟩
 ·exact x1u
 ·have:=hf.i0;exact ⟨by unfold I64;omega,.ofN hf.n⟩
theorem n1p {e:Ev}(h:EvOk e){w:Int}(hw:1<=w):wrap .i64 (Int.tdiv e.1 w)=e.1 / w:=by
 have h0:=h.t0;have h1:=h.t1;have:0<=e.1 / w:=Int.ediv_nonneg h0 (by omega);have:e.1 / w<=e.1:=Int.ediv_le_self _ h0;rw[q0f h0,w64 (by omega) (by omega)]
end Go.Proofs.YtagnkfbpgkckiaaGreat
namespace Go.Plim
def rng (w:Int)(l:List Ev)(i k:Int):List Ev:=l.filter fun e=>decide (i<=e.1 / w/\e.1 / w<k)
def win (w:Int)(l:List Ev)(i:Int):List Ev:=l.filter fun e=>decide (e.1 / w=i)
theorem tall_N {l:List Slo}{w:Int}(h:TierOk l w){s:Slo}(hs:s∈tall l):CellN s.2:=(s1m h hs).1.n
structure TierInv (t:List Slo)(w:Int)(l:List Ev):Prop where
 ok:TierOk t w
 cells:∀s∈tall t,s.2=cellOf (win w l s.1)
 kept:∀i,(∃e∈l,e.1 / w=i)->(∀e∈l,e.1 / w<i+(t.length:Int))->(i,cellOf (win w l i))∈tall t
end Go.Plim
namespace Go.Proofs.YtagnkfbpgkckiaaGreat
open Go.Flat Go.Plim
abbrev Trs:=List Slo×(List Slo×List Slo)
noncomputable instance (c:Conf):Decidable (OkC c):=Classical.propDecidable _
structure FoldOk (c:Conf)(s:Trs):Prop where
 cok:OkC c
 n0:(s.1.length:Int)=c.2.2.1.1
 n1:(s.2.1.length:Int)=c.2.2.1.2.1
 n2:(s.2.2.length:Int)=c.2.2.1.2.2
 t0:TierOk s.1 c.2.1.1
 t1:TierOk s.2.1 c.2.1.2.1
 t2:TierOk s.2.2 c.2.1.2.2
noncomputable instance (c:Conf) (s:Trs):Decidable (FoldOk c s):=Classical.propDecidable _
def mk1 (c:Conf)(s:Trs)(i:Int):Cel×Int:=tfold s.1 (i*(c.2.1.2.1 / c.2.1.1)) ((i+1)*(c.2.1.2.1 / c.2.1.1))
theorem f2r {a w m:Int}(hw:1<=w)(h:a<=m / w):a*w<=m :=
 Int.le_trans (Int.mul_le_mul_of_nonneg_right h (by omega)) (Int.ediv_mul_le m (by omega))
def Begins (w i:Int):Prop:=0<=i/\i<=35184372088831 / w
theorem Begins.mul {w i:Int}(hw:1<=w)(h:Begins w i):0<=i*w/\i*w<=35184372088831:=⟨Int.mul_nonneg h.1 (by omega),f2r hw h.2⟩
structure TrsW (s:Trs):Prop where
 a:∀x∈s.1,SloW x
 b:∀x∈s.2.1,SloW x
 c:∀x∈s.2.2,SloW x
theorem FoldOk.w {c:Conf}{s:Trs}(h:FoldOk c s):TrsW s:=⟨o1x h.t0,o1x h.t1,o1x h.t2⟩
theorem e1o (n:Nat)(c:Conf):e0u (n+3) c=some (if OkC c then 0 else 2):=by
 by_cases h:OkC c
 ·rw[q0z h,x0i n h]
 ·rw[q0n h,d2j n h]
theorem b1k (n:Nat)(c:Conf):f0q (n+3) c=some (if OkC c then 0 else 2):=by
 by_cases h:OkC c
 ·rw[q0z h,j0l n h]
 ·rw[q0n h,f1j n h]
theorem q1v (n:Nat)(c:Conf){s:Trs}(hw:TrsW s):j1x (n+8) c s=some (if FoldOk c s then (some (c,s),0) else (none,2)):=by
 rw[w1a,e1o (n+4),d1c n _ _ hw.a,d1c n _ _ hw.b,d1c n _ _ hw.c];simp only[obs,tfn,tfd];by_cases h0:OkC c
 case neg=>rw[q0n (mt (z02 _).1 h0),q0n h0,q0n (fun k:FoldOk c s=>h0 k.cok)]
 rw[q0z ((z02 _).2 h0)];by_cases h1:(s.1.length:Int)=c.2.2.1.1
 case neg=>rw[q0n h1,q0n (fun k:FoldOk c s=>h1 k.n0)]
 rw[q0z h1];by_cases h2:TierOk s.1 c.2.1.1
 case neg=>rw[q0n (mt (z02 _).1 h2),q0n (fun k:FoldOk c s=>h2 k.t0)]
 rw[q0z ((z02 _).2 h2)];by_cases h3:(s.2.1.length:Int)=c.2.2.1.2.1
 case neg=>rw[q0n h3,q0n (fun k:FoldOk c s=>h3 k.n1)]
 rw[q0z h3];by_cases h4:TierOk s.2.1 c.2.1.2.1
 case neg=>rw[q0n (mt (z02 _).1 h4),q0n (fun k:FoldOk c s=>h4 k.t1)]
 rw[q0z ((z02 _).2 h4)];by_cases h5:(s.2.2.length:Int)=c.2.2.1.2.2
 case neg=>rw[q0n h5,q0n (fun k:FoldOk c s=>h5 k.n2)]
 rw[q0z h5];by_cases h6:TierOk s.2.2 c.2.1.2.2
 case neg=>rw[q0n (mt (z02 _).1 h6),q0n (fun k:FoldOk c s=>h6 k.t2)]
 rw[q0z ((z02 _).2 h6),q0z (⟨h0,h1,h3,h5,h2,h4,h6⟩:FoldOk c s)]
theorem j2f (n:Nat)(c:Conf){s:Trs}(hw:TrsW s):i1v (n+7) c s=some (if FoldOk c s then 0 else 2):=by
 rw[t1w,b1k (n+3),i1w n _ _ hw.a,i1w n _ _ hw.b,i1w n _ _ hw.c];simp only[obs,tfn,tfd];by_cases h0:OkC c
 case neg=>rw[q0n (mt (z02 _).1 h0),q0n (fun k:FoldOk c s=>h0 k.cok)]
 rw[q0z ((z02 _).2 h0)];by_cases h1:(s.1.length:Int)=c.2.2.1.1
 case neg=>rw[q0n h1,q0n (fun k:FoldOk c s=>h1 k.n0)]
 rw[q0z h1];by_cases h2:TierOk s.1 c.2.1.1
 case neg=>rw[q0n (mt (z02 _).1 h2),q0n (fun k:FoldOk c s=>h2 k.t0)]
 rw[q0z ((z02 _).2 h2)];by_cases h3:(s.2.1.length:Int)=c.2.2.1.2.1
 case neg=>rw[q0n h3,q0n (fun k:FoldOk c s=>h3 k.n1)]
 rw[q0z h3];by_cases h4:TierOk s.2.1 c.2.1.2.1
 case neg=>rw[q0n (mt (z02 _).1 h4),q0n (fun k:FoldOk c s=>h4 k.t1)]
 rw[q0z ((z02 _).2 h4)];by_cases h5:(s.2.2.length:Int)=c.2.2.1.2.2
 case neg=>rw[q0n h5,q0n (fun k:FoldOk c s=>h5 k.n2)]
 rw[q0z h5];by_cases h6:TierOk s.2.2 c.2.1.2.2
 case neg=>rw[q0n (mt (z02 _).1 h6),q0n (fun k:FoldOk c s=>h6 k.t2)]
 rw[q0z ((z02 _).2 h6),q0z (⟨h0,h1,h3,h5,h2,h4,h6⟩:FoldOk c s)]
theorem g2d (n:Nat)(c:Conf){s:Trs}(hw:TrsW s):e1j (n+9) c s=some (if FoldOk c s then 0 else 2):=by
 rw[q1w,q1v n c hw];by_cases h:FoldOk c s
 ·rw[q0z h,q0z h];rfl
 ·rw[q0n h,q0n h];rfl
theorem FoldOk.lens {c:Conf}{s:Trs}(h:FoldOk c s):s.1.length<=1000000/\s.2.1.length<=1000000/\s.2.2.length<=1000000:=by
 have:=h.t0.l1;have:=h.t1.l1;have:=h.t2.l1;omega
abbrev Ser:=List Lab×(Int×(Rw×(Trs×Slo)))
structure SerW (s:Ser):Prop where
 last:I64 s.2.1
 raw:RawW s.2.2.1
 trs:TrsW s.2.2.2.1
 opn:SloW s.2.2.2.2
def b0s (l:List Slo)(i:Int):Prop:=∀s∈l,0<s.2.1->s.1<i
noncomputable instance (l i):Decidable (b0s l i):=Classical.propDecidable _
structure Fresh (s:Ser):Prop where
 raw:s.2.2.1.2.2=[]
 opn:s.2.2.2.2=s0
 b0:b0s s.2.2.2.1.1 0
 b1:b0s s.2.2.2.1.2.1 0
 b2:b0s s.2.2.2.1.2.2 0
structure EndsP (c:Conf)(s:Ser):Prop where
 last:∃e,s.2.2.1.2.2.getLast? = some e/\e.1=s.2.1
 ol:s.2.2.2.2.2.2.2.1.1=s.2.1
 fit:FitsP s.2.2.2.2.2 c.2.1.1 s.2.2.2.2.1
 b0:b0s s.2.2.2.1.1 (s.2.1 / c.2.1.1)
 b1:b0s s.2.2.2.1.2.1 (s.2.1 / c.2.1.2.1)
 b2:b0s s.2.2.2.1.2.2 (s.2.1 / c.2.1.2.2)
structure SerOk (c:Conf)(s:Ser):Prop where
 fold:FoldOk c s.2.2.2.1
 lab:LabOk s.1
 raw:RawOk s.2.2.1 c.1
 st:(s.2.1 = -1/\Fresh s)\/(s.2.1 ≠ -1/\EndsP c s)
noncomputable instance (s):Decidable (Fresh s):=Classical.propDecidable _
noncomputable instance (c s):Decidable (EndsP c s):=Classical.propDecidable _
noncomputable instance (c s):Decidable (SerOk c s):=Classical.propDecidable _
theorem r1k (n:Nat){del:a0d×Unit->Option Bool}{p:Slo->Bool}(hd:∀x,del (x,())=some (p x))(l:List Slo)(hL:l.length<=1000000):i0l (n+2) l del=some (l.any p):=by
 rw[s0k,m0o];rcases l2b hd n l hL l [] a0b 0 l.length rfl rfl rfl (by unfold a0b;omega) with ⟨h1,h2⟩ | ⟨A,x,B,h1,h2,h3,h4⟩
 ·rw[h1];have:l.any p=false:=by rw[List.any_eq_false];intro x hx;simp[h2 x hx]
  rw[this];rfl
 ·rw[h4];have:l.any p=true:=List.any_eq_true.2 ⟨x,by rw[h1];simp,h3⟩;simp only[obs,j0z,this,Int.zero_add];rw[q2a (by omega)]
theorem e0k (n:Nat)(l:List Slo)(i:Int)(hL:l.length<=1000000):e0x (n+3) l i=some (!decide (b0s l i)):=by
 rw[g1e,r1k (p:=fun s=>decide (0<s.2.1/\i<=s.1)) n (fun x=>by
  show o0c (n+1+1) x i=_;rw[a1o]
  by_cases h1:0<x.2.1<;>by_cases h2:i<=x.1<;>simp[h1,h2]) l hL]
 simp only[obs];refine congrArg some ?_;by_cases h:b0s l i
 ·rw[q2a h];rw[List.any_eq_false.2]
  ·rfl
  ·intro x hx k;have:=of_decide_eq_true k;have:=h x hx this.1;omega
 ·rw[q1z h];have:∃x∈l,0<x.2.1/\i<=x.1:=Classical.byContradiction fun k=>h fun x hx hc=>by
   rcases Int.lt_or_le x.1 i with q | q
   ·exact q
   ·exact absurd ⟨x,hx,hc,q⟩ k
  obtain ⟨x,hx,hq⟩:=this;rw[List.any_eq_true.2 ⟨x,hx,q2a hq⟩];rfl
theorem f2x (n:Nat)(c:Conf){s:Ser}(hf:FoldOk c s.2.2.2.1):i1a (n+4) (c,s)=some (decide (Fresh s)):=by
 obtain ⟨l0,l1,l2⟩:=hf.lens;rw[s1s,s1v,e0k n _ _ l0,e0k n _ _ l1,e0k n _ _ l2];simp only[obs,Bool.not_not,tfd];by_cases h1:(s.2.2.1.2.2.length:Int)=0
 case neg=>rw[q0n h1,q1z (fun k:Fresh s=>h1 (by rw[k.raw];rfl))]
 rw[q0z h1];by_cases h2:s.2.2.2.2=s0
 case neg=>rw[q0n h2,q1z (fun k:Fresh s=>h2 k.opn)]
 rw[q0z h2];by_cases h3:b0s s.2.2.2.1.1 0
 case neg=>rw[q0n h3,q1z (fun k:Fresh s=>h3 k.b0)]
 rw[q0z h3];by_cases h4:b0s s.2.2.2.1.2.1 0
 case neg=>rw[q0n h4,q1z (fun k:Fresh s=>h4 k.b1)]
 rw[q0z h4];refine congrArg some (q2t.2 ⟨fun k=>⟨List.length_eq_zero_iff.1 (by omega),h2,h3,h4,k⟩,fun k=>k.b2⟩)
theorem k2s {c:Conf}{s:Ser}(hr:RawOk s.2.2.1 c.1){e:Ev}(he:s.2.2.1.2.2.getLast? = some e):EvOk e:=hr.f.ok e (List.mem_of_getLast? he)
theorem k2y (n:Nat)(c:Conf){s:Ser}(hf:FoldOk c s.2.2.2.1)(hr:RawOk s.2.2.1 c.1)(hw:SerW s):g1m (n+7) (c,s)=some (decide (EndsP c s)):=by
 obtain ⟨l0,l1,l2⟩:=hf.lens;have hg:=hf.cok.rng;have hlen:=hr.len;have hm1:=hr.m1;rw[x1r,raw_last (n+5) s.2.2.1 (by omega)];cases hl:s.2.2.1.2.2.getLast? with
 | none =>
  simp only[obs];rw[show (decide ((3:Int)=0))=false from rfl,tff,q1z];intro k;obtain ⟨e,he,_⟩:=k.last;rw[hl] at he;cases he
 | some e =>
  have heo:=k2s hr hl;simp only[obs,decide_true,tft,tfd,if_true];by_cases h1:e.1=s.2.1
  case neg =>
   rw[q0n h1,q1z];intro k;obtain ⟨e',he,hq⟩:=k.last;rw[hl] at he;injection he with he;subst he;exact h1 hq
  rw[q0z h1];by_cases h2:s.2.2.2.2.2.2.2.1.1=s.2.1
  case neg=>rw[q0n h2,q1z (fun k:EndsP c s=>h2 k.ol)]
  have q0:=n1p heo hg.w0.1;have q1:=n1p heo hg.w1.1;have q2:=n1p heo hg.w2.1;rw[h1] at q0 q1 q2;rw[q0z h2,s1h n hw.opn.c];simp only[obs,tfd,q0,q1,q2,e0k (n+3) _ _ l0,e0k (n+3) _ _ l1,e0k (n+3) _ _ l2,Bool.not_not,q0n (show ¬(c.2.1.1=0) by have:=hg.w0;omega),q0n (show ¬(c.2.1.2.1=0) by have:=hg.w1;omega),q0n (show ¬(c.2.1.2.2=0) by have:=hg.w2;omega)];by_cases h3:FitsP s.2.2.2.2.2 c.2.1.1 s.2.2.2.2.1
  case neg=>rw[q0n h3,q1z (fun k:EndsP c s=>h3 k.fit)]
  rw[q0z h3];by_cases h4:b0s s.2.2.2.1.1 (s.2.1 / c.2.1.1)
  case neg=>rw[q0n h4,q1z (fun k:EndsP c s=>h4 k.b0)]
  rw[q0z h4];by_cases h5:b0s s.2.2.2.1.2.1 (s.2.1 / c.2.1.2.1)
  case neg=>rw[q0n h5,q1z (fun k:EndsP c s=>h5 k.b1)]
  rw[q0z h5];refine congrArg some (q2t.2 ⟨fun k=>⟨⟨e,hl,h1⟩,h2,h3,h4,h5,k⟩,fun k=>k.b2⟩)
theorem z08 (p:Prop)[Decidable p]:((if p then (0:Int) else 8)=0)↔p:=by by_cases h:p<;>simp[h]
theorem i1h (n:Nat)(c:Conf){s:Ser}(hw:SerW s):y0p (n+10) c s=some (if SerOk c s then (some (c,s),0) else (none,2)):=by
 rw[l1e,g2d n c hw.trs,t0i (n+3),i2y (n+4) _ _ hw.raw];simp only[obs,tfn,tfd];by_cases h1:FoldOk c s.2.2.2.1
 case neg=>rw[q0n (mt (z02 _).1 h1),q0n (fun k:SerOk c s=>h1 k.fold)]
 by_cases h2:LabOk s.1
 case neg=>rw[q0z ((z02 _).2 h1),q0n (mt (z08 _).1 h2),q0n (fun k:SerOk c s=>h2 k.lab)]
 by_cases h3:RawOk s.2.2.1 c.1
 case neg=>rw[q0z ((z02 _).2 h1),q0z ((z08 _).2 h2),q0n (mt (z02 _).1 h3),q0n (fun k:SerOk c s=>h3 k.raw)]
 rw[q0z ((z02 _).2 h1),q0z ((z08 _).2 h2),q0z ((z02 _).2 h3),f2x (n+5) c h1,k2y (n+2) c h1 h3 hw];simp only[obs,tfd];by_cases h4:s.2.1 = -1
 ·rw[q0z h4];by_cases h5:Fresh s
  ·rw[q0z h5,q0z (⟨h1,h2,h3,.inl ⟨h4,h5⟩⟩:SerOk c s)]
  ·rw[q0n h5,q0z h4,q0n (fun k:SerOk c s=>by
    rcases k.st with q | q
    ·exact h5 q.2
    ·exact q.1 h4)]
 ·rw[q0n h4,q0n h4];by_cases h5:EndsP c s
  ·rw[q0z h5,q0z (⟨h1,h2,h3,.inr ⟨h4,h5⟩⟩:SerOk c s)]
  ·rw[q0n h5,q0n (fun k:SerOk c s=>by
    rcases k.st with q | q
    ·exact h4 q.1
    ·exact h5 q.2)]
theorem p0s {l:List Slo}{w:Int}(h:TierOk l w)(i:Int):b0s l i↔∀s∈tall l,s.1<i:=by
 constructor
 ·intro k s hs;have:=(tall_N h hs).n1;exact k s (q1i.1 hs).1 (by omega)
 ·intro k s hs hc;exact k s (q1i.2 ⟨hs,fun e=>by rw[e] at hc;simp[s0,z0] at hc⟩)
theorem j1n {l:List Slo}{w:Int}(h:TierOk l w):b0s l 0↔tall l=[]:=by
 rw[p0s h];constructor
 ·intro k;by_cases e:tall l=[]
  ·exact e
  ·obtain ⟨s,hs⟩:=List.exists_mem_of_ne_nil _ e;have:=(s1m h hs).1.i0;have:=k s hs;omega
 ·intro e s hs;rw[e] at hs;cases hs
theorem r15_l7_3 (n f:Nat)(s:Ser):g0z n (f+1) (s,(3:Int),())=some (.inl ()):=by
 rw[k0e,show (decide ((3:Int)<3))=false from rfl,tff]
theorem r15_l7 (n f:Nat)(c:Conf){s:Ser}(h:FoldOk c s.2.2.2.1):g0z (n+1) (f+4) (s,(0:Int),())=some (if b0s s.2.2.2.1.1 0/\b0s s.2.2.2.1.2.1 0/\b0s s.2.2.2.1.2.2 0 then .inl () else .inr 2):=by
 have n0:=j1n h.t0;have n1:=j1n h.t1;have n2:=j1n h.t2;have len:∀ {l:List Slo},((0:Int)<(tall l).length)↔tall l≠[]:=fun {l}=>by
  have:=List.length_pos_iff (l:=tall l);constructor
  ·intro k;exact this.1 (by omega)
  ·intro k;have:=this.2 k;omega
 rw[k0e,show (decide ((0:Int)<3))=true from rfl,tft,show (decide ((0:Int)=0))=true from rfl,tft,d1t n h.t0];simp only[obs,tfd];by_cases c0:b0s s.2.2.2.1.1 0
 case neg=>rw[q0z (len.2 (mt n0.2 c0)),q0n (fun k=>c0 k.1)]
 rw[q0n (fun k=>(len.1 k) (n0.1 c0)),show wrap .i64 ((0:Int)+1)=1 from rfl,k0e,show (decide ((1:Int)<3))=true from rfl,tft,show (decide ((1:Int)=0))=false from rfl,tff,show (decide ((1:Int)=1))=true from rfl,tft,d1t n h.t1];simp only[obs,tfd];by_cases c1:b0s s.2.2.2.1.2.1 0
 case neg=>rw[q0z (len.2 (mt n1.2 c1)),q0n (fun k=>c1 k.2.1)]
 rw[q0n (fun k=>(len.1 k) (n1.1 c1)),show wrap .i64 ((1:Int)+1)=2 from rfl,k0e,show (decide ((2:Int)<3))=true from rfl,tft,show (decide ((2:Int)=0))=false from rfl,tff,show (decide ((2:Int)=1))=false from rfl,tff,show (decide ((2:Int)=2))=true from rfl,tft,d1t n h.t2];simp only[obs,tfd];by_cases c2:b0s s.2.2.2.1.2.2 0
 case neg=>rw[q0z (len.2 (mt n2.2 c2)),q0n (fun k=>c2 k.2.2)]
 rw[q0n (fun k=>(len.1 k) (n2.1 c2)),show wrap .i64 ((2:Int)+1)=3 from rfl,r15_l7_3,q0z ⟨c0,c1,c2⟩]
theorem j2d (n:Nat)(c:Conf)(s:Ser)(at_:Int)(hw:1<=c.2.1.1)(hq:wrap .i64 (Int.tdiv s.2.1 c.2.1.1)=at_)(l:List Slo)(hL:l.length<=1000000):∀(rest pre:List Slo) (f:Nat) (ix len:Int),l=pre++rest->ix=pre.length->len=l.length->rest.length<f ->
  ((∀x∈rest,x.1<at_)->c0k n f (c,s,(0:Int),l,len,ix,())=some (.inl (c,s,(0:Int),())))/\(¬(∀x∈rest,x.1<at_)->c0k n f (c,s,(0:Int),l,len,ix,())=some (.inr 2)):=by
 intro rest;induction rest with
 | nil =>
  intro pre f ix len hl hi hn hf;obtain ⟨f,rfl⟩:=FSu hf;rw[e0t];exact ⟨fun _=>by simp only[tfd,q0n (idxe hl hi hn)],fun k=>absurd (by simp) k⟩
 | cons x rest ih =>
  intro pre f ix len hl hi hn hf;obtain ⟨f,rfl⟩:=FSu hf;rw[e0t,q2a (idx hl hi hn),tft,b0o hl hi,obs];rw[show (decide ((0:Int)=0))=true from rfl,tft];simp only[tfd,q0n (show ¬(c.2.1.1=0) by omega),hq,idxw hl hi (show l.length<=1000000000000 by omega)];have ih':=ih (pre++[x]) f (ix+1) len (idxl hl) (idxs hi) hn (by simp at hf;omega);by_cases h1:at_<=x.1
  ·rw[q0z h1];exact ⟨fun k=>by have:=k x (by simp);omega,fun _=>rfl⟩
  ·rw[q0n h1];exact ⟨fun k=>ih'.1 fun y hy=>k y (by simp[hy]),fun k=>ih'.2 fun q=>k fun y hy=>by
    rcases q2m.1 hy with rfl | hy
    ·omega
    ·exact q y hy⟩
theorem j2c (n:Nat)(c:Conf)(s:Ser)(at_:Int)(hw:1<=c.2.1.2.1)(hq:wrap .i64 (Int.tdiv s.2.1 c.2.1.2.1)=at_)(l:List Slo)(hL:l.length<=1000000):∀(rest pre:List Slo) (f:Nat) (ix len:Int),l=pre++rest->ix=pre.length->len=l.length->rest.length<f ->
  ((∀x∈rest,x.1<at_)->c0k n f (c,s,(1:Int),l,len,ix,())=some (.inl (c,s,(1:Int),())))/\(¬(∀x∈rest,x.1<at_)->c0k n f (c,s,(1:Int),l,len,ix,())=some (.inr 2)):=by
 intro rest;induction rest with
 | nil =>
  intro pre f ix len hl hi hn hf;obtain ⟨f,rfl⟩:=FSu hf;rw[e0t];exact ⟨fun _=>by simp only[tfd,q0n (idxe hl hi hn)],fun k=>absurd (by simp) k⟩
 | cons x rest ih =>
  intro pre f ix len hl hi hn hf;obtain ⟨f,rfl⟩:=FSu hf;rw[e0t,q2a (idx hl hi hn),tft,b0o hl hi,obs];rw[show (decide ((1:Int)=0))=false from rfl,tff,show (decide ((1:Int)=1))=true from rfl,tft];simp only[tfd,q0n (show ¬(c.2.1.2.1=0) by omega),hq,idxw hl hi (show l.length<=1000000000000 by omega)];have ih':=ih (pre++[x]) f (ix+1) len (idxl hl) (idxs hi) hn (by simp at hf;omega);by_cases h1:at_<=x.1
  ·rw[q0z h1];exact ⟨fun k=>by have:=k x (by simp);omega,fun _=>rfl⟩
  ·rw[q0n h1];exact ⟨fun k=>ih'.1 fun y hy=>k y (by simp[hy]),fun k=>ih'.2 fun q=>k fun y hy=>by
    rcases q2m.1 hy with rfl | hy
    ·omega
    ·exact q y hy⟩
theorem j2b (n:Nat)(c:Conf)(s:Ser)(at_:Int)(hw:1<=c.2.1.2.2)(hq:wrap .i64 (Int.tdiv s.2.1 c.2.1.2.2)=at_)(l:List Slo)(hL:l.length<=1000000):∀(rest pre:List Slo) (f:Nat) (ix len:Int),l=pre++rest->ix=pre.length->len=l.length->rest.length<f ->
  ((∀x∈rest,x.1<at_)->c0k n f (c,s,(2:Int),l,len,ix,())=some (.inl (c,s,(2:Int),())))/\(¬(∀x∈rest,x.1<at_)->c0k n f (c,s,(2:Int),l,len,ix,())=some (.inr 2)):=by
 intro rest;induction rest with
 | nil =>
  intro pre f ix len hl hi hn hf;obtain ⟨f,rfl⟩:=FSu hf;rw[e0t];exact ⟨fun _=>by simp only[tfd,q0n (idxe hl hi hn)],fun k=>absurd (by simp) k⟩
 | cons x rest ih =>
  intro pre f ix len hl hi hn hf;obtain ⟨f,rfl⟩:=FSu hf;rw[e0t,q2a (idx hl hi hn),tft,b0o hl hi,obs];rw[show (decide ((2:Int)=0))=false from rfl,tff,show (decide ((2:Int)=1))=false from rfl,tff,show (decide ((2:Int)=2))=true from rfl,tft];simp only[tfd,q0n (show ¬(c.2.1.2.2=0) by omega),hq,idxw hl hi (show l.length<=1000000000000 by omega)];have ih':=ih (pre++[x]) f (ix+1) len (idxl hl) (idxs hi) hn (by simp at hf;omega);by_cases h1:at_<=x.1
  ·rw[q0z h1];exact ⟨fun k=>by have:=k x (by simp);omega,fun _=>rfl⟩
  ·rw[q0n h1];exact ⟨fun k=>ih'.1 fun y hy=>k y (by simp[hy]),fun k=>ih'.2 fun q=>k fun y hy=>by
    rcases q2m.1 hy with rfl | hy
    ·omega
    ·exact q y hy⟩
theorem j2e (n f:Nat)(c:Conf)(s:Ser):g0e n (f+1) (c,s,(3:Int),())=some (.inl ()):=by
 rw[i0z,show (decide ((3:Int)<3))=false from rfl,tff]
theorem r15_l16 (n f:Nat)(c:Conf){s:Ser}(h:FoldOk c s.2.2.2.1){e:Ev}(he:EvOk e)(hes:e.1=s.2.1):g0e (n+1) (f+4) (c,s,(0:Int),()) =
  some (if b0s s.2.2.2.1.1 (s.2.1 / c.2.1.1)/\b0s s.2.2.2.1.2.1 (s.2.1 / c.2.1.2.1)/\b0s s.2.2.2.1.2.2 (s.2.1 / c.2.1.2.2) then .inl () else .inr 2):=by
 have n0:=p0s h.t0 (s.2.1 / c.2.1.1);have n1:=p0s h.t1 (s.2.1 / c.2.1.2.1);have n2:=p0s h.t2 (s.2.1 / c.2.1.2.2);have hg:=h.cok.rng;have q0:=n1p he hg.w0.1;have q1:=n1p he hg.w1.1;have q2:=n1p he hg.w2.1;rw[hes] at q0 q1 q2;obtain ⟨l0,l1,l2⟩:=h.lens;have t0:=o1z (l:=s.2.2.2.1.1);have t1:=o1z (l:=s.2.2.2.1.2.1);have t2:=o1z (l:=s.2.2.2.1.2.2);have k0:=j2d (n+1) c s _ hg.w0.1 q0 (tall s.2.2.2.1.1) (by omega) (tall s.2.2.2.1.1) [] a0b 0 ((tall s.2.2.2.1.1).length:Int) rfl rfl rfl (by unfold a0b;omega)
 have k1:=j2c (n+1) c s _ hg.w1.1 q1 (tall s.2.2.2.1.2.1) (by omega) (tall s.2.2.2.1.2.1) [] a0b 0 ((tall s.2.2.2.1.2.1).length:Int) rfl rfl rfl (by unfold a0b;omega);have k2:=j2b (n+1) c s _ hg.w2.1 q2 (tall s.2.2.2.1.2.2) (by omega) (tall s.2.2.2.1.2.2) [] a0b 0 ((tall s.2.2.2.1.2.2).length:Int) rfl rfl rfl (by unfold a0b;omega);rw[<-n0] at k0;rw[<-n1] at k1;rw[<-n2] at k2;rw[i0z,show (decide ((0:Int)<3))=true from rfl,tft,show (decide ((0:Int)=0))=true from rfl,tft,d1t n h.t0,obs];by_cases c0:b0s s.2.2.2.1.1 (s.2.1 / c.2.1.1)
 case neg=>rw[k0.2 c0,q0n (fun k=>c0 k.1)];rfl
 rw[k0.1 c0];simp only[obs,a0m];rw[show wrap .i64 ((0:Int)+1)=1 from rfl,i0z,show (decide ((1:Int)<3))=true from rfl,tft,show (decide ((1:Int)=0))=false from rfl,tff,show (decide ((1:Int)=1))=true from rfl,tft,d1t n h.t1,obs];by_cases c1:b0s s.2.2.2.1.2.1 (s.2.1 / c.2.1.2.1)
 case neg=>rw[k1.2 c1,q0n (fun k=>c1 k.2.1)];rfl
 rw[k1.1 c1];simp only[obs,a0m];rw[show wrap .i64 ((1:Int)+1)=2 from rfl,i0z,show (decide ((2:Int)<3))=true from rfl,tft,show (decide ((2:Int)=0))=false from rfl,tff,show (decide ((2:Int)=1))=false from rfl,tff,show (decide ((2:Int)=2))=true from rfl,tft,d1t n h.t2,obs];by_cases c2:b0s s.2.2.2.1.2.2 (s.2.1 / c.2.1.2.2)
 case neg=>rw[k2.2 c2,q0n (fun k=>c2 k.2.2)];rfl
 rw[k2.1 c2];simp only[obs,a0m];rw[show wrap .i64 ((2:Int)+1)=3 from rfl,j2e,q0z ⟨c0,c1,c2⟩]
theorem t1u (n:Nat)(c:Conf){s:Ser}(hw:SerW s):b1e (n+8) c s=some (if SerOk c s then 0 else 2):=by
 rw[t1v,b1k (n+4),b1n (n+5),j2g (n+5) _ _ hw.raw,j2f n c hw.trs];simp only[obs,tfn,tfd,s1v];by_cases h0:OkC c
 case neg=>rw[q0n (mt (z02 _).1 h0),q0n (fun k:SerOk c s=>h0 k.fold.cok)]
 by_cases h2:LabOk s.1
 case neg=>rw[q0z ((z02 _).2 h0),q0n (mt (z08 _).1 h2),q0n (fun k:SerOk c s=>h2 k.lab)]
 by_cases h3:RawOk s.2.2.1 c.1
 case neg=>rw[q0z ((z02 _).2 h0),q0z ((z08 _).2 h2),q0n (mt (z02 _).1 h3),q0n (fun k:SerOk c s=>h3 k.raw)]
 by_cases h1:FoldOk c s.2.2.2.1
 case neg=>rw[q0z ((z02 _).2 h0),q0z ((z08 _).2 h2),q0z ((z02 _).2 h3),q0n (mt (z02 _).1 h1),q0n (fun k:SerOk c s=>h1 k.fold)]
 have hlen:=h3.len;have hm1:=h3.m1;rw[q0z ((z02 _).2 h0),q0z ((z08 _).2 h2),q0z ((z02 _).2 h3),q0z ((z02 _).2 h1),show a0b=(2^70-4)+4 from by decide,r15_l7 (n+6) _ c h1,r12_last _ _ (by omega),b2w (n+2) hw.opn.c];by_cases h4:s.2.1 = -1
 ·rw[q0z h4];by_cases h5:(0:Int)<s.2.2.1.2.2.length
  ·rw[q0z h5,q0n (fun k:SerOk c s=>by
    rcases k.st with q | q
    ·rw[q.2.raw] at h5;simp at h5
    ·exact q.1 h4)]
  rw[q0n h5];by_cases h6:s.2.2.2.2=s0
  case neg=>rw[q0n h6,q0n (fun k:SerOk c s=>by
    rcases k.st with q | q
    ·exact h6 q.2.opn
    ·exact q.1 h4)]
  rw[q0z h6,obs];by_cases h7:b0s s.2.2.2.1.1 0/\b0s s.2.2.2.1.2.1 0/\b0s s.2.2.2.1.2.2 0
  ·rw[q0z h7,q0z (⟨h1,h2,h3,.inl ⟨h4,⟨List.length_eq_zero_iff.1 (by omega),h6,h7.1,h7.2.1,h7.2.2⟩⟩⟩:SerOk c s)];rfl
  ·rw[q0n h7,q0n (fun k:SerOk c s=>by
    rcases k.st with q | q
    ·exact h7 ⟨q.2.b0,q.2.b1,q.2.b2⟩
    ·exact q.1 h4)];rfl
 ·rw[q0n h4];have no:∀ {p:Prop},(EndsP c s->p)->¬p->(if SerOk c s then (0:Int) else 2)=2:=fun hp hn=>q0n (fun k:SerOk c s=>by
   rcases k.st with q | q
   ·exact h4 q.1
   ·exact hn (hp q.2))
  cases hl:s.2.2.1.2.2.getLast? with
  | none =>
   simp only[obs];rw[q0n (by decide),no (fun k=>k.last) (fun ⟨e,he,_⟩=>by rw[hl] at he;cases he)]
  | some e =>
   have heo:=k2s h3 hl;simp only[obs,if_true,tfd];by_cases h5:e.1=s.2.1
   case neg=>rw[q0n h5,no (fun k=>k.last) (fun ⟨e',he,hq⟩=>by rw[hl] at he;injection he with he;subst he;exact h5 hq)]
   rw[q0z h5];by_cases h6:FitsP s.2.2.2.2.2 c.2.1.1 s.2.2.2.2.1
   case neg=>rw[q0n h6,no (fun k=>k.fit) h6]
   rw[q0z h6];by_cases h7:s.2.2.2.2.2.2.2.1.1=s.2.1
   case neg=>rw[q0n h7,no (fun k=>k.ol) h7]
   rw[q0z h7,r15_l16 (n+6) _ c h1 heo h5,obs];by_cases h8:b0s s.2.2.2.1.1 (s.2.1 / c.2.1.1)/\b0s s.2.2.2.1.2.1 (s.2.1 / c.2.1.2.1)/\b0s s.2.2.2.1.2.2 (s.2.1 / c.2.1.2.2)
   ·rw[q0z h8,q0z (⟨h1,h2,h3,.inr ⟨h4,⟨⟨e,hl,h5⟩,h7,h6,h8.1,h8.2.1,h8.2.2⟩⟩⟩:SerOk c s)];rfl
   ·rw[q0n h8,no (fun k=>And.intro k.b0 (And.intro k.b1 k.b2)) h8];rfl
theorem nn {α:Type}{a b:α}(h:a=b):¬(a≠b):=fun k=>k h
def ser0:Ser:=([],(0,(r0w,(([],([],[])),s0))))
end Go.Proofs.YtagnkfbpgkckiaaGreat
namespace Go.Plim
def below (w:Int)(l:List Ev)(t:Int):List Ev:=l.filter fun e=>decide (e.1 / w<t / w)
structure EndsAt (l:List Ev)(t:Int):Prop where
 foll:Foll l
 le:∀e∈l,e.1<=t
 last:∃e∈l,e.1=t
end Go.Plim
namespace Go.Proofs.YtagnkfbpgkckiaaGreat
open Go.Flat Go.Plim
structure FInv (c:Conf)(s:Trs)(l:List Ev)(t:Int):Prop where
 ok:FoldOk c s
 i0:TierInv s.1 c.2.1.1 (below c.2.1.1 l t)
 i1:TierInv s.2.1 c.2.1.2.1 (below c.2.1.2.1 l t)
 i2:TierInv s.2.2 c.2.1.2.2 (below c.2.1.2.2 l t)
structure At (c:Conf)(s:Ser):Prop where
 l0:0<=s.2.1
 l1:s.2.1<35184372088832
theorem quo_at {t:Int}(ht:0<=t/\t<35184372088832){w:Int}(hw:1<=w):wrap .i64 (Int.tdiv t w)=t / w:=by
 have:0<=t / w:=Int.ediv_nonneg ht.1 (by omega);have:t / w<=t:=Int.ediv_le_self _ ht.1;rw[q0f ht.1,w64 (by omega) (by omega)]
structure SerL (s:Ser):Prop where
 l:s.1.length<=1000000
 r:s.2.2.1.2.2.length<=1000000
 a:s.2.2.2.1.1.length<=1000000
 b:s.2.2.2.1.2.1.length<=1000000
 d:s.2.2.2.1.2.2.length<=1000000
theorem f1d (n:Nat)(c:Conf){s:Ser}(hw:SerW s):p0d (n+11) c s=some (if SerOk c s then 0 else 2):=by
 rw[i1j,i1h n c hw];by_cases h:SerOk c s
 ·rw[q0z h,q0z h];rfl
 ·rw[q0n h,q0n h];rfl
theorem z0f (n:Nat)(a b:List Lab)(hL:a.length<=9223372036854775807):∀(ra rb pa pb:List Lab) (f:Nat) (ix len:Int),a=pa++ra->b=pb++rb->pa.length=pb.length->ra.length=rb.length->ix=pa.length->len=a.length->ra.length<f ->
  h0q n f (a,b,len,ix,())=some (if ra=rb then .inl () else .inr false):=by
 intro ra;induction ra with
 | nil =>
  intro rb pa pb f ix len ha hb hp hr hi hn hf;obtain ⟨f,rfl⟩:=FSu hf;have e:rb=[]:=List.length_eq_zero_iff.1 (by simpa using hr.symm);subst e;rw[m0p,q1z (idxe ha hi hn),tff,q0z rfl]
 | cons x ra ih =>
  intro rb pa pb f ix len ha hb hp hr hi hn hf;obtain ⟨f,rfl⟩:=FSu hf;cases rb with
  | nil=>simp at hr
  | cons y rb =>
   have hlen:=congrArg List.length ha;simp at hlen;rw[m0p,q2a (idx ha hi hn),tft,b0o ha hi,b0o hb (by omega)];simp only[obs,labEq];rw[w64 (x:=ix+1) (by omega) (by omega)];by_cases h:x=y
   ·subst h;simp only[decide_true,q2u,tff];rw[ih rb (pa++[x]) (pb++[x]) f (ix+1) len (idxl ha) (idxl hb) (by simp;omega) (by simpa using hr) (idxs hi) hn (by simp at hf;omega)];simp
   ·rw[q0n (by simp[h])];simp only[q1z h,q3e,tft]
theorem r0u (n:Nat)(a b:List Lab)(hL:a.length<=9223372036854775807):q0k (n+1) a b=some (decide (a=b)):=by
 rw[d1i];by_cases h:a.length=b.length
 ·rw[q2a (show ((a.length:Nat):Int)=(b.length:Nat) by omega)];simp only[q2u,tff];rw[z0f n a b hL a b [] [] a0b 0 _ rfl rfl rfl h rfl rfl (by unfold a0b;omega)];by_cases h':a=b
  ·rw[q0z h',q2a h'];rfl
  ·rw[q0n h',q1z h'];rfl
 ·rw[q1z (show ¬((a.length:Nat):Int)=(b.length:Nat) by omega),q1z (fun k:a=b=>h (by rw[k]))];rfl
theorem z0g (n:Nat)(a b:List Ev)(hL:a.length<=9223372036854775807):∀(ra rb pa pb:List Ev) (f:Nat) (ix len:Int),a=pa++ra->b=pb++rb->pa.length=pb.length->ra.length=rb.length->ix=pa.length->len=a.length->ra.length<f ->
  h0s n f (a,b,len,ix,())=some (if ra=rb then .inl () else .inr false):=by
 intro ra;induction ra with
 | nil =>
  intro rb pa pb f ix len ha hb hp hr hi hn hf;obtain ⟨f,rfl⟩:=FSu hf;have e:rb=[]:=List.length_eq_zero_iff.1 (by simpa using hr.symm);subst e;rw[m0q,q1z (idxe ha hi hn),tff,q0z rfl]
 | cons x ra ih =>
  intro rb pa pb f ix len ha hb hp hr hi hn hf;obtain ⟨f,rfl⟩:=FSu hf;cases rb with
  | nil=>simp at hr
  | cons y rb =>
   have hlen:=congrArg List.length ha;simp at hlen;rw[m0q,q2a (idx ha hi hn),tft,b0o ha hi,b0o hb (by omega)];simp only[obs,evEq];rw[w64 (x:=ix+1) (by omega) (by omega)];by_cases h:x=y
   ·subst h;simp only[decide_true,q2u,tff];rw[ih rb (pa++[x]) (pb++[x]) f (ix+1) len (idxl ha) (idxl hb) (by simp;omega) (by simpa using hr) (idxs hi) hn (by simp at hf;omega)];simp
   ·rw[q0n (by simp[h])];simp only[q1z h,q3e,tft]
theorem e1l (n:Nat)(a b:List Ev)(hL:a.length<=9223372036854775807):q0l (n+1) a b=some (decide (a=b)):=by
 rw[d1j];by_cases h:a.length=b.length
 ·rw[q2a (show ((a.length:Nat):Int)=(b.length:Nat) by omega)];simp only[q2u,tff];rw[z0g n a b hL a b [] [] a0b 0 _ rfl rfl rfl h rfl rfl (by unfold a0b;omega)];by_cases h':a=b
  ·rw[q0z h',q2a h'];rfl
  ·rw[q0n h',q1z h'];rfl
 ·rw[q1z (show ¬((a.length:Nat):Int)=(b.length:Nat) by omega),q1z (fun k:a=b=>h (by rw[k]))];rfl
theorem c1o (n:Nat)(a b:List Slo)(hL:a.length<=9223372036854775807):∀(ra rb pa pb:List Slo) (f:Nat) (ix len:Int),a=pa++ra->b=pb++rb->pa.length=pb.length->ra.length=rb.length->ix=pa.length->len=a.length->ra.length<f ->
  i0w n f (a,b,len,ix,())=some (if ra=rb then .inl () else .inr false):=by
 intro ra;induction ra with
 | nil =>
  intro rb pa pb f ix len ha hb hp hr hi hn hf;obtain ⟨f,rfl⟩:=FSu hf;have e:rb=[]:=List.length_eq_zero_iff.1 (by simpa using hr.symm);subst e;rw[o0a,q1z (idxe ha hi hn),tff,q0z rfl]
 | cons x ra ih =>
  intro rb pa pb f ix len ha hb hp hr hi hn hf;obtain ⟨f,rfl⟩:=FSu hf;cases rb with
  | nil=>simp at hr
  | cons y rb =>
   have hlen:=congrArg List.length ha;simp at hlen;rw[o0a,q2a (idx ha hi hn),tft,b0o ha hi,b0o hb (by omega)];simp only[obs,i2d];rw[w64 (x:=ix+1) (by omega) (by omega)];by_cases h:x=y
   ·subst h;simp only[decide_true,q2u,tff];rw[ih rb (pa++[x]) (pb++[x]) f (ix+1) len (idxl ha) (idxl hb) (by simp;omega) (by simpa using hr) (idxs hi) hn (by simp at hf;omega)];simp
   ·rw[q0n (by simp[h])];simp only[q1z h,q3e,tft]
theorem m0i (n:Nat)(a b:List Slo)(hL:a.length<=9223372036854775807):j0x (n+1) a b=some (decide (a=b)):=by
 rw[g1b];by_cases h:a.length=b.length
 ·rw[q2a (show ((a.length:Nat):Int)=(b.length:Nat) by omega)];simp only[q2u,tff];rw[c1o n a b hL a b [] [] a0b 0 _ rfl rfl rfl h rfl rfl (by unfold a0b;omega)];by_cases h':a=b
  ·rw[q0z h',q2a h'];rfl
  ·rw[q0n h',q1z h'];rfl
 ·rw[q1z (show ¬((a.length:Nat):Int)=(b.length:Nat) by omega),q1z (fun k:a=b=>h (by rw[k]))];rfl
theorem r1h (n:Nat)(a b:List Lab)(hL:a.length<=9223372036854775807):∀(ra rb pa pb:List Lab) (f:Nat) (ix len:Int),a=pa++ra->b=pb++rb->pa.length=pb.length->ra.length=rb.length->ix=pa.length->len=a.length->ra.length<f ->
  s0y n f (a,b,len,ix,())=some (if ra=rb then .inl () else .inr false):=by
 intro ra;induction ra with
 | nil =>
  intro rb pa pb f ix len ha hb hp hr hi hn hf;obtain ⟨f,rfl⟩:=FSu hf;have e:rb=[]:=List.length_eq_zero_iff.1 (by simpa using hr.symm);subst e;rw[y0d,q1z (idxe ha hi hn),tff,q0z rfl]
 | cons x ra ih =>
  intro rb pa pb f ix len ha hb hp hr hi hn hf;obtain ⟨f,rfl⟩:=FSu hf;cases rb with
  | nil=>simp at hr
  | cons y rb =>
   have hlen:=congrArg List.length ha;simp at hlen;rw[y0d,q2a (idx ha hi hn),tft,b0o ha hi,b0o hb (by omega)];simp only[obs,labEq];rw[w64 (x:=ix+1) (by omega) (by omega)];by_cases h:x=y
   ·subst h;simp only[decide_true,q2u,tff];rw[ih rb (pa++[x]) (pb++[x]) f (ix+1) len (idxl ha) (idxl hb) (by simp;omega) (by simpa using hr) (idxs hi) hn (by simp at hf;omega)];simp
   ·rw[q0n (by simp[h])];simp only[q1z h,q3e,tft]
theorem k1e (n:Nat)(a b:List Lab)(hL:a.length<=9223372036854775807):g1r (n+1) a b=some (decide (a=b)):=by
 rw[z1f];by_cases h:a.length=b.length
 ·rw[q2a (show ((a.length:Nat):Int)=(b.length:Nat) by omega)];simp only[q2u,tff];rw[r1h n a b hL a b [] [] a0b 0 _ rfl rfl rfl h rfl rfl (by unfold a0b;omega)];by_cases h':a=b
  ·rw[q0z h',q2a h'];rfl
  ·rw[q0n h',q1z h'];rfl
 ·rw[q1z (show ¬((a.length:Nat):Int)=(b.length:Nat) by omega),q1z (fun k:a=b=>h (by rw[k]))];rfl
theorem e1m (n:Nat)(a b:List Ev)(hL:a.length<=9223372036854775807):∀(ra rb pa pb:List Ev) (f:Nat) (ix len:Int),a=pa++ra->b=pb++rb->pa.length=pb.length->ra.length=rb.length->ix=pa.length->len=a.length->ra.length<f ->
  k0f n f (a,b,len,ix,())=some (if ra=rb then .inl () else .inr false):=by
 intro ra;induction ra with
 | nil =>
  intro rb pa pb f ix len ha hb hp hr hi hn hf;obtain ⟨f,rfl⟩:=FSu hf;have e:rb=[]:=List.length_eq_zero_iff.1 (by simpa using hr.symm);subst e;rw[p0l,q1z (idxe ha hi hn),tff,q0z rfl]
 | cons x ra ih =>
  intro rb pa pb f ix len ha hb hp hr hi hn hf;obtain ⟨f,rfl⟩:=FSu hf;cases rb with
  | nil=>simp at hr
  | cons y rb =>
   have hlen:=congrArg List.length ha;simp at hlen;rw[p0l,q2a (idx ha hi hn),tft,b0o ha hi,b0o hb (by omega)];simp only[obs,evEq];rw[w64 (x:=ix+1) (by omega) (by omega)];by_cases h:x=y
   ·subst h;simp only[decide_true,q2u,tff];rw[ih rb (pa++[x]) (pb++[x]) f (ix+1) len (idxl ha) (idxl hb) (by simp;omega) (by simpa using hr) (idxs hi) hn (by simp at hf;omega)];simp
   ·rw[q0n (by simp[h])];simp only[q1z h,q3e,tft]
theorem k1d (n:Nat)(a b:List Ev)(hL:a.length<=9223372036854775807):v0d (n+1) a b=some (decide (a=b)):=by
 rw[i1x];by_cases h:a.length=b.length
 ·rw[q2a (show ((a.length:Nat):Int)=(b.length:Nat) by omega)];simp only[q2u,tff];rw[e1m n a b hL a b [] [] a0b 0 _ rfl rfl rfl h rfl rfl (by unfold a0b;omega)];by_cases h':a=b
  ·rw[q0z h',q2a h'];rfl
  ·rw[q0n h',q1z h'];rfl
 ·rw[q1z (show ¬((a.length:Nat):Int)=(b.length:Nat) by omega),q1z (fun k:a=b=>h (by rw[k]))];rfl
theorem r1g (n:Nat)(a b:List Slo)(hL:a.length<=9223372036854775807):∀(ra rb pa pb:List Slo) (f:Nat) (ix len:Int),a=pa++ra->b=pb++rb->pa.length=pb.length->ra.length=rb.length->ix=pa.length->len=a.length->ra.length<f ->
  s0w n f (a,b,len,ix,())=some (if ra=rb then .inl () else .inr false):=by
 intro ra;induction ra with
 | nil =>
  intro rb pa pb f ix len ha hb hp hr hi hn hf;obtain ⟨f,rfl⟩:=FSu hf;have e:rb=[]:=List.length_eq_zero_iff.1 (by simpa using hr.symm);subst e;rw[y0b,q1z (idxe ha hi hn),tff,q0z rfl]
 | cons x ra ih =>
  intro rb pa pb f ix len ha hb hp hr hi hn hf;obtain ⟨f,rfl⟩:=FSu hf;cases rb with
  | nil=>simp at hr
  | cons y rb =>
   have hlen:=congrArg List.length ha;simp at hlen;rw[y0b,q2a (idx ha hi hn),tft,b0o ha hi,b0o hb (by omega)];simp only[obs,i2d];rw[w64 (x:=ix+1) (by omega) (by omega)];by_cases h:x=y
   ·subst h;simp only[decide_true,q2u,tff];rw[ih rb (pa++[x]) (pb++[x]) f (ix+1) len (idxl ha) (idxl hb) (by simp;omega) (by simpa using hr) (idxs hi) hn (by simp at hf;omega)];simp
   ·rw[q0n (by simp[h])];simp only[q1z h,q3e,tft]
theorem z0h (n:Nat)(a b:List Slo)(hL:a.length<=9223372036854775807):b1f (n+1) a b=some (decide (a=b)):=by
 rw[y1s];by_cases h:a.length=b.length
 ·rw[q2a (show ((a.length:Nat):Int)=(b.length:Nat) by omega)];simp only[q2u,tff];rw[r1g n a b hL a b [] [] a0b 0 _ rfl rfl rfl h rfl rfl (by unfold a0b;omega)];by_cases h':a=b
  ·rw[q0z h',q2a h'];rfl
  ·rw[q0n h',q1z h'];rfl
 ·rw[q1z (show ¬((a.length:Nat):Int)=(b.length:Nat) by omega),q1z (fun k:a=b=>h (by rw[k]))];rfl
noncomputable instance decSer (a b:Ser):Decidable (a=b):=Classical.propDecidable _
structure SerM (s:Ser):Prop where
 l:s.1.length<=9223372036854775807
 r:s.2.2.1.2.2.length<=9223372036854775807
 a:s.2.2.2.1.1.length<=9223372036854775807
 b:s.2.2.2.1.2.1.length<=9223372036854775807
 d:s.2.2.2.1.2.2.length<=9223372036854775807
theorem y0o (n:Nat)(a b:Ser)(h:SerM a):e0l (n+3) a b=some (decide (a=b)):=by
 rw[l1f,c1e,y1d,r0u n _ _ h.l,e1l n _ _ h.r,m0i (n+1) _ _ h.a,m0i (n+1) _ _ h.b,m0i (n+1) _ _ h.d];obtain ⟨a1,a2,⟨r1,r2,r3⟩,⟨t1,t2,t3⟩,a5⟩:=a;obtain ⟨b1,b2,⟨q1,q2,q3⟩,⟨u1,u2,u3⟩,b5⟩:=b;simp only[obs,i2d,tfd];by_cases h1:a1=b1
 case neg=>simp[h1]
 by_cases h2:a2=b2
 case neg=>simp[h1,h2]
 by_cases h3:r1=q1
 case neg=>simp[h1,h2,h3]
 by_cases h4:r2=q2
 case neg=>simp[h1,h2,h3,h4]
 by_cases h5:r3=q3
 case neg=>simp[h1,h2,h3,h4,h5]
 by_cases h6:t1=u1
 case neg=>simp[h1,h2,h3,h4,h5,h6]
 by_cases h7:t2=u2
 case neg=>simp[h1,h2,h3,h4,h5,h6,h7]
 by_cases h8:t3=u3
 case neg=>simp[h1,h2,h3,h4,h5,h6,h7,h8]
 by_cases h9:a5=b5
 case neg=>simp[h1,h2,h3,h4,h5,h6,h7,h8,h9]
 simp[h1,h2,h3,h4,h5,h6,h7,h8,h9]
theorem b2u (n:Nat)(a b:Ser)(h:SerM a):w0y (n+3) a b=some (decide (a=b)):=by
 rw[y1o,y1v,y1q,k1e (n+1) _ _ h.l,k1d n _ _ h.r,z0h n _ _ h.a,z0h n _ _ h.b,z0h n _ _ h.d];obtain ⟨a1,a2,⟨r1,r2,r3⟩,⟨t1,t2,t3⟩,a5⟩:=a;obtain ⟨b1,b2,⟨q1,q2,q3⟩,⟨u1,u2,u3⟩,b5⟩:=b;simp only[obs,i2d,tfd,tfn];by_cases h1:a1=b1
 case neg=>simp[h1]
 by_cases h2:a2=b2
 case neg=>simp[h1,h2]
 by_cases h3:r1=q1
 case neg=>simp[h1,h2,h3]
 by_cases h4:r2=q2
 case neg=>simp[h1,h2,h3,h4]
 by_cases h5:r3=q3
 case neg=>simp[h1,h2,h3,h4,h5]
 by_cases h6:t1=u1
 case neg=>simp[h1,h2,h3,h4,h5,h6]
 by_cases h7:t2=u2
 case neg=>simp[h1,h2,h3,h4,h5,h6,h7]
 by_cases h8:t3=u3
 case neg=>simp[h1,h2,h3,h4,h5,h6,h7,h8]
 by_cases h9:a5=b5
 case neg=>simp[h1,h2,h3,h4,h5,h6,h7,h8,h9]
 simp[h1,h2,h3,h4,h5,h6,h7,h8,h9]
def oldV (now w m:Int):Int×Int:=if OfP now w/\1<=m/\m<=4096 then (if 0<now / w+1-m then now / w+1-m else 0,0) else (0,1)
theorem h2g (n:Nat)(now w m:Int):h1o (n+4) now w m=some (oldV now w m):=by
 rw[s1c,wi_of n now w,s1a];unfold oldV;by_cases h:OfP now w
 case neg=>rw[q0n h,q0n (fun k=>h k.1)];rfl
 rw[q0z h];have hq:=b1r h;simp only[obs,decide_true,q2u,tff];by_cases h1:1<=m
 case neg=>simp[h,h1]
 by_cases h2:m<=4096
 case neg=>simp[h,h1,h2]
 rw[w64 (x:=now / w+1) (by omega) (by omega),w64 (x:=now / w+1-m) (by omega) (by omega)];simp[h,h1,h2]
theorem f2b (n:Nat)(now w m:Int):d1v (n+3) now w m=some (oldV now w m):=by
 rw[p1u,b2y n now w];unfold oldV;by_cases h:OfP now w
 case neg=>rw[q0n h,q0n (fun k=>h k.1)];rfl
 rw[q0z h];have hq:=b1r h;simp only[obs,decide_true,q2u,tff,tfd];by_cases h1:m<1
 ·rw[q0z h1,q0n (by omega)]
 rw[q0n h1];by_cases h2:4096<m
 ·rw[q0z h2,q0n (by omega)]
 rw[q0n h2,w64 (x:=now / w-m) (by omega) (by omega),w64 (x:=now / w-m+1) (by omega) (by omega),q0z (show OfP now w/\1<=m/\m<=4096 from ⟨h,by omega,by omega⟩)];have e:(if now / w-m+1<0 then (0:Int) else now / w-m+1)=if 0<now / w+1-m then now / w+1-m else 0:=by
  split<;>split<;>omega
 rw[e]
noncomputable def e1i (t now w m:Int):Bool:=decide (OfP t w/\(oldV now w m).2=0/\t / w<(oldV now w m).1)
theorem x1d (n:Nat)(t now w m:Int):h1p (n+5) t now w m=some (e1i t now w m):=by
 rw[d2z,wi_of (n+1) t w,h2g n now w m];unfold e1i;simp only[obs,tfd];by_cases h:OfP t w
 case neg=>rw[q0n h,q0n (by simp),q1z (fun k=>h k.1)]
 rw[q0z h,q0z rfl];by_cases h1:(oldV now w m).2=0
 ·rw[q0z h1];exact congrArg some (q2t.2 ⟨fun k=>⟨h,h1,k⟩,fun k=>k.2.2⟩)
 ·rw[q0n h1,q1z (fun k=>h1 k.2.1)]
theorem p1s (n:Nat)(t now w m:Int):b1m (n+4) t now w m=some (e1i t now w m):=by
 rw[z1a,b2y (n+1) t w,f2b n now w m];unfold e1i;simp only[obs,tfd];by_cases h:OfP t w
 case neg=>rw[q0n h,q0n (by simp),q1z (fun k=>h k.1)]
 rw[q0z h,q0z rfl];by_cases h1:(oldV now w m).2=0
 ·rw[q0z h1];exact congrArg some (q2t.2 ⟨fun k=>⟨h,h1,k⟩,fun k=>k.2.2⟩)
 ·rw[q0n h1,q1z (fun k=>h1 k.2.1)]
noncomputable def a2s (c:Conf)(last now:Int):Bool :=
 decide (OkC c)&&(e1i last now c.2.1.1 c.2.2.1.1&&(e1i last now c.2.1.2.1 c.2.2.1.2.1&&e1i last now c.2.1.2.2 c.2.2.1.2.2))
theorem x1x (n:Nat)(c:Conf)(last now:Int):y0q (n+6) c last now=some (a2s c last now):=by
 rw[l1g,e1o (n+2) c,x1d n,x1d n,x1d n];unfold a2s;by_cases h:OkC c
 case neg=>rw[q0n h,q1z h];rfl
 rw[q0z h,q2a h];simp only[obs,decide_true,tft,Bool.true_and];cases e1i last now c.2.1.1 c.2.2.1.1<;>cases e1i last now c.2.1.2.1 c.2.2.1.2.1<;>cases e1i last now c.2.1.2.2 c.2.2.1.2.2<;>rfl
theorem r15_dead (n:Nat)(c:Conf)(last now:Int):p1q (n+5) c last now=some (a2s c last now):=by
 rw[y1p,b1k (n+1) c,p1s n,p1s n,p1s n];unfold a2s;by_cases h:OkC c
 case neg=>rw[q0n h,q1z h];rfl
 rw[q0z h,q2a h];simp only[obs,decide_true,q2u,tff,Bool.true_and];cases e1i last now c.2.1.1 c.2.2.1.1<;>cases e1i last now c.2.1.2.1 c.2.2.1.2.1<;>cases e1i last now c.2.1.2.2 c.2.2.1.2.2<;>rfl
abbrev Sta:=Conf×(Int×(Int×List Ser))
structure StaW (s:Sta):Prop where
 len:s.2.2.2.length<=9223372036854775807
 ser:∀x∈s.2.2.2,SerW x/\SerM x
def Whole (s:Sta):Prop:=OkC s.1/\(s.2.2.2.length:Int)=s.1.2.2.2.1
noncomputable instance (s):Decidable (Whole s):=Classical.propDecidable _
def LvX (s:Sta)(x:Ser):Prop:=x≠ser0/\(s.2.2.1 = -1\/a2s s.1 x.2.1 s.2.2.1=false)
noncomputable instance (s x):Decidable (LvX s x):=Classical.propDecidable _
def t0r (t:Int):Prop:=0<=t/\t<35184372088832
instance (t):Decidable (t0r t):=by unfold t0r;infer_instance
def Clock (s:Sta):Prop:=t0r s.2.1/\(s.2.2.1 = -1\/t0r s.2.2.1)/\s.2.2.1<=s.2.1
instance (s):Decidable (Clock s):=by unfold Clock;infer_instance
def mk (s:Sta):Int:=s.2.1 / s.1.2.1.1*s.1.2.1.1
def Twin (s:Sta)(i:Nat)(x:Ser):Prop:=LvX s x/\∃k,k<i/\∃y,s.2.2.2[k]? = some y/\LvX s y/\y.1=x.1
noncomputable instance (s i x):Decidable (Twin s i x):=Classical.propDecidable _
def j0s (s:Sta)(i:Nat)(x:Ser):Prop:=x=ser0\/(SerOk s.1 x/\0<=x.2.1/\x.2.1<mk s+s.1.2.1.1/\¬Twin s i x)
noncomputable instance (s i x):Decidable (j0s s i x):=Classical.propDecidable _
structure StaOk (s:Sta):Prop where
 whole:Whole s
 clock:Clock s
 right:∀(i:Nat) x,s.2.2.2[i]? = some x->j0s s i x
noncomputable instance (s):Decidable (StaOk s):=Classical.propDecidable _
theorem Whole.len {s:Sta}(h:Whole s):s.2.2.2.length<=65536:=by
 have:=h.1.rng.cap;have:=h.2;omega
theorem r0x {α:Type}{l:List α}{i:Nat}{x:α}(h:l[i]? = some x):at? l (i:Int)=some x:=by
 unfold at?;rw[q2a (show (0:Int)<=(i:Int) by omega),q2i];exact h
theorem StaW.at {s:Sta}(h:StaW s){i:Nat}{x:Ser}(hx:s.2.2.2[i]? = some x):SerW x/\SerM x:=h.ser x (List.mem_of_getElem? hx)
theorem b2p:SerM ser0:=⟨by simp[ser0],by simp[ser0,r0w],by simp[ser0],by simp[ser0],by simp[ser0]⟩
theorem b2k (n:Nat){x:Ser}(h:SerM x):a1b (n+4) x=some (decide (x=ser0)):=by
 have:=y0o n x ser0 h;rw[s1p];have e:e0l (n+3) x ([],((0:Int),(((0:Int),((0:Int),[])),(([],([],[])),((0:Int),z0)))))=some (decide (x=ser0)):=this
 change a0a (e0l (n+3) x ([],((0:Int),(((0:Int),((0:Int),[])),(([],([],[])),((0:Int),z0)))))) _=_
 rw[e];rfl
theorem i1t (n:Nat){x:Ser}(h:SerM x):u0y (n+4) x=some (decide (x=ser0)):=by
 have:=b2u n x ser0 h;rw[t1r];have e:w0y (n+3) x ([],((0:Int),(((0:Int),((0:Int),[])),(([],([],[])),((0:Int),z0)))))=some (decide (x=ser0)):=this
 change a0a (w0y (n+3) x ([],((0:Int),(((0:Int),((0:Int),[])),(([],([],[])),((0:Int),z0)))))) _=_
 rw[e];rfl
theorem b2j (n:Nat){s:Sta}{i:Nat}{x:Ser}(hx:s.2.2.2[i]? = some x)(hm:SerM x):l0k (n+7) s (i:Int)=some (decide (LvX s x)):=by
 rw[d1g,r0x hx,obs,b2k (n+2) hm,obs,tfn,tfd,x1x n];by_cases h:x=ser0
 ·rw[q0z h,q1z (fun k:LvX s x=>k.1 h)]
 rw[q0n h,tfd];by_cases h1:s.2.2.1 = -1
 ·rw[q0z h1,q2a (show LvX s x from ⟨h,.inl h1⟩)]
 ·rw[q0n h1];cases hd:a2s s.1 x.2.1 s.2.2.1
  ·rw[q2a (show LvX s x from ⟨h,.inr hd⟩)];rfl
  ·rw[q1z (fun k:LvX s x=>by rcases k.2 with k | k;exact h1 k;rw[hd] at k;cases k)];rfl
theorem b1b (n:Nat){s:Sta}{i:Nat}{x:Ser}(hx:s.2.2.2[i]? = some x)(hm:SerM x):b1c (n+6) s (i:Int)=some (decide (LvX s x)):=by
 rw[t1q,r0x hx,obs,i1t (n+1) hm,obs,tfn,tfd,obs,r15_dead n];by_cases h:x=ser0
 ·rw[q0z h,q1z (fun k:LvX s x=>k.1 h)]
 rw[q0n h,tfd];by_cases h1:s.2.2.1 = -1
 ·rw[q0z h1,q2a (show LvX s x from ⟨h,.inl h1⟩)]
 ·rw[q0n h1];cases hd:a2s s.1 x.2.1 s.2.2.1
  ·rw[q2a (show LvX s x from ⟨h,.inr hd⟩)];rfl
  ·rw[q1z (fun k:LvX s x=>by rcases k.2 with k | k;exact h1 k;rw[hd] at k;cases k)];rfl
theorem place_l (n:Nat)(is:(Int×Unit)->Option Bool)(p:Nat->Bool)(L:Nat)(hL:L<=1000000)(his:∀k:Nat,k<L->is ((k:Int),())=some (p k)):∀(d k f:Nat),k+d=L->d<f ->
  (∃m:Nat,k<=m/\m<L/\p m=true/\(∀j,k<=j->j<m->p j=false)/\d0k n f (is,(L:Int),(k:Int),())=some (.inr (m:Int))) \/
  ((∀j,k<=j->j<L->p j=false)/\d0k n f (is,(L:Int),(k:Int),())=some (.inl ())):=by
 intro d;induction d with
 | zero =>
  intro k f hk hf;obtain ⟨f,rfl⟩:∃g,f=g+1:=⟨f-1,by omega⟩;refine .inr ⟨fun j h1 h2=>by omega,?_⟩;rw[m0n,q1z (by omega),tff]
 | succ d ih =>
  intro k f hk hf;obtain ⟨f,rfl⟩:∃g,f=g+1:=⟨f-1,by omega⟩;rw[m0n,q2a (by omega),tft,his k (by omega),obs];cases hp:p k
  ·rw[tff,w64 (by omega) (by omega),show ((k:Int)+1)=((k+1:Nat):Int) by omega];rcases ih (k+1) f (by omega) (by omega) with ⟨m,h1,h2,h3,h4,h5⟩ | ⟨h1,h2⟩
   ·exact .inl ⟨m,by omega,h2,h3,fun j q1 q2=>by
     rcases Nat.lt_or_ge k j with q | q
     ·exact h4 j (by omega) q2
     ·rw[show j=k by omega];exact hp,h5⟩
   ·exact .inr ⟨fun j q1 q2=>by
     rcases Nat.lt_or_ge k j with q | q
     ·exact h1 j (by omega) q2
     ·rw[show j=k by omega];exact hp,h2⟩
  ·rw[tft];exact .inl ⟨k,q2e _,by omega,hp,fun j q1 q2=>by omega,rfl⟩
theorem w1d (n:Nat)(s:Sta)(is:(Int×Unit)->Option Bool)(p:Nat->Bool)(hL:s.2.2.2.length<=1000000)(his:∀k:Nat,k<s.2.2.2.length->is ((k:Int),())=some (p k)) :
  (∃m:Nat,m<s.2.2.2.length/\p m=true/\(∀j,j<m->p j=false)/\i0r (n+1) s is=some (m:Int)) \/
  ((∀j,j<s.2.2.2.length->p j=false)/\i0r (n+1) s is=some (-1)):=by
 rw[d1f];rcases place_l n is p _ hL his s.2.2.2.length 0 a0b (by omega) (by unfold a0b;omega) with ⟨m,h1,h2,h3,h4,h5⟩ | ⟨h1,h2⟩
 ·refine .inl ⟨m,h2,h3,fun j q=>h4 j (by omega) q,?_⟩;have h5':d0k n a0b (is,(s.2.2.2.length:Int),(0:Int),())=some (.inr (m:Int)):=h5;rw[h5'];rfl
 ·refine .inr ⟨fun j q=>h1 j (by omega) q,?_⟩;have h2':d0k n a0b (is,(s.2.2.2.length:Int),(0:Int),())=some (.inl ()):=h2;rw[h2'];rfl
theorem f2v (n:Nat)(a b:List Lab)(h:a.length<=9223372036854775807):x0f (n+2) a b=some (decide (a=b)):=by
 rw[c1e,r0u n a b h];rfl
def IsTw (s:Sta)(i k:Nat)(x:Ser):Prop:=k=i\/∃y,s.2.2.2[k]? = some y/\LvX s y/\y.1=x.1
noncomputable instance (s i k x):Decidable (IsTw s i k x):=Classical.propDecidable _
theorem st_twin (n:Nat){s:Sta}(hw:StaW s)(hL:s.2.2.2.length<=1000000){i:Nat}{x:Ser}(hx:s.2.2.2[i]? = some x):s0g (n+9) s (i:Int)=some (decide (Twin s i x)):=by
 have hil:i<s.2.2.2.length:=(q2q.1 hx).1;have hm:=(hw.at hx).2;rw[f1z];have his:∀k:Nat,k<s.2.2.2.length->(fun y0:Int×Unit=>g0y (n+8) y0.1 (i:Int) s) ((k:Int),())=some (decide (IsTw s i k x)):=by
  intro k hk;have hy:s.2.2.2[k]? = some s.2.2.2[k]:=q2b hk;generalize s.2.2.2[k]=y at hy;have hmy:=(hw.at hy).2;show g0y (n+8) (k:Int) (i:Int) s=_;rw[a1a,tfd,b2j n hy hmy,obs,r0x hy,obs,r0x hx,obs,f2v (n+5) _ _ hmy.l,obs,tfd];by_cases h1:k=i
  ·rw[q0z (by rw[h1]),q2a (show IsTw s i k x from .inl h1)]
  rw[q0n (by omega)];by_cases h2:LvX s y
  ·rw[q0z h2];refine congrArg some (q2t.2 ⟨fun h3 => .inr ⟨y,hy,h2,h3⟩,fun h3 => ?_⟩);rcases h3 with h3 | ⟨z,z1,z2,z3⟩
   ·exact absurd h3 h1
   ·rw[hy] at z1;cases z1;exact z3
  ·rw[q0n h2,q1z];rintro (h3 | ⟨z,z1,z2,z3⟩)
   ·exact h1 h3
   ·rw[hy] at z1;cases z1;exact h2 z2
 rcases w1d (n+7) s (fun y0:Int×Unit=>g0y (n+8) y0.1 (i:Int) s) (fun k=>decide (IsTw s i k x)) hL his with ⟨m,h1,h2,h3,h4⟩ | ⟨h1,h2⟩
 ·rw[h4,obs,tfd,b2j (n+1) hx hm];have h2:=of_decide_eq_true h2;have hmi:m<=i:=by
   rcases Nat.lt_or_ge i m with q | q
   ·have:=of_decide_eq_false (h3 i q);exact absurd (.inl rfl) this
   ·exact q
  by_cases q:m<i
  ·rw[q0z (by omega),obs];refine congrArg some (q2t.2 ⟨fun k=>⟨k,m,q,?_⟩,fun k=>k.1⟩);exact h2.resolve_left (by omega)
  ·rw[q0n (by omega),q1z];rintro ⟨k1,k,k2,k3⟩;exact of_decide_eq_false (h3 k (by omega)) (.inr k3)
 ·exact absurd (.inl rfl) (of_decide_eq_false (h1 i hil))
theorem c1b {s:Sta}(h:t0r s.2.1)(hw:1<=s.1.2.1.1/\s.1.2.1.1<=1099511627776):0<=mk s/\mk s<=s.2.1/\s.2.1<mk s+s.1.2.1.1/\s.2.1-s.2.1 % s.1.2.1.1=mk s:=by
 have e:=Int.mul_ediv_add_emod s.2.1 s.1.2.1.1;have e1:=Int.emod_nonneg s.2.1 (show s.1.2.1.1≠0 by omega);have e2:=Int.emod_lt_of_pos s.2.1 (show 0<s.1.2.1.1 by omega);rw[Int.mul_comm] at e;have e3:0<=mk s:=Int.mul_nonneg (Int.ediv_nonneg h.1 (by omega)) (by omega);unfold mk at *
 exact ⟨e3,by omega,by omega,by omega⟩
theorem st_mark (n:Nat){s:Sta}(h:t0r s.2.1)(hw:1<=s.1.2.1.1/\s.1.2.1.1<=1099511627776):s0h (n+1) s=some (mk s):=by
 have:=c1b h hw;have:=h.1;have:=h.2;rw[g1a,tfd,q0n (by omega),i0i h.1,w64 (by omega) (by omega),(c1b h hw).2.2.2]
theorem st_right (n:Nat){s:Sta}(hw:StaW s)(hh:Whole s)(ht:t0r s.2.1){i:Nat}{x:Ser}(hx:s.2.2.2[i]? = some x):q0g (n+12) s (i:Int)=some (decide (j0s s i x)):=by
 have hm:=hw.at hx;have hr:=hh.1.rng;have hL:=hh.len;have hmk:=c1b ht hr.w0;have ht1:=ht.1;have ht2:=ht.2;have hw0:=hr.w0;obtain ⟨m1,m2,m3,m4⟩:=hmk;rw[d1e,r0x hx,obs,b2k (n+7) hm.2,obs,tfd,f1d n s.1 hm.1,obs,st_mark (n+10) ht hr.w0,obs,w64 (by omega) (by omega),st_twin (n+2) hw (by omega) hx,obs];simp only[tfd];by_cases h0:x=ser0
 ·rw[q0z h0,q2a (show j0s s i x from .inl h0)]
 rw[q0n h0];by_cases h1:SerOk s.1 x
 case neg=>rw[q0n h1,q0n (by decide),q1z (fun q:j0s s i x=>by rcases q with k | k;exact h0 k;exact h1 k.1)]
 rw[q0z h1,q0z rfl];by_cases h2:0<=x.2.1
 case neg=>rw[q0n h2,q1z (fun q:j0s s i x=>by rcases q with k | k;exact h0 k;exact h2 k.2.1)]
 rw[q0z h2];by_cases h3:x.2.1<mk s+s.1.2.1.1
 case neg=>rw[q0n h3,q1z (fun q:j0s s i x=>by rcases q with k | k;exact h0 k;exact h3 k.2.2.1)]
 rw[q0z h3];by_cases h4:Twin s i x
 ·rw[q2a h4,q1z (fun q:j0s s i x=>by rcases q with k | k;exact h0 k;exact k.2.2.2 h4)];rfl
 ·rw[q1z h4,q2a (show j0s s i x from .inr ⟨h1,h2,h3,h4⟩)];rfl
def sta0:Sta:=(((0:Int),(((0:Int),((0:Int),(0:Int))),(((0:Int),((0:Int),(0:Int))),((0:Int),(0:Int))))),((0:Int),((0:Int),[])))
theorem st_open (n:Nat)(s:Sta):p1a (n+4) s=some (if Whole s then (s,0) else (sta0,2)):=by
 rw[x1p,e1o n s.1,obs,tfn,tfd,tfn,tfd];by_cases h:OkC s.1
 case neg=>rw[q0n h,q0n (show ¬((2:Int)=0) by decide),q0n (fun k:Whole s=>h k.1)];rfl
 rw[q0z h,q0z rfl];by_cases h1:(s.2.2.2.length:Int)=s.1.2.2.2.1
 ·rw[q0z h1,q0z (show Whole s from ⟨h,h1⟩)]
 ·rw[q0n h1,q0n (fun k:Whole s=>h1 k.2)];rfl
theorem i2c (n:Nat)(t:Int):g1l (n+1) t=some (decide (t0r t)):=by
 rw[x1o,tfd];by_cases h:0<=t
 ·rw[q0z h];exact congrArg some (q2t.2 ⟨fun k=>⟨h,k⟩,fun k=>k.2⟩)
 ·rw[q0n h,q1z (fun k:t0r t=>h k.1)]
theorem u0x (n:Nat)(t:Int):b1a (n+1) t=some (decide (t0r t)):=by
 rw[y1l,tfd];by_cases h:0<=t
 ·rw[q0z h];exact congrArg some (q2t.2 ⟨fun k=>⟨h,k⟩,fun k=>k.2⟩)
 ·rw[q0n h,q1z (fun k:t0r t=>h k.1)]
theorem st_clock (n:Nat)(s:Sta):q0h (n+2) s=some (decide (Clock s)):=by
 rw[d1h,i2c n,i2c n,obs,obs];simp only[tfd];by_cases h:t0r s.2.1
 case neg=>rw[q0n h,q1z (fun k:Clock s=>h k.1)]
 rw[q0z h];by_cases h1:s.2.2.1 = -1
 ·rw[q0z h1];exact congrArg some (q2t.2 ⟨fun k=>⟨h,.inl h1,k⟩,fun k=>k.2.2⟩)
 rw[q0n h1];by_cases h2:t0r s.2.2.1
 ·rw[q0z h2];exact congrArg some (q2t.2 ⟨fun k=>⟨h,.inr h2,k⟩,fun k=>k.2.2⟩)
 ·rw[q0n h2,q1z (fun k:Clock s=>by rcases k.2.1 with q | q;exact h1 q;exact h2 q)]
def Wrong (s:Sta)(k:Nat):Prop:=∃x,s.2.2.2[k]? = some x/\¬j0s s k x
noncomputable instance (s k):Decidable (Wrong s k):=Classical.propDecidable _
theorem s1q (n:Nat){s:Sta}(hw:StaW s):a1c (n+14) s=some (if StaOk s then 0 else 2):=by
 rw[s1r,st_open (n+9) s,obs,tfn,tfd];by_cases h:Whole s
 case neg=>rw[q0n h,q0n (show ¬((sta0,(2:Int)).2=0) by decide),q0n (fun k:StaOk s=>h k.whole)]
 rw[q0z h,q0z rfl,st_clock (n+11) s,obs,tfn,tfd];by_cases h1:Clock s
 case neg=>rw[q0n h1,q0n (fun k:StaOk s=>h1 k.clock)]
 rw[q0z h1];have hL:=h.len;have his:∀k:Nat,k<s.2.2.2.length->(fun y2:Int×Unit=>g0a (n+13) y2.1 s) ((k:Int),())=some (decide (Wrong s k)):=by
  intro k hk;have hy:s.2.2.2[k]? = some s.2.2.2[k]:=q2b hk;generalize s.2.2.2[k]=y at hy;show g0a (n+13) (k:Int) s=_;rw[l1d,st_right n hw h h1.1 hy,obs];by_cases q:j0s s k y
  ·rw[q2a q,q1z (fun z:Wrong s k=>by obtain ⟨x,x1,x2⟩:=z;rw[hy] at x1;cases x1;exact x2 q)];rfl
  ·rw[q1z q,q2a (show Wrong s k from ⟨y,hy,q⟩)];rfl
 rcases w1d (n+12) s (fun y2:Int×Unit=>g0a (n+13) y2.1 s) (fun k=>decide (Wrong s k)) (by omega) his with ⟨m,q1,q2,q3,q4⟩ | ⟨q1,q2⟩
 ·rw[show (fun y2:Int×Unit=>g0a (n+13) y2.1 (s,(0:Int)).1)=fun y2:Int×Unit=>g0a (n+13) y2.1 s from rfl];obtain ⟨x,x1,x2⟩:=of_decide_eq_true q2;rw[q4,obs,tfd,q0z (by omega),q0n (fun k:StaOk s=>x2 (k.right m x x1))]
 ·rw[show (fun y2:Int×Unit=>g0a (n+13) y2.1 (s,(0:Int)).1)=fun y2:Int×Unit=>g0a (n+13) y2.1 s from rfl];rw[q2,obs,tfd,q0n (by decide),q0z];refine ⟨h,h1,fun i x hx => ?_⟩;have:=of_decide_eq_false (q1 i (q2q.1 hx).1);exact Decidable.byContradiction fun k=>this ⟨x,hx,k⟩
def cutB {α:Type}(m:Nat)(f:α->List UInt8)(l:List α):List (List UInt8):=(c0r l.length m l).map fun p=>padB (p.flatMap f) 512
def cutS (s:List UInt8):List (List UInt8):=(c0r s.length 512 s).map fun p=>padB p 512
theorem g1y {α:Type}{m:Nat}{f:α->List UInt8}{l:List α}:(cutB m f l).length=(c0r l.length m l).length:=by simp[cutB]
theorem n0q {α:Type}{m:Nat}(hm:1<=m)(xs:List α):(c0r xs.length m xs).length<=xs.length:=by
 apply Nat.le_of_not_lt;intro h;have:=(n0r hm xs xs.length).1 h;have:xs.length*1<=xs.length*m:=Nat.mul_le_mul_left _ hm;omega
theorem k1k {α:Type}{m:Nat}(hm:1<=m){xs:List α}{p:List α}(h:p∈c0r xs.length m xs):p.length<=m/\∀x∈p,x∈xs:=by
 obtain ⟨k,hk⟩:=List.getElem?_of_mem h;rw[e0b hm _ _ (q2e _)] at hk;split at hk
 ·injection hk with hk;subst hk;exact ⟨by rw[q2z];omega,fun x hx=>List.mem_of_mem_drop (q3p hx)⟩
 ·cases hk
theorem p0x {α:Type}{w:Nat}{f:α->List UInt8}:∀l:List α,(∀x∈l,(f x).length=w)->(l.flatMap f).length=l.length*w
 | [],_=>by simp
 | x::l,h=>by
  rw[q3l,q2d,h x List.mem_cons_self,p0x l fun y hy=>h y (q2j _ hy),q2k,q3w];omega
theorem j1z {α:Type}{w:Nat}{f:α->List UInt8}:∀(k:Nat) (l:List α),(∀x∈l,(f x).length=w)->(l.flatMap f).drop (k*w)=(l.drop k).flatMap f
 | 0,l,_=>by simp
 | k+1,[],_=>by simp
 | k+1,x::l,h=>by
  have hx:=h x List.mem_cons_self;rw[q3l,List.drop_succ_cons,<-j1z k l fun y hy=>h y (q2j _ hy),show (k+1)*w=(f x).length+k*w by rw[hx,q3w];omega,List.drop_append,List.drop_eq_nil_of_le (by omega),q2r,show (f x).length+k*w-(f x).length=k*w by omega]
theorem w1b {α:Type}{w:Nat}{f:α->List UInt8}:∀(k:Nat) (l:List α),(∀x∈l,(f x).length=w)->(l.flatMap f).take (k*w)=(l.take k).flatMap f
 | 0,l,_=>by simp
 | k+1,[],_=>by simp
 | k+1,x::l,h=>by
  have hx:=h x List.mem_cons_self;rw[q3l,List.take_succ_cons,q3l,<-w1b k l fun y hy=>h y (q2j _ hy),show (k+1)*w=(f x).length+k*w by rw[hx,q3w];omega,List.take_append,q3j (by omega),show (f x).length+k*w-(f x).length=k*w by omega]
theorem d2f {α:Type}{m w:Nat}(hm:1<=m)(hw:1<=w)(hmw:m*w=512){f:α->List UInt8}(l:List α)(h:∀x∈l,(f x).length=w):cutS (l.flatMap f)=cutB m f l:=by
 unfold cutS cutB;apply q3y;intro k;rw[q3f,q3f,e0b (by omega) _ _ (q2e _),e0b hm _ _ (q2e _),p0x l h];have hk:k*512=(k*m)*w:=by rw[<-hmw,Nat.mul_assoc]
 by_cases hc:k*m<l.length
 ·rw[q0z hc,q0z (by rw[hk];exact Nat.mul_lt_mul_of_pos_right hc hw)];rw[hk,j1z _ _ h,<-hmw,w1b _ _ fun x hx=>h x (List.mem_of_mem_drop hx)];rfl
 ·rw[q0n hc,q0n (by rw[hk];exact fun q=>hc (Nat.lt_of_mul_lt_mul_right q))];rfl
theorem k1j {α:Type}(xs:List α)(m:Nat)(hm:1<=m)(hx:xs.length+m<=1000000000):j0o xs (m:Int)=some ((c0r xs.length m xs).map fun l=>(l,())):=by
 unfold j0o;rw[show (decide (1<=(m:Int))&&decide ((xs.length:Int)+(m:Int)<=4611686018427387904))=true by rw[q1n,q2c,q2c];omega,tft,q2i]
theorem v0q (n:Nat)(s:List UInt8)(k:Nat)(hs:s.length<=1000000000)(hk:k<=8000):h0f (n+5) s (k:Int)=some (padB s k):=by
 rw[v1s,w64 (by omega) (by omega)];have e:(if (k:Int)-((s.length:Nat):Int)<0 then (0:Int) else (k:Int)-((s.length:Nat):Int))=((k-s.length:Nat):Int):=by split<;>omega
 rw[e,rep_val n (k-s.length) (by omega),obs,tfd,q0z (by simp;omega)];rfl
theorem w1f (n:Nat)(e:Ev):o0q (n+6) e=some (d0g e):=by
 have hl:=r0b e;rw[m1c,i1f (n+2) [] e (by simp),obs,j1l (n+4),obs,q2r];dsimp only;rw[show (32:Int)=((32:Nat):Int) from rfl,v0q n _ 32 (by rw[c0p];omega) (by omega),obs];rfl
theorem p1d (n:Nat)(s:Slo):j0n (n+6) s=some (b0z s):=by
 have e1:=r0b s.2.2.1;have e2:=r0b s.2.2.2.1;have hl:=b2l s;have h1:∀x y:Int,[x,y].flatMap n8I=n8I x++n8I y:=fun x y=>by simp
 have h5:∀a b x y z:Int,[wrap .i64 a,wrap .i64 b,x,y,z].flatMap n8I=n8I a++(n8I b++(n8I x++(n8I y++n8I z))):=fun a b x y z=>by simp[k2h]
 have l1:∀x y:Int,(n8I x++n8I y).length=16:=fun x y=>by simp[y0t]
 rw[q1s,b1w (n+3) [] _ (by simp) (by simp),obs,h1,q2r,i1f (n+2) _ _ (by rw[l1];omega),obs,i1f (n+2) _ _ (by rw[q2d,l1];omega),obs,
  b1w (n+3) _ _ (by simp) (by rw[q2d,q2d,l1,e1,e2];simp),obs,h5,j1l (n+4),obs]
 dsimp only;have es:n8I s.1++n8I s.2.1++u0r s.2.2.1++u0r s.2.2.2.1++(n8I s.2.2.2.2.1.1++(n8I s.2.2.2.2.1.2++(n8I s.2.2.2.2.2.1++(n8I s.2.2.2.2.2.2.1++n8I s.2.2.2.2.2.2.2))))=sloI s:=by
  unfold sloI;simp only[q2g]
 rw[es,show (128:Int)=((128:Nat):Int) from rfl,v0q n _ 128 (by rw[c0p];omega) (by omega),obs];rfl
theorem a2v (n:Nat)(g:Ev->List UInt8)(bytes:(Ev×Unit)->Option (List UInt8))(hb:∀x,bytes (x,())=some (g x))(hg:∀x,(g x).length<=512)(out:List (List UInt8))(l:List Ev)(hl:l.length<=100000):∀(rest pre:List Ev) (f:Nat) (b:List UInt8) (i:Int),l=pre++rest->i=pre.length->b.length+512*rest.length<=1000000000 ->
  g0u (n+1) (f+rest.length+1) (out,bytes,b,l,(l.length:Int),i,())=some (.inl (out,bytes,b++rest.flatMap g,())):=by
 intro rest;induction rest with
 | nil =>
  intro pre f b i h hi hw;rw[m0c];simp only[tfd,q0n (idxe h hi rfl)];simp
 | cons a rest ih =>
  intro pre f b i h hi hw;have hlen:=congrArg List.length h;simp at hlen hw;have ha:=hg a;rw[show f+(a::rest).length+1=(f+rest.length+1)+1 by simp;omega,m0c];simp only[tfd,q0z (idx h hi rfl)];rw[b0o h hi,obs,hb,obs,wst n b (g a) (by omega),obs];dsimp only;rw[w64 (x:=i+1) (by omega) (by omega),ih (pre++[a]) f _ (i+1) (idxl h) (idxs hi) (by simp;omega)];simp
theorem a2u (n:Nat)(g:Ev->List UInt8)(bytes:(Ev×Unit)->Option (List UInt8))(hb:∀x,bytes (x,())=some (g x))(hg:∀x,(g x).length<=512):∀(P:List (List Ev)) (out:List (List UInt8)),(∀p∈P,p.length<=1000)->out.length+P.length<=1000000 ->
  f0d (n+5) (P.map fun p=>(p,())) (out,bytes,())=some (out++P.map (fun p=>padB (p.flatMap g) 512),bytes,()):=by
 intro P;induction P with
 | nil=>intro out _ _;rw[List.map_nil,u0k];simp
 | cons p P ih =>
  intro out hp ho;simp only[q2k] at ho;have h1:=hp p List.mem_cons_self;have:=a2v (n+4) g bytes hb hg out p (by omega) p [] (a0b-p.length-1) [] 0 rfl rfl (by simp;omega);rw[<-lfu (by omega)] at this;have hfl:(p.flatMap g).length<=1000000:=by
   have key:∀q:List Ev,(q.flatMap g).length<=512*q.length:=by
    intro q;induction q with
    | nil=>simp
    | cons x q ih=>have:=hg x;rw[q3l,q2d,q2k];omega
   have:=key p;omega
  rw[q3m,t0j];dsimp only;rw[this,obs,a0m];dsimp only;rw[c0q,obs,q2r];dsimp only;rw[show (512:Int)=((512:Nat):Int) from rfl,v0q n _ 512 (by omega) (by omega),obs,tfd,q0z (by omega),obs,ih (out++[padB (p.flatMap g) 512]) (fun q hq=>hp q (q2j _ hq)) (by simp;omega)];simp
theorem w1m (n:Nat)(g:Ev->List UInt8)(bytes:(Ev×Unit)->Option (List UInt8))(hb:∀x,bytes (x,())=some (g x))(hg:∀x,(g x).length<=512)(out:List (List UInt8))(l:List Ev)(m:Nat)(hm:1<=m)(hm':m<=1000)(hl:l.length<=100000)(ho:out.length<=100000) :
  o0p (n+6) out l (m:Int) bytes=some (out++cutB m g l):=by
 have hc:=n0q hm l;rw[c1l,d1k,k1j l m hm (by omega),obs,a2u n g bytes hb hg _ out (fun p hp=>by have:=(k1k hm hp).1;omega) (by omega),obs];rfl
theorem g2n (n:Nat)(g:Slo->List UInt8)(bytes:(Slo×Unit)->Option (List UInt8))(hb:∀x,bytes (x,())=some (g x))(hg:∀x,(g x).length<=512)(out:List (List UInt8))(l:List Slo)(hl:l.length<=100000):∀(rest pre:List Slo) (f:Nat) (b:List UInt8) (i:Int),l=pre++rest->i=pre.length->b.length+512*rest.length<=1000000000 ->
  h0x (n+1) (f+rest.length+1) (out,bytes,b,l,(l.length:Int),i,())=some (.inl (out,bytes,b++rest.flatMap g,())):=by
 intro rest;induction rest with
 | nil =>
  intro pre f b i h hi hw;rw[m0t];simp only[tfd,q0n (idxe h hi rfl)];simp
 | cons a rest ih =>
  intro pre f b i h hi hw;have hlen:=congrArg List.length h;simp at hlen hw;have ha:=hg a;rw[show f+(a::rest).length+1=(f+rest.length+1)+1 by simp;omega,m0t];simp only[tfd,q0z (idx h hi rfl)];rw[b0o h hi,obs,hb,obs,wst n b (g a) (by omega),obs];dsimp only;rw[w64 (x:=i+1) (by omega) (by omega),ih (pre++[a]) f _ (i+1) (idxl h) (idxs hi) (by simp;omega)];simp
theorem g2m (n:Nat)(g:Slo->List UInt8)(bytes:(Slo×Unit)->Option (List UInt8))(hb:∀x,bytes (x,())=some (g x))(hg:∀x,(g x).length<=512):∀(P:List (List Slo)) (out:List (List UInt8)),(∀p∈P,p.length<=1000)->out.length+P.length<=1000000 ->
  f0s (n+5) (P.map fun p=>(p,())) (out,bytes,())=some (out++P.map (fun p=>padB (p.flatMap g) 512),bytes,()):=by
 intro P;induction P with
 | nil=>intro out _ _;rw[List.map_nil,v0y];simp
 | cons p P ih =>
  intro out hp ho;simp only[q2k] at ho;have h1:=hp p List.mem_cons_self;have:=g2n (n+4) g bytes hb hg out p (by omega) p [] (a0b-p.length-1) [] 0 rfl rfl (by simp;omega);rw[<-lfu (by omega)] at this;have hfl:(p.flatMap g).length<=1000000:=by
   have key:∀q:List Slo,(q.flatMap g).length<=512*q.length:=by
    intro q;induction q with
    | nil=>simp
    | cons x q ih=>have:=hg x;rw[q3l,q2d,q2k];omega
   have:=key p;omega
  rw[q3m,u0j];dsimp only;rw[this,obs,a0m];dsimp only;rw[c0q,obs,q2r];dsimp only;rw[show (512:Int)=((512:Nat):Int) from rfl,v0q n _ 512 (by omega) (by omega),obs,tfd,q0z (by omega),obs,ih (out++[padB (p.flatMap g) 512]) (fun q hq=>hp q (q2j _ hq)) (by simp;omega)];simp
theorem a2t (n:Nat)(g:Slo->List UInt8)(bytes:(Slo×Unit)->Option (List UInt8))(hb:∀x,bytes (x,())=some (g x))(hg:∀x,(g x).length<=512)(out:List (List UInt8))(l:List Slo)(m:Nat)(hm:1<=m)(hm':m<=1000)(hl:l.length<=100000)(ho:out.length<=100000) :
  i0v (n+6) out l (m:Int) bytes=some (out++cutB m g l):=by
 have hc:=n0q hm l;rw[e1h,g1d,k1j l m hm (by omega),obs,g2m n g bytes hb hg _ out (fun p hp=>by have:=(k1k hm hp).1;omega) (by omega),obs];rfl
def t0u (lost room:Nat):Nat->List Ev->List Ev->List Ev
 | _,[],out=>out
 | k,e::L,out=>t0u lost room (k+1) L (out.set ((lost+k) % room) e)
def f0i (r:Rw)(room:Int):List Ev:=t0u r.1.toNat room.toNat 0 r.2.2 (List.replicate room.toNat e0)
theorem d1n (lost room:Nat):∀(L:List Ev) (k:Nat) (out:List Ev),(t0u lost room k L out).length=out.length
 | [],_,_=>rfl
 | e::L,k,out=>by rw[t0u,d1n lost room L];simp
theorem round_l3 (n:Nat)(room:Int)(r:Rw)(h1:1<=room)(h2:room<=4096)(h3:0<=r.1)(h4:r.1<=70368744177664)(hL:r.2.2.length<=100000):∀(rest pre:List Ev) (f:Nat) (out:List Ev) (i:Int),r.2.2=pre++rest->i=pre.length->(out.length:Int)=room ->
  l0n n (f+rest.length+1) (room,r,out,r.2.2,(r.2.2.length:Int),i,())=some (.inl (t0u r.1.toNat room.toNat pre.length rest out,())):=by
 intro rest;induction rest with
 | nil =>
  intro pre f out i h hi ho;rw[r0q];simp only[tfd,q0n (idxe h hi rfl)];rfl
 | cons a rest ih =>
  intro pre f out i h hi ho;have hlen:=congrArg List.length h;simp at hlen;have hpos:Int.tmod (wrap .i64 (r.1+i)) room=(((r.1.toNat+pre.length) % room.toNat:Nat):Int):=by
   rw[w64 (by omega) (by omega),q3o (by omega),Int.natCast_emod,hi,Int.natCast_add,Int.toNat_of_nonneg h3,Int.toNat_of_nonneg (by omega)]
  have hlt:(r.1.toNat+pre.length) % room.toNat<out.length:=by
   have:=Nat.mod_lt (r.1.toNat+pre.length) (show 0<room.toNat by omega);omega
  rw[show f+(a::rest).length+1=(f+rest.length+1)+1 by simp;omega,r0q];simp only[tfd,q0z (idx h hi rfl)];rw[b0o h hi,obs,q0n (by omega),hpos,q2i,r0x (q2b hlt),obs,q2b hlt,obs,w64 (x:=i+1) (by omega) (by omega),
   ih (pre++[a]) f _ (i+1) (idxl h) (idxs hi) (by simpa using ho)]
  simp[t0u]
theorem i2o (n:Nat){r:Rw}{room:Int}(h:RawOk r room):y0y (n+1) r room=some (f0i r room):=by
 have h1:=h.m0;have h2:=h.m1;have h3:=h.len;rw[l1x];have c1:(decide ((0:Int)<=room)&&(decide (room<=room)&&decide (room*(32:Int)<=(140737488355328:Int))))=true:=by
  rw[q1n,q1n,q2c,q2c,q2c];omega
 have:=round_l3 n room r h1 h2 h.l0 h.l1 (by omega) r.2.2 [] (a0b-r.2.2.length-1) (List.replicate room.toNat e0) 0 rfl rfl (by simp;omega);rw[<-lfu (by omega)] at this;rw[c1,tft];have e:List.replicate (Int.toNat room) ((0:Int),((0:Int),((0:Int),false)))=List.replicate room.toNat e0:=rfl;rw[e,this,obs,a0m];rfl
def u1z (lost room i:Nat):Nat->List Ev->List UInt8->List UInt8
 | _,[],acc=>acc
 | k,y::L,acc=>u1z lost room i (k+1) L (if (lost+k) % room=i then d0g y else acc)
theorem q1b (lost room i:Nat):∀(L:List Ev) (k:Nat) (out:List Ev) (x:Ev),out[i]? = some x->∃y,(t0u lost room k L out)[i]? = some y/\u1z lost room i k L (d0g x)=d0g y
 | [],k,out,x,h=>⟨x,h,rfl⟩
 | e::L,k,out,x,h=>by
  have hi:=(q2q.1 h).1;by_cases hc:(lost+k) % room=i
  ·obtain ⟨y,h1,h2⟩:=q1b lost room i L (k+1) (out.set ((lost+k) % room) e) e (by rw[hc];simp[hi]);exact ⟨y,h1,by rw[u1z,q0z hc,h2]⟩
  ·obtain ⟨y,h1,h2⟩:=q1b lost room i L (k+1) (out.set ((lost+k) % room) e) x (by rw[List.getElem?_set,q0n hc];exact h);exact ⟨y,h1,by rw[u1z,q0n hc,h2]⟩
theorem g2h:d0g e0=List.replicate 32 0:=by decide
theorem f2h (r:Rw)(room:Int)(i:Nat)(hi:i<room.toNat):∃y,(f0i r room)[i]? = some y/\u1z r.1.toNat room.toNat i 0 r.2.2 (List.replicate 32 0)=d0g y:=by
 rw[<-g2h];exact q1b _ _ _ _ _ _ _ (by simp[hi])
theorem rplace16 (n:Nat)(c:Conf)(x:Ser)(out:List (List UInt8))(raw:List UInt8)(i:Nat)(h1:1<=c.1)(h2:c.1<=4096)(h3:0<=x.2.2.1.1)(h4:x.2.2.1.1<=70368744177664)(hL:x.2.2.1.2.2.length<=100000)(hw:∀e∈x.2.2.1.2.2,EvW e):∀(rest pre:List Ev) (f:Nat) (e:List UInt8) (k:Int),x.2.2.1.2.2=pre++rest->k=pre.length ->
  k0c (n+4) (f+rest.length+1) (c,x,out,raw,(i:Int),e,x.2.2.1.2.2,(x.2.2.1.2.2.length:Int),k,())=some (.inl (c,x,out,raw,(i:Int),u1z x.2.2.1.1.toNat c.1.toNat i pre.length rest e,())):=by
 intro rest;induction rest with
 | nil =>
  intro pre f e k h hi;rw[u0b];simp only[tfd,q0n (idxe h hi rfl)];rfl
 | cons a rest ih =>
  intro pre f e k h hi;have hlen:=congrArg List.length h;simp at hlen;have hpos:Int.tmod (wrap .i64 (x.2.2.1.1+k)) c.1=(((x.2.2.1.1.toNat+pre.length) % c.1.toNat:Nat):Int):=by
   rw[w64 (by omega) (by omega),q3o (by omega),Int.natCast_emod,hi,Int.natCast_add,Int.toNat_of_nonneg h3,Int.toNat_of_nonneg (by omega)]
  rw[show f+(a::rest).length+1=(f+rest.length+1)+1 by simp;omega,u0b];simp only[tfd,q0z (idx h hi rfl)];rw[b0o h hi,obs,q0n (by omega),hpos,w64 (x:=k+1) (by omega) (by omega)];by_cases hc:(x.2.2.1.1.toNat+pre.length) % c.1.toNat=i
  ·rw[q0z (by omega),e2r n a (hw a (by rw[h];simp)),obs,ih (pre++[a]) f _ (k+1) (idxl h) (idxs hi)];simp[u1z,hc]
  ·rw[q0n (by omega),ih (pre++[a]) f e (k+1) (idxl h) (idxs hi)];simp[u1z,hc]
theorem rplace12 (n:Nat)(c:Conf)(x:Ser)(out:List (List UInt8))(h:RawOk x.2.2.1 c.1)(hw:∀e∈x.2.2.1.2.2,EvW e):∀(m i f:Nat) (raw:List UInt8),i+m=c.1.toNat->raw=((f0i x.2.2.1 c.1).take i).flatMap d0g ->
  k0d (n+4) (f+m+1) (c,x,out,raw,(i:Int),())=some (.inl (x,out,(f0i x.2.2.1 c.1).flatMap d0g,())):=by
 have h1:=h.m0;have h2:=h.m1;have h3:=h.len;have hrl:(f0i x.2.2.1 c.1).length=c.1.toNat:=by unfold f0i;rw[d1n];simp
 intro m;induction m with
 | zero =>
  intro i f raw hi hr;rw[u0c,tfd,q0n (by omega),hr,q3j (by omega)]
 | succ m ih =>
  intro i f raw hi hr;have hrlen:raw.length=i*32:=by
   rw[hr,p0x _ fun y _=>g0p y,q2z];congr 1;omega
  obtain ⟨y,hy1,hy2⟩:=f2h x.2.2.1 c.1 i (by omega);have e1:=rplace16 n c x out raw i h1 h2 h.l0 h.l1 (by omega) hw x.2.2.1.2.2 [] (a0b-x.2.2.1.2.2.length-1) (List.replicate 32 0) 0 rfl rfl;rw[<-lfu (by omega)] at e1;rw[show f+(m+1)+1=(f+m+1)+1 by omega,u0c,tfd,q0z (by omega),u0s (n+3) 32 (by omega),obs,show Int.toNat 32=32 from rfl,e1,obs,a0m];dsimp only;rw[List.length_nil,hy2,tfd,q0z (by rw[hrlen,g0p];omega),w64 (by omega) (by omega),show ((i:Int)+1)=((i+1:Nat):Int) by omega];refine ih (i+1) f _ (by omega) ?_
  rw[hr,List.take_add_one,hy1,List.flatMap_append];simp
theorem rcut_l2 (n:Nat):∀(m f:Nat) (s:List UInt8) (out:List (List UInt8)),s.length<=m->m<f->s.length<=100000000->out.length+s.length<=1000000000 ->
  w0t (n+2) f (s,out,())=some (.inl (out++(c0r m 512 s).map fun p=>padB p 512,())):=by
 intro m;induction m with
 | zero =>
  intro f s out hs hf hl ho;obtain ⟨f,rfl⟩:=l0d hf;have:s=[]:=q2p (by omega);subst this;rw[s0u,tfd,q0n (by simp)];simp[c0r]
 | succ m ih =>
  intro f s out hs hf hl ho;obtain ⟨f,rfl⟩:=l0d hf;cases s with
  | nil =>
   rw[s0u,tfd,q0n (by simp)];simp[c0r]
  | cons a t =>
   obtain ⟨N,hN⟩:∃N,N=(a::t).length:=⟨_,rfl⟩;have hN1:1<=N:=by rw[hN];simp
   have hmn:(if (512:Int)<(((a::t).length:Nat):Int) then (512:Int) else (((a::t).length:Nat):Int))=((min 512 N:Nat):Int):=by rw[<-hN];split<;>omega
   have ht:List.take (min 512 N) (a::t)=List.take 512 (a::t):=by
    rcases Nat.le_total 512 N with h | h
    ·rw[q3i h]
    ·rw[Nat.min_eq_right h,q3j (by omega),q3j (by omega)]
   have hd:List.drop (min 512 N) (a::t)=List.drop 512 (a::t):=by
    rcases Nat.le_total 512 N with h | h
    ·rw[q3i h]
    ·rw[Nat.min_eq_right h,List.drop_of_length_le (by omega),List.drop_of_length_le (by omega)]
   have hdl:((a::t).drop 512).length<=m:=by rw[q2l];omega
   rw[s0u,hmn,tfd,q0z (by rw[<-hN];omega),q2i,ht];have c1:(decide ((0:Int)<=((min 512 N:Nat):Int))&&decide (((min 512 N:Nat):Int)<=(((a::t).length:Nat):Int)))=true:=by
    rw[q1n,q2c,q2c,<-hN];omega
   rw[c1,tft,List.drop_zero,show (512:Int)=((512:Nat):Int) from rfl,w0q n _ 512 (by rw[q2z];omega) (by omega),obs,tfd,q0z (by omega),tfd,q0z (by omega),tfd,q0z (by rw[<-hN];omega),List.take_length,hd,
    ih f _ _ hdl (by omega) (by rw[q2l];omega) (by rw[q2l,q2d,List.length_singleton];omega),w0e]
   simp
theorem g1n (n:Nat)(s:List UInt8)(hs:s.length<=100000000):o0h (n+3) s=some (cutS s):=by
 rw[e2w,rcut_l2 n s.length a0b s [] (q2e _) (by unfold a0b;omega) hs (by simp;omega),obs,a0m,q2r];rfl
theorem q0e {n:Nat}(h:n<128):(uvB n).length=1:=by rw[i0p h];rfl
theorem y0k {n:Nat}(h:n<16384):(uvB n).length<=2:=by
 by_cases h1:n<128
 ·rw[q0e h1];omega
 ·rw[w0h h1,q2k,q0e (by omega)];omega
theorem k2t:∀(l:List Lab),(∀x∈l,x.1.length<=64/\x.2.length<=128)->((l.flatMap fun x=>txB x.1++txB x.2).length:Int)<=3*(l.length:Int)+sumL l
 | [],_=>by simp[sumL]
 | x::l,h=>by
  have ih:=k2t l fun y hy=>h y (q2j _ hy)
  obtain ⟨h1,h2⟩:=h x List.mem_cons_self;have e1:=q0e (n:=x.1.length) (by omega);have e2:=y0k (n:=x.2.length) (by omega);rw[z0z,q3l];simp only[txB,q2d,q2k] at ih ⊢;omega
theorem y0w {l:List Lab}(h:LabOk l):(labB l).length<=320:=by
 have h1:=k2t l (c1u l none h.c);have h2:=h.n1;have h3:=h.t;have e1:=q0e (n:=l.length) (by omega);have h4:(labB l).length=1+(l.flatMap fun x=>txB x.1++txB x.2).length:=by unfold labB;rw[q2d,e1]
 omega
theorem n1o:∀(k n:Nat) (v:Int),0<=v->v<=1000000->v.toNat<128^(k+1)->j0a (n+(k+1)) v=some (uvB v.toNat):=by
 intro k;induction k with
 | zero =>
  intro n v h0 h1 h2;have h2:v.toNat<128:=by simpa using h2
  rw[s0z,tfd,q0z (by omega),i0p h2];have:wrap .u8 v=v:=by rw[IntKind.wrap_u8];omega
  rw[this]
 | succ k ih =>
  intro n v h0 h1 h2;rw[show n+(k+1+1)=(n+(k+1))+1 by omega,s0z,tfd];by_cases h:v<128
  ·rw[q0z h,i0p (by omega)];have:wrap .u8 v=v:=by rw[IntKind.wrap_u8];omega
   rw[this]
  ·have hd:Int.tdiv v 128=((v.toNat / 128:Nat):Int):=by
    rw[Int.tdiv_eq_ediv_of_nonneg h0];omega
   have hm:Int.tmod v 128=((v.toNat % 128:Nat):Int):=by
    rw[q3o h0];omega
   have hp:v.toNat / 128<128^(k+1):=by
    rw[Nat.div_lt_iff_lt_mul (by omega)];rw[Nat.pow_succ] at h2;exact h2
   have hle:(uvB (v.toNat / 128)).length<=v.toNat+1:=by
    have:=o1s (v.toNat / 128) ((v.toNat / 128:Nat):Int) (by simp) (by omega);rw[o1q,j0r] at this;omega
   rw[q0n h,hd,wu64 (by omega) (by omega),ih n _ (by omega) (by omega) (by rw[q2i];exact hp),obs,q2i,tfd,q0z (by omega),w0h (n:=v.toNat) (by omega),hm,wu64 (by omega) (by omega)];have:wrap .u8 (((v.toNat % 128:Nat):Int)+128)=((v.toNat % 128+128:Nat):Int):=by rw[IntKind.wrap_u8];omega
   rw[this,q2i];rfl
theorem j1d (n:Nat){k:Nat}(h:k<16384):j0a (n+2) (k:Int)=some (uvB k):=by
 have:=n1o 1 n (k:Int) (by omega) (by omega) (by rw[q2i];exact h)
 rwa [q2i] at this
theorem b2z (n:Nat){s:List UInt8}(h:s.length<16384):g1s (n+3) s=some (txB s):=by
 have:=y0k h;rw[z1h,wu64 (by omega) (by omega),j1d n h,obs,tfd,q0z (by omega)];rfl
theorem z1e (n:Nat){l:List Lab}(hx:∀x∈l,x.1.length<=64/\x.2.length<=128)(hl:l.length<=16):∀(rest pre:List Lab) (f:Nat) (w:List UInt8) (i:Int),l=pre++rest->i=pre.length->w.length<=10+300*pre.length ->
  p0o (n+3) (f+rest.length+1) (w,l,(l.length:Int),i,())=some (.inl (w++rest.flatMap fun x=>txB x.1++txB x.2,())):=by
 intro rest;induction rest with
 | nil =>
  intro pre f w i h hi hw;rw[v0n];simp only[tfd,q0n (idxe h hi rfl)];simp
 | cons a rest ih =>
  intro pre f w i h hi hw;have hlen:=congrArg List.length h;simp at hlen;obtain ⟨k1,k2⟩:=hx a (by rw[h];simp);have e1:=q0e (n:=a.1.length) (by omega);have e2:=y0k (n:=a.2.length) (by omega);have t1:(txB a.1).length<=65:=by unfold txB;rw[q2d];omega
  have t2:(txB a.2).length<=130:=by unfold txB;rw[q2d];omega
  rw[show f+(a::rest).length+1=(f+rest.length+1)+1 by simp;omega,v0n];simp only[tfd,q0z (idx h hi rfl)];rw[b0o h hi,obs,b2z n (by omega),obs,b2z n (by omega),obs,q0z (by omega),q0z (by rw[q2d];omega),w64 (x:=i+1) (by omega) (by omega),
   ih (pre++[a]) f _ (i+1) (idxl h) (idxs hi) (by simp only[q2d,List.length_singleton];omega)]
  simp
theorem j2j (n:Nat){l:List Lab}(h:LabOk l):j1c (n+8) l=some (labB l,0):=by
 have hn:=h.n1;rw[u1n,b1n (n+5) l,q0z h,obs,q2a (rfl:(0:Int)=0),q2u,tff,wu64 (by omega) (by omega),j1d (n+5) (by omega),obs];have:=z1e (n+4) (c1u l none h.c) hn l [] (a0b-l.length-1) (uvB l.length) 0 rfl rfl (by rw[q0e (by omega)];simp);rw[<-lfu (by omega)] at this;rw[this,obs,a0m];rfl
open Go.Flat
def idxC (c:Conf):Int:=prt c.2.2.2.2 120
def hom (c:Conf):Int:=1+idxC c+c.2.2.2.2
theorem d2r (n:Nat){c:Conf}(h:OkC c):n0p (n+4) c=some (plc c)/\v0h (n+4) c=some (plc c):=by
 rw[c1r,u1c,x0i n h,j0l n h,b1s (n+1) h.rng,s0x (n+1) h.rng];simp only[obs,tfd,tfn];rw[q0z trivial];exact ⟨rfl,rfl⟩
theorem x1a (n:Nat){c:Conf}(h:OkC c):n0p (n+4) c=some (plc c):=by
 rw[c1r,x0i n h,b1s (n+1) h.rng];simp only[obs,tfd,tfn];rw[q0z trivial]
theorem a1y (n:Nat)(s:Sta):a1z (n+4) s=some (decide (Whole s)):=by
 rw[t1o,b1k n s.1,obs,tfd];by_cases h:OkC s.1
 case neg=>rw[q0n h,q0n (show ¬((2:Int)=0) by decide),q1z (fun k:Whole s=>h k.1)]
 rw[q0z h,q0z rfl];exact congrArg some (q2t.2 ⟨fun k=>⟨h,k⟩,fun k=>k.2⟩)
theorem r17_mark (n:Nat){s:Sta}(hh:Whole s)(h:t0r s.2.1):b1d (n+5) s=some (mk s):=by
 have hw:=hh.1.rng.w0;obtain ⟨m1,m2,m3,m4⟩:=c1b h hw;have h1:=h.1;have h2:=h.2;rw[y1n,a1y n s,obs,tfn,tfd,q0z hh,u0x (n+3),obs,tfn,tfd,q0z h,tfd,q0n (by omega),quo_at h hw.1];rw[w64 (show -9223372036854775808<=s.2.1 / s.1.2.1.1*s.1.2.1.1 from by unfold mk at m1;omega) (by unfold mk at m2;omega)];rfl
theorem r17_l11 (n:Nat){s:Sta}(hw:StaW s)(hL:s.2.2.2.length<=1000000)(i:Nat)(x:Ser)(hx:s.2.2.2[i]? = some x)(e:Int)(p:List Ser)(q r:Int):∀(d k f:Nat),k+d=i->d<f ->
  ((∃j,k<=j/\j<i/\LvX s x/\∃y,s.2.2.2[j]? = some y/\LvX s y/\y.1=x.1)/\e0h (n+6) f (s,e,(i:Int),x,p,q,r,(i:Int),(k:Int),())=some (.inr 2)) \/
  (¬(∃j,k<=j/\j<i/\LvX s x/\∃y,s.2.2.2[j]? = some y/\LvX s y/\y.1=x.1)/\e0h (n+6) f (s,e,(i:Int),x,p,q,r,(i:Int),(k:Int),())=some (.inl (s,e,p,q,r,()))):=by
 have hil:i<s.2.2.2.length:=(q2q.1 hx).1;have hm:=(hw.at hx).2;intro d;induction d with
 | zero =>
  intro k f hk hf;obtain ⟨f,rfl⟩:∃g,f=g+1:=⟨f-1,by omega⟩;refine .inr ⟨fun ⟨j,h1,h2,_⟩=>by omega,?_⟩;rw[u0d,q1z (by omega),tff]
 | succ d ih =>
  intro k f hk hf;obtain ⟨f,rfl⟩:∃g,f=g+1:=⟨f-1,by omega⟩;have hkl:k<s.2.2.2.length:=by omega
  have hy:s.2.2.2[k]? = some s.2.2.2[k]:=q2b hkl;generalize s.2.2.2[k]=y at hy;have hmy:=(hw.at hy).2;have ih':=ih (k+1) f (by omega) (by omega);have step:¬(LvX s x/\LvX s y/\y.1=x.1)->((∃j,k+1<=j/\j<i/\LvX s x/\∃y,s.2.2.2[j]? = some y/\LvX s y/\y.1=x.1)↔(∃j,k<=j/\j<i/\LvX s x/\∃y,s.2.2.2[j]? = some y/\LvX s y/\y.1=x.1)):=by
   intro hn;constructor
   ·rintro ⟨j,h1,h2⟩;exact ⟨j,by omega,h2⟩
   ·rintro ⟨j,h1,h2,h3,z,h4,h5,h6⟩;rcases Nat.lt_or_ge k j with g | g
    ·exact ⟨j,by omega,h2,h3,z,h4,h5,h6⟩
    ·obtain rfl:j=k:=by omega
     rw[hy] at h4;cases h4;exact absurd ⟨h3,h5,h6⟩ hn
  rw[u0d,q2a (by omega),tft,b1b n hx hm,obs,tfd,b1b n hy hmy,obs,tfd,r0x hy,obs,k1e (n+5) _ _ hmy.l,obs,tfd,w64 (by omega) (by omega),show ((k:Int)+1)=((k+1:Nat):Int) by omega];by_cases h1:LvX s x
  case neg=>rw[q0n h1,<-step (fun z=>h1 z.1)];exact ih'
  rw[q0z h1];by_cases h2:LvX s y
  case neg=>rw[q0n h2,<-step (fun z=>h2 z.2.1)];exact ih'
  rw[q0z h2];by_cases h3:y.1=x.1
  case neg=>rw[q0n h3,<-step (fun z=>h3 z.2.2)];exact ih'
  rw[q0z h3];exact .inl ⟨⟨k,q2e _,by omega,h1,y,hy,h2,h3⟩,rfl⟩
theorem r17_l5 (n:Nat){s:Sta}(hw:StaW s)(hh:Whole s)(ht:t0r s.2.1):∀(d i f:Nat),i+d=s.2.2.2.length->d<f ->
  ((∀(j:Nat) x,i<=j->s.2.2.2[j]? = some x->j0s s j x)/\e0i (n+8) f (s,mk s+s.1.2.1.1,s.2.2.2,(s.2.2.2.length:Int),(i:Int),())=some (.inl ())) \/
  (¬(∀(j:Nat) x,i<=j->s.2.2.2[j]? = some x->j0s s j x)/\e0i (n+8) f (s,mk s+s.1.2.1.1,s.2.2.2,(s.2.2.2.length:Int),(i:Int),())=some (.inr 2)):=by
 have hL:=hh.len;intro d;induction d with
 | zero =>
  intro i f hi hf;obtain ⟨f,rfl⟩:∃g,f=g+1:=⟨f-1,by omega⟩;refine .inl ⟨fun j x h1 h2 => ?_,?_⟩
  ·have:=(q2q.1 h2).1;omega
  ·rw[u0z,q1z (by omega),tff]
 | succ d ih =>
  intro i f hi hf;obtain ⟨f,rfl⟩:∃g,f=g+1:=⟨f-1,by omega⟩;have hx:s.2.2.2[i]? = some (s.2.2.2[i]'(by omega)):=q2b (by omega);generalize s.2.2.2[i]'(by omega)=x at hx;have hm:=hw.at hx;have ih':=ih (i+1) f (by omega) (by omega);have step:j0s s i x->((∀(j:Nat) x,i+1<=j->s.2.2.2[j]? = some x->j0s s j x)↔(∀(j:Nat) x,i<=j->s.2.2.2[j]? = some x->j0s s j x)):=by
   intro hr;constructor
   ·intro h j y h1 h2;rcases Nat.lt_or_ge i j with g | g
    ·exact h j y (by omega) h2
    ·obtain rfl:j=i:=by omega
     rw[hx] at h2;cases h2;exact hr
   ·intro h j y h1 h2;exact h j y (by omega) h2
  have bad:¬j0s s i x->¬(∀(j:Nat) x,i<=j->s.2.2.2[j]? = some x->j0s s j x):=fun h k=>h (k i x (q2e _) hx)
  rw[u0z,q2a (by omega),tft,r0x hx,obs,i1t (n+4) hm.2,obs,tfd,t1u n s.1 hm.1,obs,w64 (by omega) (by omega),show ((i:Int)+1)=((i+1:Nat):Int) by omega];by_cases h0:x=ser0
  ·rw[q0z h0,<-step (.inl h0)];exact ih'
  rw[q0n h0,tfn,tfd];by_cases h1:SerOk s.1 x
  case neg=>rw[q0n h1,q0n (show ¬((2:Int)=0) by decide)];exact .inr ⟨bad fun k=>by rcases k with k | k;exact h0 k;exact h1 k.1,rfl⟩
  rw[q0z h1,q0z rfl,tfd];by_cases h2:x.2.1<0
  ·rw[q0z h2];exact .inr ⟨bad fun k=>by rcases k with k | k;exact h0 k;have:=k.2.1;omega,rfl⟩
  rw[q0n h2,tfd];by_cases h3:mk s+s.1.2.1.1<=x.2.1
  ·rw[q0z h3];exact .inr ⟨bad fun k=>by rcases k with k | k;exact h0 k;have:=k.2.2.1;omega,rfl⟩
  rw[q0n h3,q2a (show (0:Int)<=(i:Int) by omega),q2a (show (i:Int)<=(s.2.2.2.length:Int) by omega),Bool.and_self,tft,show (List.drop 0 (List.take (Int.toNat (i:Int)) s.2.2.2)).length=i by simp;omega];rcases r17_l11 (n+2) hw (by omega) i x hx (mk s+s.1.2.1.1) s.2.2.2 (s.2.2.2.length:Int) (i:Int) i 0 a0b (by omega) (by unfold a0b;omega) with ⟨q1,q2⟩ | ⟨q1,q2⟩
  ·have q2':e0h (n+8) a0b (s,mk s+s.1.2.1.1,(i:Int),x,s.2.2.2,(s.2.2.2.length:Int),(i:Int),(i:Int),(0:Int),())=some (.inr 2):=q2;rw[q2',obs,j0z];obtain ⟨j,j1,j2,j3,j4⟩:=q1;exact .inr ⟨bad fun k=>by rcases k with k | k;exact h0 k;exact k.2.2.2 ⟨j3,j,j2,j4⟩,rfl⟩
  ·have q2':e0h (n+8) a0b (s,mk s+s.1.2.1.1,(i:Int),x,s.2.2.2,(s.2.2.2.length:Int),(i:Int),(i:Int),(0:Int),())=some (.inl (s,mk s+s.1.2.1.1,s.2.2.2,(s.2.2.2.length:Int),(i:Int),())):=q2;rw[q2',obs,a0m];have hr:j0s s i x := .inr ⟨h1,by omega,by omega,fun ⟨k1,j,k2,k3⟩=>q1 ⟨j,by omega,k2,k1,k3⟩⟩;rw[<-step hr,show wrap .i64 ((i:Int)+1)=((i+1:Nat):Int) by rw[w64 (by omega) (by omega)];omega];exact ih'
theorem j2a (n:Nat){s:Sta}(hw:StaW s):i1u (n+9) s=some (if StaOk s then 0 else 2):=by
 rw[t1t,a1y (n+4) s,obs,tfn,tfd];by_cases h:Whole s
 case neg=>rw[q0n h,q0n (fun k:StaOk s=>h k.whole)]
 rw[q0z h,u0x,obs,tfn,tfd];by_cases h1:t0r s.2.1
 case neg=>rw[q0n h1,q0n (fun k:StaOk s=>h1 k.clock.1)]
 have tail:(Clock s)->(a0a (b1d (n+8) s) fun r3 =>
   a0a (e0i (n+8) a0b (s,((wrap .i64 (r3+s.1.2.1.1)),(s.2.2.2,((((List.length s.2.2.2):Nat):Int),((0:Int),())))))) fun r4 =>
   b0g (fun y5=>some (0:Int)) (fun z6=>some z6) r4)=some (if StaOk s then 0 else 2):=by
  intro hcl;have hr:=h.1.rng;obtain ⟨m1,m2,m3,m4⟩:=c1b h1 hr.w0;have t2:=h1.2;have w0:=hr.w0;rw[r17_mark (n+3) h h1,obs,w64 (by omega) (by omega)];rcases r17_l5 n hw h h1 s.2.2.2.length 0 a0b (by omega) (by have:=h.len;unfold a0b;omega) with ⟨q1,q2⟩ | ⟨q1,q2⟩
  ·have q2':e0i (n+8) a0b (s,mk s+s.1.2.1.1,s.2.2.2,(s.2.2.2.length:Int),(0:Int),())=some (.inl ()):=q2;rw[q2',obs,a0m,q0z (show StaOk s from ⟨h,hcl,fun i x hx=>q1 i x (by omega) hx⟩)]
  ·have q2':e0i (n+8) a0b (s,mk s+s.1.2.1.1,s.2.2.2,(s.2.2.2.length:Int),(0:Int),())=some (.inr 2):=q2;rw[q2',obs,j0z,q0n (fun k:StaOk s=>q1 fun j x _ hx=>k.right j x hx)]
 rw[q0z h1,tfn,tfd];by_cases h2:s.2.2.1 = -1
 ·rw[q0z h2,tfd];by_cases h3:s.2.1<s.2.2.1
  ·have:=h1.1;omega
  ·rw[q0n h3];exact tail ⟨h1,.inl h2,by omega⟩
 ·rw[q0n h2,u0x,obs,tfn,tfd];by_cases h3:t0r s.2.2.1
  case neg=>rw[q0n h3,q0n (fun k:StaOk s=>by rcases k.clock.2.1 with q | q;exact h2 q;exact h3 q)]
  rw[q0z h3,tfd];by_cases h4:s.2.1<s.2.2.1
  ·rw[q0z h4,q0n (fun k:StaOk s=>by have:=k.clock.2.2;omega)]
  ·rw[q0n h4];exact tail ⟨h1,.inr h3,by omega⟩
theorem confEq (a b:Conf):((decide (a.1=b.1))&&((decide (a.2.1.1=b.2.1.1))&&((decide (a.2.1.2.1=b.2.1.2.1))&&((decide (a.2.1.2.2=b.2.1.2.2))&&((decide (a.2.2.1.1=b.2.2.1.1))&&((decide (a.2.2.1.2.1=b.2.2.1.2.1))&&((decide (a.2.2.1.2.2=b.2.2.1.2.2))&&((decide (a.2.2.2.1=b.2.2.2.1))&&(decide (a.2.2.2.2=b.2.2.2.2))))))))))=decide (a=b):=by
 rw[Bool.eq_iff_iff];simp[Prod.ext_iff,and_assoc]
end Go.Proofs.YtagnkfbpgkckiaaGreat
