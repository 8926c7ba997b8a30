/-
 Plain proofs about the functions of this seat, part 2 of 4.
-/
import Derived.Test.YtgkpkajaepphjaaGreatDoorQ1
import Derived.Test.YtgkpkajaepphjaaGreatDoorTr
import Derived.Test.YtgkpkajaepphjaaGreatDoorFlatM3
namespace Go.Proofs.YtgkpkajaepphjaaGreatDoor
open Go.Flat Go.Plim
set_option linter.unusedVariables false
set_option linter.unusedSimpArgs false
def Runs (key:a0c→Int) (d:List a0c) (B N:Nat):Prop:=∀c,B ∣ c→Srt key d c (min (c+B) N)
theorem k0r {B a c:Nat} (ha:B ∣ a) (hc:B ∣ c) (h:a<c):a+B≤c:=by
 obtain ⟨x,rfl⟩:=ha;obtain ⟨y,rfl⟩:=hc;have:x<y:=Nat.lt_of_mul_lt_mul_left h
 calc B*x+B=B*(x+1):=by rw[Nat.mul_succ]
  _≤B*y:=Nat.mul_le_mul_left B this
section
variable {cmp:(a0c×(a0c×Unit))→Option Int} {key:a0c→Int} (hc:Cmp cmp key)
include hc
theorem i2u (n:Nat) (N:Nat) (n_:Int) (hn:n_=N):∀(k f a:Nat) (d:List a0c),N-a≤k→k<f→20 ∣ a→a≤N→N=d.length→d.length≤100000000000→(∀c,20 ∣ c→c<a→Srt key d c (min (c+20) N)) →
  ∃d' a',n0x (n+1) f (d,n_,cmp,(20:Int),(a:Int),((a+20:Nat):Int),())=some (.inl (d',n_,cmp,(20:Int),((a':Nat):Int),()))∧20 ∣ a'∧a'≤N∧N<a'+20∧Mv d d' 0 N ∧
   (∀c,20 ∣ c→c<a'→Srt key d' c (min (c+20) N)):=by
 subst hn;intro k;induction k with
 | zero =>
  intro f a d hk hf h20 haN hN hL hs;obtain ⟨f,rfl⟩:∃g,f=g+1:=⟨f-1,by omega⟩;rw[w0t];simp only[tfd,if_neg (show ¬(((a+20:Nat):Int)≤(N:Int)) by omega)];exact ⟨d,a,rfl,h20,haN,by omega,.refl _ _ _,hs⟩
 | succ k ih =>
  intro f a d hk hf h20 haN hN hL hs;obtain ⟨f,rfl⟩:∃g,f=g+1:=⟨f-1,by omega⟩;rw[w0t];by_cases hle:a+20≤N
  ·obtain ⟨d1,r1,r2,r3⟩:=ins_ok hc n (a:Int) ((a+20:Nat):Int) a (a+20) rfl rfl d (by omega) (by omega) (by omega);have l1:=r2.len;simp only[tfd,if_pos (show (((a+20:Nat):Int)≤(N:Int)) by omega),r1,obs];rw[wn (x:=((a+20:Nat):Int)+20) (k:=a+20+20) (by omega) (by omega)];obtain ⟨d',a',s1,s2,s3,s4,s5,s6⟩:=ih f (a+20) d1 (by omega) (by omega) (by omega) (by omega) (by omega) (by omega) (fun c c1 c2=>by
    by_cases e:c<a
    ·have:=k0r c1 h20 e;exact (hs c c1 e).keep r2 (.inl (by omega))
    ·have:c=a:=by
      rcases Nat.lt_or_eq_of_le (Nat.le_of_not_lt e) with h | h
      ·have:=k0r h20 c1 h;omega
      ·exact h.symm
     subst this;rw[Nat.min_eq_left (by omega)]
     exact r3)
   exact ⟨d',a',s1,s2,s3,s4,(r2.mono (by omega) (by omega)).trans s5,s6⟩
  ·simp only[tfd,if_neg (show ¬(((a+20:Nat):Int)≤(N:Int)) by omega)];exact ⟨d,a,rfl,h20,haN,by omega,.refl _ _ _,hs⟩
theorem i2s (n dd:Nat) (N B:Nat) (n_:Int) (hn:n_=N) (hB:0<B) (hBN:B<N) (hdd:N≤2^dd):∀(k f a:Nat) (d:List a0c),N-a≤k→k<f→2*B ∣ a→a≤N→N=d.length→d.length≤100000000000 →
  (∀c,2*B ∣ c→c<a→Srt key d c (min (c+2*B) N))→(∀c,B ∣ c→a≤c→Srt key d c (min (c+B) N)) →
  ∃d' a',t0e (n+dd+2) f (d,n_,cmp,(B:Int),(a:Int),((a+2*B:Nat):Int),())=some (.inl (d',n_,cmp,(B:Int),((a':Nat):Int),()))∧2*B ∣ a'∧a'≤N∧N<a'+2*B∧Mv d d' 0 N ∧
   (∀c,2*B ∣ c→c<a'→Srt key d' c (min (c+2*B) N))∧(∀c,B ∣ c→a'≤c→Srt key d' c (min (c+B) N)):=by
 subst hn;have dB:B ∣ 2*B:=⟨2,by omega⟩;intro k;induction k with
 | zero =>
  intro f a d hk hf h20 haN hN hL hs hs';obtain ⟨f,rfl⟩:∃g,f=g+1:=⟨f-1,by omega⟩;rw[w0r];simp only[tfd,if_neg (show ¬(((a+2*B:Nat):Int)≤(N:Int)) by omega)];exact ⟨d,a,rfl,h20,haN,by omega,.refl _ _ _,hs,hs'⟩
 | succ k ih =>
  intro f a d hk hf h20 haN hN hL hs hs';obtain ⟨f,rfl⟩:∃g,f=g+1:=⟨f-1,by omega⟩;rw[w0r];by_cases hle:a+2*B≤N
  ·have ba:B ∣ a:=Nat.dvd_trans dB h20;have q1:=hs' a ba (Nat.le_refl _);have q2:=hs' (a+B) (Nat.dvd_add ba (Nat.dvd_refl _)) (by omega);rw[Nat.min_eq_left (by omega)] at q1 q2;rw[wn (x:=(a:Int)+B) (k:=a+B) (by omega) (by omega)];obtain ⟨d1,r1,r2,r3⟩:=e1f hc dd n (a:Int) ((a+B:Nat):Int) ((a+2*B:Nat):Int) a (a+B) (a+2*B) d rfl rfl rfl (by omega) (by omega) (by omega) (by omega) (by omega) q1 (q2.mono (by omega) (by omega));have l1:=r2.len;simp only[tfd,if_pos (show (((a+2*B:Nat):Int)≤(N:Int)) by omega),r1,obs]
   rw[wn (x:=2*(B:Int)) (k:=2*B) (by omega) (by omega),wn (x:=((a+2*B:Nat):Int)+((2*B:Nat):Int)) (k:=a+2*B+2*B) (by omega) (by omega)];obtain ⟨d',a',s1,s2,s3,s4,s5,s6,s7⟩:=ih f (a+2*B) d1 (by omega) (by omega) (Nat.dvd_add h20 (Nat.dvd_refl _)) (by omega) (by omega) (by omega) (fun c c1 c2=>by
    by_cases e:c<a
    ·have:=k0r c1 h20 e;exact (hs c c1 e).keep r2 (.inl (by omega))
    ·have:c=a:=by
      rcases Nat.lt_or_eq_of_le (Nat.le_of_not_lt e) with h | h
      ·have:=k0r h20 c1 h;omega
      ·exact h.symm
     subst this;rw[Nat.min_eq_left (by omega)]
     exact r3)
    (fun c c1 c2=>(hs' c c1 (by omega)).keep r2 (.inr (by omega)))
   exact ⟨d',a',s1,s2,s3,s4,(r2.mono (by omega) (by omega)).trans s5,s6,s7⟩
  ·simp only[tfd,if_neg (show ¬(((a+2*B:Nat):Int)≤(N:Int)) by omega)];exact ⟨d,a,rfl,h20,haN,by omega,.refl _ _ _,hs,hs'⟩
theorem i2t (n dd:Nat) (N:Nat) (n_:Int) (hn:n_=N) (hdd:N≤2^dd):∀(k f B:Nat) (d:List a0c),N-B≤k→k<f→0<B→B≤200000000000→N=d.length→d.length≤100000000000→Runs key d B N →
  ∃d',k0w (n+dd+2) f (d,n_,cmp,(B:Int),())=some (.inl (d',()))∧Mv d d' 0 N∧Srt key d' 0 N:=by
 subst hn;intro k;induction k with
 | zero =>
  intro f B d hk hf hB hBl hN hL hs;obtain ⟨f,rfl⟩:∃g,f=g+1:=⟨f-1,by omega⟩;rw[w0s];simp only[tfd,if_neg (show ¬((B:Int)<(N:Int)) by omega)];have:=hs 0 (Nat.dvd_zero _);rw[Nat.min_eq_right (by omega)] at this;exact ⟨d,rfl,.refl _ _ _,this⟩
 | succ k ih =>
  intro f B d hk hf hB hBl hN hL hs;obtain ⟨f,rfl⟩:∃g,f=g+1:=⟨f-1,by omega⟩;rw[w0s];by_cases hlt:B<N
  ·obtain ⟨d1,a,r1,r2,r3,r4,r5,r6,r7⟩:=i2s hc n dd N B (N:Int) rfl hB hlt hdd N a0b 0 d (by omega) (by unfold a0b;omega) (Nat.dvd_zero _) (by omega) hN hL (fun c _ h=>by omega) (fun c h _=>hs c h);have l1:=r5.len;rw[Nat.zero_add] at r1;simp only[tfd,if_pos (show ((B:Int)<(N:Int)) by omega),wn (x:=2*(B:Int)) (k:=2*B) (by omega) (by omega)];rw[show ((0:Int))=((0:Nat):Int) from rfl,r1];simp only[obs,a0w,wn (x:=(a:Int)+B) (k:=a+B) (by omega) (by omega),wn (x:=(B:Int)*2) (k:=2*B) (by omega) (by omega)];have dB:B ∣ 2*B:=⟨2,by omega⟩;have ba:B ∣ a:=Nat.dvd_trans dB r2
   by_cases hm:a+B<N
   ·have q1:=r7 a ba (Nat.le_refl _);have q2:=r7 (a+B) (Nat.dvd_add ba (Nat.dvd_refl _)) (by omega);rw[Nat.min_eq_left (by omega)] at q1;rw[Nat.min_eq_right (by omega)] at q2;obtain ⟨d2,t1,t2,t3⟩:=e1f hc dd n (a:Int) ((a+B:Nat):Int) (N:Int) a (a+B) N d1 rfl rfl rfl (by omega) (by omega) (by omega) (by omega) (by omega) q1 q2;have l2:=t2.len;simp only[if_pos (show (((a+B:Nat):Int)<(N:Int)) by omega),t1,obs];obtain ⟨d3,u1,u2,u3⟩:=ih f (2*B) d2 (by omega) (by omega) (by omega) (by omega) (by omega) (by omega) (fun c hcd=>by
     by_cases e:c<a
     ·have:=k0r hcd r2 e;exact (r6 c hcd e).keep t2 (.inl (by omega))
     ·by_cases e':c=a
      ·subst e';exact t3.mono (Nat.le_refl _) (by omega)
      ·have:=k0r r2 hcd (by omega)
       exact Srt.one _ _ (by omega))
    exact ⟨d3,u1,(r5.trans (t2.mono (by omega) (by omega))).trans u2,u3⟩
   ·simp only[if_neg (show ¬(((a+B:Nat):Int)<(N:Int)) by omega)];obtain ⟨d3,u1,u2,u3⟩:=ih f (2*B) d1 (by omega) (by omega) (by omega) (by omega) (by omega) (by omega) (fun c hcd=>by
     by_cases e:c<a
     ·exact r6 c hcd e
     ·by_cases e':c=a
      ·subst e';have q1:=r7 c ba (Nat.le_refl _);exact q1.mono (Nat.le_refl _) (by omega)
      ·have:=k0r r2 hcd (by omega)
       exact Srt.one _ _ (by omega))
    exact ⟨d3,u1,r5.trans u2,u3⟩
  ·simp only[tfd,if_neg (show ¬((B:Int)<(N:Int)) by omega)];have:=hs 0 (Nat.dvd_zero _);rw[Nat.min_eq_right (by omega)] at this;exact ⟨d,rfl,.refl _ _ _,this⟩
theorem m1c (n dd:Nat) (d:List a0c) (hL:d.length≤2^dd) (hL':d.length≤100000000000) :
  ∃d',e0v (n+dd+4) d cmp=some d'∧d'.Perm d∧Srt key d' 0 d.length:=by
 rw[n0g,d2y];obtain ⟨d1,a,r1,r2,r3,r4,r5,r6⟩:=i2u hc (n+dd+1) d.length (d.length:Int) rfl d.length a0b 0 d (by omega) (by unfold a0b;omega) (Nat.dvd_zero _) (by omega) rfl hL' (fun c _ h=>by omega);have l1:=r5.len;obtain ⟨d2,s1,s2,s3⟩:=ins_ok hc (n+dd+1) (a:Int) (d.length:Int) a d.length rfl rfl d1 r3 (by omega) (by omega);have l2:=s2.len;obtain ⟨d3,t1,t2,t3⟩:=i2t hc n dd d.length (d.length:Int) rfl hL d.length a0b 20 d2 (by omega) (by unfold a0b;omega) (by omega) (by omega) (by omega) (by omega) (fun c hcd=>by
  by_cases e:c<a
  ·have:=k0r hcd r2 e;exact (r6 c hcd e).keep s2 (.inl (by omega))
  ·by_cases e':c=a
   ·subst e';exact s3.mono (Nat.le_refl _) (by omega)
   ·have:=k0r r2 hcd (by omega)
    exact Srt.one _ _ (by omega))
 have r1':n0x (n+dd+2) a0b (d,((d.length:Nat):Int),cmp,(20:Int),(0:Int),(20:Int),())=_:=r1;rw[r1'];simp only[obs,a0w,s1];have t1':k0w (n+dd+2) a0b (d2,((d.length:Nat):Int),cmp,(20:Int),())=_:=t1;rw[t1'];exact ⟨d3,by simp,(t2.perm.trans s2.perm).trans r5.perm,t3⟩
end
end Go.Proofs.YtgkpkajaepphjaaGreatDoor

namespace Go.Plim
set_option linter.unusedVariables false
abbrev Slo:=Int×Cel
instance decSlo:DecidableEq Slo := @instDecidableEqProd _ _ _ decCel
def s0:Slo:=(0,z0)
structure FitsP (c:Cel) (w i:Int):Prop where
 n:CellN c
 w0:1≤w
 w1:w≤1099511627776
 f:c.2.1.1 / w=i
 l:c.2.2.1.1 / w=i
theorem FitsP.i0 {c:Cel} {w i:Int} (h:FitsP c w i):0≤i∧i<35184372088832:=by
 obtain ⟨n,w0,w1,f,l⟩:=h;have h1:=n.f.t0;have h2:=n.f.t1;have:0≤c.2.1.1 / w:=Int.ediv_nonneg h1 (by omega);have:c.2.1.1 / w≤c.2.1.1:=Int.ediv_le_self _ h1;omega
structure TierOk (l:List Slo) (w:Int):Prop where
 l0:1≤l.length
 l1:l.length≤4096
 w0:1≤w
 w1:w≤1099511627776
 s:∀(j:Nat) s,l[j]? = some s→s=s0∨(s.1 % (l.length:Int)=j∧FitsP s.2 w s.1)
noncomputable instance (c w i):Decidable (FitsP c w i):=Classical.propDecidable _
noncomputable instance (l w):Decidable (TierOk l w):=Classical.propDecidable _
def tget (l:List Slo) (i:Int):Cel :=
 if i<0 then z0 else match l[(i % (l.length:Int)).toNat]? with | some s=>if s.1=i then s.2 else z0 | none=>z0
def Up (l:List Slo):Prop:=l.Pairwise fun a b=>a.1<b.1
theorem up_perm:∀ {a b:List Slo},Up a→Up b→a.Perm b→a=b:=by
 intro a;induction a with
 | nil=>intro b _ _ h;exact h.nil_eq
 | cons x a ih =>
  intro b ha hb h;cases b with
  | nil=>exact absurd h.length_eq (by simp)
  | cons y b =>
   unfold Up at *
   rw[List.pairwise_cons] at ha hb;have hx:x∈y::b:=h.subset (by simp);have hy:y∈x::a:=h.symm.subset (by simp);have e:x=y:=by
    rcases List.mem_cons.1 hx with e | hx
    ·exact e
    ·rcases List.mem_cons.1 hy with e | hy
     ·exact e.symm
     ·have:=hb.1 x hx;have:=ha.1 y hy;omega
   subst e;rw[ih ha.2 hb.2 (List.Perm.cons_inv h)]
def g0y (l:List Slo):List Slo:=l.filter fun s=>decide (s≠s0)
theorem TierOk.apart {l:List Slo} {w:Int} (h:TierOk l w):(g0y l).Pairwise fun a b=>a.1≠b.1:=by
 have key:∀(m:List Slo) (k:Nat),(∀(j:Nat) s,m[j]? = some s→s=s0∨s.1 % (l.length:Int)=((k+j:Nat):Int))→(g0y m).Pairwise fun a b=>a.1≠b.1:=by
  intro m;induction m with
  | nil=>intro k _;exact .nil
  | cons x m ih =>
   intro k hm;have ih':=ih (k+1) (fun j s hs=>by
    have:=hm (j+1) s hs
    rwa [show k+(j+1)=k+1+j by omega] at this)
   unfold g0y at *
   by_cases hx:x=s0
   ·rw[List.filter_cons_of_neg (by simp[hx])];exact ih'
   ·rw[List.filter_cons_of_pos (by simp[hx])];refine List.pairwise_cons.2 ⟨fun y hy => ?_,ih'⟩;have hy':=List.mem_filter.1 hy;obtain ⟨j,hj⟩:=List.getElem?_of_mem hy'.1;have h1:=(hm 0 x rfl).resolve_left hx;have h2:=(hm (j+1) y hj).resolve_left (by simpa using hy'.2);intro e;rw[e,h2] at h1;omega
 exact key l 0 (fun j s hs=>by
  rcases h.s j s hs with e | e
  ·exact .inl e
  ·exact .inr (by rw[e.1,Nat.zero_add]))
def tall (l:List Slo):List Slo:=(g0y l).mergeSort fun a b=>decide (a.1≤b.1)
theorem w0i (l:List Slo):(tall l).Perm (g0y l):=List.mergeSort_perm _ _
theorem up_of {l:List Slo} (h:l.Pairwise fun a b=>a.1≤b.1) (h':l.Pairwise fun a b=>a.1≠b.1):Up l:=by
 have:=h.and h';exact this.imp (fun {a b} k=>by have:=k.1;have:=k.2;omega)
theorem m0y {l:List Slo} {w:Int} (h:TierOk l w):Up (tall l):=by
 refine up_of ?_ ((w0i l).pairwise_iff (fun {a b} k=>k.symm) |>.2 h.apart);have:=List.pairwise_mergeSort (le:=fun a b:Slo=>decide (a.1≤b.1)) (fun a b c h1 h2=>by simp at *;omega) (fun a b=>by simp;omega) (g0y l);exact this.imp (fun {a b} k=>by simpa using k)
theorem i2j {l r:List Slo} {w:Int} (h:TierOk l w) (hp:r.Perm (g0y l)) (hs:r.Pairwise fun a b=>a.1≤b.1):r=tall l:=by
 refine up_perm (up_of hs (hp.pairwise_iff (fun {a b} k=>k.symm) |>.2 h.apart)) (m0y h) (hp.trans (w0i l).symm)
theorem k0n {l:List Slo} {s:Slo}:s∈tall l↔s∈l∧s≠s0:=by
 rw[(w0i l).mem_iff];simp[g0y]
theorem d0y {l:List Slo} {w:Int} (h:TierOk l w) {s:Slo} (hs:s∈tall l):FitsP s.2 w s.1∧l[(s.1 % (l.length:Int)).toNat]? = some s:=by
 obtain ⟨h1,h2⟩:=k0n.1 hs;obtain ⟨j,hj⟩:=List.getElem?_of_mem h1;obtain ⟨h3,h4⟩:=(h.s j s hj).resolve_left h2;refine ⟨h4,?_⟩;rw[h3];exact hj
theorem a2j {l:List Slo} {w:Int} (h:TierOk l w) {s:Slo} (hs:s∈tall l):tget l s.1=s.2:=by
 obtain ⟨h1,h2⟩:=d0y h hs;unfold tget;rw[if_neg (by have:=h1.i0;omega),h2];simp
theorem j1k {l:List Slo} {w:Int} (h:TierOk l w) (i:Int):tget l i=z0∨(i,tget l i)∈tall l:=by
 unfold tget;by_cases h0:i<0
 ·rw[if_pos h0];exact .inl rfl
 ·rw[if_neg h0];split
  ·rename_i s hs;by_cases e:s.1=i
   ·rw[if_pos e];by_cases hz:s=s0
    ·left;rw[hz];rfl
    ·right;rw[k0n];have:(i,s.2)=s:=by rw[←e]
     rw[this];exact ⟨List.mem_of_getElem? hs,hz⟩
   ·rw[if_neg e];exact .inl rfl
  ·exact .inl rfl
def within (l:List Slo) (i k:Int):List Cel:=((tall l).filter fun s=>decide (i≤s.1∧s.1<k)).map (·.2)
def tfold (l:List Slo) (i k:Int):Cel×Int:=if i<0∨k<i then (z0,1) else allE z0 (within l i k)
def tput (l:List Slo) (i:Int) (c:Cel):List Slo:=l.set (i % (l.length:Int)).toNat (i,c)
theorem d1z {l:List Slo} {w i:Int} {c:Cel} (h:TierOk l w) (hf:FitsP c w i):TierOk (tput l i c) w:=by
 obtain ⟨l0,l1,w0,w1,hs⟩:=h;refine ⟨by simpa [tput] using l0,by simpa [tput] using l1,w0,w1,fun j s hj => ?_⟩;unfold tput at hj;have hi:=hf.i0;have hm:0≤i % (l.length:Int):=Int.emod_nonneg _ (by omega);rw[List.getElem?_set] at hj;simp only[tput,List.length_set];by_cases e:(i % (l.length:Int)).toNat=j
 ·rw[if_pos e] at hj;split at hj
  ·injection hj with hj;subst hj;exact .inr ⟨by simp only;omega,hf⟩
  ·cases hj
 ·rw[if_neg e] at hj;exact hs j s hj
end Go.Plim

namespace Go.Proofs.YtgkpkajaepphjaaGreatDoor
open Go.Flat Go.Plim
set_option linter.unusedVariables false
set_option linter.unusedSimpArgs false
structure SloW (s:Slo):Prop where
 i:I64 s.1
 c:CelW s.2
theorem j2a (a b:Slo):((decide (a.1=b.1))&&((decide (a.2.1=b.2.1))&&((decide (a.2.2.1.1=b.2.2.1.1))&&((decide (a.2.2.1.2.1=b.2.2.1.2.1))&&((decide (a.2.2.1.2.2.1=b.2.2.1.2.2.1))&&((a.2.2.1.2.2.2==b.2.2.1.2.2.2)&&((decide (a.2.2.2.1.1=b.2.2.2.1.1))&&((decide (a.2.2.2.1.2.1=b.2.2.2.1.2.1))&&((decide (a.2.2.2.1.2.2.1=b.2.2.2.1.2.2.1))&&((a.2.2.2.1.2.2.2==b.2.2.2.1.2.2.2)&&((decide (a.2.2.2.2.1.1=b.2.2.2.2.1.1))&&((decide (a.2.2.2.2.1.2=b.2.2.2.2.1.2))&&((decide (a.2.2.2.2.2.1=b.2.2.2.2.2.1))&&((decide (a.2.2.2.2.2.2.1=b.2.2.2.2.2.2.1))&&(decide (a.2.2.2.2.2.2.2=b.2.2.2.2.2.2.2))))))))))))))))=decide (a=b):=by
 rw[celEq a.2 b.2,Bool.eq_iff_iff];simp[Prod.ext_iff]
theorem j1p (a:Slo):((decide (a.1=(0:Int)))&&((decide (a.2.1=(0:Int)))&&((decide (a.2.2.1.1=(0:Int)))&&((decide (a.2.2.1.2.1=(0:Int)))&&((decide (a.2.2.1.2.2.1=(0:Int)))&&((a.2.2.1.2.2.2==false)&&((decide (a.2.2.2.1.1=(0:Int)))&&((decide (a.2.2.2.1.2.1=(0:Int)))&&((decide (a.2.2.2.1.2.2.1=(0:Int)))&&((a.2.2.2.1.2.2.2==false)&&((decide (a.2.2.2.2.1.1=(0:Int)))&&((decide (a.2.2.2.2.1.2=(0:Int)))&&((decide (a.2.2.2.2.2.1=(0:Int)))&&((decide (a.2.2.2.2.2.2.1=(0:Int)))&&(decide (a.2.2.2.2.2.2.2=(0:Int)))))))))))))))))=decide (a=s0):=j2a a s0
theorem wi_in (n:Nat) (x a b:Int):p0i (n+1) x a b=some (decide (a≤x∧x≤b)):=by
 rw[h1y];by_cases h1:a≤x<;>by_cases h2:x≤b<;>simp[h1,h2]
def OfP (t w:Int):Prop:=0≤t∧t<35184372088832∧1≤w∧w≤1099511627776
instance (t w:Int):Decidable (OfP t w):=by unfold OfP;infer_instance
theorem x0p {t w:Int} (h:OfP t w):0≤t / w∧t / w<35184372088832:=by
 obtain ⟨h1,h2,h3,h4⟩:=h;have:0≤t / w:=Int.ediv_nonneg h1 (by omega);have:t / w≤t:=Int.ediv_le_self _ h1;omega
theorem wi_of (n:Nat) (t w:Int):d2j (n+3) t w=some (if OfP t w then (t / w,0) else (0,1)):=by
 rw[wi_Of_eq,d1t,wi_in,wi_in];simp only[obs,tfn,tfd];by_cases h:OfP t w
 ·have hq:=x0p h;rw[if_pos h];obtain ⟨h1,h2,h3,h4⟩:=h;rw[if_pos (show (0:Int)≤t∧t≤35184372088831 by omega),if_pos (And.intro h3 h4),if_neg (show ¬(w=0) by omega),g0p h1,w64 (by omega) (by omega)]
 ·rw[if_neg h];by_cases h1:(0:Int)≤t∧t≤35184372088831
  ·rw[if_pos h1,if_neg (fun k=>h ⟨h1.1,by omega,k.1,k.2⟩)]
  ·rw[if_neg h1]
theorem a2z (n:Nat) (t w:Int):k1e (n+2) t w=some (if OfP t w then (t / w,0) else (0,1)):=by
 rw[j2t,s1e];simp only[tfd];by_cases h:OfP t w
 ·have hq:=x0p h;rw[if_pos h];obtain ⟨h1,h2,h3,h4⟩:=h;rw[if_neg (show ¬(t<0) by omega),if_neg (show ¬((35184372088832:Int)≤t) by omega),if_pos h3,decide_eq_true h4];simp only[obs,Bool.not_true,tff];rw[if_neg (show ¬(w=0) by omega),d0x h1];have e:t-t % w=w*(t / w):=by have:=Int.mul_ediv_add_emod t w;omega
  have m0:=Int.emod_nonneg t (show w≠0 by omega);have m1:t % w≤t:=by
   have:=Int.mul_nonneg (show 0≤w by omega) hq.1;omega
  rw[w64 (x:=t-t % w) (by omega) (by omega),g0p (by omega),e,Int.mul_ediv_cancel_left _ (show w≠0 by omega),w64 (by omega) (by omega),if_neg (show ¬(w=0) by omega)]
 ·rw[if_neg h];by_cases h1:t<0
  ·rw[if_pos h1]
  by_cases h2:(35184372088832:Int)≤t
  ·rw[if_neg h1,if_pos h2]
  rw[if_neg h1,if_neg h2];by_cases h3:(1:Int)≤w
  ·have h4:¬(w≤1099511627776):=fun k=>h ⟨by omega,by omega,h3,k⟩
   rw[if_pos h3,decide_eq_false h4];rfl
  ·rw[if_neg h3];rfl
def w0n (i n:Int):Int:=if i<0 then 0 else if n<1 then 0 else i % n
theorem v1p (n:Nat) (i m:Int):d1v (n+1) i m=some (w0n i m):=by
 rw[d2i];simp only[tfd];unfold w0n;by_cases h1:i<0
 ·rw[if_pos h1,if_pos h1]
 by_cases h2:m<1
 ·rw[if_neg h1,if_neg h1,if_pos h2,if_pos h2]
 rw[if_neg h1,if_neg h1,if_neg h2,if_neg h2,if_neg (by omega),d0x (by omega)]
theorem a2y (n:Nat) (i m:Int):d1d (n+1) i m=some (w0n i m):=by
 rw[x1v];simp only[tfd];unfold w0n;by_cases h1:i<0
 ·rw[if_pos h1,if_pos h1]
 by_cases h2:m<1
 ·rw[if_neg h1,if_neg h1,if_pos h2,if_pos h2]
 rw[if_neg h1,if_neg h1,if_neg h2,if_neg h2,if_neg (by omega),d0x (by omega)]
theorem n0v {i n:Int} (hi:0≤i) (hn:1≤n):w0n i n=i % n:=by
 unfold w0n;rw[if_neg (by omega),if_neg (by omega)]
theorem u1e (c:Cel) (w i:Int):FitsP c w i↔c≠z0∧b0d c∧OfP c.2.1.1 w∧c.2.1.1 / w=i∧OfP c.2.2.1.1 w∧c.2.2.1.1 / w=i:=by
 constructor
 ·rintro ⟨n,w0,w1,f,l⟩;exact ⟨n.ne,n.ok,⟨n.f.t0,n.f.t1,w0,w1⟩,f,⟨n.l.t0,n.l.t1,w0,w1⟩,l⟩
 ·rintro ⟨h1,h2,h3,h4,h5,h6⟩;exact ⟨h2.n h1,h3.2.2.1,h3.2.2.2,h4,h6⟩
theorem of01 (p:Prop) [Decidable p] (x:Int):((if p then (x,(0:Int)) else (0,1)).2=0)↔p:=by by_cases h:p<;>simp[h]
theorem m2a (n f:Nat) (w i:Int) (s:Int×Int):f0e n (f+1) (w,i,s,(2:Int),())=some (.inl ()):=by
 rw[l0j,show (decide ((2:Int)<2))=false from rfl,tff]
theorem m2b (n f:Nat) (w i:Int) (s:Int×Int):f0e (n+3) (f+2) (w,i,s,(1:Int),())=some (if OfP s.2 w∧s.2 / w=i then .inl () else .inr false):=by
 rw[l0j,show (decide ((1:Int)<2))=true from rfl,tft,show (decide ((1:Int)=0))=false from rfl,tff,show (decide ((1:Int)=1))=true from rfl,tft,wi_of];simp only[tfd,tfn,obs,of01];rw[show IntKind.wrap .i64 ((1:Int)+1)=2 from rfl,m2a];by_cases h3:OfP s.2 w
 ·rw[if_pos h3,if_pos h3];by_cases h4:s.2 / w=i
  ·rw[if_pos h4,if_pos (And.intro h3 h4)]
  ·rw[if_neg h4,if_neg (fun k=>h4 k.2)]
 ·rw[if_neg h3,if_neg (fun k=>h3 k.1)]
theorem m2c (n f:Nat) (w i:Int) (s:Int×Int):f0e (n+3) (f+3) (w,i,s,(0:Int),())=some (if (OfP s.1 w∧s.1 / w=i)∧(OfP s.2 w∧s.2 / w=i) then .inl () else .inr false):=by
 rw[l0j,show (decide ((0:Int)<2))=true from rfl,tft,show (decide ((0:Int)=0))=true from rfl,tft,wi_of];simp only[tfd,tfn,obs,of01];rw[show IntKind.wrap .i64 ((0:Int)+1)=1 from rfl,m2b];by_cases h3:OfP s.1 w
 ·rw[if_pos h3,if_pos h3];by_cases h4:s.1 / w=i
  ·rw[if_pos h4];by_cases h5:OfP s.2 w∧s.2 / w=i
   ·rw[if_pos h5,if_pos (And.intro (And.intro h3 h4) h5)]
   ·rw[if_neg h5,if_neg (fun k=>h5 k.2)]
  ·rw[if_neg h4,if_neg (fun k=>h4 k.1.2)]
 ·rw[if_neg h3,if_neg (fun k=>h3 k.1.1)]
theorem w0e (n:Nat) {c:Cel} (hc:CelW c) (w i:Int):l0k (n+6) c w i=some (decide (FitsP c w i)):=by
 rw[q1l,b1e n hc];simp only[tfd,obs,tfn,z02];have e:a0b=(2^70-3)+3:=by decide
 rw[e,m2c];have hiff:=u1e c w i;by_cases h1:c.1=0
 ·rw[if_pos h1,decide_eq_false];intro k;have:=k.n.n1;omega
 rw[if_neg h1];by_cases h2:b0d c
 case neg=>rw[if_neg h2,decide_eq_false (fun k=>h2 (hiff.1 k).2.1)]
 rw[if_pos h2];by_cases h3:(OfP c.2.1.1 w∧c.2.1.1 / w=i)∧(OfP c.2.2.1.1 w∧c.2.2.1.1 / w=i)
 ·rw[if_pos h3,decide_eq_true (hiff.2 ⟨mt h2.count.1.2 h1,h2,h3.1.1,h3.1.2,h3.2.1,h3.2.2⟩)];rfl
 ·rw[if_neg h3,decide_eq_false (fun k=>h3 (by have:=hiff.1 k;exact ⟨⟨this.2.2.1,this.2.2.2.1⟩,this.2.2.2.2⟩))];rfl
theorem a2w (n:Nat) {c:Cel} (hc:CelW c) (w i:Int):d1c (n+5) c w i=some (decide (FitsP c w i)):=by
 rw[x1q,f1n n hc,a2z,a2z];simp only[tfd,obs,tfn,z02,of01];have hiff:=u1e c w i;by_cases h2:b0d c
 case neg=>rw[if_neg h2,decide_eq_false (fun k=>h2 (hiff.1 k).2.1)]
 rw[if_pos h2];by_cases h1:c.1=0
 ·rw[if_pos h1,decide_eq_false];intro k;have:=k.n.n1;omega
 rw[if_neg h1];by_cases h3:OfP c.2.1.1 w
 case neg=>rw[if_neg h3,decide_eq_false (fun k=>h3 (hiff.1 k).2.2.1)]
 rw[if_pos h3,if_pos h3];by_cases h5:OfP c.2.2.1.1 w
 case neg=>rw[if_neg h5,decide_eq_false (fun k=>h5 (hiff.1 k).2.2.2.2.1)]
 rw[if_pos h5,if_pos h5];by_cases h4:c.2.1.1 / w=i
 case neg=>rw[if_neg h4,decide_eq_false (fun k=>h4 (hiff.1 k).2.2.2.1)]
 rw[if_pos h4];congr 1;exact decide_eq_decide.2 ⟨fun h6=>hiff.2 ⟨mt h2.count.1.2 h1,h2,h3,h4,h5,h6⟩,fun k=>(hiff.1 k).2.2.2.2.2⟩
theorem w0d (n:Nat) (s:Slo):r0c (n+1) s=some (decide (s=s0)):=by rw[q1i,j1p]
def v0v (m w:Int) (j:Int) (s:Slo):Prop:=s=s0∨(w0n s.1 m=j∧FitsP s.2 w s.1)
theorem q1j (n:Nat) (l:List Slo) (w:Int) (hL:l.length≤4096) (hw:∀s∈l,SloW s):∀(rest pre:List Slo) (f:Nat) (i len:Int),l=pre++rest→i=pre.length→len=l.length→rest.length<f →
  ((∀(j:Nat) s,rest[j]? = some s→v0v l.length w (i+j) s)→f0p (n+6) f (l,w,l,len,i,())=some (.inl ())) ∧
  (¬(∀(j:Nat) s,rest[j]? = some s→v0v l.length w (i+j) s)→f0p (n+6) f (l,w,l,len,i,())=some (.inr 2)):=by
 intro rest;induction rest with
 | nil =>
  intro pre f i len hl hi hn hf;obtain ⟨f,rfl⟩:∃g,f=g+1:=⟨f-1,by simp at hf;omega⟩;rw[q0m];refine ⟨fun _=>by simp only[tfd,if_neg (idxe hl hi hn)],fun h=>absurd ?_ h⟩;intro j s hs;simp at hs
 | cons x rest ih =>
  intro pre f i len hl hi hn hf;obtain ⟨f,rfl⟩:∃g,f=g+1:=⟨f-1,by simp at hf;omega⟩;rw[q0m];have hx:SloW x:=hw x (by rw[hl];simp);have ih':=ih (pre++[x]) f (i+1) len (idxl hl) (idxs hi) hn (by simp at hf;omega);simp only[tfd,tfn,if_pos (idx hl hi hn),b0q hl hi,obs,w0d,v1p,w0e n hx.c,idxw hl hi (by omega)];have split:(∀(j:Nat) s,(x::rest)[j]? = some s→v0v l.length w (i+j) s)↔v0v l.length w i x∧(∀(j:Nat) s,rest[j]? = some s→v0v l.length w (i+1+j) s):=by
   constructor
   ·intro h;refine ⟨by simpa using h 0 x rfl,fun j s hs => ?_⟩;have:=h (j+1) s hs
    rwa [show i+((j+1:Nat):Int)=i+1+j by omega] at this
   ·rintro ⟨h1,h2⟩ j s hs;cases j with
    | zero=>simp at hs;subst hs;simpa using h1
    | succ j =>
     have:=h2 j s hs
     rwa [show i+((j+1:Nat):Int)=i+1+j by omega]
  rw[split];by_cases h0:x=s0
  ·rw[if_pos h0];have hp:v0v l.length w i x := .inl h0;exact ⟨fun h=>ih'.1 h.2,fun h=>ih'.2 (fun k=>h ⟨hp,k⟩)⟩
  ·rw[if_neg h0];by_cases h1:w0n x.1 l.length=i
   ·rw[if_pos h1];by_cases h2:FitsP x.2 w x.1
    ·rw[if_pos h2];have hp:v0v l.length w i x := .inr ⟨h1,h2⟩;exact ⟨fun h=>ih'.1 h.2,fun h=>ih'.2 (fun k=>h ⟨hp,k⟩)⟩
    ·rw[if_neg h2];exact ⟨fun h=>absurd (h.1.resolve_left h0).2 h2,fun _=>rfl⟩
   ·rw[if_neg h1];exact ⟨fun h=>absurd (h.1.resolve_left h0).1 h1,fun _=>rfl⟩
theorem x1n (n:Nat) (l:List Slo) (w:Int) (hL:l.length≤4096) (hw:∀s∈l,SloW s):∀(rest pre:List Slo) (f:Nat) (i len:Int),l=pre++rest→i=pre.length→len=l.length→rest.length<f →
  ((∀(j:Nat) s,rest[j]? = some s→v0v l.length w (i+j) s)→h0a (n+5) f (l,w,l,len,i,())=some (.inl ())) ∧
  (¬(∀(j:Nat) s,rest[j]? = some s→v0v l.length w (i+j) s)→h0a (n+5) f (l,w,l,len,i,())=some (.inr 2)):=by
 intro rest;induction rest with
 | nil =>
  intro pre f i len hl hi hn hf;obtain ⟨f,rfl⟩:∃g,f=g+1:=⟨f-1,by simp at hf;omega⟩;rw[r0o];refine ⟨fun _=>by simp only[tfd,if_neg (idxe hl hi hn)],fun h=>absurd ?_ h⟩;intro j s hs;simp at hs
 | cons x rest ih =>
  intro pre f i len hl hi hn hf;obtain ⟨f,rfl⟩:∃g,f=g+1:=⟨f-1,by simp at hf;omega⟩;rw[r0o];have hx:SloW x:=hw x (by rw[hl];simp);have ih':=ih (pre++[x]) f (i+1) len (idxl hl) (idxs hi) hn (by simp at hf;omega);simp only[tfd,tfn,if_pos (idx hl hi hn),b0q hl hi,obs,j1p,a2y,a2w n hx.c,idxw hl hi (by omega)];have split:(∀(j:Nat) s,(x::rest)[j]? = some s→v0v l.length w (i+j) s)↔v0v l.length w i x∧(∀(j:Nat) s,rest[j]? = some s→v0v l.length w (i+1+j) s):=by
   constructor
   ·intro h;refine ⟨by simpa using h 0 x rfl,fun j s hs => ?_⟩;have:=h (j+1) s hs
    rwa [show i+((j+1:Nat):Int)=i+1+j by omega] at this
   ·rintro ⟨h1,h2⟩ j s hs;cases j with
    | zero=>simp at hs;subst hs;simpa using h1
    | succ j =>
     have:=h2 j s hs
     rwa [show i+((j+1:Nat):Int)=i+1+j by omega]
  rw[split];by_cases h0:x=s0
  ·rw[if_pos h0];have hp:v0v l.length w i x := .inl h0;exact ⟨fun h=>ih'.1 h.2,fun h=>ih'.2 (fun k=>h ⟨hp,k⟩)⟩
  ·rw[if_neg h0];by_cases h2:FitsP x.2 w x.1
   ·rw[if_pos h2];by_cases h1:w0n x.1 l.length=i
    ·rw[if_pos h1];have hp:v0v l.length w i x := .inr ⟨h1,h2⟩;exact ⟨fun h=>ih'.1 h.2,fun h=>ih'.2 (fun k=>h ⟨hp,k⟩)⟩
    ·rw[if_neg h1];exact ⟨fun h=>absurd (h.1.resolve_left h0).1 h1,fun _=>rfl⟩
   ·rw[if_neg h2];exact ⟨fun h=>absurd (h.1.resolve_left h0).2 h2,fun _=>rfl⟩
theorem r1a {l:List Slo} {w:Int} (h0:1≤l.length):(∀(j:Nat) s,l[j]? = some s→v0v l.length w (0+j) s)↔(∀(j:Nat) s,l[j]? = some s→s=s0∨(s.1 % (l.length:Int)=j∧FitsP s.2 w s.1)):=by
 constructor
 ·intro h j s hs;rcases h j s hs with e | ⟨e,f⟩
  ·exact .inl e
  ·rw[n0v f.i0.1 (by omega)] at e;exact .inr ⟨by omega,f⟩
 ·intro h j s hs;rcases h j s hs with e | ⟨e,f⟩
  ·exact .inl e
  ·exact .inr ⟨by rw[n0v f.i0.1 (by omega)];omega,f⟩
theorem s0y (n:Nat) (l:List Slo) (w:Int) (hw:∀s∈l,SloW s):k0u (n+7) l w=some (if TierOk l w then 0 else 2):=by
 rw[l1p];simp only[tfd];by_cases h1:(l.length:Int)=0
 ·rw[if_pos h1,if_neg (fun k=>by have:=k.l0;omega)]
 by_cases h2:(4096:Int)<l.length
 ·rw[if_neg h1,if_pos h2,if_neg (fun k=>by have:=k.l1;omega)]
 by_cases h3:w<1
 ·rw[if_neg h1,if_neg h2,if_pos h3,if_neg (fun k=>by have:=k.w0;omega)]
 by_cases h4:(1099511627776:Int)<w
 ·rw[if_neg h1,if_neg h2,if_neg h3,if_pos h4,if_neg (fun k=>by have:=k.w1;omega)]
 rw[if_neg h1,if_neg h2,if_neg h3,if_neg h4];have hl:=q1j n l w (by omega) hw l [] a0b 0 l.length rfl rfl rfl (by unfold a0b;omega);rw[r1a (by omega)] at hl;by_cases h5:∀(j:Nat) s,l[j]? = some s→s=s0∨(s.1 % (l.length:Int)=j∧FitsP s.2 w s.1)
 ·rw[hl.1 h5,if_pos ⟨by omega,by omega,by omega,by omega,h5⟩];rfl
 ·rw[hl.2 h5,if_neg (fun k=>h5 k.s)];rfl
theorem f1i (n:Nat) (l:List Slo) (w:Int) (hw:∀s∈l,SloW s):r0p (n+6) l w=some (if TierOk l w then 0 else 2):=by
 rw[r1y];simp only[tfd];by_cases h1:(l.length:Int)<1
 ·rw[if_pos h1,if_neg (fun k=>by have:=k.l0;omega)]
 by_cases h2:(4096:Int)<l.length
 ·rw[if_neg h1,if_pos h2,if_neg (fun k=>by have:=k.l1;omega)]
 by_cases h3:w<1
 ·rw[if_neg h1,if_neg h2,if_pos h3,if_neg (fun k=>by have:=k.w0;omega)]
 by_cases h4:(1099511627776:Int)<w
 ·rw[if_neg h1,if_neg h2,if_neg h3,if_pos h4,if_neg (fun k=>by have:=k.w1;omega)]
 rw[if_neg h1,if_neg h2,if_neg h3,if_neg h4];have hl:=x1n n l w (by omega) hw l [] a0b 0 l.length rfl rfl rfl (by unfold a0b;omega);rw[r1a (by omega)] at hl;by_cases h5:∀(j:Nat) s,l[j]? = some s→s=s0∨(s.1 % (l.length:Int)=j∧FitsP s.2 w s.1)
 ·rw[hl.1 h5,if_pos ⟨by omega,by omega,by omega,by omega,h5⟩];rfl
 ·rw[hl.2 h5,if_neg (fun k=>h5 k.s)];rfl
theorem p0a (n:Nat) (l:List Slo) (h:l.length≤1000000):e0i (n+1) l=some l:=by
 rw[c1h];simp only[tfd,if_pos (show (0+l.length)*120≤140737488355328 by omega),List.nil_append];by_cases h0:l.length=0
 ·obtain rfl:=List.length_eq_zero_iff.1 h0;simp
 ·rw[if_neg h0]
section
variable {del:a0c×Unit→Option Bool} {p:Slo→Bool} (hd:∀x,del (x,())=some (p x))
include hd
theorem l2m (n:Nat) (l:List Slo) (hL:l.length≤1000000):∀(rest pre:List Slo) (f:Nat) (i len:Int),l=pre++rest→i=pre.length→len=l.length→rest.length<f →
  (c0p n f (l,del,len,i,())=some (.inl ())∧∀x∈rest,p x=false) ∨
  (∃A x B,rest=A++x::B∧(∀y∈A,p y=false)∧p x=true∧c0p n f (l,del,len,i,())=some (.inr (i+A.length))):=by
 intro rest;induction rest with
 | nil =>
  intro pre f i len hl hi hn hf;obtain ⟨f,rfl⟩:∃g,f=g+1:=⟨f-1,by simp at hf;omega⟩;rw[h0q];exact .inl ⟨by simp only[tfd,if_neg (idxe hl hi hn)],by simp⟩
 | cons x rest ih =>
  intro pre f i len hl hi hn hf;obtain ⟨f,rfl⟩:∃g,f=g+1:=⟨f-1,by simp at hf;omega⟩;rw[h0q];simp only[tfd,if_pos (idx hl hi hn),b0q hl hi,obs,hd,idxw hl hi (by omega)];cases hp:p x with
  | true=>exact .inr ⟨[],x,rest,rfl,by simp,hp,by simp⟩
  | false =>
   rw[tff];rcases ih (pre++[x]) f (i+1) len (idxl hl) (idxs hi) hn (by simp at hf;omega) with ⟨h1,h2⟩ | ⟨A,y,B,h1,h2,h3,h4⟩
   ·exact .inl ⟨h1,by intro z hz;rcases List.mem_cons.1 hz with rfl | hz;exact hp;exact h2 z hz⟩
   ·refine .inr ⟨x::A,y,B,by rw[h1];rfl,?_,h3,by rw[h4,List.length_cons,show i+1+(A.length:Int)=i+((A.length+1:Nat):Int) by omega]⟩;intro z hz;rcases List.mem_cons.1 hz with rfl | hz
    ·exact hp
    ·exact h2 z hz
theorem delete_l (n:Nat) (l0:List Slo) (hL:l0.length≤1000000):∀(rest F G:List Slo) (f:Nat) (i j:Int),(F++(G++rest)).length=l0.length→G≠[]→i=F.length→j=F.length+G.length→rest.length<f →
  ∃G',c0k n f (F++(G++rest),del,i,j,())=some (.inl (F++rest.filter (fun x => !p x)++G',(F++rest.filter (fun x => !p x)).length,()))∧(F++rest.filter (fun x => !p x)++G').length=l0.length:=by
 intro rest;induction rest with
 | nil =>
  intro F G f i j hl hg hi hj hf;obtain ⟨f,rfl⟩:∃g,f=g+1:=⟨f-1,by simp at hf;omega⟩;rw[g0z];have:¬(j<((F++(G++[])).length:Int)):=by simp;omega
  simp only[tfd,if_neg this];exact ⟨G,by simp[hi],by simpa using hl⟩
 | cons x rest ih =>
  intro F G f i j hl hg hi hj hf;obtain ⟨f,rfl⟩:∃g,f=g+1:=⟨f-1,by simp at hf;omega⟩;rw[g0z];simp only[List.length_append,List.length_cons] at hl;have hlt:j<((F++(G++x::rest)).length:Int):=by simp;omega
  have hat:at? (F++(G++x::rest)) j=some x:=b0q (pre:=F++G) (rest:=rest) (by simp) (by simp;omega);have hget:(F++(G++x::rest))[j.toNat]? = some x:=by
   rw[show j.toNat=F.length+G.length by omega,List.getElem?_append_right (by omega),List.getElem?_append_right (by omega)];simp
  simp only[tfd,if_pos hlt,hat,hget,obs,hd];have wj:IntKind.wrap .i64 (j+1)=j+1:=by rw[w64 (by omega) (by omega)]
  have wi:IntKind.wrap .i64 (i+1)=i+1:=by rw[w64 (by omega) (by omega)]
  rw[wj,wi]
  match G,hg with
  | g::G,_ =>
  cases hp:p x with
  | false =>
   have hat':at? (F++(g::G++x::rest)) i=some g:=b0q (pre:=F) (rest:=G++x::rest) (by simp) hi;have hget':(F++(g::G++x::rest))[i.toNat]? = some g:=by
    rw[show i.toNat=F.length by omega];simp
   have hset:(F++(g::G++x::rest)).set i.toNat x=(F++[x])++((G++[x])++rest):=by
    rw[show i.toNat=F.length by omega,List.set_append_right _ _ (by omega)];simp
   simp only[Bool.not_false,tft,hat',hget',obs,hset];obtain ⟨G',h1,h2⟩:=ih (F++[x]) (G++[x]) f (i+1) (j+1) (by simp at hl ⊢;omega) (by simp) (by simp;omega) (by simp at hj ⊢;omega) (by simp at hf;omega);refine ⟨G',?_,?_⟩
   ·rw[h1];simp[List.filter_cons,hp]
   ·rw[←h2];simp[List.filter_cons,hp]
  | true =>
   simp only[Bool.not_true,tff];obtain ⟨G',h1,h2⟩:=ih F (g::G++[x]) f i (j+1) (by simp at hl ⊢;omega) (by simp) hi (by simp at hj ⊢;omega) (by simp at hf;omega);simp only[List.append_assoc,List.singleton_append] at h1;refine ⟨G',?_,?_⟩
   ·rw[h1];simp[List.filter_cons,hp]
   ·rw[←h2];simp[List.filter_cons,hp]
theorem z1j (n:Nat) (l:List Slo) (hL:l.length≤1000000):h0v (n+2) l del=some (l.filter fun x => !p x):=by
 rw[r0f,k0b];rcases l2m hd n l hL l [] a0b 0 l.length rfl rfl rfl (by unfold a0b;omega) with ⟨h1,h2⟩ | ⟨A,x,B,h1,h2,h3,h4⟩
 ·rw[h1];simp only[obs,a0w,tfd,if_pos trivial];exact congrArg some (List.filter_eq_self.2 fun y hy=>by simp[h2 y hy]).symm
 ·rw[h4];have hl:l.length=A.length+(B.length+1):=by rw[h1];simp
  simp only[obs,o0a,tfd,Int.zero_add];rw[if_neg (by omega),w64 (x:=(A.length:Int)+1) (by omega) (by omega)];obtain ⟨G',g1,g2⟩:=delete_l hd (n+1) l hL B A [x] a0b (A.length:Int) (A.length+1) (by rw[h1];simp) (by simp) rfl (by simp) (by unfold a0b;omega);rw[show A++([x]++B)=l by rw[h1];simp] at g1;rw[g1];have hF:A++B.filter (fun x => !p x)=l.filter fun x => !p x:=by
   rw[h1,List.filter_append,List.filter_cons];have:A.filter (fun x => !p x)=A:=List.filter_eq_self.2 fun y hy=>by simp[h2 y hy]
   simp[h3,this]
  rw[hF] at g2 ⊢;generalize (l.filter fun x => !p x)=F at *
  simp only[obs,a0w,r0b,tfd,Int.toNat_natCast];have hle:F.length≤(F++G').length:=by simp
  have k1:putRow (F++G') F.length (List.replicate ((F++G').length-F.length) s0)=F++List.replicate ((F++G').length-F.length) s0:=by
   unfold putRow;rw[List.drop_of_length_le (by simp)];simp
  have k2:=k1;simp only[s0,z0,e0] at k2;rw[k2,if_pos (by omega),if_pos hle,if_pos (by omega),if_pos (by omega),if_pos (by simp;omega)];simp
end
theorem n2e (n:Nat) (x y:Int):j0a (n+2) x y=some (if x<y then -1 else if y<x then 1 else 0):=by
 rw[u0e,m0v,m0v];simp only[decide_true,Bool.not_true,obs,tff,tfd];by_cases h1:x<y
 ·rw[if_pos h1,if_pos h1]
 ·rw[if_neg h1,if_neg h1];by_cases h2:y<x
  ·rw[if_pos h2,if_pos h2]
  ·rw[if_neg h2,if_neg h2]
theorem n2f (n:Nat):Cmp (fun y3=>s0z (n+3) y3.1 y3.2.1) (fun s=>s.1):=by
 intro x y;refine ⟨if x.1<y.1 then -1 else if y.1<x.1 then 1 else 0,?_,?_⟩
 ·show s0z (n+3) x y=_;rw[l1q,n2e];rfl
 ·by_cases h1:x.1<y.1
  ·simp[h1]
  ·by_cases h2:y.1<x.1
   ·simp[h1,h2]
   ·simp[h1,h2]
theorem f1v {l:List Slo} (h:Srt (fun s=>s.1) l 0 l.length):l.Pairwise fun a b=>a.1≤b.1:=by
 rw[List.pairwise_iff_getElem];intro i j hi hj hij;exact h i j _ _ (by omega) hij hj (List.getElem?_eq_getElem hi) (List.getElem?_eq_getElem hj)
theorem tier_all (n:Nat) {l:List Slo} {w:Int} (h:TierOk l w):l1r (n+17) l=some (tall l):=by
 have hl:=h.l1;rw[v1x,p0a _ l (by omega)];simp only[obs];rw[z1j (del:=fun y1=>r0c (n+16) y1.1) (p:=fun s=>decide (s=s0)) (fun x=>w0d (n+15) x) (n+14) l (by omega)];simp only[obs];have e:(l.filter fun x => !decide (x=s0))=g0y l:=by unfold g0y;congr 1;funext x;simp
 rw[e];have hle:(g0y l).length≤l.length:=List.length_filter_le _ _;obtain ⟨d',r1,r2,r3⟩:=m1c (n2f (n+13)) n 12 (g0y l) (by omega) (by omega);rw[r1];rw[←r2.length_eq] at r3;rw[i2j h r2 (f1v r3)];rfl
theorem e2y (n:Nat) (out:List Slo) (s:Slo) (s8:List Slo) (s9 s10:Int) (hL:out.length≤1000000) (hs:out.Pairwise fun a b=>a.1≤b.1):∀(k f:Nat),k≤out.length→k<f→(∀x∈out.drop k,s.1<x.1) →
  ∃k':Nat,t0k n f (out,s,(k:Int),s8,s9,s10,())=some (.inl (out,s,(k':Int),s8,s9,s10,()))∧k'≤out.length∧(∀x∈out.take k',x.1≤s.1)∧(∀x∈out.drop k',s.1<x.1):=by
 intro k;induction k with
 | zero =>
  intro f hk hf h;obtain ⟨f,rfl⟩:∃g,f=g+1:=⟨f-1,by omega⟩;rw[x0h];simp only[tfd,if_neg (show ¬((0:Int)<((0:Nat):Int)) by omega)];exact ⟨0,rfl,by omega,by simp,h⟩
 | succ k ih =>
  intro f hk hf h;obtain ⟨f,rfl⟩:∃g,f=g+1:=⟨f-1,by omega⟩;rw[x0h];have lk:k<out.length:=by omega
  rw[wn (x:=((k+1:Nat):Int)-1) (k:=k) (by omega) (by omega)];simp only[tfd,if_pos (show ((0:Int)<((k+1:Nat):Int)) by omega),at_some lk,Int.toNat_natCast,List.getElem?_eq_getElem lk,obs];by_cases hc:s.1<out[k].1
  ·rw[if_pos hc];refine ih f (by omega) (by omega) (fun x hx => ?_);rw[List.drop_eq_getElem_cons lk] at hx;rcases List.mem_cons.1 hx with rfl | hx
   ·exact hc
   ·exact h x hx
  ·rw[if_neg hc];refine ⟨k+1,rfl,hk,fun x hx => ?_,h⟩;obtain ⟨j,hj,rfl⟩:=List.mem_iff_getElem.1 hx;have hj':j<k+1:=by simp at hj;omega
   rw[List.getElem_take];rcases Nat.lt_or_eq_of_le (Nat.le_of_lt_succ hj') with hjk | rfl
   ·have:=List.pairwise_iff_getElem.1 hs j k (by omega) lk hjk;omega
   ·omega
theorem insert_sorted {out:List Slo} {s:Slo} {k:Nat} (hs:out.Pairwise fun a b=>a.1≤b.1) (h1:∀x∈out.take k,x.1≤s.1) (h2:∀x∈out.drop k,s.1<x.1) :
  (out.take k++s::out.drop k).Pairwise fun a b=>a.1≤b.1:=by
 rw[List.pairwise_append];refine ⟨hs.sublist (List.take_sublist _ _),List.pairwise_cons.2 ⟨fun x hx=>Int.le_of_lt (h2 x hx),hs.sublist (List.drop_sublist _ _)⟩,fun a ha b hb => ?_⟩;rcases List.mem_cons.1 hb with rfl | hb
 ·exact h1 a ha
 ·have:=h1 a ha;have:=h2 b hb;omega
theorem e2z (n:Nat) (l:List Slo) (hL:l.length≤1000000):∀(rest pre:List Slo) (f:Nat) (out:List Slo) (i len:Int),l=pre++rest→i=pre.length→len=l.length→rest.length<f→out.Pairwise (fun a b=>a.1≤b.1)→out.Perm (g0y pre) →
  ∃out',o0c n f (out,l,len,i,())=some (.inl (out',()))∧out'.Pairwise (fun a b=>a.1≤b.1)∧out'.Perm (g0y l):=by
 intro rest;induction rest with
 | nil =>
  intro pre f out i len hl hi hn hf hs hp;obtain ⟨f,rfl⟩:∃g,f=g+1:=⟨f-1,by simp at hf;omega⟩;rw[x0i];rw[List.append_nil] at hl;exact ⟨out,by simp only[tfd,if_neg (idxe (pre:=pre) (by rw[hl,List.append_nil]) hi hn)],hs,by rw[hl];exact hp⟩
 | cons x rest ih =>
  intro pre f out i len hl hi hn hf hs hp;obtain ⟨f,rfl⟩:∃g,f=g+1:=⟨f-1,by simp at hf;omega⟩;rw[x0i];have hlen:out.length≤l.length:=by
   rw[hp.length_eq,hl];have:(g0y pre).length≤pre.length:=List.length_filter_le _ _;simp;omega
  simp only[tfd,if_pos (idx hl hi hn),b0q hl hi,obs,j1p];by_cases h0:x=s0
  ·rw[if_pos h0,idxw hl hi (by omega)];exact ih (pre++[x]) f out (i+1) len (idxl hl) (idxs hi) hn (by simp at hf;omega) hs (by simpa [g0y,List.filter_append,h0] using hp)
  ·rw[if_neg h0];obtain ⟨k,r1,r2,r3,r4⟩:=e2y n out x l len i (by omega) hs out.length a0b (Nat.le_refl _) (by unfold a0b;omega) (by simp);rw[r1];have t1:(List.take ((k:Int).toNat-0) (List.drop 0 out))=out.take k:=by simp
   have t2:(List.take (out.length-(k:Int).toNat) (List.drop (k:Int).toNat out))=out.drop k:=by
    rw[Int.toNat_natCast,List.take_of_length_le (by simp)]
   simp only[obs,a0w,r0b,tfd];rw[t1,t2,List.nil_append];have l1:(out.take k).length=k:=by simp;omega
   rw[if_pos (by omega),if_pos (by omega),if_pos (by rw[l1];omega),if_pos (by rw[l1];omega),if_pos (by omega),if_pos (by simp;omega),if_pos (by simp;omega),idxw hl hi (by omega)];have e:out.take k++[x]++out.drop k=out.take k++x::out.drop k:=by simp
   rw[e];refine ih (pre++[x]) f _ (i+1) len (idxl hl) (idxs hi) hn (by simp at hf;omega) (insert_sorted hs r3 r4) ?_;have e2:g0y (pre++[x])=g0y pre++[x]:=by simp[g0y,List.filter_append,h0]
   rw[e2];refine (List.perm_middle).trans ?_;rw[List.take_append_drop];exact ((List.Perm.cons x hp)).trans (List.perm_append_comm (l₁:=[x]))
theorem v0n (n:Nat) {l:List Slo} {w:Int} (h:TierOk l w):p0y (n+1) l=some (tall l):=by
 have hl:=h.l1;rw[f2b];obtain ⟨out,r1,r2,r3⟩:=e2z n l (by omega) l [] a0b [] 0 l.length rfl rfl rfl (by unfold a0b;omega) .nil (by simp[g0y]);rw[r1];simp only[obs,a0w];rw[i2j h r3 r2]
theorem ev_wf {e:Ev} (h:Wf a0s e):EvW e:=by
 obtain ⟨h1,h2,h3,_⟩:=h;exact ⟨h1,h2,h3⟩
theorem l1o (n:Nat) {l:List Slo} (h0:1≤l.length) (i:Int):m0i (n+2) l i=some (tget l i):=by
 rw[v1w];simp only[tfd];unfold tget;by_cases h1:i<0
 ·rw[if_pos h1,if_pos h1];rfl
 rw[if_neg h1,if_neg h1,if_neg (by omega),v1p,n0v (by omega) (by omega)];have hm:=Int.emod_nonneg i (show (l.length:Int)≠0 by omega);have hm':=Int.emod_lt_of_pos i (show (0:Int)<l.length by omega);have e:at? l (i % (l.length:Int))=l[(i % (l.length:Int)).toNat]? := by
  obtain ⟨k,hk⟩:=Int.eq_ofNat_of_zero_le hm;rw[hk];exact v0b l k
 have hlt:(i % (l.length:Int)).toNat<l.length:=by omega
 simp only[obs,e,List.getElem?_eq_getElem hlt];by_cases h2:l[(i % (l.length:Int)).toNat].1=i
 ·rw[if_pos h2,if_pos h2]
 ·rw[if_neg h2,if_neg h2];rfl
theorem x1m (n:Nat) {l:List Slo} (h0:1≤l.length) (i:Int):f1j (n+2) l i=some (tget l i):=by
 rw[f2a];simp only[tfd,tfn];unfold tget;by_cases h1:i<0
 ·rw[if_pos h1,if_pos h1];rfl
 rw[if_neg h1,if_neg h1,if_neg (by omega),a2y,n0v (by omega) (by omega)];have hm:=Int.emod_nonneg i (show (l.length:Int)≠0 by omega);have hm':=Int.emod_lt_of_pos i (show (0:Int)<l.length by omega);have e:at? l (i % (l.length:Int))=l[(i % (l.length:Int)).toNat]? := by
  obtain ⟨k,hk⟩:=Int.eq_ofNat_of_zero_le hm;rw[hk];exact v0b l k
 have hlt:(i % (l.length:Int)).toNat<l.length:=by omega
 simp only[obs,e,List.getElem?_eq_getElem hlt];by_cases h2:l[(i % (l.length:Int)).toNat].1=i
 ·rw[if_pos h2,if_pos h2]
 ·rw[if_neg h2,if_neg h2];rfl
theorem l1n (n:Nat) {l:List Slo} (w i:Int) {c:Cel} (hw:∀s∈l,SloW s) (hc:CelW c):w0f (n+8) l w i c=some (if TierOk l w∧FitsP c w i then (tput l i c,0) else ([],2)):=by
 rw[v1u,s0y n l w hw,w0e (n+1) hc];simp only[obs,tfn,tfd,z02];by_cases h1:TierOk l w
 case neg=>rw[if_neg h1,if_neg (fun k=>h1 k.1)]
 by_cases h2:FitsP c w i
 case neg=>rw[if_pos h1,if_neg h2,if_neg (fun k=>h2 k.2)]
 have l0:=h1.l0;have l1:=h1.l1;have hi:=h2.i0;rw[if_pos h1,if_pos h2,if_pos (And.intro h1 h2),p0a _ l (by omega)];simp only[obs,v1p,n0v hi.1 (show (1:Int)≤l.length by omega)];have hm:=Int.emod_nonneg i (show (l.length:Int)≠0 by omega);have hm':=Int.emod_lt_of_pos i (show (0:Int)<l.length by omega);have e:at? l (i % (l.length:Int))=l[(i % (l.length:Int)).toNat]? := by
  obtain ⟨k,hk⟩:=Int.eq_ofNat_of_zero_le hm;rw[hk];exact v0b l k
 have hlt:(i % (l.length:Int)).toNat<l.length:=by omega
 simp only[e,List.getElem?_eq_getElem hlt,obs];rfl
theorem tier_new (n:Nat) (m:Int):w0g (n+1) m=some (if 1≤m∧m≤4096 then List.replicate m.toNat s0 else []):=by
 rw[v1v];simp only[tfd,r0b];by_cases h1:m<1
 ·rw[if_pos h1,if_neg (by omega)]
 by_cases h2:4096<m
 ·rw[if_neg h1,if_pos h2,if_neg (by omega)]
 rw[if_neg h1,if_neg h2,if_pos (by omega),if_pos (by omega),if_pos (by omega),if_pos (by omega)];rfl
def inW (i k:Int) (s:Slo):Bool:=decide (i≤s.1∧s.1<k)
theorem v1t (n:Nat) (i k:Int) (s6:Cel) (l:List Slo) (hL:l.length≤1000000):∀(rest pre:List Slo) (f:Nat) (cells:List Cel) (ix len:Int),l=pre++rest→ix=pre.length→len=l.length→rest.length<f→cells.length≤pre.length →
  g0w n f (i,k,s6,cells,l,len,ix,())=some (.inl (s6,cells++(rest.filter (inW i k)).map (·.2),())):=by
 intro rest;induction rest with
 | nil =>
  intro pre f cells ix len hl hi hn hf hc;obtain ⟨f,rfl⟩:∃g,f=g+1:=⟨f-1,by simp at hf;omega⟩;rw[r0d];simp only[tfd,if_neg (idxe hl hi hn),List.filter_nil,List.map_nil,List.append_nil]
 | cons x rest ih =>
  intro pre f cells ix len hl hi hn hf hc;obtain ⟨f,rfl⟩:∃g,f=g+1:=⟨f-1,by simp at hf;omega⟩;rw[r0d];have hp:pre.length+1≤l.length:=by have:=congrArg List.length hl;simp at this;omega
  simp only[tfd,if_pos (idx hl hi hn),b0q hl hi,obs,idxw hl hi (by omega)];by_cases h1:i≤x.1
  ·rw[if_pos h1];by_cases h2:x.1<k
   ·rw[if_pos h2,if_pos (by omega),ih (pre++[x]) f _ (ix+1) len (idxl hl) (idxs hi) hn (by simp at hf;omega) (by simp;omega)];have:inW i k x=true:=by simp[inW,h1,h2]
    rw[List.filter_cons_of_pos this];simp
   ·rw[if_neg h2,ih (pre++[x]) f _ (ix+1) len (idxl hl) (idxs hi) hn (by simp at hf;omega) (by simp;omega)];rw[List.filter_cons_of_neg (by simp[inW,h2])]
  ·rw[if_neg h1,ih (pre++[x]) f _ (ix+1) len (idxl hl) (idxs hi) hn (by simp at hf;omega) (by simp;omega)];rw[List.filter_cons_of_neg (by simp[inW,h1])]
theorem a2d {l:List Slo} {w:Int} (h:TierOk l w) (i k:Int):∀c∈within l i k,CellN c:=by
 intro c hc;simp only[within,List.mem_map,List.mem_filter] at hc;obtain ⟨s,⟨hs,_⟩,rfl⟩:=hc;exact (d0y h hs).1.n
theorem t0b {l:List Slo}:(tall l).length≤l.length:=by
 rw[(w0i l).length_eq];exact List.length_filter_le _ _
theorem j1f (l:List Slo) (i k:Int):(within l i k).length≤l.length:=by
 unfold within;rw[List.length_map];exact Nat.le_trans (List.length_filter_le _ _) t0b
theorem l0i (n:Nat) {l:List Slo} {w:Int} (h:TierOk l w) (i k:Int):h0g (n+18) l i k=some (tfold l i k):=by
 have l1:=h.l1;have ht:=t0b (l:=l);rw[q1k];simp only[tfd];unfold tfold;by_cases h1:i<0
 ·rw[if_pos h1,if_pos (.inl h1)];rfl
 by_cases h2:k<i
 ·rw[if_neg h1,if_pos h2,if_pos (.inr h2)];rfl
 rw[if_neg h1,if_neg h2,if_neg (by omega),tier_all n h];simp only[obs];rw[v1t (n+17) i k _ (tall l) (by omega) (tall l) [] a0b [] 0 _ rfl rfl rfl (by unfold a0b;omega) (by simp)];simp only[obs,a0w,List.nil_append];have e:List.map (·.2) (List.filter (inW i k) (tall l))=within l i k:=rfl;rw[e,p1l (n+10) _ (by have:=j1f l i k;omega) (fun c hc => .ofN (a2d h i k c hc))];rfl
theorem e2x (n:Nat) (i k:Int) (s6:Cel) (l0:List Slo) (hl0:1≤l0.length) (l:List Slo) (hL:l.length≤1000000) (hg:∀s∈l,tget l0 s.1=s.2):∀(rest pre:List Slo) (f:Nat) (cells:List Cel) (ix len:Int),l=pre++rest→ix=pre.length→len=l.length→rest.length<f→cells.length≤pre.length →
  g0q (n+2) f (l0,i,k,s6,cells,l,len,ix,())=some (.inl (s6,cells++(rest.filter (inW i k)).map (·.2),())):=by
 intro rest;induction rest with
 | nil =>
  intro pre f cells ix len hl hi hn hf hc;obtain ⟨f,rfl⟩:∃g,f=g+1:=⟨f-1,by simp at hf;omega⟩;rw[u0u];simp only[tfd,if_neg (idxe hl hi hn),List.filter_nil,List.map_nil,List.append_nil]
 | cons x rest ih =>
  intro pre f cells ix len hl hi hn hf hc;obtain ⟨f,rfl⟩:∃g,f=g+1:=⟨f-1,by simp at hf;omega⟩;rw[u0u];have hp:pre.length+1≤l.length:=by have:=congrArg List.length hl;simp at this;omega
  have hx:=hg x (by rw[hl];simp);simp only[tfd,if_pos (idx hl hi hn),b0q hl hi,obs,idxw hl hi (by omega),x1m n hl0,hx,celEq];by_cases h1:i≤x.1
  ·rw[if_pos h1];by_cases h2:x.1<k
   ·rw[if_pos h2,if_pos trivial,if_pos (by omega),ih (pre++[x]) f _ (ix+1) len (idxl hl) (idxs hi) hn (by simp at hf;omega) (by simp;omega)];have:inW i k x=true:=by simp[inW,h1,h2]
    rw[List.filter_cons_of_pos this];simp
   ·rw[if_neg h2,ih (pre++[x]) f _ (ix+1) len (idxl hl) (idxs hi) hn (by simp at hf;omega) (by simp;omega)];rw[List.filter_cons_of_neg (by simp[inW,h2])]
  ·rw[if_neg h1,ih (pre++[x]) f _ (ix+1) len (idxl hl) (idxs hi) hn (by simp at hf;omega) (by simp;omega)];rw[List.filter_cons_of_neg (by simp[inW,h1])]
theorem r13_fold (n:Nat) {l:List Slo} {w:Int} (h:TierOk l w) (i k:Int):n1d (n+7) l i k=some (tfold l i k):=by
 have l1:=h.l1;have ht:=t0b (l:=l);rw[x1p];simp only[tfd];unfold tfold;by_cases h1:i<0
 ·rw[if_pos h1,if_pos (.inl h1)];rfl
 by_cases h2:k<i
 ·rw[if_neg h1,if_pos h2,if_pos (.inr h2)];rfl
 rw[if_neg h1,if_neg h2,if_neg (by omega),v0n _ h];simp only[obs];rw[e2x (n+4) i k _ l h.l0 (tall l) (by omega) (fun s hs=>a2j h hs) (tall l) [] a0b [] 0 _ rfl rfl rfl (by unfold a0b;omega) (by simp)];simp only[obs,a0w,List.nil_append];have e:List.map (·.2) (List.filter (inW i k) (tall l))=within l i k:=rfl;rw[e,r08_all n _ (by have:=j1f l i k;omega) (fun c hc => .ofN (a2d h i k c hc))];rfl
theorem z0n:SloW s0:=⟨by simp[I64,s0],v0t⟩
theorem t0a {l:List Slo} {w:Int} (h:TierOk l w):∀s∈l,SloW s:=by
 intro s hs;obtain ⟨j,hj⟩:=List.getElem?_of_mem hs;rcases h.s j s hj with rfl | ⟨_,hf⟩
 ·exact z0n
 ·have:=hf.i0;exact ⟨by unfold I64;omega,.ofN hf.n⟩
theorem f1q {e:Ev} (h:EvOk e) {w:Int} (hw:1≤w):IntKind.wrap .i64 (Int.tdiv e.1 w)=e.1 / w:=by
 have h0:=h.t0;have h1:=h.t1;have:0≤e.1 / w:=Int.ediv_nonneg h0 (by omega);have:e.1 / w≤e.1:=Int.ediv_le_self _ h0;rw[g0p h0,w64 (by omega) (by omega)]
theorem s1s {e:Ev} (h:EvOk e) {w:Int} (hw:1≤w):0≤e.1 / w∧e.1 / w<35184372088832:=by
 have h0:=h.t0;have h1:=h.t1;have:0≤e.1 / w:=Int.ediv_nonneg h0 (by omega);have:e.1 / w≤e.1:=Int.ediv_le_self _ h0;omega
end Go.Proofs.YtgkpkajaepphjaaGreatDoor

namespace Go.Plim
set_option linter.unusedVariables false
def rng (w:Int) (l:List Ev) (i k:Int):List Ev:=l.filter fun e=>decide (i≤e.1 / w∧e.1 / w<k)
def win (w:Int) (l:List Ev) (i:Int):List Ev:=l.filter fun e=>decide (e.1 / w=i)
theorem h2q (w:Int) (l:List Ev) (i:Int):win w l i=rng w l i (i+1):=by
 unfold win rng;congr 1;funext e;exact decide_eq_decide.2 (by omega)
theorem a2q {w:Int} {l:List Ev} (h:Foll l) (i k:Int):Foll (rng w l i k):=h.sub List.filter_sublist
theorem v0x {w:Int} {l:List Ev} (h:Foll l) (i:Int):Foll (win w l i):=h.sub List.filter_sublist
theorem i2a {w:Int} (hw:1≤w) {a b:Ev} (h:a.1<b.1):a.1 / w≤b.1 / w:=Int.ediv_le_ediv (by omega) (by omega)
theorem l2u {w:Int} (hw:1≤w) {l:List Ev} (h:Foll l):l.Pairwise fun a b=>a.1 / w≤b.1 / w:=h.inc.imp fun k=>i2a hw k
theorem q1x (f:Ev→Int) {i a k:Int} (h1:i≤a) (h2:a≤k):∀ {l:List Ev},l.Pairwise (fun x y=>f x≤f y) →
  l.filter (fun e=>decide (i≤f e∧f e<k))=l.filter (fun e=>decide (i≤f e∧f e<a))++l.filter (fun e=>decide (a≤f e∧f e<k)):=by
 intro l;induction l with
 | nil=>intro _;rfl
 | cons x l ih =>
  intro h;rw[List.pairwise_cons] at h;have ih':=ih h.2;by_cases c1:i≤f x∧f x<k
  ·by_cases c2:f x<a
   ·rw[List.filter_cons_of_pos (by simpa using c1),List.filter_cons_of_pos (by simp;omega),List.filter_cons_of_neg (by simp;omega),ih'];rfl
   ·have e:l.filter (fun e=>decide (i≤f e∧f e<a))=[]:=by
     rw[List.filter_eq_nil_iff];intro y hy;have:=h.1 y hy;simp;omega
    rw[List.filter_cons_of_pos (by simpa using c1),List.filter_cons_of_neg (by simp;omega),List.filter_cons_of_pos (by simp;omega),ih',e];rfl
  ·rw[List.filter_cons_of_neg (by simpa using c1),List.filter_cons_of_neg (by simp;omega),List.filter_cons_of_neg (by simp;omega),ih']
theorem x0b {w:Int} (hw:1≤w) {l:List Ev} (h:Foll l) {i a k:Int} (h1:i≤a) (h2:a≤k):rng w l i k=rng w l i a++rng w l a k :=
 q1x (fun e=>e.1 / w) h1 h2 (l2u hw h)
theorem r0j {w:Int} {l:List Ev} {i k:Int} (h:∀e∈l,¬(i≤e.1 / w∧e.1 / w<k)):rng w l i k=[]:=by
 unfold rng;rw[List.filter_eq_nil_iff];intro e he
 simpa using h e he
theorem g1d {a b:List Ev} (h:Foll (a++b)):mrgE (cellOf a) (cellOf b)=(cellOf (a++b),0):=by
 obtain ⟨h1,h2,_⟩:=b0c.1 h;unfold mrgE;rw[if_pos (And.intro (j0r h1) (j0r h2)),if_pos (j0s h),p1p h]
theorem g2p {w:Int} (hw:1≤w) {l:List Ev} (h:Foll l) {i k:Int}:∀(L:List Slo) (lo:Int),Up L→(∀s∈L,s.2=cellOf (win w l s.1)∧lo≤s.1∧s.1<k)→i≤lo→lo≤k →
  (∀e∈l,lo≤e.1 / w→e.1 / w<k→∃s∈L,s.1=e.1 / w)→allE (cellOf (rng w l i lo)) (L.map (·.2))=(cellOf (rng w l i k),0):=by
 intro L;induction L with
 | nil =>
  intro lo _ _ h1 h2 h3;have e:rng w l lo k=[]:=r0j fun e he hc=>by
   obtain ⟨s,hs,_⟩:=h3 e he hc.1 hc.2;cases hs
  rw[x0b hw h h1 h2,e,List.append_nil];rfl
 | cons s L ih =>
  intro lo hu hs h1 h2 h3;unfold Up at hu;rw[List.pairwise_cons] at hu;obtain ⟨e1,e2,e3⟩:=hs s (by simp);have gap:rng w l lo s.1=[]:=r0j fun e he hc=>by
   obtain ⟨s',hs',he'⟩:=h3 e he hc.1 (by omega);rcases List.mem_cons.1 hs' with rfl | hs'
   ·omega
   ·have:=hu.1 s' hs';omega
  have ea:rng w l i lo=rng w l i s.1:=by rw[x0b hw h h1 e2,gap,List.append_nil]
  have eb:rng w l i (s.1+1)=rng w l i s.1++win w l s.1:=by rw[h2q,x0b hw h (show i≤s.1 by omega) (show s.1≤s.1+1 by omega)]
  have hf:Foll (rng w l i s.1++win w l s.1):=by rw[←eb];exact a2q h _ _
  simp only[List.map_cons,allE];rw[ea,e1,g1d hf,if_pos rfl,←eb];refine ih (s.1+1) hu.2 (fun s' hs' => ?_) (by omega) (by omega) (fun e he c1 c2 => ?_)
  ·obtain ⟨f1,_,f3⟩:=hs s' (by simp[hs']);have:=hu.1 s' hs';exact ⟨f1,by omega,f3⟩
  ·obtain ⟨s',hs',he'⟩:=h3 e he (by omega) c2;rcases List.mem_cons.1 hs' with rfl | hs'
   ·omega
   ·exact ⟨s',hs',he'⟩
theorem m0s {l:List Slo} {w:Int} (h:TierOk l w) {s:Slo}:s∈tall l↔s≠s0∧l[(s.1 % (l.length:Int)).toNat]? = some s:=by
 constructor
 ·intro hs;exact ⟨(k0n.1 hs).2,(d0y h hs).2⟩
 ·rintro ⟨h1,h2⟩;exact k0n.2 ⟨List.mem_of_getElem? h2,h1⟩
theorem tall_N {l:List Slo} {w:Int} (h:TierOk l w) {s:Slo} (hs:s∈tall l):CellN s.2:=(d0y h hs).1.n
theorem rest_ne {a b n:Int} (hn:1≤n) (h1:a<b) (h2:b<a+n):a % n≠b % n:=by
 intro e;have:(b-a) % n=0:=by rw[Int.sub_emod,e];simp
 have h3:(b-a) % n=b-a:=Int.emod_eq_of_lt (by omega) (by omega);omega
theorem win_snoc (w:Int) (l:List Ev) (e:Ev) (i:Int):win w (l++[e]) i=if e.1 / w=i then win w l i++[e] else win w l i:=by
 unfold win;rw[List.filter_append];by_cases h:e.1 / w=i
 ·simp[h]
 ·simp[h]
theorem a1m {w:Int} {l:List Ev} {i:Int} {e:Ev}:e∈win w l i↔e∈l∧e.1 / w=i:=by simp[win]
structure TierInv (t:List Slo) (w:Int) (l:List Ev):Prop where
 ok:TierOk t w
 cells:∀s∈tall t,s.2=cellOf (win w l s.1)
 kept:∀i,(∃e∈l,e.1 / w=i)→(∀e∈l,e.1 / w<i+(t.length:Int))→(i,cellOf (win w l i))∈tall t
theorem v0f {n:Nat} {w:Int} (h0:1≤n) (h1:n≤4096) (w0:1≤w) (w1:w≤1099511627776):TierInv (List.replicate n s0) w []:=by
 have all:∀(j:Nat) s,(List.replicate n s0)[j]? = some s→s=s0:=fun j s hs=>List.eq_of_mem_replicate (List.mem_of_getElem? hs)
 refine ⟨⟨by simpa using h0,by simpa using h1,w0,w1,fun j s hs => .inl (all j s hs)⟩,fun s hs => ?_,fun i ⟨e,he,_⟩=>by cases he⟩;have:=k0n.1 hs;obtain ⟨j,hj⟩:=List.getElem?_of_mem this.1;exact absurd (all j s hj) this.2
theorem z1w {w i:Int} {l:List Ev} (h:Foll l) (hn:l≠[]) (hi:∀e∈l,e.1 / w=i) (w0:1≤w) (w1:w≤1099511627776):FitsP (cellOf l) w i:=by
 have hs:=y0s h hn;exact ⟨hs.n,w0,w1,hi _ (List.mem_of_head? hs.first),hi _ (List.mem_of_getLast? hs.last)⟩
theorem tput_len (t:List Slo) (i:Int) (c:Cel):(tput t i c).length=t.length:=by simp[tput]
theorem e1c {t:List Slo} {w:Int} {l:List Ev} {e:Ev} (h:TierInv t w l) (hl:Foll (l++[e])):FitsP (cellOf (win w l (e.1 / w)++[e])) w (e.1 / w)∧TierInv (tput t (e.1 / w) (cellOf (win w l (e.1 / w)++[e]))) w (l++[e]):=by
 obtain ⟨hok,hcells,hkept⟩:=h;have w0:=hok.w0;have hl':=(b0c.1 hl).1;have hlt:∀x∈l,x.1<e.1:=fun x hx=>(b0c.1 hl).2.2 x hx e (by simp)
 have hle:∀x∈l,x.1 / w≤e.1 / w:=fun x hx=>i2a w0 (hlt x hx)
 have ews:win w (l++[e]) (e.1 / w)=win w l (e.1 / w)++[e]:=by rw[win_snoc,if_pos rfl]
 have hwf:Foll (win w l (e.1 / w)++[e]):=by rw[←ews];exact v0x hl _
 have hfit:FitsP (cellOf (win w l (e.1 / w)++[e])) w (e.1 / w):=by
  refine z1w hwf (by simp) (fun x hx => ?_) w0 hok.w1;rcases List.mem_append.1 hx with hx | hx
  ·exact (a1m.1 hx).2
  ·simp at hx;rw[hx]
 generalize hi:e.1 / w=i at *
 generalize hc:cellOf (win w l i++[e])=c at *
 have hok':=d1z hok hfit;have hlen:=tput_len t i c;have hn:=hok.l0;have i0:=hfit.i0;have hm:=Int.emod_nonneg i (show (t.length:Int)≠0 by omega);have hm':=Int.emod_lt_of_pos i (show (0:Int)<t.length by omega);have cne:(i,c)≠s0:=fun k=>hfit.n.ne (congrArg Prod.snd k)
 have here:(tput t i c)[(i % (t.length:Int)).toNat]? = some (i,c):=by
  unfold tput;rw[List.getElem?_set,if_pos rfl,if_pos (by omega)]
 have there:∀j:Nat,j≠(i % (t.length:Int)).toNat→(tput t i c)[j]? = t[j]? := fun j hj=>by
  unfold tput;rw[List.getElem?_set,if_neg (Ne.symm hj)]
 refine ⟨hfit,hok',fun s hs => ?_,fun j ⟨x,hx,hxj⟩ hall => ?_⟩
 ·rw[m0s hok',hlen] at hs;obtain ⟨s1,s2⟩:=hs;by_cases hj:(s.1 % (t.length:Int)).toNat=(i % (t.length:Int)).toNat
  ·rw[hj,here] at s2;injection s2 with s2;subst s2;rw[ews,hc]
  ·rw[there _ hj] at s2;have:=hcells s ((m0s hok).2 ⟨s1,s2⟩);rw[win_snoc,if_neg (fun k=>hj (by rw[←k,hi])),this]
 ·rw[hlen] at hall;rw[m0s hok',hlen];rcases List.mem_append.1 hx with hx | hx
  ·by_cases hji:j=i
   ·subst hji;rw[ews,hc];exact ⟨cne,here⟩
   ·have hxi:=hle x hx;have hil:=hall e (by simp);have hjlt:j<i:=by omega
    have:=hkept j ⟨x,hx,hxj⟩ (fun y hy=>hall y (by simp[hy]));rw[m0s hok] at this;rw[win_snoc,if_neg (by omega)];refine ⟨this.1,?_⟩;rw[there _ ?_]
    ·exact this.2
    ·intro k;have k:(j % (t.length:Int)).toNat=(i % (t.length:Int)).toNat:=k;have hjm:=Int.emod_nonneg j (show (t.length:Int)≠0 by omega);exact rest_ne (n:=(t.length:Int)) (by omega) hjlt (by omega) (by omega)
  ·simp at hx;subst hx;rw[hi] at hxj;subst hxj;rw[ews,hc];exact ⟨cne,here⟩
theorem m0j {t:List Slo} {w:Int} {l:List Ev} (h:TierInv t w l) (hl:Foll l) {i k:Int} (h0:0≤i) (hik:i≤k) (hk:∀e∈l,e.1 / w<i+(t.length:Int)):tfold t i k=(cellOf (rng w l i k),0):=by
 unfold tfold;rw[if_neg (by omega)];have hu:Up ((tall t).filter fun s=>decide (i≤s.1∧s.1<k)):=(m0y h.ok).sublist List.filter_sublist;have:=g2p (i:=i) (k:=k) h.ok.w0 hl ((tall t).filter fun s=>decide (i≤s.1∧s.1<k)) i hu (fun s hs => ?_) (Int.le_refl _) hik (fun e he c1 c2 => ?_)
 ·have e0:rng w l i i=[]:=r0j fun e _=>by omega
  rw[e0] at this;exact this
 ·obtain ⟨s1,s2⟩:=List.mem_filter.1 hs;have s2:=of_decide_eq_true s2;exact ⟨h.cells s s1,s2.1,s2.2⟩
 ·have:=h.kept (e.1 / w) ⟨e,he,rfl⟩ (fun x hx=>by have:=hk x hx;omega);exact ⟨_,List.mem_filter.2 ⟨this,by simp;omega⟩,rfl⟩
end Go.Plim

namespace Go.Proofs.YtgkpkajaepphjaaGreatDoor
open Go.Flat
abbrev Conf:=Int×((Int×(Int×Int))×((Int×(Int×Int))×(Int×Int)))
def prt (n e:Int):Int:=(n+e-1) / e
def plc (c:Conf):Int:=1+prt c.1 16+prt c.2.2.1.1 4+prt c.2.2.1.2.1 4+prt c.2.2.1.2.2 4
structure Rng (c:Conf):Prop where
 raw:1≤c.1∧c.1≤4096
 cap:1≤c.2.2.2.1∧c.2.2.2.1≤65536
 log:1≤c.2.2.2.2∧c.2.2.2.2≤8192
 w0:1≤c.2.1.1∧c.2.1.1≤1099511627776
 w1:1≤c.2.1.2.1∧c.2.1.2.1≤1099511627776
 w2:1≤c.2.1.2.2∧c.2.1.2.2≤1099511627776
 n0:1≤c.2.2.1.1∧c.2.2.1.1≤4096
 n1:1≤c.2.2.1.2.1∧c.2.2.1.2.1≤4096
 n2:1≤c.2.2.1.2.2∧c.2.2.1.2.2≤4096
structure OkC (c:Conf):Prop where
 rng:Rng c
 m1:c.2.1.2.1 % c.2.1.1=0
 d1:c.2.1.2.1 / c.2.1.1≤c.2.2.1.1
 m2:c.2.1.2.2 % c.2.1.2.1=0
 d2:c.2.1.2.2 / c.2.1.2.1≤c.2.2.1.2.1
 pl:plc c<c.2.2.2.2
theorem s0a (n:Nat) (x e:Int) (he:1≤e) (he':e≤1000) (hx:0≤x) (hx':x≤1000000000):i0z (n+1) x e=some (prt x e):=by
 rw[p1f];have h1:¬(e=0):=by omega
 simp only[tfd,if_neg h1];rw[w64 (x:=x+e) (by omega) (by omega),w64 (x:=x+e-1) (by omega) (by omega),g0p (by omega)];have h2:0≤(x+e-1) / e:=Int.ediv_nonneg (by omega) (by omega);have h3:(x+e-1) / e≤x+e-1:=Int.ediv_le_self _ (by omega);rw[w64 (by omega) (by omega)];rfl
theorem prt_step (x e:Int) (he:1≤e):prt x e=1+prt (x-e) e:=by
 unfold prt;rw[show x+e-1=(x-e+e-1)+1*e by omega,Int.add_mul_ediv_right _ _ (by omega)];omega
theorem b2e (x e:Int) (h1 : -e<x) (hx:x≤0):prt x e=0:=Int.ediv_eq_zero_of_lt (by omega) (by omega)
theorem i1k (n:Nat) (e:Int) (he:1≤e) (he':e≤1000):∀(m f:Nat) (x k:Int),x≤m → -e<x→m<f→0≤k→k+m≤1000000000→m≤1000000000→m0q n f (x,e,k,())=some (.inl (k+prt x e,())):=by
 intro m;induction m with
 | zero =>
  intro f x k hx hx' hf hk hkm hm;obtain ⟨f,rfl⟩:∃g,f=g+1:=⟨f-1,by omega⟩;rw[r0s];have h1:¬((0:Int)<x):=by omega
  simp only[tfd,if_neg h1];rw[b2e x e hx' (by omega),Int.add_zero]
 | succ m ih =>
  intro f x k hx hx' hf hk hkm hm;obtain ⟨f,rfl⟩:∃g,f=g+1:=⟨f-1,by omega⟩;rw[r0s];by_cases h1:(0:Int)<x
  ·simp only[tfd,if_pos h1];rw[w64 (x:=x-e) (by omega) (by omega),w64 (x:=k+1) (by omega) (by omega),ih f (x-e) (k+1) (by omega) (by omega) (by omega) (by omega) (by omega) (by omega),prt_step x e he];congr 3;omega
  ·simp only[tfd,if_neg h1];rw[b2e x e hx' (by omega),Int.add_zero]
theorem k0l (n:Nat) (x e:Int) (he:1≤e) (he':e≤1000) (hx:0≤x) (hx':x≤100000000):o0d (n+1) x e=some (prt x e):=by
 rw[s1b,i1k n e he he' x.toNat a0b x 0 (by omega) (by omega) (by unfold a0b;omega) (by omega) (by omega) (by omega)];simp
theorem d0z {x e:Int} (he:1≤e) (hx:0≤x):0≤prt x e∧prt x e≤x:=by
 unfold prt;refine ⟨Int.ediv_nonneg (by omega) (by omega),?_⟩;have:x+e-1<(x+1)*e:=by
  have:=Int.mul_le_mul_of_nonneg_left he (show 0≤x by omega);rw[Int.add_mul];omega
 have:=Int.ediv_lt_of_lt_mul (by omega) this;omega
theorem k2b {c:Conf} (h:Rng c):1≤plc c∧plc c≤20000:=by
 have a:=d0z (x:=c.1) (e:=16) (by omega) (by have:=h.raw;omega);have b:=d0z (x:=c.2.2.1.1) (e:=4) (by omega) (by have:=h.n0;omega);have d:=d0z (x:=c.2.2.1.2.1) (e:=4) (by omega) (by have:=h.n1;omega);have f:=d0z (x:=c.2.2.1.2.2) (e:=4) (by omega) (by have:=h.n2;omega);have:=h.raw;have:=h.n0;have:=h.n1;have:=h.n2;unfold plc;omega
theorem f1s (n:Nat) {c:Conf} (h:Rng c):i0y (n+2) c=some (plc c):=by
 have h0:=h.raw;have h1:=h.n0;have h2:=h.n1;have h3:=h.n2;rw[p1e,s0a n _ 16 (by omega) (by omega) (by omega) (by omega),s0a n _ 4 (by omega) (by omega) (by omega) (by omega),s0a n _ 4 (by omega) (by omega) (by omega) (by omega),s0a n _ 4 (by omega) (by omega) (by omega) (by omega)];simp only[obs];have a:=d0z (x:=c.1) (e:=16) (by omega) (by omega);have b:=d0z (x:=c.2.2.1.1) (e:=4) (by omega) (by omega);have d:=d0z (x:=c.2.2.1.2.1) (e:=4) (by omega) (by omega);have f:=d0z (x:=c.2.2.1.2.2) (e:=4) (by omega) (by omega)
 rw[w64 (x:=1+_) (by omega) (by omega),w64 (x:=1+_+_) (by omega) (by omega),w64 (x:=1+_+_+_) (by omega) (by omega),w64 (by omega) (by omega)];rfl
theorem x0j (n:Nat) {c:Conf} (h:Rng c):f1m (n+2) c=some (plc c):=by
 have h0:=h.raw;have h1:=h.n0;have h2:=h.n1;have h3:=h.n2;rw[s1a,k0l n _ 16 (by omega) (by omega) (by omega) (by omega),k0l n _ 4 (by omega) (by omega) (by omega) (by omega),k0l n _ 4 (by omega) (by omega) (by omega) (by omega),k0l n _ 4 (by omega) (by omega) (by omega) (by omega)];simp only[obs];have a:=d0z (x:=c.1) (e:=16) (by omega) (by omega);have b:=d0z (x:=c.2.2.1.1) (e:=4) (by omega) (by omega);have d:=d0z (x:=c.2.2.1.2.1) (e:=4) (by omega) (by omega);have f:=d0z (x:=c.2.2.1.2.2) (e:=4) (by omega) (by omega)
 rw[w64 (x:=1+_) (by omega) (by omega),w64 (x:=1+_+_) (by omega) (by omega),w64 (x:=1+_+_+_) (by omega) (by omega),w64 (by omega) (by omega)];rfl
theorem in_int (n:Nat) (x a b:Int):f0n (n+1) x a b=some (decide (a≤x∧x≤b)):=by
 rw[j1a];by_cases h1:a≤x<;>by_cases h2:x≤b<;>simp[h1,h2]
theorem b2z (n:Nat) (x a b:Int):i0e (n+1) x a b=some (decide (a≤x∧x≤b)):=by
 rw[c1t];by_cases h1:a≤x<;>by_cases h2:x≤b<;>simp[h1,h2]
theorem a1d {a b:Int} (ha:1≤a∧a≤1099511627776) (hb:1≤b):IntKind.wrap .i64 (Int.tdiv a b)=a / b:=by
 rw[g0p (by omega)];have h2:0≤a / b:=Int.ediv_nonneg (by omega) (by omega);have h3:a / b≤a:=Int.ediv_le_self _ (by omega);rw[w64 (by omega) (by omega)]
theorem y0q (n:Nat) {c:Conf} (h:OkC c):c0z (n+3) c=some 0:=by
 obtain ⟨hr,m1,d1,m2,d2,pl⟩:=h;have hp:=f1s n hr;obtain ⟨raw,cap,log,w0,w1,w2,n0,n1,n2⟩:=hr;rw[y0o];simp only[in_int,b2z,obs,tfd,if_pos raw,if_pos cap,if_pos log,if_pos w0,if_pos w1,if_pos w2,if_pos n0,if_pos n1,if_pos n2];have z0:¬(c.2.1.1=0):=by omega
 have z1:¬(c.2.1.2.1=0):=by omega
 rw[a1d w1 w0.1,a1d w2 w1.1,d0x (a:=c.2.1.2.1) (by omega),d0x (a:=c.2.1.2.2) (by omega)];have l:¬(c.2.2.2.2≤plc c):=by omega
 simp only[if_neg z0,if_neg z1,if_pos m1,if_pos d1,if_pos m2,if_pos d2,tfn,tfd,hp,obs,if_neg l]
theorem c2t (n:Nat) {c:Conf} (h:¬OkC c):c0z (n+3) c=some 2:=by
 rw[y0o];simp only[in_int,b2z,obs,tfd,tfn];by_cases raw:1≤c.1∧c.1≤4096
 case neg=>rw[if_neg raw]
 rw[if_pos raw];by_cases cap:1≤c.2.2.2.1∧c.2.2.2.1≤65536
 case neg=>rw[if_neg cap]
 rw[if_pos cap];by_cases log:1≤c.2.2.2.2∧c.2.2.2.2≤8192
 case neg=>rw[if_neg log]
 rw[if_pos log];by_cases w0:1≤c.2.1.1∧c.2.1.1≤1099511627776
 case neg=>rw[if_neg w0]
 rw[if_pos w0];by_cases n0:1≤c.2.2.1.1∧c.2.2.1.1≤4096
 case neg=>rw[if_neg n0]
 rw[if_pos n0];by_cases w1:1≤c.2.1.2.1∧c.2.1.2.1≤1099511627776
 case neg=>rw[if_neg w1]
 rw[if_pos w1];by_cases n1:1≤c.2.2.1.2.1∧c.2.2.1.2.1≤4096
 case neg=>rw[if_neg n1]
 rw[if_pos n1];by_cases w2:1≤c.2.1.2.2∧c.2.1.2.2≤1099511627776
 case neg=>rw[if_neg w2]
 rw[if_pos w2];by_cases n2:1≤c.2.2.1.2.2∧c.2.2.1.2.2≤4096
 case neg=>rw[if_neg n2,if_neg n2]
 rw[if_pos n2];have hr:Rng c:=⟨raw,cap,log,w0,w1,w2,n0,n1,n2⟩;have hp:=f1s n hr;have z0:¬(c.2.1.1=0):=by omega
 have z1:¬(c.2.1.2.1=0):=by omega
 rw[a1d w1 w0.1,a1d w2 w1.1,d0x (a:=c.2.1.2.1) (by omega),d0x (a:=c.2.1.2.2) (by omega)];rw[if_neg z0,if_neg z0];by_cases m1:c.2.1.2.1 % c.2.1.1=0
 case neg=>rw[if_neg m1]
 rw[if_pos m1];by_cases d1:c.2.1.2.1 / c.2.1.1≤c.2.2.1.1
 case neg=>rw[if_neg d1,if_neg d1]
 rw[if_pos d1,if_neg z1,if_neg z1];by_cases m2:c.2.1.2.2 % c.2.1.2.1=0
 case neg=>rw[if_neg m2]
 rw[if_pos m2];by_cases d2:c.2.1.2.2 / c.2.1.2.1≤c.2.2.1.2.1
 case neg=>rw[if_neg d2,if_neg d2]
 rw[if_pos d2,if_pos d2,hp];simp only[obs];by_cases pl:c.2.2.2.2≤plc c
 ·rw[if_pos pl]
 ·exact absurd ⟨hr,m1,d1,m2,d2,by omega⟩ h
theorem s1c (n:Nat) {c:Conf} (h:OkC c):h0y (n+3) c=some 0:=by
 obtain ⟨hr,m1,d1,m2,d2,pl⟩:=h;have hp:=x0j n hr;obtain ⟨raw,cap,log,w0,w1,w2,n0,n1,n2⟩:=hr;rw[b1r];rw[a1d w1 w0.1,a1d w2 w1.1,d0x (a:=c.2.1.2.1) (by omega),d0x (a:=c.2.1.2.2) (by omega)];have l:¬(c.2.2.2.2≤plc c):=by omega
 simp only[tfd,tfn,hp,obs];rw[if_neg (by omega),if_neg (by omega),if_neg (by omega),if_neg (by omega),if_neg (by omega),if_neg (by omega),if_neg (by omega),if_neg (by omega),if_neg (by omega),if_neg (by omega),if_neg (by omega),if_neg (by omega),if_neg (by omega),if_neg (by omega),if_neg (by omega)];rw[if_pos m1,if_neg (by omega),if_neg (by omega),if_neg (by omega),if_neg (by omega),if_neg (by omega),if_neg (by omega),if_neg (by omega)];rw[if_pos m2,if_neg (by omega),if_neg (by omega),if_neg l]
theorem s1d (n:Nat) {c:Conf} (h:¬OkC c):h0y (n+3) c=some 2:=by
 rw[b1r];simp only[tfd,tfn];by_cases raw:1≤c.1∧c.1≤4096
 case neg =>
  by_cases z:c.1<1
  ·rw[if_pos z]
  ·rw[if_neg z,if_pos (by omega)]
 rw[if_neg (by omega),if_neg (by omega)];by_cases cap:1≤c.2.2.2.1∧c.2.2.2.1≤65536
 case neg =>
  by_cases z:c.2.2.2.1<1
  ·rw[if_pos z]
  ·rw[if_neg z,if_pos (by omega)]
 rw[if_neg (by omega),if_neg (by omega)];by_cases log:1≤c.2.2.2.2∧c.2.2.2.2≤8192
 case neg =>
  by_cases z:c.2.2.2.2<1
  ·rw[if_pos z]
  ·rw[if_neg z,if_pos (by omega)]
 rw[if_neg (by omega),if_neg (by omega)];by_cases w0:1≤c.2.1.1∧c.2.1.1≤1099511627776
 case neg =>
  by_cases z:c.2.1.1<1
  ·rw[if_pos z]
  ·rw[if_neg z,if_pos (by omega)]
 rw[if_neg (by omega),if_neg (by omega)];by_cases n0:1≤c.2.2.1.1∧c.2.2.1.1≤4096
 case neg =>
  by_cases z:c.2.2.1.1<1
  ·rw[if_pos z]
  ·rw[if_neg z,if_pos (by omega)]
 rw[if_neg (by omega),if_neg (by omega)];by_cases w1:1≤c.2.1.2.1∧c.2.1.2.1≤1099511627776
 case neg =>
  by_cases z:c.2.1.2.1<1
  ·rw[if_pos z]
  ·rw[if_neg z,if_pos (by omega)]
 rw[if_neg (by omega),if_neg (by omega)];by_cases n1:1≤c.2.2.1.2.1∧c.2.2.1.2.1≤4096
 case neg =>
  by_cases z:c.2.2.1.2.1<1
  ·rw[if_pos z]
  ·rw[if_neg z,if_pos (by omega)]
 rw[if_neg (by omega),if_neg (by omega),if_neg (by omega)];rw[d0x (a:=c.2.1.2.1) (by omega),a1d w1 w0.1];by_cases m1:c.2.1.2.1 % c.2.1.1=0
 case neg=>rw[if_neg m1]
 rw[if_pos m1,if_neg (by omega)];by_cases d1:c.2.1.2.1 / c.2.1.1≤c.2.2.1.1
 case neg=>rw[if_pos (by omega)]
 rw[if_neg (by omega)];by_cases w2:1≤c.2.1.2.2∧c.2.1.2.2≤1099511627776
 case neg =>
  by_cases z:c.2.1.2.2<1
  ·rw[if_pos z]
  ·rw[if_neg z,if_pos (by omega)]
 rw[if_neg (by omega),if_neg (by omega)];by_cases n2:1≤c.2.2.1.2.2∧c.2.2.1.2.2≤4096
 case neg =>
  by_cases z:c.2.2.1.2.2<1
  ·rw[if_pos z]
  ·rw[if_neg z,if_pos (by omega)]
 rw[if_neg (by omega),if_neg (by omega),if_neg (by omega)];rw[d0x (a:=c.2.1.2.2) (by omega),a1d w2 w1.1];by_cases m2:c.2.1.2.2 % c.2.1.2.1=0
 case neg=>rw[if_neg m2]
 rw[if_pos m2,if_neg (by omega)];by_cases d2:c.2.1.2.2 / c.2.1.2.1≤c.2.2.1.2.1
 case neg=>rw[if_pos (by omega)]
 rw[if_neg (by omega)];have hr:Rng c:=⟨raw,cap,log,w0,w1,w2,n0,n1,n2⟩;rw[x0j n hr];simp only[obs];by_cases pl:c.2.2.2.2≤plc c
 ·rw[if_pos pl]
 ·exact absurd ⟨hr,m1,d1,m2,d2,by omega⟩ h
end Go.Proofs.YtgkpkajaepphjaaGreatDoor
namespace Go.Proofs.YtgkpkajaepphjaaGreatDoor
open Go.Flat Go.Plim
set_option linter.unusedVariables false
abbrev Trs:=List Slo×(List Slo×List Slo)
noncomputable instance (c:Conf):Decidable (OkC c):=Classical.propDecidable _
structure FoldOk (c:Conf) (s:Trs):Prop where
 cok:OkC c
 n0:(s.1.length:Int)=c.2.2.1.1
 n1:(s.2.1.length:Int)=c.2.2.1.2.1
 n2:(s.2.2.length:Int)=c.2.2.1.2.2
 t0:TierOk s.1 c.2.1.1
 t1:TierOk s.2.1 c.2.1.2.1
 t2:TierOk s.2.2 c.2.1.2.2
noncomputable instance (c:Conf) (s:Trs):Decidable (FoldOk c s):=Classical.propDecidable _
def mk1 (c:Conf) (s:Trs) (i:Int):Cel×Int:=tfold s.1 (i*(c.2.1.2.1 / c.2.1.1)) ((i+1)*(c.2.1.2.1 / c.2.1.1))
def mk2 (c:Conf) (s:Trs) (i:Int):Cel×Int:=tfold s.2.1 (i*(c.2.1.2.2 / c.2.1.2.1)) ((i+1)*(c.2.1.2.2 / c.2.1.2.1))
noncomputable def up1 (c:Conf) (s:Trs) (i j:Int):Trs :=
 if i*c.2.1.1 / c.2.1.2.1=j*c.2.1.1 / c.2.1.2.1 then s
 else if (mk1 c s (i*c.2.1.1 / c.2.1.2.1)).2=0∧FitsP (mk1 c s (i*c.2.1.1 / c.2.1.2.1)).1 c.2.1.2.1 (i*c.2.1.1 / c.2.1.2.1) then (s.1,(tput s.2.1 (i*c.2.1.1 / c.2.1.2.1) (mk1 c s (i*c.2.1.1 / c.2.1.2.1)).1,s.2.2))
 else s
noncomputable def up2 (c:Conf) (s:Trs) (i j:Int):Trs :=
 if i*c.2.1.1 / c.2.1.2.2=j*c.2.1.1 / c.2.1.2.2 then s
 else if (mk2 c s (i*c.2.1.1 / c.2.1.2.2)).2=0∧FitsP (mk2 c s (i*c.2.1.1 / c.2.1.2.2)).1 c.2.1.2.2 (i*c.2.1.1 / c.2.1.2.2) then (s.1,(s.2.1,tput s.2.2 (i*c.2.1.1 / c.2.1.2.2) (mk2 c s (i*c.2.1.1 / c.2.1.2.2)).1))
 else s
noncomputable def upw (c:Conf) (s:Trs) (i j:Int):Trs:=up2 c (up1 c s i j) i j
theorem q1e {c:Conf} {s:Trs} (h:FoldOk c s) (i j:Int):FoldOk c (up1 c s i j):=by
 unfold up1;split
 ·exact h
 ·split
  ·rename_i k;exact ⟨h.cok,h.n0,by simpa [tput] using h.n1,h.n2,h.t0,d1z h.t1 k.2,h.t2⟩
  ·exact h
theorem up2_ok {c:Conf} {s:Trs} (h:FoldOk c s) (i j:Int):FoldOk c (up2 c s i j):=by
 unfold up2;split
 ·exact h
 ·split
  ·rename_i k;exact ⟨h.cok,h.n0,h.n1,by simpa [tput] using h.n2,h.t0,h.t1,d1z h.t2 k.2⟩
  ·exact h
theorem upw_ok {c:Conf} {s:Trs} (h:FoldOk c s) (i j:Int):FoldOk c (upw c s i j):=up2_ok (q1e h i j) i j
theorem f2u {a w m:Int} (hw:1≤w) (h:a≤m / w):a*w≤m :=
 Int.le_trans (Int.mul_le_mul_of_nonneg_right h (by omega)) (Int.ediv_mul_le m (by omega))
def h0e (w i:Int):Prop:=0≤i∧i≤35184372088831 / w
instance (w i:Int):Decidable (h0e w i):=by unfold h0e;infer_instance
theorem h0e.mul {w i:Int} (hw:1≤w) (h:h0e w i):0≤i*w∧i*w≤35184372088831:=⟨Int.mul_nonneg h.1 (by omega),f2u hw h.2⟩
theorem k1y {x w:Int} (hw:1≤w) (h:0≤x∧x≤35184372088831):h0e w (x / w):=⟨Int.ediv_nonneg h.1 (by omega),Int.ediv_le_ediv (by omega) h.2⟩
theorem v1g {w i:Int} (hw:1≤w) (h:h0e w i):i≤35184372088831:=by
 have:=Int.ediv_le_self w (a:=35184372088831) (by decide);have:=h.2;omega
theorem f2v {a b i:Int} (ha:1≤a∧a≤1099511627776) (hb:1≤b∧b≤1099511627776) (hm:b % a=0) (h:h0e b i) :
  1≤b / a∧b / a≤1099511627776∧b / a*a=b∧0≤i*(b / a)∧i*(b / a)≤35184372088831∧(i+1)*(b / a)=i*(b / a)+b / a:=by
 have e:b / a*a=b:=by have:=Int.mul_ediv_add_emod b a;rw[Int.mul_comm];omega
 have h0:0≤b / a:=Int.ediv_nonneg (by omega) (by omega);have h1:b / a≤b:=Int.ediv_le_self _ (by omega);have h2:1≤b / a:=by
  rcases Int.lt_or_le 0 (b / a) with k | k
  ·omega
  ·have:b / a=0:=by omega
   rw[this] at e;omega
 have hi:=h.mul hb.1;have h3:0≤i*(b / a):=Int.mul_nonneg h.1 h0;have h4:i*(b / a)≤i*b:=Int.mul_le_mul_of_nonneg_left h1 h.1;exact ⟨h2,by omega,e,h3,by omega,by rw[Int.add_mul,Int.one_mul]⟩
end Go.Proofs.YtgkpkajaepphjaaGreatDoor
namespace Go.Proofs.YtgkpkajaepphjaaGreatDoor
open Go.Flat Go.Plim
set_option linter.unusedVariables false
set_option linter.unusedSimpArgs false
structure TrsW (s:Trs):Prop where
 a:∀x∈s.1,SloW x
 b:∀x∈s.2.1,SloW x
 c:∀x∈s.2.2,SloW x
theorem FoldOk.w {c:Conf} {s:Trs} (h:FoldOk c s):TrsW s:=⟨t0a h.t0,t0a h.t1,t0a h.t2⟩
theorem o0z (n:Nat) (c:Conf):c0z (n+3) c=some (if OkC c then 0 else 2):=by
 by_cases h:OkC c
 ·rw[if_pos h,y0q n h]
 ·rw[if_neg h,c2t n h]
theorem r0t (n:Nat) (c:Conf):h0y (n+3) c=some (if OkC c then 0 else 2):=by
 by_cases h:OkC c
 ·rw[if_pos h,s1c n h]
 ·rw[if_neg h,s1d n h]
theorem y0f (n:Nat) (c:Conf) {s:Trs} (hw:TrsW s):y0g (n+8) c s=some (if FoldOk c s then (some (c,s),0) else (none,2)):=by
 rw[u1d,o0z (n+4),s0y n _ _ hw.a,s0y n _ _ hw.b,s0y n _ _ hw.c];simp only[obs,tfn,tfd];by_cases h0:OkC c
 case neg=>rw[if_neg (mt (z02 _).1 h0),if_neg h0,if_neg (fun k:FoldOk c s=>h0 k.cok)]
 rw[if_pos ((z02 _).2 h0)];by_cases h1:(s.1.length:Int)=c.2.2.1.1
 case neg=>rw[if_neg h1,if_neg (fun k:FoldOk c s=>h1 k.n0)]
 rw[if_pos h1];by_cases h2:TierOk s.1 c.2.1.1
 case neg=>rw[if_neg (mt (z02 _).1 h2),if_neg (fun k:FoldOk c s=>h2 k.t0)]
 rw[if_pos ((z02 _).2 h2)];by_cases h3:(s.2.1.length:Int)=c.2.2.1.2.1
 case neg=>rw[if_neg h3,if_neg (fun k:FoldOk c s=>h3 k.n1)]
 rw[if_pos h3];by_cases h4:TierOk s.2.1 c.2.1.2.1
 case neg=>rw[if_neg (mt (z02 _).1 h4),if_neg (fun k:FoldOk c s=>h4 k.t1)]
 rw[if_pos ((z02 _).2 h4)];by_cases h5:(s.2.2.length:Int)=c.2.2.1.2.2
 case neg=>rw[if_neg h5,if_neg (fun k:FoldOk c s=>h5 k.n2)]
 rw[if_pos h5];by_cases h6:TierOk s.2.2 c.2.1.2.2
 case neg=>rw[if_neg (mt (z02 _).1 h6),if_neg (fun k:FoldOk c s=>h6 k.t2)]
 rw[if_pos ((z02 _).2 h6),if_pos (⟨h0,h1,h3,h5,h2,h4,h6⟩:FoldOk c s)]
theorem j2r (n:Nat) (c:Conf) {s:Trs} (hw:TrsW s):f1h (n+7) c s=some (if FoldOk c s then 0 else 2):=by
 rw[r1x,r0t (n+3),f1i n _ _ hw.a,f1i n _ _ hw.b,f1i n _ _ hw.c];simp only[obs,tfn,tfd];by_cases h0:OkC c
 case neg=>rw[if_neg (mt (z02 _).1 h0),if_neg (fun k:FoldOk c s=>h0 k.cok)]
 rw[if_pos ((z02 _).2 h0)];by_cases h1:(s.1.length:Int)=c.2.2.1.1
 case neg=>rw[if_neg h1,if_neg (fun k:FoldOk c s=>h1 k.n0)]
 rw[if_pos h1];by_cases h2:TierOk s.1 c.2.1.1
 case neg=>rw[if_neg (mt (z02 _).1 h2),if_neg (fun k:FoldOk c s=>h2 k.t0)]
 rw[if_pos ((z02 _).2 h2)];by_cases h3:(s.2.1.length:Int)=c.2.2.1.2.1
 case neg=>rw[if_neg h3,if_neg (fun k:FoldOk c s=>h3 k.n1)]
 rw[if_pos h3];by_cases h4:TierOk s.2.1 c.2.1.2.1
 case neg=>rw[if_neg (mt (z02 _).1 h4),if_neg (fun k:FoldOk c s=>h4 k.t1)]
 rw[if_pos ((z02 _).2 h4)];by_cases h5:(s.2.2.length:Int)=c.2.2.1.2.2
 case neg=>rw[if_neg h5,if_neg (fun k:FoldOk c s=>h5 k.n2)]
 rw[if_pos h5];by_cases h6:TierOk s.2.2 c.2.1.2.2
 case neg=>rw[if_neg (mt (z02 _).1 h6),if_neg (fun k:FoldOk c s=>h6 k.t2)]
 rw[if_pos ((z02 _).2 h6),if_pos (⟨h0,h1,h3,h5,h2,h4,h6⟩:FoldOk c s)]
theorem g2o (n:Nat) (c:Conf) {s:Trs} (hw:TrsW s):a1t (n+9) c s=some (if FoldOk c s then 0 else 2):=by
 rw[o1m,y0f n c hw];by_cases h:FoldOk c s
 ·rw[if_pos h,if_pos h];rfl
 ·rw[if_neg h,if_neg h];rfl
noncomputable def emp (c:Conf):Trs:=if OkC c then (List.replicate c.2.2.1.1.toNat s0,(List.replicate c.2.2.1.2.1.toNat s0,List.replicate c.2.2.1.2.2.toNat s0)) else ([],([],[]))
theorem g2m (n:Nat) (c:Conf):a1r (n+4) c=some (emp c):=by
 rw[o1k,o0z n];simp only[obs,tfn,tfd,tier_new];unfold emp;by_cases h:OkC c
 ·have h0:=h.rng.n0;have h1:=h.rng.n1;have h2:=h.rng.n2;rw[if_pos ((z02 _).2 h),if_pos h,if_pos h0,if_pos h1,if_pos h2]
 ·rw[if_neg (mt (z02 _).1 h),if_neg h]
theorem quo_top {w:Int} (hw:1≤w):IntKind.wrap .i64 (Int.tdiv 35184372088831 w)=35184372088831 / w:=by
 have:0≤(35184372088831:Int) / w:=Int.ediv_nonneg (by decide) (by omega);have:(35184372088831:Int) / w≤35184372088831:=Int.ediv_le_self _ (by decide);rw[g0p (by decide),w64 (by omega) (by omega)]
theorem begins_0 (n:Nat) (c:Conf) (s:Trs) (h:1≤c.2.1.1) (i:Int):q0i (n+1) (c,s) 0 i=some (decide (h0e c.2.1.1 i),(c,s)):=by
 rw[c1r];simp only[tfd,if_neg (show ¬(c.2.1.1=0) by omega),quo_top h];by_cases h0:(0:Int)≤i
 ·rw[if_pos h0];refine congrArg (fun b=>some (b,(c,s))) (decide_eq_decide.2 ⟨fun k=>⟨h0,k⟩,fun k=>k.2⟩)
 ·rw[if_neg h0,decide_eq_false (fun k:h0e c.2.1.1 i=>h0 k.1)]
theorem d2b (l:List Cel):∀c,b0d c→b0d (allE c l).1:=by
 induction l with
 | nil=>intro c h;exact h
 | cons x l ih =>
  intro c h;simp only[allE];split
  ·rename_i k;exact ih _ (n1z k).2.2.2.2
  ·exact i0i
theorem n0t (l:List Slo) (i k:Int):b0d (tfold l i k).1:=by
 unfold tfold;split
 ·exact i0i
 ·exact d2b _ _ i0i
theorem k1l {a b i:Int} (ha:1≤a∧a≤1099511627776) (hb:1≤b∧b≤1099511627776) (hm:b % a=0) (h:h0e b i) :
  IntKind.wrap .i64 (i*(b / a))=i*(b / a)∧IntKind.wrap .i64 ((IntKind.wrap .i64 (i+1))*(b / a))=(i+1)*(b / a):=by
 obtain ⟨h1,h2,h3,h4,h5,h6⟩:=f2v ha hb hm h;have:=v1g hb.1 h;have:=h.1;rw[w64 (x:=i+1) (by omega) (by omega),h6,w64 (by omega) (by omega),w64 (by omega) (by omega)];exact ⟨rfl,rfl⟩
theorem g2l (n:Nat) {c:Conf} {s:Trs} (h:FoldOk c s) {i:Int} (hb:h0e c.2.1.2.1 i):g0j (n+19) (c,s) 1 i=some ((mk1 c s i).1,((mk1 c s i).2,(c,s))):=by
 have hr:=h.cok.rng;obtain ⟨e1,e2⟩:=k1l hr.w0 hr.w1 h.cok.m1 hb;rw[i1u];simp only[tfd,if_neg (show ¬(c.2.1.1=0) by have:=hr.w0;omega),a1d hr.w1 hr.w0.1,e1,e2,l0i n h.t0,obs];rfl
theorem g2k (n:Nat) {c:Conf} {s:Trs} (h:FoldOk c s) {i:Int} (hb:h0e c.2.1.2.2 i):g0j (n+19) (c,s) 2 i=some ((mk2 c s i).1,((mk2 c s i).2,(c,s))):=by
 have hr:=h.cok.rng;obtain ⟨e1,e2⟩:=k1l hr.w1 hr.w2 h.cok.m2 hb;rw[i1t];simp only[tfd,if_neg (show ¬(c.2.1.2.1=0) by have:=hr.w1;omega),a1d hr.w2 hr.w1.1,e1,e2,l0i n h.t1,obs];rfl
theorem x1u (n:Nat) {c:Conf} (h:OkC c):a1a (n+4) c 1=some (c.2.1.2.1 / c.2.1.1):=by
 have hr:=h.rng;rw[n1g,r0t n c,if_pos h];rw[show IntKind.wrap .i64 ((1:Int)-1)=0 from rfl];simp only[obs,decide_true,Bool.not_true,tff];rw[show (decide ((1:Int)<1))=false from rfl,tff,show (decide ((2:Int)<1))=false from rfl,tff,show (decide ((1:Int)=0))=false from rfl,tff];simp only[tft,tfd,if_neg (show ¬(c.2.1.1=0) by have:=hr.w0;omega),a1d hr.w1 hr.w0.1]
theorem l2y (n:Nat) {c:Conf} {s:Trs} (h:FoldOk c s) (i:Int) {x:Cel} (hx:CelW x):e0z (n+9) (c,s) 0 i x=some (if FitsP x c.2.1.1 i then (0,(c,(tput s.1 i x,s.2))) else (2,(c,s))):=by
 rw[o1q,l1n n _ _ (t0a h.t0) hx];simp only[obs,tfd];by_cases hf:FitsP x c.2.1.1 i
 ·rw[if_pos (And.intro h.t0 hf),if_pos hf];rfl
 ·have hn:¬(TierOk s.1 c.2.1.1∧FitsP x c.2.1.1 i):=fun k=>hf k.2
  rw[if_neg hn,if_neg hf];rfl
theorem l2x (n:Nat) {c:Conf} {s:Trs} (h:FoldOk c s) (i:Int) {x:Cel} (hx:CelW x):e0z (n+9) (c,s) 1 i x=some (if FitsP x c.2.1.2.1 i then (0,(c,(s.1,(tput s.2.1 i x,s.2.2)))) else (2,(c,s))):=by
 rw[o1p,l1n n _ _ (t0a h.t1) hx];simp only[obs,tfd];by_cases hf:FitsP x c.2.1.2.1 i
 ·rw[if_pos (And.intro h.t1 hf),if_pos hf];rfl
 ·have hn:¬(TierOk s.2.1 c.2.1.2.1∧FitsP x c.2.1.2.1 i):=fun k=>hf k.2
  rw[if_neg hn,if_neg hf];rfl
theorem l2w (n:Nat) {c:Conf} {s:Trs} (h:FoldOk c s) (i:Int) {x:Cel} (hx:CelW x):e0z (n+9) (c,s) 2 i x=some (if FitsP x c.2.1.2.2 i then (0,(c,(s.1,(s.2.1,tput s.2.2 i x)))) else (2,(c,s))):=by
 rw[o1o,l1n n _ _ (t0a h.t2) hx];simp only[obs,tfd];by_cases hf:FitsP x c.2.1.2.2 i
 ·rw[if_pos (And.intro h.t2 hf),if_pos hf];rfl
 ·have hn:¬(TierOk s.2.2 c.2.1.2.2∧FitsP x c.2.1.2.2 i):=fun k=>hf k.2
  rw[if_neg hn,if_neg hf];rfl
theorem t0o {a w i j:Int} (ha:1≤a) (hw:1≤w) (h0:0≤i) (hij:i≤j) (hj:h0e a j) :
  IntKind.wrap .i64 (Int.tdiv (IntKind.wrap .i64 (i*a)) w)=i*a / w∧h0e w (i*a / w):=by
 have hm:=hj.mul ha;have h1:0≤i*a:=Int.mul_nonneg h0 (by omega);have h2:i*a≤j*a:=Int.mul_le_mul_of_nonneg_right hij (by omega);have h3:0≤i*a / w:=Int.ediv_nonneg h1 (by omega);have h4:i*a / w≤i*a:=Int.ediv_le_self _ h1;rw[w64 (x:=i*a) (by omega) (by omega),g0p h1,w64 (by omega) (by omega)];exact ⟨rfl,k1y hw ⟨h1,by omega⟩⟩
theorem i2r (n:Nat) {c:Conf} {s:Trs} (h:FoldOk c s) {i j:Int} (h0:0≤i) (hij:i≤j) (hj:h0e c.2.1.1 j) :
  (tif (decide (IntKind.wrap .i64 (Int.tdiv (IntKind.wrap .i64 (i*c.2.1.1)) c.2.1.2.2)=IntKind.wrap .i64 (Int.tdiv (IntKind.wrap .i64 (j*c.2.1.1)) c.2.1.2.2))) (some (c,s))
   (a0a (g0j (n+19) (c,s) (2:Int) (IntKind.wrap .i64 (Int.tdiv (IntKind.wrap .i64 (i*c.2.1.1)) c.2.1.2.2))) fun r0 =>
    tif (decide (r0.2.1=(0:Int))) (tif (decide ((0:Int)<r0.1.1)) (a0a (e0z (n+19) r0.2.2 (2:Int) (IntKind.wrap .i64 (Int.tdiv (IntKind.wrap .i64 (i*c.2.1.1)) c.2.1.2.2)) r0.1) fun r1=>some r1.2) (some r0.2.2)) (some r0.2.2)))=some (c,up2 c s i j):=by
 have hr:=h.cok.rng;have hjj:0≤j:=hj.1;obtain ⟨e1,b1⟩:=t0o hr.w0.1 hr.w2.1 h0 hij hj;obtain ⟨e2,_⟩:=t0o hr.w0.1 hr.w2.1 hjj (Int.le_refl j) hj;rw[e1,e2,g2k n h b1];simp only[obs,tfd];unfold up2;by_cases c1:i*c.2.1.1 / c.2.1.2.2=j*c.2.1.1 / c.2.1.2.2
 ·rw[if_pos c1,if_pos c1]
 rw[if_neg c1,if_neg c1];generalize i*c.2.1.1 / c.2.1.2.2=a at *
 have hok:b0d (mk2 c s a).1:=n0t _ _ _;by_cases c2:(mk2 c s a).2=0
 ·rw[if_pos c2];by_cases c3:0<(mk2 c s a).1.1
  ·rw[if_pos c3,l2w (n+10) h a (CelW.of hok)];by_cases c4:FitsP (mk2 c s a).1 c.2.1.2.2 a
   ·rw[if_pos c4,if_pos (And.intro c2 c4)];rfl
   ·rw[if_neg c4,if_neg (fun k=>c4 k.2)];rfl
  ·rw[if_neg c3,if_neg (fun k=>c3 (by have:=k.2.n.n1;omega))]
 ·rw[if_neg c2,if_neg (fun k=>c2 k.1)]
theorem fold_up (n:Nat) {c:Conf} {s:Trs} (h:FoldOk c s) {i j:Int} (h0:0≤i) (hij:i≤j) (hj:h0e c.2.1.1 j):o1n (n+20) (c,s) i j=some (c,upw c s i j):=by
 have hr:=h.cok.rng;have hjj:0≤j:=hj.1;obtain ⟨e1,b1⟩:=t0o hr.w0.1 hr.w1.1 h0 hij hj;obtain ⟨e2,_⟩:=t0o hr.w0.1 hr.w1.1 hjj (Int.le_refl j) hj;have z1:¬(c.2.1.2.1=0):=by have:=hr.w1;omega
 have z2:¬(c.2.1.2.2=0):=by have:=hr.w2;omega
 rw[g2t];simp only[e1,e2,decide_eq_false z1,decide_eq_false z2,tff,g2l n h b1,obs,i2r n h h0 hij hj];unfold upw;simp only[tfd];by_cases c1:i*c.2.1.1 / c.2.1.2.1=j*c.2.1.1 / c.2.1.2.1
 ·have:up1 c s i j=s:=by unfold up1;rw[if_pos c1]
  rw[if_pos c1,this]
 rw[if_neg c1];have e3:up1 c s i j=if (mk1 c s (i*c.2.1.1 / c.2.1.2.1)).2=0∧FitsP (mk1 c s (i*c.2.1.1 / c.2.1.2.1)).1 c.2.1.2.1 (i*c.2.1.1 / c.2.1.2.1) then (s.1,(tput s.2.1 (i*c.2.1.1 / c.2.1.2.1) (mk1 c s (i*c.2.1.1 / c.2.1.2.1)).1,s.2.2)) else s:=by
  unfold up1;rw[if_neg c1]
 have hk:=q1e h i j;rw[e3] at hk ⊢;generalize i*c.2.1.1 / c.2.1.2.1=a at *
 have hok:b0d (mk1 c s a).1:=n0t _ _ _;by_cases c2:(mk1 c s a).2=0
 ·rw[if_pos c2];by_cases c3:0<(mk1 c s a).1.1
  ·rw[if_pos c3,l2x (n+10) h a (CelW.of hok)];by_cases c4:FitsP (mk1 c s a).1 c.2.1.2.1 a
   ·rw[if_pos (And.intro c2 c4)] at hk ⊢;rw[if_pos c4];have:=i2r n hk h0 hij hj;simp only[obs,if_neg z2];simp only[tfd] at this ⊢;exact this
   ·have hn1:¬((mk1 c s a).2=0∧FitsP (mk1 c s a).1 c.2.1.2.1 a):=fun k=>c4 k.2
    rw[if_neg hn1] at hk ⊢;rw[if_neg c4];have:=i2r n hk h0 hij hj;simp only[obs,if_neg z2];simp only[tfd] at this ⊢;exact this
  ·rw[if_neg c3,if_neg (fun k=>c3 (by have:=k.2.n.n1;omega))]
 ·rw[if_neg c2,if_neg (fun k=>c2 k.1)]
noncomputable def k0g (c:Conf) (s:Trs) (was:Slo) (j:Int):Trs×Int :=
 if FoldOk c s then
  (if was=s0 then (s,0)
   else if FitsP was.2 c.2.1.1 was.1 then
    (if was.1=j then (s,0) else if was.1≤j∧h0e c.2.1.1 j then (upw c (tput s.1 was.1 was.2,s.2) was.1 j,0) else (([],([],[])),1))
   else (([],([],[])),2))
 else (([],([],[])),2)
theorem q0h {c:Conf} {s:Trs} (h:FoldOk c s) {i:Int} {x:Cel} (hf:FitsP x c.2.1.1 i):FoldOk c (tput s.1 i x,s.2) :=
 ⟨h.cok,by simpa [tput] using h.n0,h.n1,h.n2,d1z h.t0 hf,h.t1,h.t2⟩
theorem g2n (n:Nat) (c:Conf) {s:Trs} (hw:TrsW s) {was:Slo} (hx:SloW was) (j:Int):a1s (n+21) c s was j=some (k0g c s was j):=by
 rw[o1l,y0f (n+12) c hw];unfold k0g;by_cases h:FoldOk c s
 case neg=>rw[if_neg h,if_neg h];rfl
 have hr:=h.cok.rng;rw[if_pos h,if_pos h];simp only[obs,c0y,decide_true,Bool.not_true,tff,j1p,tfn,tfd,if_true,w0e (n+14) hx.c];by_cases c1:was=s0
 ·rw[if_pos c1,if_pos c1,if_pos c1]
 rw[if_neg c1,if_neg c1,if_neg c1];by_cases c2:FitsP was.2 c.2.1.1 was.1
 case neg=>rw[if_neg c2,if_neg c2]
 rw[if_pos c2,if_pos c2];by_cases c3:was.1=j
 ·rw[if_pos c3,if_pos c3]
 rw[if_neg c3,if_neg c3];by_cases c4:j<was.1
 ·rw[if_pos c4,if_neg (fun q=>by omega)]
 rw[if_neg c4,begins_0 (n+19) c s hr.w0.1 j];simp only[obs,tfn,tfd];by_cases hb:h0e c.2.1.1 j
 ·have hi:=c2.i0;rw[if_pos hb,if_pos ⟨by omega,hb⟩,l2y (n+11) h was.1 hx.c,if_pos c2];simp only[obs,if_true,fold_up n (q0h h c2) hi.1 (show was.1≤j by omega) hb]
 ·rw[if_neg hb,if_neg (fun q=>hb q.2)]
theorem FoldOk.lens {c:Conf} {s:Trs} (h:FoldOk c s):s.1.length≤1000000∧s.2.1.length≤1000000∧s.2.2.length≤1000000:=by
 have:=h.t0.l1;have:=h.t1.l1;have:=h.t2.l1;omega
abbrev Ser:=List Lab×(Int×(Rw×(Trs×Slo)))
structure SerW (s:Ser):Prop where
 last:I64 s.2.1
 raw:RawW s.2.2.1
 trs:TrsW s.2.2.2.1
 opn:SloW s.2.2.2.2
def a0k (l:List Slo) (i:Int):Prop:=∀s∈l,0<s.2.1→s.1<i
noncomputable instance (l i):Decidable (a0k l i):=Classical.propDecidable _
structure Fresh (s:Ser):Prop where
 raw:s.2.2.1.2.2=[]
 opn:s.2.2.2.2=s0
 b0:a0k s.2.2.2.1.1 0
 b1:a0k s.2.2.2.1.2.1 0
 b2:a0k s.2.2.2.1.2.2 0
structure EndsP (c:Conf) (s:Ser):Prop where
 last:∃e,s.2.2.1.2.2.getLast? = some e∧e.1=s.2.1
 ol:s.2.2.2.2.2.2.2.1.1=s.2.1
 fit:FitsP s.2.2.2.2.2 c.2.1.1 s.2.2.2.2.1
 b0:a0k s.2.2.2.1.1 (s.2.1 / c.2.1.1)
 b1:a0k s.2.2.2.1.2.1 (s.2.1 / c.2.1.2.1)
 b2:a0k s.2.2.2.1.2.2 (s.2.1 / c.2.1.2.2)
structure SerOk (c:Conf) (s:Ser):Prop where
 fold:FoldOk c s.2.2.2.1
 lab:LabOk s.1
 raw:RawOk s.2.2.1 c.1
 st:(s.2.1 = -1∧Fresh s)∨(s.2.1 ≠ -1∧EndsP c s)
noncomputable instance (s):Decidable (Fresh s):=Classical.propDecidable _
noncomputable instance (c s):Decidable (EndsP c s):=Classical.propDecidable _
noncomputable instance (c s):Decidable (SerOk c s):=Classical.propDecidable _
theorem p1c (n:Nat) {del:a0c×Unit→Option Bool} {p:Slo→Bool} (hd:∀x,del (x,())=some (p x)) (l:List Slo) (hL:l.length≤1000000):g0e (n+2) l del=some (l.any p):=by
 rw[p0r,k0b];rcases l2m hd n l hL l [] a0b 0 l.length rfl rfl rfl (by unfold a0b;omega) with ⟨h1,h2⟩ | ⟨A,x,B,h1,h2,h3,h4⟩
 ·rw[h1];have:l.any p=false:=by rw[List.any_eq_false];intro x hx;simp[h2 x hx]
  rw[this];rfl
 ·rw[h4];have:l.any p=true:=List.any_eq_true.2 ⟨x,by rw[h1];simp,h3⟩;simp only[obs,o0a,this,Int.zero_add];rw[decide_eq_true (by omega)]
theorem c0x (n:Nat) (l:List Slo) (i:Int) (hL:l.length≤1000000):d0l (n+3) l i=some (!decide (a0k l i)):=by
 rw[c1i,p1c (p:=fun s=>decide (0<s.2.1∧i≤s.1)) n (fun x=>by
  show l0p (n+1+1) x i=_;rw[w0x]
  by_cases h1:0<x.2.1<;>by_cases h2:i≤x.1<;>simp[h1,h2]) l hL]
 simp only[obs];refine congrArg some ?_;by_cases h:a0k l i
 ·rw[decide_eq_true h];rw[List.any_eq_false.2]
  ·rfl
  ·intro x hx k;have:=of_decide_eq_true k;have:=h x hx this.1;omega
 ·rw[decide_eq_false h];have:∃x∈l,0<x.2.1∧i≤x.1:=Classical.byContradiction fun k=>h fun x hx hc=>by
   rcases Int.lt_or_le x.1 i with q | q
   ·exact q
   ·exact absurd ⟨x,hx,hc,q⟩ k
  obtain ⟨x,hx,hq⟩:=this;rw[List.any_eq_true.2 ⟨x,hx,decide_eq_true hq⟩];rfl
theorem g2d (n:Nat) (c:Conf) {s:Ser} (hf:FoldOk c s.2.2.2.1):e1n (n+4) (c,s)=some (decide (Fresh s)):=by
 obtain ⟨l0,l1,l2⟩:=hf.lens;rw[q1w,j1p,c0x n _ _ l0,c0x n _ _ l1,c0x n _ _ l2];simp only[obs,Bool.not_not,tfd];by_cases h1:(s.2.2.1.2.2.length:Int)=0
 case neg=>rw[if_neg h1,decide_eq_false (fun k:Fresh s=>h1 (by rw[k.raw];rfl))]
 rw[if_pos h1];by_cases h2:s.2.2.2.2=s0
 case neg=>rw[if_neg h2,decide_eq_false (fun k:Fresh s=>h2 k.opn)]
 rw[if_pos h2];by_cases h3:a0k s.2.2.2.1.1 0
 case neg=>rw[if_neg h3,decide_eq_false (fun k:Fresh s=>h3 k.b0)]
 rw[if_pos h3];by_cases h4:a0k s.2.2.2.1.2.1 0
 case neg=>rw[if_neg h4,decide_eq_false (fun k:Fresh s=>h4 k.b1)]
 rw[if_pos h4];refine congrArg some (decide_eq_decide.2 ⟨fun k=>⟨List.length_eq_zero_iff.1 (by omega),h2,h3,h4,k⟩,fun k=>k.b2⟩)
theorem y1w {c:Conf} {s:Ser} (hr:RawOk s.2.2.1 c.1) {e:Ev} (he:s.2.2.1.2.2.getLast? = some e):EvOk e:=hr.f.ok e (List.mem_of_getLast? he)
theorem l2i (n:Nat) (c:Conf) {s:Ser} (hf:FoldOk c s.2.2.2.1) (hr:RawOk s.2.2.1 c.1) (hw:SerW s):d1a (n+7) (c,s)=some (decide (EndsP c s)):=by
 obtain ⟨l0,l1,l2⟩:=hf.lens;have hg:=hf.cok.rng;have hlen:=hr.len;have hm1:=hr.m1;rw[w1n,a2s (n+5) s.2.2.1 (by omega)];cases hl:s.2.2.1.2.2.getLast? with
 | none =>
  simp only[obs];rw[show (decide ((3:Int)=0))=false from rfl,tff,decide_eq_false];intro k;obtain ⟨e,he,_⟩:=k.last;rw[hl] at he;cases he
 | some e =>
  have heo:=y1w hr hl;simp only[obs,decide_true,tft,tfd,if_true];by_cases h1:e.1=s.2.1
  case neg =>
   rw[if_neg h1,decide_eq_false];intro k;obtain ⟨e',he,hq⟩:=k.last;rw[hl] at he;injection he with he;subst he;exact h1 hq
  rw[if_pos h1];by_cases h2:s.2.2.2.2.2.2.2.1.1=s.2.1
  case neg=>rw[if_neg h2,decide_eq_false (fun k:EndsP c s=>h2 k.ol)]
  have q0:=f1q heo hg.w0.1;have q1:=f1q heo hg.w1.1;have q2:=f1q heo hg.w2.1;rw[h1] at q0 q1 q2;rw[if_pos h2,w0e n hw.opn.c];simp only[obs,tfd,q0,q1,q2,c0x (n+3) _ _ l0,c0x (n+3) _ _ l1,c0x (n+3) _ _ l2,Bool.not_not,if_neg (show ¬(c.2.1.1=0) by have:=hg.w0;omega),if_neg (show ¬(c.2.1.2.1=0) by have:=hg.w1;omega),if_neg (show ¬(c.2.1.2.2=0) by have:=hg.w2;omega)];by_cases h3:FitsP s.2.2.2.2.2 c.2.1.1 s.2.2.2.2.1
  case neg=>rw[if_neg h3,decide_eq_false (fun k:EndsP c s=>h3 k.fit)]
  rw[if_pos h3];by_cases h4:a0k s.2.2.2.1.1 (s.2.1 / c.2.1.1)
  case neg=>rw[if_neg h4,decide_eq_false (fun k:EndsP c s=>h4 k.b0)]
  rw[if_pos h4];by_cases h5:a0k s.2.2.2.1.2.1 (s.2.1 / c.2.1.2.1)
  case neg=>rw[if_neg h5,decide_eq_false (fun k:EndsP c s=>h5 k.b1)]
  rw[if_pos h5];refine congrArg some (decide_eq_decide.2 ⟨fun k=>⟨⟨e,hl,h1⟩,h2,h3,h4,h5,k⟩,fun k=>k.b2⟩)
theorem z08 (p:Prop) [Decidable p]:((if p then (0:Int) else 8)=0)↔p:=by by_cases h:p<;>simp[h]
theorem c0l (n:Nat) (c:Conf) {s:Ser} (hw:SerW s):f0h (n+10) c s=some (if SerOk c s then (some (c,s),0) else (none,2)):=by
 rw[i1e,g2o n c hw.trs,q0g (n+3),r1m (n+4) _ _ hw.raw];simp only[obs,tfn,tfd];by_cases h1:FoldOk c s.2.2.2.1
 case neg=>rw[if_neg (mt (z02 _).1 h1),if_neg (fun k:SerOk c s=>h1 k.fold)]
 by_cases h2:LabOk s.1
 case neg=>rw[if_pos ((z02 _).2 h1),if_neg (mt (z08 _).1 h2),if_neg (fun k:SerOk c s=>h2 k.lab)]
 by_cases h3:RawOk s.2.2.1 c.1
 case neg=>rw[if_pos ((z02 _).2 h1),if_pos ((z08 _).2 h2),if_neg (mt (z02 _).1 h3),if_neg (fun k:SerOk c s=>h3 k.raw)]
 rw[if_pos ((z02 _).2 h1),if_pos ((z08 _).2 h2),if_pos ((z02 _).2 h3),g2d (n+5) c h1,l2i (n+2) c h1 h3 hw];simp only[obs,tfd];by_cases h4:s.2.1 = -1
 ·rw[if_pos h4];by_cases h5:Fresh s
  ·rw[if_pos h5,if_pos (⟨h1,h2,h3,.inl ⟨h4,h5⟩⟩:SerOk c s)]
  ·rw[if_neg h5,if_pos h4,if_neg (fun k:SerOk c s=>by
    rcases k.st with q | q
    ·exact h5 q.2
    ·exact q.1 h4)]
 ·rw[if_neg h4,if_neg h4];by_cases h5:EndsP c s
  ·rw[if_pos h5,if_pos (⟨h1,h2,h3,.inr ⟨h4,h5⟩⟩:SerOk c s)]
  ·rw[if_neg h5,if_neg (fun k:SerOk c s=>by
    rcases k.st with q | q
    ·exact h4 q.1
    ·exact h5 q.2)]
theorem e0e {l:List Slo} {w:Int} (h:TierOk l w) (i:Int):a0k l i↔∀s∈tall l,s.1<i:=by
 constructor
 ·intro k s hs;have:=(tall_N h hs).n1;exact k s (k0n.1 hs).1 (by omega)
 ·intro k s hs hc;exact k s (k0n.2 ⟨hs,fun e=>by rw[e] at hc;simp[s0,z0] at hc⟩)
theorem o0m {l:List Slo} {w:Int} (h:TierOk l w):a0k l 0↔tall l=[]:=by
 rw[e0e h];constructor
 ·intro k;by_cases e:tall l=[]
  ·exact e
  ·obtain ⟨s,hs⟩:=List.exists_mem_of_ne_nil _ e;have:=(d0y h hs).1.i0;have:=k s hs;omega
 ·intro e s hs;rw[e] at hs;cases hs
theorem r15_l7_3 (n f:Nat) (s:Ser):f0k n (f+1) (s,(3:Int),())=some (.inl ()):=by
 rw[h0w,show (decide ((3:Int)<3))=false from rfl,tff]
theorem r15_l7 (n f:Nat) (c:Conf) {s:Ser} (h:FoldOk c s.2.2.2.1):f0k (n+1) (f+4) (s,(0:Int),())=some (if a0k s.2.2.2.1.1 0∧a0k s.2.2.2.1.2.1 0∧a0k s.2.2.2.1.2.2 0 then .inl () else .inr 2):=by
 have n0:=o0m h.t0;have n1:=o0m h.t1;have n2:=o0m h.t2;have len:∀ {l:List Slo},((0:Int)<(tall l).length)↔tall l≠[]:=fun {l}=>by
  have:=List.length_pos_iff (l:=tall l);constructor
  ·intro k;exact this.1 (by omega)
  ·intro k;have:=this.2 k;omega
 rw[h0w,show (decide ((0:Int)<3))=true from rfl,tft,show (decide ((0:Int)=0))=true from rfl,tft,v0n n h.t0];simp only[obs,tfd];by_cases c0:a0k s.2.2.2.1.1 0
 case neg=>rw[if_pos (len.2 (mt n0.2 c0)),if_neg (fun k=>c0 k.1)]
 rw[if_neg (fun k=>(len.1 k) (n0.1 c0)),show IntKind.wrap .i64 ((0:Int)+1)=1 from rfl,h0w,show (decide ((1:Int)<3))=true from rfl,tft,show (decide ((1:Int)=0))=false from rfl,tff,show (decide ((1:Int)=1))=true from rfl,tft,v0n n h.t1];simp only[obs,tfd];by_cases c1:a0k s.2.2.2.1.2.1 0
 case neg=>rw[if_pos (len.2 (mt n1.2 c1)),if_neg (fun k=>c1 k.2.1)]
 rw[if_neg (fun k=>(len.1 k) (n1.1 c1)),show IntKind.wrap .i64 ((1:Int)+1)=2 from rfl,h0w,show (decide ((2:Int)<3))=true from rfl,tft,show (decide ((2:Int)=0))=false from rfl,tff,show (decide ((2:Int)=1))=false from rfl,tff,show (decide ((2:Int)=2))=true from rfl,tft,v0n n h.t2];simp only[obs,tfd];by_cases c2:a0k s.2.2.2.1.2.2 0
 case neg=>rw[if_pos (len.2 (mt n2.2 c2)),if_neg (fun k=>c2 k.2.2)]
 rw[if_neg (fun k=>(len.1 k) (n2.1 c2)),show IntKind.wrap .i64 ((2:Int)+1)=3 from rfl,r15_l7_3,if_pos ⟨c0,c1,c2⟩]
theorem j2p (n:Nat) (c:Conf) (s:Ser) (at_:Int) (hw:1≤c.2.1.1) (hq:IntKind.wrap .i64 (Int.tdiv s.2.1 c.2.1.1)=at_) (l:List Slo) (hL:l.length≤1000000):∀(rest pre:List Slo) (f:Nat) (ix len:Int),l=pre++rest→ix=pre.length→len=l.length→rest.length<f →
  ((∀x∈rest,x.1<at_)→b0w n f (c,s,(0:Int),l,len,ix,())=some (.inl (c,s,(0:Int),())))∧(¬(∀x∈rest,x.1<at_)→b0w n f (c,s,(0:Int),l,len,ix,())=some (.inr 2)):=by
 intro rest;induction rest with
 | nil =>
  intro pre f ix len hl hi hn hf;obtain ⟨f,rfl⟩:∃g,f=g+1:=⟨f-1,by simp at hf;omega⟩;rw[d0j];exact ⟨fun _=>by simp only[tfd,if_neg (idxe hl hi hn)],fun k=>absurd (by simp) k⟩
 | cons x rest ih =>
  intro pre f ix len hl hi hn hf;obtain ⟨f,rfl⟩:∃g,f=g+1:=⟨f-1,by simp at hf;omega⟩;rw[d0j,decide_eq_true (idx hl hi hn),tft,b0q hl hi,obs];rw[show (decide ((0:Int)=0))=true from rfl,tft];simp only[tfd,if_neg (show ¬(c.2.1.1=0) by omega),hq,idxw hl hi (show l.length≤1000000000000 by omega)];have ih':=ih (pre++[x]) f (ix+1) len (idxl hl) (idxs hi) hn (by simp at hf;omega);by_cases h1:at_≤x.1
  ·rw[if_pos h1];exact ⟨fun k=>by have:=k x (by simp);omega,fun _=>rfl⟩
  ·rw[if_neg h1];exact ⟨fun k=>ih'.1 fun y hy=>k y (by simp[hy]),fun k=>ih'.2 fun q=>k fun y hy=>by
    rcases List.mem_cons.1 hy with rfl | hy
    ·omega
    ·exact q y hy⟩
theorem j2o (n:Nat) (c:Conf) (s:Ser) (at_:Int) (hw:1≤c.2.1.2.1) (hq:IntKind.wrap .i64 (Int.tdiv s.2.1 c.2.1.2.1)=at_) (l:List Slo) (hL:l.length≤1000000):∀(rest pre:List Slo) (f:Nat) (ix len:Int),l=pre++rest→ix=pre.length→len=l.length→rest.length<f →
  ((∀x∈rest,x.1<at_)→b0w n f (c,s,(1:Int),l,len,ix,())=some (.inl (c,s,(1:Int),())))∧(¬(∀x∈rest,x.1<at_)→b0w n f (c,s,(1:Int),l,len,ix,())=some (.inr 2)):=by
 intro rest;induction rest with
 | nil =>
  intro pre f ix len hl hi hn hf;obtain ⟨f,rfl⟩:∃g,f=g+1:=⟨f-1,by simp at hf;omega⟩;rw[d0j];exact ⟨fun _=>by simp only[tfd,if_neg (idxe hl hi hn)],fun k=>absurd (by simp) k⟩
 | cons x rest ih =>
  intro pre f ix len hl hi hn hf;obtain ⟨f,rfl⟩:∃g,f=g+1:=⟨f-1,by simp at hf;omega⟩;rw[d0j,decide_eq_true (idx hl hi hn),tft,b0q hl hi,obs];rw[show (decide ((1:Int)=0))=false from rfl,tff,show (decide ((1:Int)=1))=true from rfl,tft];simp only[tfd,if_neg (show ¬(c.2.1.2.1=0) by omega),hq,idxw hl hi (show l.length≤1000000000000 by omega)];have ih':=ih (pre++[x]) f (ix+1) len (idxl hl) (idxs hi) hn (by simp at hf;omega);by_cases h1:at_≤x.1
  ·rw[if_pos h1];exact ⟨fun k=>by have:=k x (by simp);omega,fun _=>rfl⟩
  ·rw[if_neg h1];exact ⟨fun k=>ih'.1 fun y hy=>k y (by simp[hy]),fun k=>ih'.2 fun q=>k fun y hy=>by
    rcases List.mem_cons.1 hy with rfl | hy
    ·omega
    ·exact q y hy⟩
theorem j2n (n:Nat) (c:Conf) (s:Ser) (at_:Int) (hw:1≤c.2.1.2.2) (hq:IntKind.wrap .i64 (Int.tdiv s.2.1 c.2.1.2.2)=at_) (l:List Slo) (hL:l.length≤1000000):∀(rest pre:List Slo) (f:Nat) (ix len:Int),l=pre++rest→ix=pre.length→len=l.length→rest.length<f →
  ((∀x∈rest,x.1<at_)→b0w n f (c,s,(2:Int),l,len,ix,())=some (.inl (c,s,(2:Int),())))∧(¬(∀x∈rest,x.1<at_)→b0w n f (c,s,(2:Int),l,len,ix,())=some (.inr 2)):=by
 intro rest;induction rest with
 | nil =>
  intro pre f ix len hl hi hn hf;obtain ⟨f,rfl⟩:∃g,f=g+1:=⟨f-1,by simp at hf;omega⟩;rw[d0j];exact ⟨fun _=>by simp only[tfd,if_neg (idxe hl hi hn)],fun k=>absurd (by simp) k⟩
 | cons x rest ih =>
  intro pre f ix len hl hi hn hf;obtain ⟨f,rfl⟩:∃g,f=g+1:=⟨f-1,by simp at hf;omega⟩;rw[d0j,decide_eq_true (idx hl hi hn),tft,b0q hl hi,obs];rw[show (decide ((2:Int)=0))=false from rfl,tff,show (decide ((2:Int)=1))=false from rfl,tff,show (decide ((2:Int)=2))=true from rfl,tft];simp only[tfd,if_neg (show ¬(c.2.1.2.2=0) by omega),hq,idxw hl hi (show l.length≤1000000000000 by omega)];have ih':=ih (pre++[x]) f (ix+1) len (idxl hl) (idxs hi) hn (by simp at hf;omega);by_cases h1:at_≤x.1
  ·rw[if_pos h1];exact ⟨fun k=>by have:=k x (by simp);omega,fun _=>rfl⟩
  ·rw[if_neg h1];exact ⟨fun k=>ih'.1 fun y hy=>k y (by simp[hy]),fun k=>ih'.2 fun q=>k fun y hy=>by
    rcases List.mem_cons.1 hy with rfl | hy
    ·omega
    ·exact q y hy⟩
theorem j2q (n f:Nat) (c:Conf) (s:Ser):e0k n (f+1) (c,s,(3:Int),())=some (.inl ()):=by
 rw[g0n,show (decide ((3:Int)<3))=false from rfl,tff]
theorem r15_l16 (n f:Nat) (c:Conf) {s:Ser} (h:FoldOk c s.2.2.2.1) {e:Ev} (he:EvOk e) (hes:e.1=s.2.1):e0k (n+1) (f+4) (c,s,(0:Int),()) =
  some (if a0k s.2.2.2.1.1 (s.2.1 / c.2.1.1)∧a0k s.2.2.2.1.2.1 (s.2.1 / c.2.1.2.1)∧a0k s.2.2.2.1.2.2 (s.2.1 / c.2.1.2.2) then .inl () else .inr 2):=by
 have n0:=e0e h.t0 (s.2.1 / c.2.1.1);have n1:=e0e h.t1 (s.2.1 / c.2.1.2.1);have n2:=e0e h.t2 (s.2.1 / c.2.1.2.2);have hg:=h.cok.rng;have q0:=f1q he hg.w0.1;have q1:=f1q he hg.w1.1;have q2:=f1q he hg.w2.1;rw[hes] at q0 q1 q2;obtain ⟨l0,l1,l2⟩:=h.lens;have t0:=t0b (l:=s.2.2.2.1.1);have t1:=t0b (l:=s.2.2.2.1.2.1);have t2:=t0b (l:=s.2.2.2.1.2.2);have k0:=j2p (n+1) c s _ hg.w0.1 q0 (tall s.2.2.2.1.1) (by omega) (tall s.2.2.2.1.1) [] a0b 0 ((tall s.2.2.2.1.1).length:Int) rfl rfl rfl (by unfold a0b;omega)
 have k1:=j2o (n+1) c s _ hg.w1.1 q1 (tall s.2.2.2.1.2.1) (by omega) (tall s.2.2.2.1.2.1) [] a0b 0 ((tall s.2.2.2.1.2.1).length:Int) rfl rfl rfl (by unfold a0b;omega);have k2:=j2n (n+1) c s _ hg.w2.1 q2 (tall s.2.2.2.1.2.2) (by omega) (tall s.2.2.2.1.2.2) [] a0b 0 ((tall s.2.2.2.1.2.2).length:Int) rfl rfl rfl (by unfold a0b;omega);rw[←n0] at k0;rw[←n1] at k1;rw[←n2] at k2;rw[g0n,show (decide ((0:Int)<3))=true from rfl,tft,show (decide ((0:Int)=0))=true from rfl,tft,v0n n h.t0,obs];by_cases c0:a0k s.2.2.2.1.1 (s.2.1 / c.2.1.1)
 case neg=>rw[k0.2 c0,if_neg (fun k=>c0 k.1)];rfl
 rw[k0.1 c0];simp only[obs,a0w];rw[show IntKind.wrap .i64 ((0:Int)+1)=1 from rfl,g0n,show (decide ((1:Int)<3))=true from rfl,tft,show (decide ((1:Int)=0))=false from rfl,tff,show (decide ((1:Int)=1))=true from rfl,tft,v0n n h.t1,obs];by_cases c1:a0k s.2.2.2.1.2.1 (s.2.1 / c.2.1.2.1)
 case neg=>rw[k1.2 c1,if_neg (fun k=>c1 k.2.1)];rfl
 rw[k1.1 c1];simp only[obs,a0w];rw[show IntKind.wrap .i64 ((1:Int)+1)=2 from rfl,g0n,show (decide ((2:Int)<3))=true from rfl,tft,show (decide ((2:Int)=0))=false from rfl,tff,show (decide ((2:Int)=1))=false from rfl,tff,show (decide ((2:Int)=2))=true from rfl,tft,v0n n h.t2,obs];by_cases c2:a0k s.2.2.2.1.2.2 (s.2.1 / c.2.1.2.2)
 case neg=>rw[k2.2 c2,if_neg (fun k=>c2 k.2.2)];rfl
 rw[k2.1 c2];simp only[obs,a0w];rw[show IntKind.wrap .i64 ((2:Int)+1)=3 from rfl,j2q,if_pos ⟨c0,c1,c2⟩]
theorem r1v (n:Nat) (c:Conf) {s:Ser} (hw:SerW s):f1f (n+8) c s=some (if SerOk c s then 0 else 2):=by
 rw[r1w,r0t (n+4),j2v (n+5),j2s (n+5) _ _ hw.raw,j2r n c hw.trs];simp only[obs,tfn,tfd,j1p];by_cases h0:OkC c
 case neg=>rw[if_neg (mt (z02 _).1 h0),if_neg (fun k:SerOk c s=>h0 k.fold.cok)]
 by_cases h2:LabOk s.1
 case neg=>rw[if_pos ((z02 _).2 h0),if_neg (mt (z08 _).1 h2),if_neg (fun k:SerOk c s=>h2 k.lab)]
 by_cases h3:RawOk s.2.2.1 c.1
 case neg=>rw[if_pos ((z02 _).2 h0),if_pos ((z08 _).2 h2),if_neg (mt (z02 _).1 h3),if_neg (fun k:SerOk c s=>h3 k.raw)]
 by_cases h1:FoldOk c s.2.2.2.1
 case neg=>rw[if_pos ((z02 _).2 h0),if_pos ((z08 _).2 h2),if_pos ((z02 _).2 h3),if_neg (mt (z02 _).1 h1),if_neg (fun k:SerOk c s=>h1 k.fold)]
 have hlen:=h3.len;have hm1:=h3.m1;rw[if_pos ((z02 _).2 h0),if_pos ((z08 _).2 h2),if_pos ((z02 _).2 h3),if_pos ((z02 _).2 h1),show a0b=(2^70-4)+4 from by decide,r15_l7 (n+6) _ c h1,r12_last _ _ (by omega),a2w (n+2) hw.opn.c];by_cases h4:s.2.1 = -1
 ·rw[if_pos h4];by_cases h5:(0:Int)<s.2.2.1.2.2.length
  ·rw[if_pos h5,if_neg (fun k:SerOk c s=>by
    rcases k.st with q | q
    ·rw[q.2.raw] at h5;simp at h5
    ·exact q.1 h4)]
  rw[if_neg h5];by_cases h6:s.2.2.2.2=s0
  case neg=>rw[if_neg h6,if_neg (fun k:SerOk c s=>by
    rcases k.st with q | q
    ·exact h6 q.2.opn
    ·exact q.1 h4)]
  rw[if_pos h6,obs];by_cases h7:a0k s.2.2.2.1.1 0∧a0k s.2.2.2.1.2.1 0∧a0k s.2.2.2.1.2.2 0
  ·rw[if_pos h7,if_pos (⟨h1,h2,h3,.inl ⟨h4,⟨List.length_eq_zero_iff.1 (by omega),h6,h7.1,h7.2.1,h7.2.2⟩⟩⟩:SerOk c s)];rfl
  ·rw[if_neg h7,if_neg (fun k:SerOk c s=>by
    rcases k.st with q | q
    ·exact h7 ⟨q.2.b0,q.2.b1,q.2.b2⟩
    ·exact q.1 h4)];rfl
 ·rw[if_neg h4];have no:∀ {p:Prop},(EndsP c s→p)→¬p→(if SerOk c s then (0:Int) else 2)=2:=fun hp hn=>if_neg (fun k:SerOk c s=>by
   rcases k.st with q | q
   ·exact h4 q.1
   ·exact hn (hp q.2))
  cases hl:s.2.2.1.2.2.getLast? with
  | none =>
   simp only[obs];rw[if_neg (by decide),no (fun k=>k.last) (fun ⟨e,he,_⟩=>by rw[hl] at he;cases he)]
  | some e =>
   have heo:=y1w h3 hl;simp only[obs,if_true,tfd];by_cases h5:e.1=s.2.1
   case neg=>rw[if_neg h5,no (fun k=>k.last) (fun ⟨e',he,hq⟩=>by rw[hl] at he;injection he with he;subst he;exact h5 hq)]
   rw[if_pos h5];by_cases h6:FitsP s.2.2.2.2.2 c.2.1.1 s.2.2.2.2.1
   case neg=>rw[if_neg h6,no (fun k=>k.fit) h6]
   rw[if_pos h6];by_cases h7:s.2.2.2.2.2.2.2.1.1=s.2.1
   case neg=>rw[if_neg h7,no (fun k=>k.ol) h7]
   rw[if_pos h7,r15_l16 (n+6) _ c h1 heo h5,obs];by_cases h8:a0k s.2.2.2.1.1 (s.2.1 / c.2.1.1)∧a0k s.2.2.2.1.2.1 (s.2.1 / c.2.1.2.1)∧a0k s.2.2.2.1.2.2 (s.2.1 / c.2.1.2.2)
   ·rw[if_pos h8,if_pos (⟨h1,h2,h3,.inr ⟨h4,⟨⟨e,hl,h5⟩,h7,h6,h8.1,h8.2.1,h8.2.2⟩⟩⟩:SerOk c s)];rfl
   ·rw[if_neg h8,no (fun k=>And.intro k.b0 (And.intro k.b1 k.b2)) h8];rfl
theorem nn {α:Type} {a b:α} (h:a=b):¬(a≠b):=fun k=>k h
def ser0:Ser:=([],(0,(r0w,(([],([],[])),s0))))
def y0x (s:Ser) (i:Int):Prop:=s.2.2.2.2≠s0∧s.2.2.2.2.1≠i
noncomputable instance (s i):Decidable (y0x s i):=Classical.propDecidable _
noncomputable def turned (c:Conf) (s:Ser) (i:Int):(Trs×Slo)×Int :=
 if y0x s i then (if (k0g c s.2.2.2.1 s.2.2.2.2 i).2=0 then (((k0g c s.2.2.2.1 s.2.2.2.2 i).1,s0),0) else ((s.2.2.2.1,s.2.2.2.2),(k0g c s.2.2.2.1 s.2.2.2.2 i).2)) else ((s.2.2.2.1,s.2.2.2.2),0)
noncomputable def putE (c:Conf) (s:Ser) (e:Ev):Ser×Int :=
 if SerOk c s∧EvOk e then
  (if e.1≤s.2.1 then (ser0,9)
   else if (turned c s (e.1 / c.2.1.1)).2≠0 then (ser0,(turned c s (e.1 / c.2.1.1)).2)
   else if (m0o s.2.2.1 c.1 e).2≠0 then (ser0,(m0o s.2.2.1 c.1 e).2)
   else if (mrgE (turned c s (e.1 / c.2.1.1)).1.2.2 (c0e e)).2≠0 then (ser0,(mrgE (turned c s (e.1 / c.2.1.1)).1.2.2 (c0e e)).2)
   else ((s.1,(e.1,((m0o s.2.2.1 c.1 e).1,((turned c s (e.1 / c.2.1.1)).1.1,(e.1 / c.2.1.1,(mrgE (turned c s (e.1 / c.2.1.1)).1.2.2 (c0e e)).1))))),0))
 else (ser0,2)
theorem x0v {c:Conf} {s:Ser} (h:SerOk c s):s.2.2.2.2.2.1=0↔s.2.2.2.2=s0:=by
 constructor
 ·intro k;rcases h.st with q | q
  ·exact q.2.opn
  ·have:=q.2.fit.n.n1;omega
 ·intro k;rw[k];rfl
theorem turned_w {c:Conf} {s:Ser} (hw:SerW s) (i:Int):SloW (turned c s i).1.2:=by
 unfold turned;split
 ·split
  ·exact z0n
  ·exact hw.opn
 ·exact hw.opn
theorem l2h (n:Nat) (c:Conf) {s:Ser} (h:SerOk c s) (hw:SerW s) (i:Int):l1y (n+22) (c,s) i=some ((turned c s i).2,(c,(s.1,(s.2.1,(s.2.2.1,(turned c s i).1))))):=by
 rw[w1m];simp only[tfd,g2n n c hw.trs hw.opn i,obs];unfold turned;by_cases h1:s.2.2.2.2.1=i
 ·rw[if_pos h1,if_neg (fun k:y0x s i=>k.2 h1)]
 rw[if_neg h1];by_cases h2:s.2.2.2.2.2.1=0
 ·rw[if_pos h2,if_neg (fun k:y0x s i=>k.1 ((x0v h).1 h2))]
 have ht:y0x s i:=⟨fun k=>h2 ((x0v h).2 k),h1⟩;rw[if_neg h2,if_pos ht];by_cases h3:(k0g c s.2.2.2.1 s.2.2.2.2 i).2=0
 ·rw[if_pos h3,if_pos h3,h3];rfl
 ·rw[if_neg h3,if_neg h3]
theorem e2d (n:Nat) (c:Conf) {s:Ser} (hw:SerW s) {e:Ev} (he:EvW e):z0s (n+23) c s e=some (putE c s e):=by
 rw[m1k,c0l (n+12) c hw,g0s _ he];unfold putE;by_cases h1:SerOk c s
 case neg=>rw[if_neg h1,if_neg (fun k:SerOk c s∧EvOk e=>h1 k.1)];rfl
 rw[if_pos h1];have hg:=h1.fold.cok.rng;simp only[obs,c0y,decide_true,Bool.not_true,tff,tfn,tfd];by_cases h2:EvOk e
 case neg=>rw[if_neg (mt (z02 _).1 h2),if_neg (fun k:SerOk c s∧EvOk e=>h2 k.2)];rfl
 rw[if_pos ((z02 _).2 h2),if_pos (And.intro h1 h2)];by_cases h3:e.1≤s.2.1
 ·rw[if_pos h3,if_pos h3];rfl
 rw[if_neg h3,if_neg h3,if_neg (show ¬(c.2.1.1=0) by have:=hg.w0;omega),f1q h2 hg.w0.1,l2h n c h1 hw];generalize ht:turned c s (e.1 / c.2.1.1)=t;have htw:=turned_w (c:=c) hw (e.1 / c.2.1.1);rw[ht] at htw;simp only[obs];by_cases h4:t.2=0
 case neg=>rw[if_neg h4,if_pos h4];rfl
 rw[if_pos h4,if_neg (nn h4),d2s,raw_put (n+15) c.1 hw.raw he,cell_add (n+14) htw.c he,if_pos h2];simp only[obs,tfn,tfd];by_cases h5:(m0o s.2.2.1 c.1 e).2=0
 case neg =>
  rw[if_neg h5,if_pos h5];simp only[obs];rw[if_neg h5];rfl
 rw[if_pos h5,if_neg (nn h5)];simp only[obs];by_cases h6:(mrgE t.1.2.2 (c0e e)).2=0
 ·rw[if_pos h6,if_neg (nn h6)];simp only[if_true]
 ·rw[if_neg h6,if_pos h6];rfl
end Go.Proofs.YtgkpkajaepphjaaGreatDoor

namespace Go.Plim
set_option linter.unusedVariables false
def below (w:Int) (l:List Ev) (t:Int):List Ev:=l.filter fun e=>decide (e.1 / w<t / w)
theorem l1c {w:Int} {l:List Ev} (h:Foll l) (t:Int):Foll (below w l t):=h.sub List.filter_sublist
theorem y0t {w:Int} {l:List Ev} {t:Int} (h:∀e∈l,e.1 / w<t / w):below w l t=l:=by
 unfold below;exact List.filter_eq_self.2 fun e he=>by simpa using h e he
theorem m0f {w:Int} {l:List Ev} {t u:Int} (h:t / w=u / w):below w l t=below w l u:=by unfold below;rw[h]
theorem l0b {w:Int} {l:List Ev} (e:Ev):below w (l++[e]) e.1=below w l e.1:=by
 unfold below;rw[List.filter_append];simp
structure EndsAt (l:List Ev) (t:Int):Prop where
 foll:Foll l
 le:∀e∈l,e.1≤t
 last:∃e∈l,e.1=t
theorem EndsAt.wle {l:List Ev} {t:Int} (h:EndsAt l t) {w:Int} (hw:1≤w):∀e∈l,e.1 / w≤t / w:=fun e he=>Int.ediv_le_ediv (by omega) (h.le e he)
theorem g2x {l:List Ev} {t:Int} (h:EndsAt l t) {w:Int} (hw:1≤w):l=below w l t++win w l (t / w):=by
 have key:∀(m:List Ev),(∀e∈m,e.1 / w≤t / w)→m.Pairwise (fun a b=>a.1 / w≤b.1 / w)→m=below w m t++win w m (t / w):=by
  intro m;induction m with
  | nil=>intro _ _;rfl
  | cons x m ih =>
   intro h1 h2;rw[List.pairwise_cons] at h2;have ih':=ih (fun e he=>h1 e (by simp[he])) h2.2;have hx:=h1 x (by simp);unfold below win at *
   by_cases c:x.1 / w<t / w
   ·rw[List.filter_cons_of_pos (by simpa using c),List.filter_cons_of_neg (by simp;omega),List.cons_append,←ih']
   ·have e0:m.filter (fun e=>decide (e.1 / w<t / w))=[]:=by
     rw[List.filter_eq_nil_iff];intro y hy;have:=h2.1 y hy;simp;omega
    rw[List.filter_cons_of_neg (by simpa using c),List.filter_cons_of_pos (by simp;omega),e0,List.nil_append];rw[e0,List.nil_append] at ih';rw[←ih']
 exact key l (h.wle hw) (l2u hw h.foll)
theorem i2e (t:List Slo) (i:Int) (a b:Cel):tput (tput t i a) i b=tput t i b:=by
 unfold tput;rw[List.length_set,List.set_set]
theorem l1s {t:List Slo} {w a:Int} {l:List Ev} (h:TierInv t w l):∀(n:Nat) (B:List Ev),B.length=n+1→Foll (l++B)→(∀e∈B,e.1 / w=a) →
  FitsP (cellOf (win w (l++B) a)) w a∧TierInv (tput t a (cellOf (win w (l++B) a))) w (l++B):=by
 intro n;induction n with
 | zero =>
  intro B hB hf ha
  match B,hB with
  | [e],_ =>
   have he:=ha e (by simp);have:=e1c h hf;rw[he] at this;rw[win_snoc,if_pos he];exact this
 | succ n ih =>
  intro B hB hf ha;rcases List.eq_nil_or_concat B with rfl | ⟨B',e,rfl⟩
  ·cases hB
  rw[List.concat_eq_append] at *
  have he:=ha e (by simp);have hf':Foll (l++B'++[e]):=by rw[List.append_assoc];exact hf
  obtain ⟨h1,h2⟩:=ih B' (by simp at hB;exact hB) (b0c.1 hf').1 (fun x hx=>ha x (by simp[hx]));have:=e1c h2 hf';rw[he,i2e,List.append_assoc] at this;rw[←List.append_assoc,win_snoc,if_pos he];rw[List.append_assoc];exact this
theorem h0h {s:List Slo} {w:Int} {l:List Ev} {t:Int} (he:EndsAt l t) (h:TierInv s w (below w l t)):FitsP (cellOf (win w l (t / w))) w (t / w)∧TierInv (tput s (t / w) (cellOf (win w l (t / w)))) w l:=by
 have hw:=h.ok.w0;have hs:=g2x he hw;obtain ⟨e,hel,het⟩:=he.last;have hne:win w l (t / w)≠[]:=fun k=>by
  have:e∈win w l (t / w):=a1m.2 ⟨hel,by rw[het]⟩;rw[k] at this;cases this
 have hlen:(win w l (t / w)).length=((win w l (t / w)).length-1)+1:=by have:=List.length_pos_iff.2 hne;omega
 have:=l1s h _ (win w l (t / w)) hlen (by rw[←hs];exact he.foll) (fun x hx=>(a1m.1 hx).2);rw[←hs] at this;exact this
theorem edvm {t a b:Int} (ha:1≤a) (hb:1≤b) (hm:b % a=0):t / a*a / b=t / b∧t / a / (b / a)=t / b:=by
 have e:a*(b / a)=b:=by have:=Int.mul_ediv_add_emod b a;omega
 have h1:t / a / (b / a)=t / b:=by rw[Int.ediv_ediv_of_nonneg (by omega),e]
 refine ⟨?_,h1⟩;rw[←h1]
 conv=>lhs;rw[←e,Int.mul_comm (t / a) a]
 exact Int.mul_ediv_mul_of_pos _ _ (by omega)
theorem y0z {l:List Ev} {a b i:Int} (ha:1≤a) (hb:1≤b) (hm:b % a=0):rng a l (i*(b / a)) ((i+1)*(b / a))=win b l i:=by
 unfold rng win;apply List.filter_congr;intro e _;have h1:=(edvm (t:=e.1) ha hb hm).2;have hq:1≤b / a:=by
  have e:a*(b / a)=b:=by have:=Int.mul_ediv_add_emod b a;omega
  rcases Int.lt_or_le 0 (b / a) with k | k
  ·omega
  ·have:a*(b / a)≤0:=Int.mul_nonpos_of_nonneg_of_nonpos (by omega) k;omega
 refine decide_eq_decide.2 ?_;rw[←h1];generalize e.1 / a=x at *
 generalize b / a=q at *
 constructor
 ·rintro ⟨h2,h3⟩;have:=Int.le_ediv_of_mul_le (show 0<q by omega) h2;have:=Int.ediv_lt_of_lt_mul (show 0<q by omega) h3;omega
 ·rintro rfl;exact ⟨Int.ediv_mul_le _ (by omega),Int.lt_ediv_add_one_mul_self x (by omega)⟩
end Go.Plim
namespace Go.Proofs.YtgkpkajaepphjaaGreatDoor
open Go.Flat Go.Plim
structure FInv (c:Conf) (s:Trs) (l:List Ev) (t:Int):Prop where
 ok:FoldOk c s
 i0:TierInv s.1 c.2.1.1 (below c.2.1.1 l t)
 i1:TierInv s.2.1 c.2.1.2.1 (below c.2.1.2.1 l t)
 i2:TierInv s.2.2 c.2.1.2.2 (below c.2.1.2.2 l t)
theorem OkC.m02 {c:Conf} (h:OkC c):c.2.1.2.2 % c.2.1.1=0:=by
 have h1:=Int.dvd_of_emod_eq_zero h.m1;have h2:=Int.dvd_of_emod_eq_zero h.m2;exact Int.emod_eq_zero_of_dvd (Int.dvd_trans h1 h2)
theorem same_win {c:Conf} (h:OkC c) {t u:Int} (e:t / c.2.1.1=u / c.2.1.1):t / c.2.1.2.1=u / c.2.1.2.1∧t / c.2.1.2.2=u / c.2.1.2.2:=by
 have hr:=h.rng;rw[←(edvm (t:=t) hr.w0.1 hr.w1.1 h.m1).1,←(edvm (t:=u) hr.w0.1 hr.w1.1 h.m1).1,←(edvm (t:=t) hr.w0.1 hr.w2.1 h.m02).1,←(edvm (t:=u) hr.w0.1 hr.w2.1 h.m02).1,e];exact ⟨rfl,rfl⟩
theorem j2e {c:Conf} (h:OkC c) {t u:Int} (e:t / c.2.1.2.1=u / c.2.1.2.1):t / c.2.1.2.2=u / c.2.1.2.2:=by
 have hr:=h.rng;rw[←(edvm (t:=t) hr.w1.1 hr.w2.1 h.m2).1,←(edvm (t:=u) hr.w1.1 hr.w2.1 h.m2).1,e]
theorem m2d {c:Conf} {s:Trs} {l:List Ev} {t:Int} (h:FInv c s l t) {e:Ev} (hw:t / c.2.1.1=e.1 / c.2.1.1):FInv c s (l++[e]) e.1:=by
 obtain ⟨h1,h2⟩:=same_win h.ok.cok hw;refine ⟨h.ok,?_,?_,?_⟩
 ·rw[l0b,←m0f hw];exact h.i0
 ·rw[l0b,←m0f h1];exact h.i1
 ·rw[l0b,←m0f h2];exact h.i2
theorem u1f {c:Conf} {s:Trs} {l:List Ev} {e:Ev} (h:FInv c s l e.1):FInv c s (l++[e]) e.1:=by
 refine ⟨h.ok,?_,?_,?_⟩
 ·rw[l0b];exact h.i0
 ·rw[l0b];exact h.i1
 ·rw[l0b];exact h.i2
theorem p1w {w:Int} {l:List Ev} {t f n:Int} (he:EndsAt l t) (hw:1≤w) {i:Int} (h1:t / w<i+f) (h2:f≤n):∀e∈l,e.1 / w<i+n:=fun e hel=>by
 have:=he.wle hw e hel;omega
theorem g2r {c:Conf} {s:Trs} {l:List Ev} {t:Int} (h:FInv c s l t) (he:EndsAt l t) {u:Int} (hu:t<u) (hw:t / c.2.1.1≠u / c.2.1.1) :
  FitsP (cellOf (win c.2.1.1 l (t / c.2.1.1))) c.2.1.1 (t / c.2.1.1) ∧
  FInv c (upw c (tput s.1 (t / c.2.1.1) (cellOf (win c.2.1.1 l (t / c.2.1.1))),s.2) (t / c.2.1.1) (u / c.2.1.1)) l u:=by
 have hok:=h.ok;have hc:=hok.cok;have hr:=hc.rng;obtain ⟨hf0,k0⟩:=h0h he h.i0;have hlt:t / c.2.1.1<u / c.2.1.1:=by
  have:t / c.2.1.1≤u / c.2.1.1:=Int.ediv_le_ediv (by have:=hr.w0;omega) (by omega);omega
 refine ⟨hf0,?_⟩;have s0ok:FoldOk c (tput s.1 (t / c.2.1.1) (cellOf (win c.2.1.1 l (t / c.2.1.1))),s.2) :=
  ⟨hc,by simpa [tput] using hok.n0,hok.n1,hok.n2,d1z hok.t0 hf0,hok.t1,hok.t2⟩
 generalize hs0:tput s.1 (t / c.2.1.1) (cellOf (win c.2.1.1 l (t / c.2.1.1)))=a0 at *
 have b0:below c.2.1.1 l u=l:=y0t fun e hel=>by have:=he.wle hr.w0.1 e hel;omega
 have q1:=edvm (t:=t) hr.w0.1 hr.w1.1 hc.m1;have q1u:=edvm (t:=u) hr.w0.1 hr.w1.1 hc.m1;have q2:=edvm (t:=t) hr.w0.1 hr.w2.1 hc.m02;have q2u:=edvm (t:=u) hr.w0.1 hr.w2.1 hc.m02;have q12:=edvm (t:=t) hr.w1.1 hr.w2.1 hc.m2;have ht0:0≤t:=by obtain ⟨e,hel,het⟩:=he.last;have:=(he.foll.ok e hel).t0;omega
 have r1:up1 c (a0,s.2) (t / c.2.1.1) (u / c.2.1.1)=(a0,(if t / c.2.1.2.1=u / c.2.1.2.1 then s.2.1 else tput s.2.1 (t / c.2.1.2.1) (cellOf (win c.2.1.2.1 l (t / c.2.1.2.1))),s.2.2)) ∧
   (t / c.2.1.2.1≠u / c.2.1.2.1→TierInv (tput s.2.1 (t / c.2.1.2.1) (cellOf (win c.2.1.2.1 l (t / c.2.1.2.1)))) c.2.1.2.1 l):=by
  unfold up1;rw[q1.1,q1u.1];by_cases k:t / c.2.1.2.1=u / c.2.1.2.1
  ·rw[if_pos k,if_pos k];exact ⟨rfl,fun n=>absurd k n⟩
  ·obtain ⟨hf1,k1⟩:=h0h he h.i1;have hm:mk1 c (a0,s.2) (t / c.2.1.2.1)=(cellOf (win c.2.1.2.1 l (t / c.2.1.2.1)),0):=by
    unfold mk1;have e1:0≤c.2.1.2.1 / c.2.1.1:=Int.ediv_nonneg (by have:=hr.w1;omega) (by have:=hr.w0;omega);have e0:0≤t / c.2.1.2.1:=Int.ediv_nonneg ht0 (by have:=hr.w1;omega);have hlen:((a0:List Slo).length:Int)=c.2.2.1.1:=s0ok.n0;have hub:t / c.2.1.1<t / c.2.1.2.1*(c.2.1.2.1 / c.2.1.1)+c.2.1.2.1 / c.2.1.1:=by
     rw[←q1.2];have hp:0<c.2.1.2.1 / c.2.1.1:=by
      rcases Int.lt_or_le 0 (c.2.1.2.1 / c.2.1.1) with z | z
      ·exact z
      ·exfalso;have e:c.2.1.1*(c.2.1.2.1 / c.2.1.1)=c.2.1.2.1:=by have:=Int.mul_ediv_add_emod c.2.1.2.1 c.2.1.1;have:=hc.m1;omega
       have:c.2.1.2.1 / c.2.1.1=0:=by omega
       rw[this,Int.mul_zero] at e;have:=hr.w1;omega
     have:=Int.lt_ediv_add_one_mul_self (t / c.2.1.1) hp;rw[Int.add_mul,Int.one_mul] at this;exact this
    have:=m0j k0 he.foll (i:=t / c.2.1.2.1*(c.2.1.2.1 / c.2.1.1)) (k:=(t / c.2.1.2.1+1)*(c.2.1.2.1 / c.2.1.1)) (Int.mul_nonneg e0 e1)
     (Int.mul_le_mul_of_nonneg_right (by omega) e1) (by rw[hlen];exact p1w he hr.w0.1 hub hc.d1)
    rw[this,y0z hr.w0.1 hr.w1.1 hc.m1]
   rw[if_neg k,if_neg k,hm,if_pos (And.intro rfl hf1)];exact ⟨rfl,fun _=>k1⟩
 have okc1:=q1e s0ok (t / c.2.1.1) (u / c.2.1.1);have okc2:=upw_ok s0ok (t / c.2.1.1) (u / c.2.1.1);have i1:TierInv (if t / c.2.1.2.1=u / c.2.1.2.1 then s.2.1 else tput s.2.1 (t / c.2.1.2.1) (cellOf (win c.2.1.2.1 l (t / c.2.1.2.1)))) c.2.1.2.1 (below c.2.1.2.1 l u):=by
  by_cases k:t / c.2.1.2.1=u / c.2.1.2.1
  ·rw[if_pos k,←m0f k];exact h.i1
  ·have:below c.2.1.2.1 l u=l:=y0t fun e hel=>by
    have:=he.wle hr.w1.1 e hel;have:t / c.2.1.2.1≤u / c.2.1.2.1:=Int.ediv_le_ediv (by have:=hr.w1;omega) (by omega);omega
   rw[if_neg k,this];exact r1.2 k
 unfold upw at okc2 ⊢;rw[r1.1] at okc1 okc2 ⊢;generalize hs1:(if t / c.2.1.2.1=u / c.2.1.2.1 then s.2.1 else tput s.2.1 (t / c.2.1.2.1) (cellOf (win c.2.1.2.1 l (t / c.2.1.2.1))))=a1 at *
 have r2:up2 c (a0,(a1,s.2.2)) (t / c.2.1.1) (u / c.2.1.1)=(a0,(a1,if t / c.2.1.2.2=u / c.2.1.2.2 then s.2.2 else tput s.2.2 (t / c.2.1.2.2) (cellOf (win c.2.1.2.2 l (t / c.2.1.2.2))))) ∧
   (t / c.2.1.2.2≠u / c.2.1.2.2→TierInv (tput s.2.2 (t / c.2.1.2.2) (cellOf (win c.2.1.2.2 l (t / c.2.1.2.2)))) c.2.1.2.2 l):=by
  unfold up2;rw[q2.1,q2u.1];by_cases k:t / c.2.1.2.2=u / c.2.1.2.2
  ·rw[if_pos k,if_pos k];exact ⟨rfl,fun n=>absurd k n⟩
  ·obtain ⟨hf2,k2⟩:=h0h he h.i2;have k1':t / c.2.1.2.1≠u / c.2.1.2.1:=fun z=>k (j2e hc z)
   have hb1:below c.2.1.2.1 l u=l:=y0t fun e hel=>by
    have:=he.wle hr.w1.1 e hel;have:t / c.2.1.2.1≤u / c.2.1.2.1:=Int.ediv_le_ediv (by have:=hr.w1;omega) (by omega);omega
   rw[hb1] at i1;have hm:mk2 c (a0,(a1,s.2.2)) (t / c.2.1.2.2)=(cellOf (win c.2.1.2.2 l (t / c.2.1.2.2)),0):=by
    unfold mk2;have e1:0≤c.2.1.2.2 / c.2.1.2.1:=Int.ediv_nonneg (by have:=hr.w2;omega) (by have:=hr.w1;omega);have e0:0≤t / c.2.1.2.2:=Int.ediv_nonneg ht0 (by have:=hr.w2;omega);have hlen:((a1:List Slo).length:Int)=c.2.2.1.2.1:=okc1.n1;have hub:t / c.2.1.2.1<t / c.2.1.2.2*(c.2.1.2.2 / c.2.1.2.1)+c.2.1.2.2 / c.2.1.2.1:=by
     rw[←q12.2];have hp:0<c.2.1.2.2 / c.2.1.2.1:=by
      rcases Int.lt_or_le 0 (c.2.1.2.2 / c.2.1.2.1) with z | z
      ·exact z
      ·exfalso;have e:c.2.1.2.1*(c.2.1.2.2 / c.2.1.2.1)=c.2.1.2.2:=by have:=Int.mul_ediv_add_emod c.2.1.2.2 c.2.1.2.1;have:=hc.m2;omega
       have:c.2.1.2.2 / c.2.1.2.1=0:=by omega
       rw[this,Int.mul_zero] at e;have:=hr.w2;omega
     have:=Int.lt_ediv_add_one_mul_self (t / c.2.1.2.1) hp;rw[Int.add_mul,Int.one_mul] at this;exact this
    have:=m0j i1 he.foll (i:=t / c.2.1.2.2*(c.2.1.2.2 / c.2.1.2.1)) (k:=(t / c.2.1.2.2+1)*(c.2.1.2.2 / c.2.1.2.1)) (Int.mul_nonneg e0 e1)
     (Int.mul_le_mul_of_nonneg_right (by omega) e1) (by rw[hlen];exact p1w he hr.w1.1 hub hc.d2)
    rw[this,y0z hr.w1.1 hr.w2.1 hc.m2]
   rw[if_neg k,if_neg k,hm,if_pos (And.intro rfl hf2)];exact ⟨rfl,fun _=>k2⟩
 rw[r2.1] at okc2 ⊢;refine ⟨okc2,by rw[b0];exact k0,i1,?_⟩;by_cases k:t / c.2.1.2.2=u / c.2.1.2.2
 ·simp only[if_pos k];rw[←m0f k];exact h.i2
 ·have:below c.2.1.2.2 l u=l:=y0t fun e hel=>by
   have:=he.wle hr.w2.1 e hel;have:t / c.2.1.2.2≤u / c.2.1.2.2:=Int.ediv_le_ediv (by have:=hr.w2;omega) (by omega);omega
  simp only[if_neg k];rw[this];exact r2.2 k
end Go.Proofs.YtgkpkajaepphjaaGreatDoor
namespace Go.Proofs.YtgkpkajaepphjaaGreatDoor
open Go.Flat Go.Plim
set_option linter.unusedVariables false
set_option linter.unusedSimpArgs false
theorem allE_up {w:Int}:∀(L:List Slo) (c:Cel) (lo:Int),Up L→(∀s∈L,FitsP s.2 w s.1∧lo≤s.1)→b0d c→(c=z0∨c.2.2.1.1 / w<lo)→(allE c (L.map (·.2))).2=0:=by
 intro L;induction L with
 | nil=>intro c lo _ _ _ _;rfl
 | cons s L ih =>
  intro c lo hu hs hc hl;unfold Up at hu;rw[List.pairwise_cons] at hu;obtain ⟨hf,h1⟩:=hs s (by simp);have ha:Ahead c s.2:=by
   rcases hl with h | h
   ·exact .inl h
   ·refine .inr (.inr ?_);have e:=hf.f;rcases Int.lt_or_le c.2.2.1.1 s.2.2.1.1 with q | q
    ·exact q
    ·have:=Int.ediv_le_ediv (c:=w) (by have:=hf.w0;omega) q;omega
  have em:mrgE c s.2=(mrg c s.2,0):=by unfold mrgE;rw[if_pos (And.intro hc hf.n.ok),if_pos ha]
  simp only[List.map_cons,allE];rw[em,if_pos rfl];refine ih _ (s.1+1) hu.2 (fun x hx=>⟨(hs x (by simp[hx])).1,by have:=hu.1 x hx;omega⟩) (u0w hc hf.n.ok ha) (.inr ?_);have el:(mrg c s.2).2.2.1.1=s.2.2.2.1.1:=by
   unfold mrg;by_cases k:c=z0
   ·rw[if_pos k]
   ·rw[if_neg k,if_neg hf.n.ne]
  rw[el,hf.l];omega
theorem g0x {l:List Slo} {w i k:Int} (h:TierOk l w) (h0:0≤i) (hik:i≤k):(tfold l i k).2=0:=by
 unfold tfold;rw[if_neg (by omega)];unfold within;refine allE_up (w:=w) _ z0 0 ((m0y h).filter _) (fun s hs => ?_) i0i (.inl rfl);have:=(d0y h (List.mem_filter.1 hs).1).1;exact ⟨this,this.i0.1⟩
noncomputable def now1 (c:Conf) (s:Ser):Cel×Int:=mrgE (tfold s.2.2.2.1.1 (s.2.1 / c.2.1.2.1*(c.2.1.2.1 / c.2.1.1)) (s.2.1 / c.2.1.1)).1 s.2.2.2.2.2
noncomputable def now2 (c:Conf) (s:Ser):Cel×Int :=
 if (now1 c s).2≠0 then (z0,(now1 c s).2) else mrgE (tfold s.2.2.2.1.2.1 (s.2.1 / c.2.1.2.2*(c.2.1.2.2 / c.2.1.2.1)) (s.2.1 / c.2.1.2.1)).1 (now1 c s).1
theorem z0e (l:List Slo) (i k:Int):CelW (tfold l i k).1 := .of (n0t l i k)
theorem j1x {c:Conf} {s:Ser} (h:SerOk c s) (hn:¬(s.2.1 = -1)):EndsP c s∧∃e,EvOk e∧e.1=s.2.1:=by
 rcases h.st with q | q
 ·exact absurd q.1 hn
 ·obtain ⟨e,he,h1⟩:=q.2.last;exact ⟨q.2,e,y1w h.raw he,h1⟩
theorem a1i {a b t:Int} (ha:1≤a∧a≤1099511627776) (hb:1≤b∧b≤1099511627776) (hm:b % a=0) (ht:0≤t∧t<35184372088832) :
  0≤t / b*(b / a)∧t / b*(b / a)≤t / a∧t / a<35184372088832∧0≤t / a:=by
 have h1:=(edvm (t:=t) ha.1 hb.1 hm).2;have h2:0≤t / b:=Int.ediv_nonneg ht.1 (by omega);have h3:0≤b / a:=Int.ediv_nonneg (by omega) (by omega);have h4:0≤t / a:=Int.ediv_nonneg ht.1 (by omega);have h5:t / a≤t:=Int.ediv_le_self _ ht.1;refine ⟨Int.mul_nonneg h2 h3,?_,by omega,h4⟩;have h6:1≤b / a:=by
  have e:a*(b / a)=b:=by have:=Int.mul_ediv_add_emod b a;omega
  rcases Int.lt_or_le 0 (b / a) with q | q
  ·omega
  ·have:b / a=0:=by omega
   rw[this] at e;omega
 rw[←h1];exact Int.ediv_mul_le _ (by omega)
structure At (c:Conf) (s:Ser):Prop where
 l0:0≤s.2.1
 l1:s.2.1<35184372088832
theorem f0w {c:Conf} {s:Ser} (h:SerOk c s) (hn:¬(s.2.1 = -1)):0≤s.2.1∧s.2.1<35184372088832:=by
 obtain ⟨_,e,he,h1⟩:=j1x h hn;rw[←h1];exact ⟨he.t0,he.t1⟩
theorem i0b {t:Int} (ht:0≤t∧t<35184372088832) {w:Int} (hw:1≤w):IntKind.wrap .i64 (Int.tdiv t w)=t / w:=by
 have:0≤t / w:=Int.ediv_nonneg ht.1 (by omega);have:t / w≤t:=Int.ediv_le_self _ ht.1;rw[g0p ht.1,w64 (by omega) (by omega)]
theorem nz {w:Int} (h:1≤w):¬(w=0):=by omega
theorem g1j (n:Nat) (c:Conf) (s:Ser):h0o (n+1) (c,s) 0=some (s.2.2.2.2.2,0):=by rw[q1v]
theorem mrgE_nn (a b:Cel):0≤(mrgE a b).2:=by
 unfold mrgE;split
 ·split<;>simp
 ·simp
theorem g1i (n:Nat) (c:Conf) {s:Ser} (h:SerOk c s) (hw:SerW s) (hn:¬(s.2.1 = -1)):h0o (n+19) (c,s) 1=some (now1 c s):=by
 have hr:=h.fold.cok.rng;have ht:=f0w h hn;obtain ⟨o1,o2,o3,o4⟩:=a1i hr.w0 hr.w1 h.fold.cok.m1 ht;rw[q1t];simp only[tfd,tfn,if_neg (nz hr.w0.1),if_neg (nz hr.w1.1),i0b ht hr.w0.1,i0b ht hr.w1.1,a1d hr.w1 hr.w0.1];rw[w64 (by omega) (by omega),l0i n h.fold.t0,g1j (n+17)];simp only[obs,g0x h.fold.t0 o1 o2,if_true,j0b (n+12) (z0e _ _ _) hw.opn.c];rfl
theorem now1_w (c:Conf) (s:Ser):CelW (now1 c s).1:=b2m _ _
theorem t1v (n:Nat) (c:Conf) {s:Ser} (h:SerOk c s) (hw:SerW s) (hn:¬(s.2.1 = -1)):h0o (n+20) (c,s) 2=some (now2 c s):=by
 have hr:=h.fold.cok.rng;have ht:=f0w h hn;obtain ⟨o1,o2,o3,o4⟩:=a1i hr.w1 hr.w2 h.fold.cok.m2 ht;rw[q1s];simp only[tfd,tfn,if_neg (nz hr.w1.1),if_neg (nz hr.w2.1),i0b ht hr.w1.1,i0b ht hr.w2.1,a1d hr.w2 hr.w1.1];rw[w64 (by omega) (by omega),l0i (n+1) h.fold.t1,g1i n c h hw hn];simp only[obs,g0x h.fold.t1 o1 o2,if_true,j0b (n+13) (z0e _ _ _) (now1_w c s)];unfold now2;by_cases k:(now1 c s).2=0
 ·rw[if_pos k,if_neg (nn k)]
 ·have:0≤(now1 c s).2:=mrgE_nn _ _;rw[if_neg k,if_pos k,if_pos (by omega)];rfl
theorem one0 (n:Nat) (c:Conf) {s:Ser} (h:SerOk c s) (hn:¬(s.2.1 = -1)) (i:Int) (hi:0≤i):z0z (n+3) c s 0 i=some (if s.2.1 / c.2.1.1<i then (z0,0) else if i<s.2.1 / c.2.1.1 then (tget s.2.2.2.1.1 i,0) else (s.2.2.2.2.2,0)):=by
 have hr:=h.fold.cok.rng;have ht:=f0w h hn;rw[b1q];simp only[tfd,if_neg hn,if_neg (nz hr.w0.1),i0b ht hr.w0.1,x1m n h.fold.t0.l0,obs];split
 ·rfl
 ·split<;>rfl
theorem one1 (n:Nat) (c:Conf) {s:Ser} (h:SerOk c s) (hw:SerW s) (hn:¬(s.2.1 = -1)) (i:Int) (hi:0≤i):z0z (n+8) c s 1 i=some (if s.2.1 / c.2.1.2.1<i then (z0,0) else if i<s.2.1 / c.2.1.2.1 then (tget s.2.2.2.1.2.1 i,0) else now1 c s):=by
 have hr:=h.fold.cok.rng;have ht:=f0w h hn;obtain ⟨o1,o2,o3,o4⟩:=a1i hr.w0 hr.w1 h.fold.cok.m1 ht;rw[b1p];simp only[tfd,tfn,if_neg hn,if_neg (nz hr.w0.1),if_neg (nz hr.w1.1),i0b ht hr.w0.1,i0b ht hr.w1.1,x1m (n+5) h.fold.t1.l0,obs];by_cases k1:s.2.1 / c.2.1.2.1<i
 ·rw[if_pos k1,if_pos k1];rfl
 rw[if_neg k1,if_neg k1];by_cases k2:i<s.2.1 / c.2.1.2.1
 ·rw[if_pos k2,if_pos k2]
 rw[if_neg k2,if_neg k2];have e:i=s.2.1 / c.2.1.2.1:=by omega
 subst e;rw[x1u (n+3) h.fold.cok];simp only[obs];rw[w64 (by omega) (by omega),r13_fold n h.fold.t0];simp only[obs,g0x h.fold.t0 o1 o2,if_true];rw[one0 (n+4) c h hn _ o4,if_neg (by omega),if_neg (by omega)];simp only[obs,if_true,s1g (n+2) (z0e _ _ _) hw.opn.c];rfl
noncomputable def cellV (ok:Prop) [Decidable ok] (i last w:Int) (t:List Slo) (now:Cel×Int):Cel×Int :=
 if ok then (if i<0 then (z0,1) else if last = -1 then (z0,0) else if last / w<i then (z0,0) else if i=last / w then now else (tget t i,0)) else (z0,2)
noncomputable def b0r (ok:Prop) [Decidable ok] (i j last w:Int) (t:List Slo) (now:Cel×Int):Cel×Int :=
 if ok then (if i<0 then (z0,1) else if j<i then (z0,1) else if last = -1 then (z0,0) else if last / w<i then tfold t i j else if j≤last / w then tfold t i j else if now.2≠0 then (z0,now.2) else mrgE (tfold t i j).1 now.1) else (z0,2)
theorem now2_w (c:Conf) (s:Ser):CelW (now2 c s).1:=by
 unfold now2;split
 ·exact v0t
 ·exact b2m _ _
theorem r1f (n:Nat) (c:Conf) {s:Ser} (hw:SerW s) (i:Int):f0i (n+21) c s 0 i=some (cellV (SerOk c s) i s.2.1 c.2.1.1 s.2.2.2.1.1 (s.2.2.2.2.2,0)):=by
 rw[c1l,c0l (n+10) c hw];unfold cellV;by_cases h:SerOk c s
 case neg=>rw[if_neg h,if_neg h];rfl
 rw[if_pos h,if_pos h];simp only[obs,c0y,decide_true,Bool.not_true,tff,tfd];by_cases h1:i<0
 ·rw[if_pos h1,if_pos h1];rfl
 rw[if_neg h1,if_neg h1];by_cases hn:s.2.1 = -1
 ·rw[if_pos hn,if_pos hn];rfl
 have hr:=h.fold.cok.rng;have ht:=f0w h hn;rw[if_neg hn,if_neg hn,if_neg (nz hr.w0.1),i0b ht hr.w0.1];by_cases h2:s.2.1 / c.2.1.1<i
 ·rw[if_pos h2,if_pos h2];rfl
 rw[if_neg h2,if_neg h2,if_neg (nz hr.w0.1)];by_cases h3:i=s.2.1 / c.2.1.1
 ·rw[if_pos h3,if_pos h3,g1j (n+19) c s];rfl
 rw[if_neg h3,if_neg h3,l1o (n+18) h.fold.t0.l0];rfl
theorem r15_cell0 (n:Nat) (c:Conf) {s:Ser} (hw:SerW s) (i:Int):n1a (n+10) c s 0 i=some (cellV (SerOk c s) i s.2.1 c.2.1.1 s.2.2.2.1.1 (s.2.2.2.2.2,0)):=by
 rw[f1g,r1v (n+1) c hw];unfold cellV;by_cases h:SerOk c s
 case neg=>rw[if_neg h,if_neg h];rfl
 rw[if_pos h,if_pos h];simp only[obs,decide_true,Bool.not_true,tff,tfd,if_neg (show ¬((0:Int)<0) by omega),if_neg (show ¬((2:Int)<0) by omega)];by_cases h1:i<0
 ·rw[if_pos h1,if_pos h1];rfl
 rw[if_neg h1,if_neg h1];by_cases hn:s.2.1 = -1
 ·rw[if_pos hn,b1q,hn];rfl
 rw[if_neg hn,one0 (n+6) c h hn i (by omega)];by_cases h2:s.2.1 / c.2.1.1<i
 ·rw[if_pos h2,if_pos h2];rfl
 rw[if_neg h2,if_neg h2];by_cases h3:i=s.2.1 / c.2.1.1
 ·rw[if_pos h3,if_neg (by omega)];rfl
 rw[if_neg h3,if_pos (by omega)];rfl
theorem g2c (n:Nat) (c:Conf) {s:Ser} (h:SerOk c s) (hw:SerW s) {i j:Int} (h0:¬i<0) (hij:¬j<i):p0o (n+21) (c,s) 0 i j=some (b0r (SerOk c s) i j s.2.1 c.2.1.1 s.2.2.2.1.1 (s.2.2.2.2.2,0)):=by
 rw[m1b];unfold b0r;rw[if_pos h,if_neg h0,if_neg hij];simp only[tfd,tfn];by_cases hn:s.2.1 = -1
 ·rw[if_pos hn,if_pos hn];rfl
 have hr:=h.fold.cok.rng;have ht:=f0w h hn;rw[if_neg hn,if_neg hn,if_neg (nz hr.w0.1),i0b ht hr.w0.1,l0i (n+2) h.fold.t0];simp only[obs,g0x h.fold.t0 (show 0≤i by omega) (show i≤j by omega),if_true];by_cases h2:s.2.1 / c.2.1.1<i
 ·rw[if_pos h2,if_pos h2]
 rw[if_neg h2,if_neg h2];by_cases h3:j≤s.2.1 / c.2.1.1
 ·rw[if_pos h3,if_pos h3]
 rw[if_neg h3,if_neg h3,g1j (n+19) c s];simp only[obs,j0b (n+14) (z0e _ _ _) hw.opn.c];rw[if_pos trivial,if_neg (nn rfl)]
theorem m1j (n:Nat) (c:Conf) {s:Ser} (hw:SerW s) (i j:Int):d0m (n+22) c s 0 i j=some (b0r (SerOk c s) i j s.2.1 c.2.1.1 s.2.2.2.1.1 (s.2.2.2.2.2,0)):=by
 rw[l0r,c0l (n+11) c hw];by_cases h:SerOk c s
 case neg=>unfold b0r;rw[if_neg h,if_neg h];rfl
 rw[if_pos h];simp only[obs,c0y,decide_true,Bool.not_true,tff,tfd,if_neg (show ¬((0:Int)<0) by omega),if_neg (show ¬((3:Int)≤0) by omega)];by_cases h1:i<0
 ·unfold b0r;rw[if_pos h1,if_pos h,if_pos h1];rfl
 by_cases h2:j<i
 ·unfold b0r;rw[if_neg h1,if_pos h2,if_pos h,if_neg h1,if_pos h2];rfl
 rw[if_neg h1,if_neg h2,g2c n c h hw h1 h2];rfl
theorem r1e (n:Nat) (c:Conf) {s:Ser} (hw:SerW s) (i:Int):f0i (n+21) c s 1 i=some (cellV (SerOk c s) i s.2.1 c.2.1.2.1 s.2.2.2.1.2.1 (now1 c s)):=by
 rw[c1k,c0l (n+10) c hw];unfold cellV;by_cases h:SerOk c s
 case neg=>rw[if_neg h,if_neg h];rfl
 rw[if_pos h,if_pos h];simp only[obs,c0y,decide_true,Bool.not_true,tff,tfd];by_cases h1:i<0
 ·rw[if_pos h1,if_pos h1];rfl
 rw[if_neg h1,if_neg h1];by_cases hn:s.2.1 = -1
 ·rw[if_pos hn,if_pos hn];rfl
 have hr:=h.fold.cok.rng;have ht:=f0w h hn;rw[if_neg hn,if_neg hn,if_neg (nz hr.w1.1),i0b ht hr.w1.1];by_cases h2:s.2.1 / c.2.1.2.1<i
 ·rw[if_pos h2,if_pos h2];rfl
 rw[if_neg h2,if_neg h2,if_neg (nz hr.w1.1)];by_cases h3:i=s.2.1 / c.2.1.2.1
 ·rw[if_pos h3,if_pos h3,g1i (n+1) c h hw hn];rfl
 rw[if_neg h3,if_neg h3,l1o (n+18) h.fold.t1.l0];rfl
theorem r15_cell1 (n:Nat) (c:Conf) {s:Ser} (hw:SerW s) (i:Int):n1a (n+10) c s 1 i=some (cellV (SerOk c s) i s.2.1 c.2.1.2.1 s.2.2.2.1.2.1 (now1 c s)):=by
 rw[f1g,r1v (n+1) c hw];unfold cellV;by_cases h:SerOk c s
 case neg=>rw[if_neg h,if_neg h];rfl
 rw[if_pos h,if_pos h];simp only[obs,decide_true,Bool.not_true,tff,tfd,if_neg (show ¬((1:Int)<0) by omega),if_neg (show ¬((2:Int)<1) by omega)];by_cases h1:i<0
 ·rw[if_pos h1,if_pos h1];rfl
 rw[if_neg h1,if_neg h1];by_cases hn:s.2.1 = -1
 ·rw[if_pos hn,b1p,hn];rfl
 rw[if_neg hn,one1 (n+1) c h hw hn i (by omega)];by_cases h2:s.2.1 / c.2.1.2.1<i
 ·rw[if_pos h2,if_pos h2];rfl
 rw[if_neg h2,if_neg h2];by_cases h3:i=s.2.1 / c.2.1.2.1
 ·rw[if_pos h3,if_neg (by omega)];rfl
 rw[if_neg h3,if_pos (by omega)];rfl
theorem g2b (n:Nat) (c:Conf) {s:Ser} (h:SerOk c s) (hw:SerW s) {i j:Int} (h0:¬i<0) (hij:¬j<i):p0o (n+21) (c,s) 1 i j=some (b0r (SerOk c s) i j s.2.1 c.2.1.2.1 s.2.2.2.1.2.1 (now1 c s)):=by
 rw[m1a];unfold b0r;rw[if_pos h,if_neg h0,if_neg hij];simp only[tfd,tfn];by_cases hn:s.2.1 = -1
 ·rw[if_pos hn,if_pos hn];rfl
 have hr:=h.fold.cok.rng;have ht:=f0w h hn;rw[if_neg hn,if_neg hn,if_neg (nz hr.w1.1),i0b ht hr.w1.1,l0i (n+2) h.fold.t1];simp only[obs,g0x h.fold.t1 (show 0≤i by omega) (show i≤j by omega),if_true];by_cases h2:s.2.1 / c.2.1.2.1<i
 ·rw[if_pos h2,if_pos h2]
 rw[if_neg h2,if_neg h2];by_cases h3:j≤s.2.1 / c.2.1.2.1
 ·rw[if_pos h3,if_pos h3]
 rw[if_neg h3,if_neg h3,g1i (n+1) c h hw hn];simp only[obs,j0b (n+14) (z0e _ _ _) (now1_w c s)];by_cases h4:(now1 c s).2=0
 ·rw[if_pos h4,if_neg (nn h4)]
 ·rw[if_neg h4,if_pos h4];rfl
theorem m1i (n:Nat) (c:Conf) {s:Ser} (hw:SerW s) (i j:Int):d0m (n+22) c s 1 i j=some (b0r (SerOk c s) i j s.2.1 c.2.1.2.1 s.2.2.2.1.2.1 (now1 c s)):=by
 rw[l0r,c0l (n+11) c hw];by_cases h:SerOk c s
 case neg=>unfold b0r;rw[if_neg h,if_neg h];rfl
 rw[if_pos h];simp only[obs,c0y,decide_true,Bool.not_true,tff,tfd,if_neg (show ¬((1:Int)<0) by omega),if_neg (show ¬((3:Int)≤1) by omega)];by_cases h1:i<0
 ·unfold b0r;rw[if_pos h1,if_pos h,if_pos h1];rfl
 by_cases h2:j<i
 ·unfold b0r;rw[if_neg h1,if_pos h2,if_pos h,if_neg h1,if_pos h2];rfl
 rw[if_neg h1,if_neg h2,g2b n c h hw h1 h2];rfl
theorem r1d (n:Nat) (c:Conf) {s:Ser} (hw:SerW s) (i:Int):f0i (n+21) c s 2 i=some (cellV (SerOk c s) i s.2.1 c.2.1.2.2 s.2.2.2.1.2.2 (now2 c s)):=by
 rw[c1j,c0l (n+10) c hw];unfold cellV;by_cases h:SerOk c s
 case neg=>rw[if_neg h,if_neg h];rfl
 rw[if_pos h,if_pos h];simp only[obs,c0y,decide_true,Bool.not_true,tff,tfd];by_cases h1:i<0
 ·rw[if_pos h1,if_pos h1];rfl
 rw[if_neg h1,if_neg h1];by_cases hn:s.2.1 = -1
 ·rw[if_pos hn,if_pos hn];rfl
 have hr:=h.fold.cok.rng;have ht:=f0w h hn;rw[if_neg hn,if_neg hn,if_neg (nz hr.w2.1),i0b ht hr.w2.1];by_cases h2:s.2.1 / c.2.1.2.2<i
 ·rw[if_pos h2,if_pos h2];rfl
 rw[if_neg h2,if_neg h2,if_neg (nz hr.w2.1)];by_cases h3:i=s.2.1 / c.2.1.2.2
 ·rw[if_pos h3,if_pos h3,t1v n c h hw hn];rfl
 rw[if_neg h3,if_neg h3,l1o (n+18) h.fold.t2.l0];rfl
theorem g2a (n:Nat) (c:Conf) {s:Ser} (h:SerOk c s) (hw:SerW s) {i j:Int} (h0:¬i<0) (hij:¬j<i):p0o (n+21) (c,s) 2 i j=some (b0r (SerOk c s) i j s.2.1 c.2.1.2.2 s.2.2.2.1.2.2 (now2 c s)):=by
 rw[l1z];unfold b0r;rw[if_pos h,if_neg h0,if_neg hij];simp only[tfd,tfn];by_cases hn:s.2.1 = -1
 ·rw[if_pos hn,if_pos hn];rfl
 have hr:=h.fold.cok.rng;have ht:=f0w h hn;rw[if_neg hn,if_neg hn,if_neg (nz hr.w2.1),i0b ht hr.w2.1,l0i (n+2) h.fold.t2];simp only[obs,g0x h.fold.t2 (show 0≤i by omega) (show i≤j by omega),if_true];by_cases h2:s.2.1 / c.2.1.2.2<i
 ·rw[if_pos h2,if_pos h2]
 rw[if_neg h2,if_neg h2];by_cases h3:j≤s.2.1 / c.2.1.2.2
 ·rw[if_pos h3,if_pos h3]
 rw[if_neg h3,if_neg h3,t1v n c h hw hn];simp only[obs,j0b (n+14) (z0e _ _ _) (now2_w c s)];by_cases h4:(now2 c s).2=0
 ·rw[if_pos h4,if_neg (nn h4)]
 ·rw[if_neg h4,if_pos h4];rfl
theorem m1h (n:Nat) (c:Conf) {s:Ser} (hw:SerW s) (i j:Int):d0m (n+22) c s 2 i j=some (b0r (SerOk c s) i j s.2.1 c.2.1.2.2 s.2.2.2.1.2.2 (now2 c s)):=by
 rw[l0r,c0l (n+11) c hw];by_cases h:SerOk c s
 case neg=>unfold b0r;rw[if_neg h,if_neg h];rfl
 rw[if_pos h];simp only[obs,c0y,decide_true,Bool.not_true,tff,tfd,if_neg (show ¬((2:Int)<0) by omega),if_neg (show ¬((3:Int)≤2) by omega)];by_cases h1:i<0
 ·unfold b0r;rw[if_pos h1,if_pos h,if_pos h1];rfl
 by_cases h2:j<i
 ·unfold b0r;rw[if_neg h1,if_pos h2,if_pos h,if_neg h1,if_pos h2];rfl
 rw[if_neg h1,if_neg h2,g2a n c h hw h1 h2];rfl
theorem r05_same_l (n:Nat) (l:List Lab) (hL:l.length≤1000000):∀(rest pre:List Lab) (f:Nat) (ix len:Int),l=pre++rest→ix=pre.length→len=l.length→rest.length<f→l0x n f (l,l,len,ix,())=some (.inl ()):=by
 intro rest;induction rest with
 | nil =>
  intro pre f ix len hl hi hn hf;obtain ⟨f,rfl⟩:∃g,f=g+1:=⟨f-1,by simp at hf;omega⟩;rw[j0f];simp only[tfd,if_neg (idxe hl hi hn)]
 | cons x rest ih =>
  intro pre f ix len hl hi hn hf;obtain ⟨f,rfl⟩:∃g,f=g+1:=⟨f-1,by simp at hf;omega⟩;rw[j0f];simp only[tfd,if_pos (idx hl hi hn),b0q hl hi,obs,labEq,decide_true,Bool.not_true,tff,idxw hl hi (by omega)];exact ih (pre++[x]) f (ix+1) len (idxl hl) (idxs hi) hn (by simp at hf;omega)
structure SerL (s:Ser):Prop where
 l:s.1.length≤1000000
 r:s.2.2.1.2.2.length≤1000000
 a:s.2.2.2.1.1.length≤1000000
 b:s.2.2.2.1.2.1.length≤1000000
 d:s.2.2.2.1.2.2.length≤1000000
theorem r1c (n:Nat) (c:Conf) {s:Ser} (hw:SerW s):r0h (n+11) c s=some (if SerOk c s then 0 else 2):=by
 rw[e1t,c0l n c hw];by_cases h:SerOk c s
 ·rw[if_pos h,if_pos h];rfl
 ·rw[if_neg h,if_neg h];rfl
theorem i2z (n:Nat) (l:List Lab) (hL:l.length≤9223372036854775807):∀(rest pre:List Lab) (f:Nat) (ix len:Int),l=pre++rest→ix=pre.length→len=l.length→rest.length<f →
  j0p n f (l,len,ix,())=some (.inl ())∨j0p n f (l,len,ix,())=some (.inr 0):=by
 intro rest;induction rest with
 | nil =>
  intro pre f ix len hl hi hn hf;obtain ⟨f,rfl⟩:∃g,f=g+1:=⟨f-1,by simp at hf;omega⟩;left;rw[s0h];simp only[tfd,if_neg (idxe hl hi hn)]
 | cons x rest ih =>
  intro pre f ix len hl hi hn hf;obtain ⟨f,rfl⟩:∃g,f=g+1:=⟨f-1,by simp at hf;omega⟩;have hlen:=congrArg List.length hl;simp at hlen;rw[s0h];simp only[tfd,if_pos (idx hl hi hn),b0q hl hi,obs];rw[w64 (x:=ix+1) (by omega) (by omega)];by_cases h1:ix=40
  ·right;rw[if_pos h1]
  rw[if_neg h1];by_cases h2:(1000:Int)<x.1.length
  ·right;rw[if_pos h2]
  rw[if_neg h2];by_cases h3:(1000:Int)<x.2.length
  ·right;rw[if_pos h3]
  rw[if_neg h3];exact ih (pre++[x]) f (ix+1) len (idxl hl) (idxs hi) hn (by simp at hf;omega)
theorem t1t (n:Nat) (l:List Lab) (hL:l.length≤9223372036854775807):s0i (n+1) l=some 0∨s0i (n+1) l=some 1:=by
 rw[t1u];rcases i2z n l hL l [] a0b 0 _ rfl rfl rfl (by unfold a0b;omega) with h | h
 ·right;rw[h];rfl
 ·left;rw[h];rfl
theorem v0q (n:Nat) (a b:List Lab) (hL:a.length≤9223372036854775807):∀(ra rb pa pb:List Lab) (f:Nat) (ix len:Int),a=pa++ra→b=pb++rb→pa.length=pb.length→ra.length=rb.length→ix=pa.length→len=a.length→ra.length<f →
  f0t n f (a,b,len,ix,())=some (if ra=rb then .inl () else .inr false):=by
 intro ra;induction ra with
 | nil =>
  intro rb pa pb f ix len ha hb hp hr hi hn hf;obtain ⟨f,rfl⟩:∃g,f=g+1:=⟨f-1,by simp at hf;omega⟩;have e:rb=[]:=List.length_eq_zero_iff.1 (by simpa using hr.symm);subst e;rw[k0c,decide_eq_false (idxe ha hi hn),tff,if_pos rfl]
 | cons x ra ih =>
  intro rb pa pb f ix len ha hb hp hr hi hn hf;obtain ⟨f,rfl⟩:∃g,f=g+1:=⟨f-1,by simp at hf;omega⟩;cases rb with
  | nil=>simp at hr
  | cons y rb =>
   have hlen:=congrArg List.length ha;simp at hlen;rw[k0c,decide_eq_true (idx ha hi hn),tft,b0q ha hi,b0q hb (by omega)];simp only[obs,labEq];rw[w64 (x:=ix+1) (by omega) (by omega)];by_cases h:x=y
   ·subst h;simp only[decide_true,Bool.not_true,tff];rw[ih rb (pa++[x]) (pb++[x]) f (ix+1) len (idxl ha) (idxl hb) (by simp;omega) (by simpa using hr) (idxs hi) hn (by simp at hf;omega)];simp
   ·rw[if_neg (by simp[h])];simp only[decide_eq_false h,Bool.not_false,tft]
theorem o0x (n:Nat) (a b:List Lab) (hL:a.length≤9223372036854775807):n0h (n+1) a b=some (decide (a=b)):=by
 rw[z0o];by_cases h:a.length=b.length
 ·rw[decide_eq_true (show ((a.length:Nat):Int)=(b.length:Nat) by omega)];simp only[Bool.not_true,tff];rw[v0q n a b hL a b [] [] a0b 0 _ rfl rfl rfl h rfl rfl (by unfold a0b;omega)];by_cases h':a=b
  ·rw[if_pos h',decide_eq_true h'];rfl
  ·rw[if_neg h',decide_eq_false h'];rfl
 ·rw[decide_eq_false (show ¬((a.length:Nat):Int)=(b.length:Nat) by omega),decide_eq_false (fun k:a=b=>h (by rw[k]))];rfl
theorem v0r (n:Nat) (a b:List Ev) (hL:a.length≤9223372036854775807):∀(ra rb pa pb:List Ev) (f:Nat) (ix len:Int),a=pa++ra→b=pb++rb→pa.length=pb.length→ra.length=rb.length→ix=pa.length→len=a.length→ra.length<f →
  f0u n f (a,b,len,ix,())=some (if ra=rb then .inl () else .inr false):=by
 intro ra;induction ra with
 | nil =>
  intro rb pa pb f ix len ha hb hp hr hi hn hf;obtain ⟨f,rfl⟩:∃g,f=g+1:=⟨f-1,by simp at hf;omega⟩;have e:rb=[]:=List.length_eq_zero_iff.1 (by simpa using hr.symm);subst e;rw[k0d,decide_eq_false (idxe ha hi hn),tff,if_pos rfl]
 | cons x ra ih =>
  intro rb pa pb f ix len ha hb hp hr hi hn hf;obtain ⟨f,rfl⟩:∃g,f=g+1:=⟨f-1,by simp at hf;omega⟩;cases rb with
  | nil=>simp at hr
  | cons y rb =>
   have hlen:=congrArg List.length ha;simp at hlen;rw[k0d,decide_eq_true (idx ha hi hn),tft,b0q ha hi,b0q hb (by omega)];simp only[obs,evEq];rw[w64 (x:=ix+1) (by omega) (by omega)];by_cases h:x=y
   ·subst h;simp only[decide_true,Bool.not_true,tff];rw[ih rb (pa++[x]) (pb++[x]) f (ix+1) len (idxl ha) (idxl hb) (by simp;omega) (by simpa using hr) (idxs hi) hn (by simp at hf;omega)];simp
   ·rw[if_neg (by simp[h])];simp only[decide_eq_false h,Bool.not_false,tft]
theorem a1x (n:Nat) (a b:List Ev) (hL:a.length≤9223372036854775807):n0i (n+1) a b=some (decide (a=b)):=by
 rw[z0p];by_cases h:a.length=b.length
 ·rw[decide_eq_true (show ((a.length:Nat):Int)=(b.length:Nat) by omega)];simp only[Bool.not_true,tff];rw[v0r n a b hL a b [] [] a0b 0 _ rfl rfl rfl h rfl rfl (by unfold a0b;omega)];by_cases h':a=b
  ·rw[if_pos h',decide_eq_true h'];rfl
  ·rw[if_neg h',decide_eq_false h'];rfl
 ·rw[decide_eq_false (show ¬((a.length:Nat):Int)=(b.length:Nat) by omega),decide_eq_false (fun k:a=b=>h (by rw[k]))];rfl
theorem y0j (n:Nat) (a b:List Slo) (hL:a.length≤9223372036854775807):∀(ra rb pa pb:List Slo) (f:Nat) (ix len:Int),a=pa++ra→b=pb++rb→pa.length=pb.length→ra.length=rb.length→ix=pa.length→len=a.length→ra.length<f →
  g0m n f (a,b,len,ix,())=some (if ra=rb then .inl () else .inr false):=by
 intro ra;induction ra with
 | nil =>
  intro rb pa pb f ix len ha hb hp hr hi hn hf;obtain ⟨f,rfl⟩:∃g,f=g+1:=⟨f-1,by simp at hf;omega⟩;have e:rb=[]:=List.length_eq_zero_iff.1 (by simpa using hr.symm);subst e;rw[l0n,decide_eq_false (idxe ha hi hn),tff,if_pos rfl]
 | cons x ra ih =>
  intro rb pa pb f ix len ha hb hp hr hi hn hf;obtain ⟨f,rfl⟩:∃g,f=g+1:=⟨f-1,by simp at hf;omega⟩;cases rb with
  | nil=>simp at hr
  | cons y rb =>
   have hlen:=congrArg List.length ha;simp at hlen;rw[l0n,decide_eq_true (idx ha hi hn),tft,b0q ha hi,b0q hb (by omega)];simp only[obs,j2a];rw[w64 (x:=ix+1) (by omega) (by omega)];by_cases h:x=y
   ·subst h;simp only[decide_true,Bool.not_true,tff];rw[ih rb (pa++[x]) (pb++[x]) f (ix+1) len (idxl ha) (idxl hb) (by simp;omega) (by simpa using hr) (idxs hi) hn (by simp at hf;omega)];simp
   ·rw[if_neg (by simp[h])];simp only[decide_eq_false h,Bool.not_false,tft]
theorem j0v (n:Nat) (a b:List Slo) (hL:a.length≤9223372036854775807):h0s (n+1) a b=some (decide (a=b)):=by
 rw[c1g];by_cases h:a.length=b.length
 ·rw[decide_eq_true (show ((a.length:Nat):Int)=(b.length:Nat) by omega)];simp only[Bool.not_true,tff];rw[y0j n a b hL a b [] [] a0b 0 _ rfl rfl rfl h rfl rfl (by unfold a0b;omega)];by_cases h':a=b
  ·rw[if_pos h',decide_eq_true h'];rfl
  ·rw[if_neg h',decide_eq_false h'];rfl
 ·rw[decide_eq_false (show ¬((a.length:Nat):Int)=(b.length:Nat) by omega),decide_eq_false (fun k:a=b=>h (by rw[k]))];rfl
theorem o1x (n:Nat) (a b:List Lab) (hL:a.length≤9223372036854775807):∀(ra rb pa pb:List Lab) (f:Nat) (ix len:Int),a=pa++ra→b=pb++rb→pa.length=pb.length→ra.length=rb.length→ix=pa.length→len=a.length→ra.length<f →
  l0x n f (a,b,len,ix,())=some (if ra=rb then .inl () else .inr false):=by
 intro ra;induction ra with
 | nil =>
  intro rb pa pb f ix len ha hb hp hr hi hn hf;obtain ⟨f,rfl⟩:∃g,f=g+1:=⟨f-1,by simp at hf;omega⟩;have e:rb=[]:=List.length_eq_zero_iff.1 (by simpa using hr.symm);subst e;rw[j0f,decide_eq_false (idxe ha hi hn),tff,if_pos rfl]
 | cons x ra ih =>
  intro rb pa pb f ix len ha hb hp hr hi hn hf;obtain ⟨f,rfl⟩:∃g,f=g+1:=⟨f-1,by simp at hf;omega⟩;cases rb with
  | nil=>simp at hr
  | cons y rb =>
   have hlen:=congrArg List.length ha;simp at hlen;rw[j0f,decide_eq_true (idx ha hi hn),tft,b0q ha hi,b0q hb (by omega)];simp only[obs,labEq];rw[w64 (x:=ix+1) (by omega) (by omega)];by_cases h:x=y
   ·subst h;simp only[decide_true,Bool.not_true,tff];rw[ih rb (pa++[x]) (pb++[x]) f (ix+1) len (idxl ha) (idxl hb) (by simp;omega) (by simpa using hr) (idxs hi) hn (by simp at hf;omega)];simp
   ·rw[if_neg (by simp[h])];simp only[decide_eq_false h,Bool.not_false,tft]
theorem g1r (n:Nat) (a b:List Lab) (hL:a.length≤9223372036854775807):d1e (n+1) a b=some (decide (a=b)):=by
 rw[y1b];by_cases h:a.length=b.length
 ·rw[decide_eq_true (show ((a.length:Nat):Int)=(b.length:Nat) by omega)];simp only[Bool.not_true,tff];rw[o1x n a b hL a b [] [] a0b 0 _ rfl rfl rfl h rfl rfl (by unfold a0b;omega)];by_cases h':a=b
  ·rw[if_pos h',decide_eq_true h'];rfl
  ·rw[if_neg h',decide_eq_false h'];rfl
 ·rw[decide_eq_false (show ¬((a.length:Nat):Int)=(b.length:Nat) by omega),decide_eq_false (fun k:a=b=>h (by rw[k]))];rfl
theorem a1y (n:Nat) (a b:List Ev) (hL:a.length≤9223372036854775807):∀(ra rb pa pb:List Ev) (f:Nat) (ix len:Int),a=pa++ra→b=pb++rb→pa.length=pb.length→ra.length=rb.length→ix=pa.length→len=a.length→ra.length<f →
  h0x n f (a,b,len,ix,())=some (if ra=rb then .inl () else .inr false):=by
 intro ra;induction ra with
 | nil =>
  intro rb pa pb f ix len ha hb hp hr hi hn hf;obtain ⟨f,rfl⟩:∃g,f=g+1:=⟨f-1,by simp at hf;omega⟩;have e:rb=[]:=List.length_eq_zero_iff.1 (by simpa using hr.symm);subst e;rw[m0p,decide_eq_false (idxe ha hi hn),tff,if_pos rfl]
 | cons x ra ih =>
  intro rb pa pb f ix len ha hb hp hr hi hn hf;obtain ⟨f,rfl⟩:∃g,f=g+1:=⟨f-1,by simp at hf;omega⟩;cases rb with
  | nil=>simp at hr
  | cons y rb =>
   have hlen:=congrArg List.length ha;simp at hlen;rw[m0p,decide_eq_true (idx ha hi hn),tft,b0q ha hi,b0q hb (by omega)];simp only[obs,evEq];rw[w64 (x:=ix+1) (by omega) (by omega)];by_cases h:x=y
   ·subst h;simp only[decide_true,Bool.not_true,tff];rw[ih rb (pa++[x]) (pb++[x]) f (ix+1) len (idxl ha) (idxl hb) (by simp;omega) (by simpa using hr) (idxs hi) hn (by simp at hf;omega)];simp
   ·rw[if_neg (by simp[h])];simp only[decide_eq_false h,Bool.not_false,tft]
theorem g1q (n:Nat) (a b:List Ev) (hL:a.length≤9223372036854775807):r0q (n+1) a b=some (decide (a=b)):=by
 rw[f1k];by_cases h:a.length=b.length
 ·rw[decide_eq_true (show ((a.length:Nat):Int)=(b.length:Nat) by omega)];simp only[Bool.not_true,tff];rw[a1y n a b hL a b [] [] a0b 0 _ rfl rfl rfl h rfl rfl (by unfold a0b;omega)];by_cases h':a=b
  ·rw[if_pos h',decide_eq_true h'];rfl
  ·rw[if_neg h',decide_eq_false h'];rfl
 ·rw[decide_eq_false (show ¬((a.length:Nat):Int)=(b.length:Nat) by omega),decide_eq_false (fun k:a=b=>h (by rw[k]))];rfl
theorem o1w (n:Nat) (a b:List Slo) (hL:a.length≤9223372036854775807):∀(ra rb pa pb:List Slo) (f:Nat) (ix len:Int),a=pa++ra→b=pb++rb→pa.length=pb.length→ra.length=rb.length→ix=pa.length→len=a.length→ra.length<f →
  p0x n f (a,b,len,ix,())=some (if ra=rb then .inl () else .inr false):=by
 intro ra;induction ra with
 | nil =>
  intro rb pa pb f ix len ha hb hp hr hi hn hf;obtain ⟨f,rfl⟩:∃g,f=g+1:=⟨f-1,by simp at hf;omega⟩;have e:rb=[]:=List.length_eq_zero_iff.1 (by simpa using hr.symm);subst e;rw[u0t,decide_eq_false (idxe ha hi hn),tff,if_pos rfl]
 | cons x ra ih =>
  intro rb pa pb f ix len ha hb hp hr hi hn hf;obtain ⟨f,rfl⟩:∃g,f=g+1:=⟨f-1,by simp at hf;omega⟩;cases rb with
  | nil=>simp at hr
  | cons y rb =>
   have hlen:=congrArg List.length ha;simp at hlen;rw[u0t,decide_eq_true (idx ha hi hn),tft,b0q ha hi,b0q hb (by omega)];simp only[obs,j2a];rw[w64 (x:=ix+1) (by omega) (by omega)];by_cases h:x=y
   ·subst h;simp only[decide_true,Bool.not_true,tff];rw[ih rb (pa++[x]) (pb++[x]) f (ix+1) len (idxl ha) (idxl hb) (by simp;omega) (by simpa using hr) (idxs hi) hn (by simp at hf;omega)];simp
   ·rw[if_neg (by simp[h])];simp only[decide_eq_false h,Bool.not_false,tft]
theorem v0s (n:Nat) (a b:List Slo) (hL:a.length≤9223372036854775807):x0g (n+1) a b=some (decide (a=b)):=by
 rw[x1o];by_cases h:a.length=b.length
 ·rw[decide_eq_true (show ((a.length:Nat):Int)=(b.length:Nat) by omega)];simp only[Bool.not_true,tff];rw[o1w n a b hL a b [] [] a0b 0 _ rfl rfl rfl h rfl rfl (by unfold a0b;omega)];by_cases h':a=b
  ·rw[if_pos h',decide_eq_true h'];rfl
  ·rw[if_neg h',decide_eq_false h'];rfl
 ·rw[decide_eq_false (show ¬((a.length:Nat):Int)=(b.length:Nat) by omega),decide_eq_false (fun k:a=b=>h (by rw[k]))];rfl
noncomputable instance decSer (a b:Ser):Decidable (a=b):=Classical.propDecidable _
structure SerM (s:Ser):Prop where
 l:s.1.length≤9223372036854775807
 r:s.2.2.1.2.2.length≤9223372036854775807
 a:s.2.2.2.1.1.length≤9223372036854775807
 b:s.2.2.2.1.2.1.length≤9223372036854775807
 d:s.2.2.2.1.2.2.length≤9223372036854775807
theorem w1u (n:Nat) (a b:Ser) (h:SerM a):l0q (n+3) a b=some (decide (a=b)):=by
 rw[i1f,y0c,x1d,o0x n _ _ h.l,a1x n _ _ h.r,j0v (n+1) _ _ h.a,j0v (n+1) _ _ h.b,j0v (n+1) _ _ h.d];obtain ⟨a1,a2,⟨r1,r2,r3⟩,⟨t1,t2,t3⟩,a5⟩:=a;obtain ⟨b1,b2,⟨q1,q2,q3⟩,⟨u1,u2,u3⟩,b5⟩:=b;simp only[obs,j2a,tfd];by_cases h1:a1=b1
 case neg=>simp[h1]
 by_cases h2:a2=b2
 case neg=>simp[h1,h2]
 by_cases h3:r1=q1
 case neg=>simp[h1,h2,h3]
 by_cases h4:r2=q2
 case neg=>simp[h1,h2,h3,h4]
 by_cases h5:r3=q3
 case neg=>simp[h1,h2,h3,h4,h5]
 by_cases h6:t1=u1
 case neg=>simp[h1,h2,h3,h4,h5,h6]
 by_cases h7:t2=u2
 case neg=>simp[h1,h2,h3,h4,h5,h6,h7]
 by_cases h8:t3=u3
 case neg=>simp[h1,h2,h3,h4,h5,h6,h7,h8]
 by_cases h9:a5=b5
 case neg=>simp[h1,h2,h3,h4,h5,h6,h7,h8,h9]
 simp[h1,h2,h3,h4,h5,h6,h7,h8,h9]
theorem r15_same (n:Nat) (a b:Ser) (h:SerM a):x0f (n+3) a b=some (decide (a=b)):=by
 rw[x1j,x1s,x1l,g1r (n+1) _ _ h.l,g1q n _ _ h.r,v0s n _ _ h.a,v0s n _ _ h.b,v0s n _ _ h.d];obtain ⟨a1,a2,⟨r1,r2,r3⟩,⟨t1,t2,t3⟩,a5⟩:=a;obtain ⟨b1,b2,⟨q1,q2,q3⟩,⟨u1,u2,u3⟩,b5⟩:=b;simp only[obs,j2a,tfd,tfn];by_cases h1:a1=b1
 case neg=>simp[h1]
 by_cases h2:a2=b2
 case neg=>simp[h1,h2]
 by_cases h3:r1=q1
 case neg=>simp[h1,h2,h3]
 by_cases h4:r2=q2
 case neg=>simp[h1,h2,h3,h4]
 by_cases h5:r3=q3
 case neg=>simp[h1,h2,h3,h4,h5]
 by_cases h6:t1=u1
 case neg=>simp[h1,h2,h3,h4,h5,h6]
 by_cases h7:t2=u2
 case neg=>simp[h1,h2,h3,h4,h5,h6,h7]
 by_cases h8:t3=u3
 case neg=>simp[h1,h2,h3,h4,h5,h6,h7,h8]
 by_cases h9:a5=b5
 case neg=>simp[h1,h2,h3,h4,h5,h6,h7,h8,h9]
 simp[h1,h2,h3,h4,h5,h6,h7,h8,h9]
def oldV (now w m:Int):Int×Int:=if OfP now w∧1≤m∧m≤4096 then (if 0<now / w+1-m then now / w+1-m else 0,0) else (0,1)
theorem q0x (n:Nat) (now w m:Int):d0a (n+4) now w m=some (oldV now w m):=by
 rw[q1c,wi_of n now w,q1a];unfold oldV;by_cases h:OfP now w
 case neg=>rw[if_neg h,if_neg (fun k=>h k.1)];rfl
 rw[if_pos h];have hq:=x0p h;simp only[obs,decide_true,Bool.not_true,tff];by_cases h1:1≤m
 case neg=>simp[h,h1]
 by_cases h2:m≤4096
 case neg=>simp[h,h1,h2]
 rw[w64 (x:=now / w+1) (by omega) (by omega),w64 (x:=now / w+1-m) (by omega) (by omega)];simp[h,h1,h2]
theorem f2c (n:Nat) (now w m:Int):a1b (n+3) now w m=some (oldV now w m):=by
 rw[n1i,a2z n now w];unfold oldV;by_cases h:OfP now w
 case neg=>rw[if_neg h,if_neg (fun k=>h k.1)];rfl
 rw[if_pos h];have hq:=x0p h;simp only[obs,decide_true,Bool.not_true,tff,tfd];by_cases h1:m<1
 ·rw[if_pos h1,if_neg (by omega)]
 rw[if_neg h1];by_cases h2:4096<m
 ·rw[if_pos h2,if_neg (by omega)]
 rw[if_neg h2,w64 (x:=now / w-m) (by omega) (by omega),w64 (x:=now / w-m+1) (by omega) (by omega),if_pos (show OfP now w∧1≤m∧m≤4096 from ⟨h,by omega,by omega⟩)];have e:(if now / w-m+1<0 then (0:Int) else now / w-m+1)=if 0<now / w+1-m then now / w+1-m else 0:=by
  split<;>split<;>omega
 rw[e]
noncomputable def u0d (t now w m:Int):Bool:=decide (OfP t w∧(oldV now w m).2=0∧t / w<(oldV now w m).1)
theorem v1q (n:Nat) (t now w m:Int):d1w (n+5) t now w m=some (u0d t now w m):=by
 rw[d2k,wi_of (n+1) t w,q0x n now w m];unfold u0d;simp only[obs,tfd];by_cases h:OfP t w
 case neg=>rw[if_neg h,if_neg (by simp),decide_eq_false (fun k=>h k.1)]
 rw[if_pos h,if_pos rfl];by_cases h1:(oldV now w m).2=0
 ·rw[if_pos h1];exact congrArg some (decide_eq_decide.2 ⟨fun k=>⟨h,h1,k⟩,fun k=>k.2.2⟩)
 ·rw[if_neg h1,decide_eq_false (fun k=>h1 k.2.1)]
theorem n1h (n:Nat) (t now w m:Int):x0k (n+4) t now w m=some (u0d t now w m):=by
 rw[x1w,a2z (n+1) t w,f2c n now w m];unfold u0d;simp only[obs,tfd];by_cases h:OfP t w
 case neg=>rw[if_neg h,if_neg (by simp),decide_eq_false (fun k=>h k.1)]
 rw[if_pos h,if_pos rfl];by_cases h1:(oldV now w m).2=0
 ·rw[if_pos h1];exact congrArg some (decide_eq_decide.2 ⟨fun k=>⟨h,h1,k⟩,fun k=>k.2.2⟩)
 ·rw[if_neg h1,decide_eq_false (fun k=>h1 k.2.1)]
noncomputable def a1z (c:Conf) (last now:Int):Bool :=
 decide (OkC c)&&(u0d last now c.2.1.1 c.2.2.1.1&&(u0d last now c.2.1.2.1 c.2.2.1.2.1&&u0d last now c.2.1.2.2 c.2.2.1.2.2))
theorem e1s (n:Nat) (c:Conf) (last now:Int):p0s (n+6) c last now=some (a1z c last now):=by
 rw[i1g,o0z (n+2) c,v1q n,v1q n,v1q n];unfold a1z;by_cases h:OkC c
 case neg=>rw[if_neg h,decide_eq_false h];rfl
 rw[if_pos h,decide_eq_true h];simp only[obs,decide_true,tft,Bool.true_and];cases u0d last now c.2.1.1 c.2.2.1.1<;>cases u0d last now c.2.1.2.1 c.2.2.1.2.1<;>cases u0d last now c.2.1.2.2 c.2.2.1.2.2<;>rfl
theorem r15_dead (n:Nat) (c:Conf) (last now:Int):m1z (n+5) c last now=some (a1z c last now):=by
 rw[x1k,r0t (n+1) c,n1h n,n1h n,n1h n];unfold a1z;by_cases h:OkC c
 case neg=>rw[if_neg h,decide_eq_false h];rfl
 rw[if_pos h,decide_eq_true h];simp only[obs,decide_true,Bool.not_true,tff,Bool.true_and];cases u0d last now c.2.1.1 c.2.2.1.1<;>cases u0d last now c.2.1.2.1 c.2.2.1.2.1<;>cases u0d last now c.2.1.2.2 c.2.2.1.2.2<;>rfl
noncomputable def newV (c:Conf) (l:List Lab):Ser×Int :=
 if OkC c then (if LabOk l then ((l,(-1,(r0w,(emp c,s0)))),0) else (ser0,8)) else (ser0,2)
theorem z1p (n:Nat) (l:List Lab) (h:l.length≤1000000):n0j (n+1) l=some l:=by
 rw[z0q,decide_eq_true (show (0+l.length)*32≤140737488355328 by omega)];simp only[tft,List.nil_append];by_cases h0:l.length=0
 ·rw[decide_eq_true h0,tft,List.length_eq_zero_iff.1 h0,v1e]
 ·rw[decide_eq_false h0,tff]
theorem e2e (n:Nat) (c:Conf) (l:List Lab):t0h (n+7) c l=some (newV c l):=by
 rw[m1l,o0z (n+3) c,q0g n l];unfold newV;by_cases h:OkC c
 case neg=>rw[if_neg h,if_neg h];rfl
 rw[if_pos h,if_pos h];simp only[obs,decide_true,Bool.not_true,tff];by_cases h1:LabOk l
 case neg=>rw[if_neg h1,if_neg h1];rfl
 rw[if_pos h1,if_pos h1,z1p (n+5) l (by have:=h1.n1;omega),g2m (n+2) c];rfl
end Go.Proofs.YtgkpkajaepphjaaGreatDoor
