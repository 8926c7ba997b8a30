/-
 Plain proofs about the functions of this seat, part 4 of 4.
-/
import Derived.Test.YtgkpkajaepphjaaGreatDoorQ3
import Derived.Test.YtgkpkajaepphjaaGreatDoorTr
namespace Go.Proofs.YtgkpkajaepphjaaGreatDoor
open Go.Flat Go.Plim
set_option linter.unusedVariables false
set_option linter.unusedSimpArgs false
def i2c (key:a0a→Int) (d:List a0a) (B N:Nat):Prop:=∀c,B ∣ c→Srt key d c (min (c+B) N)
section
variable {cmp:(a0a×(a0a×Unit))→Option Int} {key:a0a→Int} {Pr:a0a→Prop} (hc:a1i cmp key Pr)
include hc
theorem g1v (n:Nat) (N:Nat) (n_:Int) (hn:n_=N):∀(k f a:Nat) (d:List a0a),N-a≤k→k<f→20 ∣ a→a≤N→N=d.length→d.length≤100000000000→(∀x∈d,Pr x)→(∀c,20 ∣ c→c<a→Srt key d c (min (c+20) N)) →
  ∃d' a',b0t (n+1) f (d,n_,cmp,(20:Int),(a:Int),((a+20:Nat):Int),())=some (.inl (d',n_,cmp,(20:Int),((a':Nat):Int),()))∧20 ∣ a'∧a'≤N∧N<a'+20∧Mvk key d d' 0 N ∧
   (∀c,20 ∣ c→c<a'→Srt key d' c (min (c+20) N)):=by
 subst hn;intro k;induction k with
 | zero =>
  intro f a d hk hf h20 haN hN hL hP hs;obtain ⟨f,rfl⟩:∃g,f=g+1:=⟨f-1,by omega⟩;rw[e0u];simp only[tfd,if_neg (show ¬(((a+20:Nat):Int)≤(N:Int)) by omega)];exact ⟨d,a,rfl,h20,haN,by omega,.refl _ _ _,hs⟩
 | succ k ih =>
  intro f a d hk hf h20 haN hN hL hP hs;obtain ⟨f,rfl⟩:∃g,f=g+1:=⟨f-1,by omega⟩;rw[e0u];by_cases hle:a+20≤N
  ·obtain ⟨d1,r1,r2,r3⟩:=d1k hc n (a:Int) ((a+20:Nat):Int) a (a+20) rfl rfl d (by omega) (by omega) (by omega) hP;have l1:=r2.len;simp only[tfd,if_pos (show (((a+20:Nat):Int)≤(N:Int)) by omega),r1,obs];rw[wn (x:=((a+20:Nat):Int)+20) (k:=a+20+20) (by omega) (by omega)];obtain ⟨d',a',s1,s2,s3,s4,s5,s6⟩:=ih f (a+20) d1 (by omega) (by omega) (by omega) (by omega) (by omega) (by omega) (r2.all hP) (fun c c1 c2=>by
    by_cases e:c<a
    ·have:=e0n c1 h20 e;exact (hs c c1 e).keepk r2 (.inl (by omega))
    ·have:c=a:=by
      rcases Nat.lt_or_eq_of_le (Nat.le_of_not_lt e) with h | h
      ·have:=e0n h20 c1 h;omega
      ·exact h.symm
     subst this;rw[Nat.min_eq_left (by omega)]
     exact r3)
   exact ⟨d',a',s1,s2,s3,s4,(r2.mono (by omega) (by omega)).trans s5,s6⟩
  ·simp only[tfd,if_neg (show ¬(((a+20:Nat):Int)≤(N:Int)) by omega)];exact ⟨d,a,rfl,h20,haN,by omega,.refl _ _ _,hs⟩
theorem g1t (n dd:Nat) (N B:Nat) (n_:Int) (hn:n_=N) (hB:0<B) (hBN:B<N) (hdd:N≤2^dd):∀(k f a:Nat) (d:List a0a),N-a≤k→k<f→2*B ∣ a→a≤N→N=d.length→d.length≤100000000000→(∀x∈d,Pr x) →
  (∀c,2*B ∣ c→c<a→Srt key d c (min (c+2*B) N))→(∀c,B ∣ c→a≤c→Srt key d c (min (c+B) N)) →
  ∃d' a',c0o (n+dd+2) f (d,n_,cmp,(B:Int),(a:Int),((a+2*B:Nat):Int),())=some (.inl (d',n_,cmp,(B:Int),((a':Nat):Int),()))∧2*B ∣ a'∧a'≤N∧N<a'+2*B∧Mvk key d d' 0 N ∧
   (∀c,2*B ∣ c→c<a'→Srt key d' c (min (c+2*B) N))∧(∀c,B ∣ c→a'≤c→Srt key d' c (min (c+B) N)):=by
 subst hn;have dB:B ∣ 2*B:=⟨2,by omega⟩;intro k;induction k with
 | zero =>
  intro f a d hk hf h20 haN hN hL hP hs hs';obtain ⟨f,rfl⟩:∃g,f=g+1:=⟨f-1,by omega⟩;rw[e0s];simp only[tfd,if_neg (show ¬(((a+2*B:Nat):Int)≤(N:Int)) by omega)];exact ⟨d,a,rfl,h20,haN,by omega,.refl _ _ _,hs,hs'⟩
 | succ k ih =>
  intro f a d hk hf h20 haN hN hL hP hs hs';obtain ⟨f,rfl⟩:∃g,f=g+1:=⟨f-1,by omega⟩;rw[e0s];by_cases hle:a+2*B≤N
  ·have ba:B ∣ a:=Nat.dvd_trans dB h20;have q1:=hs' a ba (Nat.le_refl _);have q2:=hs' (a+B) (Nat.dvd_add ba (Nat.dvd_refl _)) (by omega);rw[Nat.min_eq_left (by omega)] at q1 q2;rw[wn (x:=(a:Int)+B) (k:=a+B) (by omega) (by omega)];obtain ⟨d1,r1,r2,r3⟩:=q0l hc dd n (a:Int) ((a+B:Nat):Int) ((a+2*B:Nat):Int) a (a+B) (a+2*B) d rfl rfl rfl (by omega) (by omega) (by omega) (by omega) hP (by omega) q1 (q2.mono (by omega) (by omega));have l1:=r2.len;simp only[tfd,if_pos (show (((a+2*B:Nat):Int)≤(N:Int)) by omega),r1,obs]
   rw[wn (x:=2*(B:Int)) (k:=2*B) (by omega) (by omega),wn (x:=((a+2*B:Nat):Int)+((2*B:Nat):Int)) (k:=a+2*B+2*B) (by omega) (by omega)];obtain ⟨d',a',s1,s2,s3,s4,s5,s6,s7⟩:=ih f (a+2*B) d1 (by omega) (by omega) (Nat.dvd_add h20 (Nat.dvd_refl _)) (by omega) (by omega) (by omega) (r2.all hP) (fun c c1 c2=>by
    by_cases e:c<a
    ·have:=e0n c1 h20 e;exact (hs c c1 e).keepk r2 (.inl (by omega))
    ·have:c=a:=by
      rcases Nat.lt_or_eq_of_le (Nat.le_of_not_lt e) with h | h
      ·have:=e0n h20 c1 h;omega
      ·exact h.symm
     subst this;rw[Nat.min_eq_left (by omega)]
     exact r3)
    (fun c c1 c2=>(hs' c c1 (by omega)).keepk r2 (.inr (by omega)))
   exact ⟨d',a',s1,s2,s3,s4,(r2.mono (by omega) (by omega)).trans s5,s6,s7⟩
  ·simp only[tfd,if_neg (show ¬(((a+2*B:Nat):Int)≤(N:Int)) by omega)];exact ⟨d,a,rfl,h20,haN,by omega,.refl _ _ _,hs,hs'⟩
theorem g1u (n dd:Nat) (N:Nat) (n_:Int) (hn:n_=N) (hdd:N≤2^dd):∀(k f B:Nat) (d:List a0a),N-B≤k→k<f→0<B→B≤200000000000→N=d.length→d.length≤100000000000→(∀x∈d,Pr x)→i2c key d B N →
  ∃d',b0f (n+dd+2) f (d,n_,cmp,(B:Int),())=some (.inl (d',()))∧Mvk key d d' 0 N∧Srt key d' 0 N:=by
 subst hn;intro k;induction k with
 | zero =>
  intro f B d hk hf hB hBl hN hL hP hs;obtain ⟨f,rfl⟩:∃g,f=g+1:=⟨f-1,by omega⟩;rw[e0t];simp only[tfd,if_neg (show ¬((B:Int)<(N:Int)) by omega)];have:=hs 0 (Nat.dvd_zero _);rw[Nat.min_eq_right (by omega)] at this;exact ⟨d,rfl,.refl _ _ _,this⟩
 | succ k ih =>
  intro f B d hk hf hB hBl hN hL hP hs;obtain ⟨f,rfl⟩:∃g,f=g+1:=⟨f-1,by omega⟩;rw[e0t];by_cases hlt:B<N
  ·obtain ⟨d1,a,r1,r2,r3,r4,r5,r6,r7⟩:=g1t hc n dd N B (N:Int) rfl hB hlt hdd N a0d 0 d (by omega) (by unfold a0d;omega) (Nat.dvd_zero _) (by omega) hN hL hP (fun c _ h=>by omega) (fun c h _=>hs c h);have l1:=r5.len;rw[Nat.zero_add] at r1;simp only[tfd,if_pos (show ((B:Int)<(N:Int)) by omega),wn (x:=2*(B:Int)) (k:=2*B) (by omega) (by omega)];rw[show ((0:Int))=((0:Nat):Int) from rfl,r1];simp only[obs,a0n,wn (x:=(a:Int)+B) (k:=a+B) (by omega) (by omega),wn (x:=(B:Int)*2) (k:=2*B) (by omega) (by omega)];have dB:B ∣ 2*B:=⟨2,by omega⟩
   have ba:B ∣ a:=Nat.dvd_trans dB r2;by_cases hm:a+B<N
   ·have q1:=r7 a ba (Nat.le_refl _);have q2:=r7 (a+B) (Nat.dvd_add ba (Nat.dvd_refl _)) (by omega);rw[Nat.min_eq_left (by omega)] at q1;rw[Nat.min_eq_right (by omega)] at q2;obtain ⟨d2,t1,t2,t3⟩:=q0l hc dd n (a:Int) ((a+B:Nat):Int) (N:Int) a (a+B) N d1 rfl rfl rfl (by omega) (by omega) (by omega) (by omega) (r5.all hP) (by omega) q1 q2;have l2:=t2.len;simp only[if_pos (show (((a+B:Nat):Int)<(N:Int)) by omega),t1,obs];obtain ⟨d3,u1,u2,u3⟩:=ih f (2*B) d2 (by omega) (by omega) (by omega) (by omega) (by omega) (by omega) (t2.all (r5.all hP)) (fun c hcd=>by
     by_cases e:c<a
     ·have:=e0n hcd r2 e;exact (r6 c hcd e).keepk t2 (.inl (by omega))
     ·by_cases e':c=a
      ·subst e';exact t3.mono (Nat.le_refl _) (by omega)
      ·have:=e0n r2 hcd (by omega)
       exact Srt.one _ _ (by omega))
    exact ⟨d3,u1,(r5.trans (t2.mono (by omega) (by omega))).trans u2,u3⟩
   ·simp only[if_neg (show ¬(((a+B:Nat):Int)<(N:Int)) by omega)];obtain ⟨d3,u1,u2,u3⟩:=ih f (2*B) d1 (by omega) (by omega) (by omega) (by omega) (by omega) (by omega) (r5.all hP) (fun c hcd=>by
     by_cases e:c<a
     ·exact r6 c hcd e
     ·by_cases e':c=a
      ·subst e';have q1:=r7 c ba (Nat.le_refl _);exact q1.mono (Nat.le_refl _) (by omega)
      ·have:=e0n r2 hcd (by omega)
       exact Srt.one _ _ (by omega))
    exact ⟨d3,u1,r5.trans u2,u3⟩
  ·simp only[tfd,if_neg (show ¬((B:Int)<(N:Int)) by omega)];have:=hs 0 (Nat.dvd_zero _);rw[Nat.min_eq_right (by omega)] at this;exact ⟨d,rfl,.refl _ _ _,this⟩
theorem x0l (n dd:Nat) (d:List a0a) (hL:d.length≤2^dd) (hL':d.length≤100000000000) (hP:∀x∈d,Pr x) :
  ∃d',e0m (n+dd+4) d cmp=some d'∧Mvk key d d' 0 d.length∧Srt key d' 0 d.length:=by
 rw[p0d,k0y];obtain ⟨d1,a,r1,r2,r3,r4,r5,r6⟩:=g1v hc (n+dd+1) d.length (d.length:Int) rfl d.length a0d 0 d (by omega) (by unfold a0d;omega) (Nat.dvd_zero _) (by omega) rfl hL' hP (fun c _ h=>by omega);have l1:=r5.len;obtain ⟨d2,s1,s2,s3⟩:=d1k hc (n+dd+1) (a:Int) (d.length:Int) a d.length rfl rfl d1 r3 (by omega) (by omega) (r5.all hP);have l2:=s2.len
 obtain ⟨d3,t1,t2,t3⟩:=g1u hc n dd d.length (d.length:Int) rfl hL d.length a0d 20 d2 (by omega) (by unfold a0d;omega) (by omega) (by omega) (by omega) (by omega) (s2.all (r5.all hP)) (fun c hcd=>by
  by_cases e:c<a
  ·have:=e0n hcd r2 e;exact (r6 c hcd e).keepk s2 (.inl (by omega))
  ·by_cases e':c=a
   ·subst e';exact s3.mono (Nat.le_refl _) (by omega)
   ·have:=e0n r2 hcd (by omega)
    exact Srt.one _ _ (by omega))
 have r1':b0t (n+dd+2) a0d (d,((d.length:Nat):Int),cmp,(20:Int),(0:Int),(20:Int),())=_:=r1;rw[r1'];simp only[obs,a0n,s1];have t1':b0f (n+dd+2) a0d (d2,((d.length:Nat):Int),cmp,(20:Int),())=_:=t1;rw[t1'];exact ⟨d3,by simp,((r5.trans (s2.mono (Nat.zero_le _) (Nat.le_refl _))).trans t2),t3⟩
end
end Go.Proofs.YtgkpkajaepphjaaGreatDoor

namespace Go.Plim
set_option linter.unusedVariables false
variable {α:Type}
inductive Sel (key:α→Int):List α→List α→Prop
 | nil:Sel key [] []
 | step {A B:List α} {x:α} {out:List α} (hA:∀a∈A,key x<key a) (hB:∀b∈B,key x≤key b) (h:Sel key (A++B) out):Sel key (A++x::B) (x::out)
theorem Sel.perm {key:α→Int} {l out:List α} (h:Sel key l out):out.Perm l:=by
 induction h with
 | nil=>exact .refl _
 | step hA hB h ih=>exact (List.Perm.cons _ ih).trans List.perm_middle.symm
theorem Sel.srt {key:α→Int} {l out:List α} (h:Sel key l out):out.Pairwise (fun x y=>key x≤key y):=by
 induction h with
 | nil=>exact .nil
 | step hA hB h ih =>
  refine List.pairwise_cons.2 ⟨fun y hy => ?_,ih⟩;rcases List.mem_append.1 (h.perm.mem_iff.1 hy) with hy | hy
  ·exact Int.le_of_lt (hA y hy)
  ·exact hB y hy
theorem Sel.stb {key:α→Int} {l out:List α} (h:Sel key l out):Stb key out l:=by
 induction h with
 | nil=>intro c;rfl
 | @step A B x out hA hB h ih =>
  intro c;have:=ih c;rw[List.filter_append] at this ⊢;by_cases hx:key x=c
  ·have e:A.filter (fun x=>decide (key x=c))=[]:=by
    rw[List.filter_eq_nil_iff];intro a ha;have:=hA a ha;simp;omega
   rw[e,List.nil_append] at this ⊢;rw[List.filter_cons_of_pos (by simpa using hx),List.filter_cons_of_pos (by simpa using hx),this]
  ·rw[List.filter_cons_of_neg (by simpa using hx),List.filter_cons_of_neg (by simpa using hx),this]
theorem k2t {key:α→Int}:∀(l:List α),l≠[]→∃A x B,l=A++x::B∧(∀a∈A,key x<key a)∧∀b∈B,key x≤key b:=by
 intro l;induction l with
 | nil=>intro h;exact (h rfl).elim
 | cons y l ih =>
  intro _;by_cases hn:l=[]
  ·subst hn;exact ⟨[],y,[],rfl,by simp,by simp⟩
  ·obtain ⟨A,x,B,rfl,hA,hB⟩:=ih hn;by_cases c:key y≤key x
   ·refine ⟨[],y,A++x::B,rfl,by simp,fun b hb => ?_⟩;rcases List.mem_append.1 hb with hb | hb
    ·have:=hA b hb;omega
    ·rcases List.mem_cons.1 hb with rfl | hb
     ·exact c
     ·have:=hB b hb;omega
   ·refine ⟨y::A,x,B,rfl,fun a ha => ?_,hB⟩;rcases List.mem_cons.1 ha with rfl | ha
    ·omega
    ·exact hA a ha
theorem sel_ex {key:α→Int}:∀(n:Nat) (l:List α),l.length=n→∃out,Sel key l out:=by
 intro n;induction n with
 | zero=>intro l h;obtain rfl:=List.length_eq_zero_iff.1 h;exact ⟨[],.nil⟩
 | succ n ih =>
  intro l h;obtain ⟨A,x,B,rfl,hA,hB⟩:=k2t (key:=key) l (by intro e;rw[e] at h;cases h);obtain ⟨out,ho⟩:=ih (A++B) (by simp at h ⊢;omega);exact ⟨_,.step hA hB ho⟩
theorem sel_uniq {key:α→Int} {l A B:List α} (h:Sel key l A) (k:Sel key l B):A=B :=
 d2q A B h.srt k.srt fun c=>(h.stb c).trans (k.stb c).symm
def rem:List α→List Bool→List α
 | x::l,d::ds=>if d=true then rem l ds else x::rem l ds
 | _,_=>[]
theorem b1m:∀(a b:List α) (da db:List Bool),da.length=a.length→rem (a++b) (da++db)=rem a da++rem b db:=by
 intro a;induction a with
 | nil=>intro b da db h;obtain rfl:=List.length_eq_zero_iff.1 h;rfl
 | cons x a ih =>
  intro b da db h
  match da,h with
  | d::da,h =>
   simp only[List.cons_append,rem];rw[ih b da db (by simpa using h)];split<;>rfl
theorem rem_all (l:List α):rem l (List.replicate l.length false)=l:=by
 induction l with
 | nil=>rfl
 | cons x l ih=>simp[rem,List.replicate_succ,ih]
end Go.Plim

namespace Go.Proofs.YtgkpkajaepphjaaGreatDoor
open Go.Flat Go.Plim
set_option linter.unusedVariables false
set_option linter.unusedSimpArgs false
theorem c1i {α:Type} {l pre rest:List α} {x:α} {i:Int} (h:l=pre++x::rest) (hi:i=pre.length):l[i.toNat]? = some x:=by subst h hi;simp
theorem set_mid {α:Type} {pre rest:List α} {x v:α} {i:Int} (hi:i=pre.length):(pre++x::rest).set i.toNat v=(pre++[v])++rest:=by subst hi;simp
section
variable {del:Int×Unit→Option Bool} {p:Int→Bool} {L:List Int} (hd:∀x∈L,del (x,())=some (p x))
include hd
end
abbrev Mat:=Int×(List UInt8×List UInt8)
abbrev Rpl:=Int×(Cel×((Wd×Wd)×Int))
abbrev Prt:=List Lab×Rpl
abbrev Tot:=Int×(Int×(Int×(Wd×(Int×(Int×Int)))))
def tz0:Tot:=(0,(0,(0,((0,0),(0,(0,0))))))
noncomputable def partOf (s:Sta) (ms:List Mat) (k a b:Int) (i:Nat):Option Prt :=
 match s.2.2.2[i]? with
 | some x=>if s0p ms x.1=true∧0<(doQ s x.1 k a b).1.2.1.1 then some (x.1,(doQ s x.1 k a b).1) else none
 | none=>none
noncomputable def partsL (s:Sta) (ms:List Mat) (k a b:Int):List Prt:=(u0k s).filterMap (partOf s ms k a b)
noncomputable def c0k (s:Sta) (ms:List Mat) (t a b:Int):List Prt×(Int×Int) :=
 if StaOk s then (if c1w ms then (if (d0h s t a b).2=0 then (partsL s ms (d0h s t a b).1 a b,((d0h s t a b).1,0)) else ([],(0,(d0h s t a b).2))) else ([],(0,2))) else ([],(0,2))
theorem g2e {s:Sta} {t a b:Int} (h:(d0h s t a b).2=0):d0h s (d0h s t a b).1 a b=((d0h s t a b).1,0):=by
 obtain ⟨hs,t1,t3,ho,_⟩:=z1j h;generalize (d0h s t a b).1=k at *
 unfold d0h;rw[if_pos hs,if_neg (by omega),if_neg (by omega),if_pos ho]
theorem f2f {s:Sta} (hs:StaOk s) {l:List Lab} (hl:LabOk l) {t a b:Int} (h:(d0h s t a b).2=0):(doQ s l (d0h s t a b).1 a b).2=0:=by
 unfold doQ;rw[if_pos hs,if_pos hl,g2e h,if_pos rfl]
theorem s1q {s:Sta} (hs:StaOk s) {i:Nat} (hi:i∈u0k s):∃x,s.2.2.2[i]? = some x∧LvX s x∧LabOk x.1:=by
 unfold u0k at hi;obtain ⟨h1,h2⟩:=List.mem_filter.1 hi;unfold lvAt at h2;cases hx:s.2.2.2[i]? with
 | none=>rw[hx] at h2;cases h2
 | some x =>
  rw[hx] at h2;have hl:LvX s x:=of_decide_eq_true h2;exact ⟨x,rfl,hl,(m2r hs (List.mem_of_getElem? hx) hl).1.lab⟩
theorem i2d (s:Sta) (ms:List Mat) (k a b:Int):(partsL s ms k a b).length≤(u0k s).length:=List.length_filterMap_le _ _
theorem p1w (n:Nat) {s:Sta} (hw:StaW s) (hs:StaOk s) (ms:List Mat) (hm:ms.length≤1000000) {t a b:Int} (ht:(d0h s t a b).2=0) (L:List Nat) (hL:L.length≤1000000) (hin:∀i∈L,i∈u0k s):∀(rest pre:List Nat) (out:List Prt) (f:Nat) (ix len:Int),L=pre++rest→ix=pre.length→len=L.length→rest.length<f→out.length≤pre.length →
  c0j (n+24) f (ms,a,b,s,(d0h s t a b).1,out,L.map Int.ofNat,len,ix,())=some (.inl ((d0h s t a b).1,out++rest.filterMap (partOf s ms (d0h s t a b).1 a b),())):=by
 intro rest;induction rest with
 | nil =>
  intro pre out f ix len hl hi hn hf ho;obtain ⟨f,rfl⟩:∃g,f=g+1:=⟨f-1,by simp at hf;omega⟩;rw[c0q,decide_eq_false (idxe hl hi hn),tff];simp
 | cons x rest ih =>
  intro pre out f ix len hl hi hn hf ho;obtain ⟨f,rfl⟩:∃g,f=g+1:=⟨f-1,by simp at hf;omega⟩;have hxi:=hin x (by rw[hl];simp);obtain ⟨y,hy,hlv,hlab⟩:=s1q hs hxi;have hlen:=congrArg List.length hl;simp only[List.length_append,List.length_cons] at hlen;have hlm:L.map Int.ofNat=pre.map Int.ofNat++(x:Int)::rest.map Int.ofNat:=by rw[hl];simp
  have him:ix=((pre.map Int.ofNat).length:Int):=by rw[List.length_map];exact hi
  have next:=fun out' ho'=>ih (pre++[x]) out' f (ix+1) len (idxl hl) (idxs hi) hn (by simp at hf;omega) ho'
  rw[c0q,decide_eq_true (idx hl hi hn),tft,b0g hlm him,obs,c1i hlm him,obs,u0u hy,obs,s1f (n+19) ms hm y.1 (by have:=hlab.n1;omega),obs,idxw hl hi (by omega),tfn,j2z];have hp:partOf s ms (d0h s t a b).1 a b x=if s0p ms y.1=true∧0<(doQ s y.1 (d0h s t a b).1 a b).1.2.1.1 then some (y.1,(doQ s y.1 (d0h s t a b).1 a b).1) else none:=by
   unfold partOf;simp only[hy]
  by_cases h1:s0p ms y.1=true
  case neg =>
   rw[if_neg h1,next out (by simp;omega),List.filterMap_cons_none (by rw[hp,if_neg fun e=>h1 e.1])]
  rw[if_pos h1,query_do n hw,obs];simp only;rw[f2f hs hlab ht];simp only[decide_true,Bool.not_true,tff];rw[tfd];by_cases h2:0<(doQ s y.1 (d0h s t a b).1 a b).1.2.1.1
  case neg =>
   rw[if_neg h2,next out (by simp;omega),List.filterMap_cons_none (by rw[hp,if_neg fun e=>h2 e.2])]
  rw[if_pos h2,decide_eq_true (show (out.length+1)*184≤140737488355328 by omega),tft,next _ (by simp;omega),List.filterMap_cons_some (by rw[hp,if_pos ⟨h1,h2⟩]),List.append_assoc];rfl
theorem a2l (n:Nat) {s:Sta} (hw:StaW s) (hs:StaOk s) (ms:List Mat) (hm:ms.length≤1000000) {t a b:Int} (ht:(d0h s t a b).2=0) (L:List Nat) (hL:L.length≤1000000) (hin:∀i∈L,i∈u0k s):∀(rest pre:List Nat) (out:List Prt) (f:Nat) (ix len:Int),L=pre++rest→ix=pre.length→len=L.length→rest.length<f→out.length≤pre.length →
  i0t (n+13) f (ms,a,b,s,(d0h s t a b).1,out,L.map Int.ofNat,len,ix,())=some (.inl ((d0h s t a b).1,out++rest.filterMap (partOf s ms (d0h s t a b).1 a b),())):=by
 intro rest;induction rest with
 | nil =>
  intro pre out f ix len hl hi hn hf ho;obtain ⟨f,rfl⟩:∃g,f=g+1:=⟨f-1,by simp at hf;omega⟩;rw[t0i,decide_eq_false (idxe hl hi hn),tff];simp
 | cons x rest ih =>
  intro pre out f ix len hl hi hn hf ho;obtain ⟨f,rfl⟩:∃g,f=g+1:=⟨f-1,by simp at hf;omega⟩;have hxi:=hin x (by rw[hl];simp);obtain ⟨y,hy,hlv,hlab⟩:=s1q hs hxi;have hlen:=congrArg List.length hl;simp only[List.length_append,List.length_cons] at hlen;have hlm:L.map Int.ofNat=pre.map Int.ofNat++(x:Int)::rest.map Int.ofNat:=by rw[hl];simp
  have him:ix=((pre.map Int.ofNat).length:Int):=by rw[List.length_map];exact hi
  have next:=fun out' ho'=>ih (pre++[x]) out' f (ix+1) len (idxl hl) (idxs hi) hn (by simp at hf;omega) ho'
  rw[t0i,decide_eq_true (idx hl hi hn),tft,b0g hlm him,obs,u0u hy,obs,b2o (n+9) ms hm y.1 (by have:=hlab.n1;omega),obs,idxw hl hi (by omega),tfn,j2z];have hp:partOf s ms (d0h s t a b).1 a b x=if s0p ms y.1=true∧0<(doQ s y.1 (d0h s t a b).1 a b).1.2.1.1 then some (y.1,(doQ s y.1 (d0h s t a b).1 a b).1) else none:=by
   unfold partOf;simp only[hy]
  by_cases h1:s0p ms y.1=true
  case neg =>
   rw[if_neg h1,next out (by simp;omega),List.filterMap_cons_none (by rw[hp,if_neg fun e=>h1 e.1])]
  rw[if_pos h1,r22_do n hw,obs];simp only;rw[f2f hs hlab ht];simp only[decide_true,Bool.not_true,tff];rw[tfd];by_cases h2:0<(doQ s y.1 (d0h s t a b).1 a b).1.2.1.1
  case neg =>
   rw[if_neg h2,next out (by simp;omega),List.filterMap_cons_none (by rw[hp,if_neg fun e=>h2 e.2])]
  rw[if_pos h2,decide_eq_true (show (out.length+1)*184≤140737488355328 by omega),tft,next _ (by simp;omega),List.filterMap_cons_some (by rw[hp,if_pos ⟨h1,h2⟩]),List.append_assoc];rfl
theorem s1r {s:Sta} (h:StaOk s):c2l s=(u0k s).map Int.ofNat:=if_pos h.whole
theorem i1l {s:Sta} (h:StaOk s):(u0k s).length≤65536:=by
 have:=c2k s;rw[s1r h,List.length_map] at this;exact this
theorem s0t (n:Nat) {s:Sta} (hw:StaW s) (ms:List Mat) (hm:ms.length≤1000000) (hk:∀m∈ms,0≤m.1) (t a b:Int):i0h (n+25) s ms t a b=some (c0k s ms t a b):=by
 rw[o0z,y0p (n+10) hw,obs];unfold c0k;by_cases h:StaOk s
 case neg=>rw[if_neg h,if_neg h];rfl
 rw[if_pos h,if_pos h,h1o (n+14) ms hm hk];simp only[decide_true,Bool.not_true,tff,obs];by_cases h2:c1w ms
 case neg=>rw[if_neg h2,if_neg h2];rfl
 rw[if_pos h2,if_pos h2,o1v (n+5) hw];simp only[decide_true,Bool.not_true,tff,obs,tfn,tfd];by_cases ht:(d0h s t a b).2=0
 case neg=>rw[if_neg ht,if_neg ht]
 have hL:=i1l h;rw[if_pos ht,if_pos ht,stt_live (n+16) hw,obs,s1r h];have:=p1w n hw h ms hm ht (u0k s) (by omega) (fun _ hi=>hi) (u0k s) [] [] a0d 0 _ rfl rfl rfl (by unfold a0d;omega) (Nat.le_refl _);rw[List.nil_append] at this;rw[List.length_map,this,obs,a0n];rfl
theorem b1r (n:Nat) {s:Sta} (hw:StaW s) (ms:List Mat) (hm:ms.length≤1000000) (hk:∀m∈ms,0≤m.1) (t a b:Int):t0j (n+14) s ms t a b=some (c0k s ms t a b):=by
 rw[v1q,z0g (n+4) hw,obs];unfold c0k;by_cases h:StaOk s
 case neg=>rw[if_neg h,if_neg h];rfl
 rw[if_pos h,if_pos h,r1m (n+6) ms hm hk];simp only[decide_true,Bool.not_true,tff,obs];by_cases h2:c1w ms
 case neg=>rw[if_neg h2,if_neg h2];rfl
 rw[if_pos h2,if_pos h2,d2u (n+1) hw];simp only[decide_true,Bool.not_true,tff,obs,tfn,tfd];by_cases ht:(d0h s t a b).2=0
 case neg=>rw[if_neg ht,if_neg ht]
 have hL:=i1l h;rw[if_pos ht,if_pos ht,r17_live (n+6) hw,obs,s1r h];have:=a2l n hw h ms hm ht (u0k s) (by omega) (fun _ hi=>hi) (u0k s) [] [] a0d 0 _ rfl rfl rfl (by unfold a0d;omega) (Nat.le_refl _);rw[List.nil_append] at this;rw[List.length_map,this,obs,a0n];rfl
theorem m0t (s:Sta) (ms:List Mat) (t a b:Int):(c0k s ms t a b).1.length≤65536:=by
 unfold c0k;split
 ·rename_i h;split
  ·split
   ·exact Nat.le_trans (i2d _ _ _ _ _) (i1l h)
   ·simp
  ·simp
 ·simp
theorem doQ_cell (s:Sta) (l:List Lab) (t a b:Int):b0y (doQ s l t a b).1.2.1:=by
 unfold doQ;by_cases h1:StaOk s
 case neg=>rw[if_neg h1];exact u0j
 rw[if_pos h1];by_cases h2:LabOk l
 case neg=>rw[if_neg h2];exact u0j
 rw[if_pos h2];by_cases h3:(d0h s t a b).2=0
 case neg=>rw[if_neg h3];exact u0j
 rw[if_pos h3];exact t1y _ _ _ _ _
theorem e1v (s:Sta) (ms:List Mat) (t a b:Int):∀p∈(c0k s ms t a b).1,b0y p.2.2.1:=by
 intro p hp;unfold c0k at hp;split at hp
 ·rename_i h;split at hp
  ·split at hp
   ·obtain ⟨i,_,hi⟩:=List.mem_filterMap.1 hp;unfold partOf at hi;split at hi
    ·split at hi
     ·cases hi;simp only;exact doQ_cell _ _ _ _ _
     ·cases hi
    ·cases hi
   ·cases hp
  ·cases hp
 ·cases hp
theorem p1y (n:Nat) (why:Int) (l:List Prt) (hL:l.length≤1000000):∀(rest pre:List Prt) (out:List Rpl) (f:Nat) (i len:Int),l=pre++rest→i=pre.length→len=l.length→rest.length<f→out.length≤pre.length →
  f0w n f (why,out,l,len,i,())=some (.inl (why,out++rest.map (·.2),())):=by
 intro rest;induction rest with
 | nil =>
  intro pre out f i len hl hi hn hf ho;obtain ⟨f,rfl⟩:∃g,f=g+1:=⟨f-1,by simp at hf;omega⟩;rw[g0y,decide_eq_false (idxe hl hi hn),tff];simp
 | cons x rest ih =>
  intro pre out f i len hl hi hn hf ho;obtain ⟨f,rfl⟩:∃g,f=g+1:=⟨f-1,by simp at hf;omega⟩;have hlen:=congrArg List.length hl;simp only[List.length_append,List.length_cons] at hlen;rw[g0y,decide_eq_true (idx hl hi hn),tft,b0g hl hi,obs,c1i hl hi,obs,decide_eq_true (by omega),tft,idxw hl hi (by omega),ih (pre++[x]) _ f (i+1) len (idxl hl) (idxs hi) hn (by simp at hf;omega) (by simp;omega),List.append_assoc];rfl
theorem f1j (n:Nat) {s:Sta} (hw:StaW s) (ms:List Mat) (hm:ms.length≤1000000) (hk:∀m∈ms,0≤m.1) (t a b:Int):n0j (n+26) s ms t a b=some ((c0k s ms t a b).1.map (·.2),(c0k s ms t a b).2.2):=by
 rw[w0e,s0t n hw ms hm hk,obs];have hl:=m0t s ms t a b;have:=p1y (n+25) (c0k s ms t a b).2.2 (c0k s ms t a b).1 (by omega) (c0k s ms t a b).1 [] [] a0d 0 _ rfl rfl rfl (by unfold a0d;omega) (Nat.le_refl _);rw[List.nil_append] at this;rw[this,obs,a0n]
def addT (a b:Tot):Tot×Int :=
 if a.1=b.1 then (if (addW a.2.2.2.1 b.2.2.2.1).2=0 then ((a.1,(IntKind.wrap .i64 (a.2.1+b.2.1),(IntKind.wrap .i64 (a.2.2.1+b.2.2.1),((addW a.2.2.2.1 b.2.2.2.1).1,(IntKind.wrap .i64 (a.2.2.2.2.1+b.2.2.2.2.1),(IntKind.wrap .i64 (a.2.2.2.2.2.1+b.2.2.2.2.2.1),IntKind.wrap .i64 (a.2.2.2.2.2.2+b.2.2.2.2.2.2))))))),0)
  else (tz0,(addW a.2.2.2.1 b.2.2.2.1).2)) else (tz0,2)
theorem j2x (n:Nat) {a b:Tot} (ha:WdOk a.2.2.2.1) (hb:WdOk b.2.2.2.1):k0x (n+3) a b=some (addT a b):=by
 rw[u1o,tfn,tfd];unfold addT;by_cases h:a.1=b.1
 case neg=>rw[if_neg h,if_neg h];rfl
 rw[if_pos h,if_pos h,d2m n ha hb,obs,tfn,tfd];by_cases h2:(addW a.2.2.2.1 b.2.2.2.1).2=0
 ·rw[if_pos h2,if_pos h2]
 ·rw[if_neg h2,if_neg h2];rfl
theorem r01_addW (n:Nat) {a b:Wd} (ha:WdOk a) (hb:WdOk b):l0o (n+2) a b=some (addW a b):=by
 obtain ⟨x,hx,e1,v1⟩:=ofN_of ha;obtain ⟨y,hy,e2,v2⟩:=ofN_of hb;unfold addW;rw[v1,v2];rw[e1,e2,e1u n hx hy,←Int.natCast_add,b1z];by_cases h:x+y<340282366920938463463374607431768211456
 ·rw[if_pos h,if_pos (by omega)]
 ·rw[if_neg h,if_neg (by omega)]
theorem r23_add (n:Nat) {a b:Tot} (ha:WdOk a.2.2.2.1) (hb:WdOk b.2.2.2.1):r1a (n+3) a b=some (addT a b):=by
 rw[h2d,tfn,tfd];unfold addT;by_cases h:a.1=b.1
 case neg=>rw[if_neg h,if_neg h];rfl
 rw[if_pos h,if_pos h,r01_addW n ha hb,obs,tfn,tfd];by_cases h2:(addW a.2.2.2.1 b.2.2.2.1).2=0
 ·rw[if_pos h2,if_pos h2]
 ·rw[if_neg h2,if_neg h2];rfl
theorem addW_ok {a b:Wd} (ha:WdOk a) (hb:WdOk b):WdOk (addW a b).1:=by
 have:=f0c ha;have:=f0c hb;unfold addW;split
 ·exact w0t (by omega) (by omega)
 ·exact ⟨by simp,by simp⟩
theorem addT_w {a b:Tot} (ha:WdOk a.2.2.2.1) (hb:WdOk b.2.2.2.1):WdOk (addT a b).1.2.2.2.1:=by
 unfold addT;split
 ·split
  ·exact addW_ok ha hb
  ·exact ⟨by simp[tz0],by simp[tz0]⟩
 ·exact ⟨by simp[tz0],by simp[tz0]⟩
def oneT (k:Int) (c:Cel):Tot:=(k,(1,(c.1,c.2.2.2)))
def sumT (k:Int):Tot→List Prt→Tot×Int
 | t,[]=>(t,0)
 | t,p::r=>if (addT t (oneT k p.2.2.1)).2=0 then sumT k (addT t (oneT k p.2.2.1)).1 r else (tz0,(addT t (oneT k p.2.2.1)).2)
theorem t1t {c:Cel} (h:b0y c):WdOk c.2.2.2.1:=(x0y h).1
theorem g2d (n:Nat) (s10:Tot) (k:Int) (l:List Prt) (hL:l.length≤1000000) (hok:∀p∈l,b0y p.2.2.1):∀(rest pre:List Prt) (t:Tot) (f:Nat) (i len:Int),l=pre++rest→i=pre.length→len=l.length→rest.length<f→WdOk t.2.2.2.1 →
  g0n (n+3) f (s10,k,t,l,len,i,())=some (if (sumT k t rest).2=0 then .inl (s10,(sumT k t rest).1,()) else .inr (tz0,(sumT k t rest).2)):=by
 intro rest;induction rest with
 | nil =>
  intro pre t f i len hl hi hn hf ht;obtain ⟨f,rfl⟩:∃g,f=g+1:=⟨f-1,by simp at hf;omega⟩;rw[h0w,decide_eq_false (idxe hl hi hn),tff];rfl
 | cons x rest ih =>
  intro pre t f i len hl hi hn hf ht;obtain ⟨f,rfl⟩:∃g,f=g+1:=⟨f-1,by simp at hf;omega⟩;have hx:WdOk (oneT k x.2.2.1).2.2.2.1:=t1t (hok x (by rw[hl];simp));rw[h0w,decide_eq_true (idx hl hi hn),tft,b0g hl hi,obs,c1i hl hi,obs,u1n,obs]
  change a0b (k0x (n+3) t (oneT k x.2.2.1)) _=_
  rw[j2x n ht hx,obs,tfn,tfd,idxw hl hi (by omega)];unfold sumT;by_cases h:(addT t (oneT k x.2.2.1)).2=0
  ·rw[if_pos h,if_pos h,ih (pre++[x]) _ f (i+1) len (idxl hl) (idxs hi) hn (by simp at hf;omega) (addT_w ht hx)]
  ·rw[if_neg h,if_neg h,if_neg h];rfl
theorem r23_do_l (n:Nat) (s10:Tot) (k:Int) (l:List Prt) (hL:l.length≤1000000) (hok:∀p∈l,b0y p.2.2.1):∀(rest pre:List Prt) (t:Tot) (f:Nat) (i len:Int),l=pre++rest→i=pre.length→len=l.length→rest.length<f→WdOk t.2.2.2.1 →
  t0k (n+3) f (s10,k,t,l,len,i,())=some (if (sumT k t rest).2=0 then .inl (s10,(sumT k t rest).1,()) else .inr (tz0,(sumT k t rest).2)):=by
 intro rest;induction rest with
 | nil =>
  intro pre t f i len hl hi hn hf ht;obtain ⟨f,rfl⟩:∃g,f=g+1:=⟨f-1,by simp at hf;omega⟩;rw[d1e,decide_eq_false (idxe hl hi hn),tff];rfl
 | cons x rest ih =>
  intro pre t f i len hl hi hn hf ht;obtain ⟨f,rfl⟩:∃g,f=g+1:=⟨f-1,by simp at hf;omega⟩;have hx:WdOk (oneT k x.2.2.1).2.2.2.1:=t1t (hok x (by rw[hl];simp));rw[d1e,decide_eq_true (idx hl hi hn),tft,b0g hl hi,obs]
  change a0b (r1a (n+3) t (oneT k x.2.2.1)) _=_
  rw[r23_add n ht hx,obs,tfn,tfd,idxw hl hi (by omega)];unfold sumT;by_cases h:(addT t (oneT k x.2.2.1)).2=0
  ·rw[if_pos h,if_pos h,ih (pre++[x]) _ f (i+1) len (idxl hl) (idxs hi) hn (by simp at hf;omega) (addT_w ht hx)]
  ·rw[if_neg h,if_neg h,if_neg h];rfl
noncomputable def totV (s:Sta) (ms:List Mat) (t a b:Int):Tot×Int :=
 if (c0k s ms t a b).2.2=0 then sumT (c0k s ms t a b).2.1 ((c0k s ms t a b).2.1,(0,(0,((0,0),(0,(0,0)))))) (c0k s ms t a b).1 else (tz0,(c0k s ms t a b).2.2)
theorem d2o (k:Int):∀(l:List Prt) (t:Tot),(sumT k t l).2≠0→(sumT k t l).1=tz0:=by
 intro l;induction l with
 | nil=>intro t h;exact (h rfl).elim
 | cons p l ih =>
  intro t h;unfold sumT at h ⊢;split at h
  ·rename_i k1;rw[if_pos k1];exact ih _ h
  ·rename_i k1;rw[if_neg k1]
theorem total_do (n:Nat) {s:Sta} (hw:StaW s) (ms:List Mat) (hm:ms.length≤1000000) (hk:∀m∈ms,0≤m.1) (t a b:Int):y0h (n+26) s ms t a b=some (totV s ms t a b):=by
 rw[f1k,s0t n hw ms hm hk,obs,tfn,tfd];unfold totV;have hl:=m0t s ms t a b;have hok:=e1v s ms t a b;by_cases h:(c0k s ms t a b).2.2=0
 case neg=>rw[if_neg h,if_neg h];rfl
 rw[if_pos h,if_pos h];generalize c0k s ms t a b=p at *
 have:=g2d (n+22) tz0 p.2.1 p.1 (by omega) hok p.1 [] (p.2.1,(0,(0,((0,0),(0,(0,0)))))) a0d 0 _ rfl rfl rfl (by unfold a0d;omega) ⟨by simp,by simp⟩
 change a0b (g0n (n+25) a0d (tz0,p.2.1,(p.2.1,(0,(0,((0,0),(0,(0,0)))))),p.1,(p.1.length:Int),0,())) _=_
 rw[this,obs];generalize hz:sumT p.2.1 (p.2.1,(0,(0,((0,0),(0,(0,0)))))) p.1=z;have herr:=d2o p.2.1 p.1 (p.2.1,(0,(0,((0,0),(0,(0,0))))));rw[hz] at herr;by_cases h2:z.2=0
 ·rw[if_pos h2,a0n];exact congrArg some (Prod.ext rfl h2.symm)
 ·rw[if_neg h2,f0u];exact congrArg some (Prod.ext (herr h2).symm rfl)
theorem r23_do (n:Nat) {s:Sta} (hw:StaW s) (ms:List Mat) (hm:ms.length≤1000000) (hk:∀m∈ms,0≤m.1) (t a b:Int):l2d (n+15) s ms t a b=some (totV s ms t a b):=by
 rw[l2c,b1r n hw ms hm hk,obs,tfn,tfd];unfold totV;have hl:=m0t s ms t a b;have hok:=e1v s ms t a b;by_cases h:(c0k s ms t a b).2.2=0
 case neg=>rw[if_neg h,if_neg h];rfl
 rw[if_pos h,if_pos h];generalize c0k s ms t a b=p at *
 have:=r23_do_l (n+11) tz0 p.2.1 p.1 (by omega) hok p.1 [] (p.2.1,(0,(0,((0,0),(0,(0,0)))))) a0d 0 _ rfl rfl rfl (by unfold a0d;omega) ⟨by simp,by simp⟩
 change a0b (t0k (n+14) a0d (tz0,p.2.1,(p.2.1,(0,(0,((0,0),(0,(0,0)))))),p.1,(p.1.length:Int),0,())) _=_
 rw[this,obs];generalize hz:sumT p.2.1 (p.2.1,(0,(0,((0,0),(0,(0,0)))))) p.1=z;have herr:=d2o p.2.1 p.1 (p.2.1,(0,(0,((0,0),(0,(0,0))))));rw[hz] at herr;by_cases h2:z.2=0
 ·rw[if_pos h2,a0n];exact congrArg some (Prod.ext rfl h2.symm)
 ·rw[if_neg h2,f0u];exact congrArg some (Prod.ext (herr h2).symm rfl)
def incP (p:Prt):Wd:=p.2.2.1.2.2.2.1
def keyP (p:Prt):Int := - wv (incP p)
def PrW (p:Prt):Prop:=WdOk (incP p)
theorem o2r (n:Nat) (x y:Int):g0k (n+2) x y=some (if x<y then -1 else if y<x then 1 else 0):=by
 rw[u0s,o0g,o0g];by_cases h1:x<y
 ·simp[h1]
 ·by_cases h2:y<x<;>simp[h1,h2]
theorem cmp_or2 (n:Nat) (x y:Int):c1n (n+1) [x,y]=some (if x=0 then y else x):=by
 have e1:IntKind.wrap .i64 ((0:Int)+1)=1:=by rw[w64 (by omega) (by omega)];rfl
 have e2:IntKind.wrap .i64 ((1:Int)+1)=2:=by rw[w64 (by omega) (by omega)];rfl
 have h0:∀f:Nat,j0v n (f+1+1+1) ((0:Int),[x,y],(2:Int),(0:Int),())=some (if x=0 then (if y=0 then .inl (0,()) else .inr y) else .inr x):=by
  intro f;rw[l0r,decide_eq_true (show (0:Int)<2 by decide),tft,show at? [x,y] (0:Int)=some x from rfl,obs,tfn,tfd,e1];by_cases hx:x=0
  ·rw[if_pos hx,if_pos hx,l0r,decide_eq_true (show (1:Int)<2 by decide),tft,show at? [x,y] (1:Int)=some y from rfl,obs,tfn,tfd,e2];by_cases hy:y=0
   ·rw[if_pos hy,if_pos hy,l0r,decide_eq_false (show ¬(2:Int)<2 by decide),tff]
   ·rw[if_neg hy,if_neg hy]
  ·rw[if_neg hx,if_neg hx]
 obtain ⟨f,hf⟩:∃f,a0d=f+1+1+1:=⟨a0d-3,by unfold a0d;omega⟩;rw[t1q,hf];have h1:j0v n (f+1+1+1) ((0:Int),[x,y],((([x,y].length:Nat)):Int),(0:Int),())=_:=h0 f;rw[h1,obs];by_cases hx:x=0
 ·rw[if_pos hx,if_pos hx];by_cases hy:y=0
  ·rw[if_pos hy,hy];rfl
  ·rw[if_neg hy];rfl
 ·rw[if_neg hx,if_neg hx];rfl
theorem more_lt {x y u v:Int} (hx:0≤x∧x≤18446744073709551615) (hy:0≤y∧y≤18446744073709551615) (hu:0≤u∧u≤18446744073709551615) (hv:0≤v∧v≤18446744073709551615) :
  ((if (if u<x then (-1:Int) else if x<u then 1 else 0)=0 then (if v<y then (-1:Int) else if y<v then 1 else 0) else (if u<x then (-1:Int) else if x<u then 1 else 0))<0) ↔ -(x*18446744073709551616+y) < -(u*18446744073709551616+v):=by
 by_cases h1:u<x
 ·rw[if_pos h1,if_neg (by decide)];omega
 ·rw[if_neg h1];by_cases h2:x<u
  ·rw[if_pos h2,if_neg (by decide)];omega
  ·rw[if_neg h2,if_pos rfl];by_cases h3:v<y
   ·rw[if_pos h3];omega
   ·rw[if_neg h3];by_cases h4:y<v
    ·rw[if_pos h4];omega
    ·rw[if_neg h4];omega
theorem more_cmp (n:Nat):a1i (fun y=>u0z (n+3) y.1 y.2.1) keyP PrW:=by
 intro p q hp hq;refine ⟨_,?_,more_lt hp.hi hp.lo hq.hi hq.lo⟩;simp only;rw[p1x,o2r,obs,o2r,obs,cmp_or2,obs];rfl
theorem top_ex (l:List Prt):∃S,Sel keyP l S:=sel_ex l.length l rfl
theorem z1i (n:Nat) (l:List Prt) (hL:l.length≤1000000):∀(rest pre:List Prt) (out:List (List Lab)) (f:Nat) (i len:Int),l=pre++rest→i=pre.length→len=l.length→rest.length<f→out.length≤pre.length →
  i0o n f (out,l,len,i,())=some (.inl (out++rest.map (·.1),())):=by
 intro rest;induction rest with
 | nil =>
  intro pre out f i len hl hi hn hf ho;obtain ⟨f,rfl⟩:∃g,f=g+1:=⟨f-1,by simp at hf;omega⟩;rw[j0b,decide_eq_false (idxe hl hi hn),tff];simp
 | cons x rest ih =>
  intro pre out f i len hl hi hn hf ho;obtain ⟨f,rfl⟩:∃g,f=g+1:=⟨f-1,by simp at hf;omega⟩;have hlen:=congrArg List.length hl;simp only[List.length_append,List.length_cons] at hlen;rw[j0b,decide_eq_true (idx hl hi hn),tft,b0g hl hi,obs,c1i hl hi,obs,decide_eq_true (by omega),tft,idxw hl hi (by omega),ih (pre++[x]) _ f (i+1) len (idxl hl) (idxs hi) hn (by simp at hf;omega) (by simp;omega),List.append_assoc];rfl
def topN (n:Int) (len:Nat):Nat:=(if (len:Int)<n then (len:Int) else n).toNat
theorem j2w (n:Nat) {s:Sta} (hw:StaW s) (ms:List Mat) (hm:ms.length≤1000000) (hk:∀m∈ms,0≤m.1) (t a b m:Int) {S:List Prt} (hS:Sel keyP (c0k s ms t a b).1 S) :
  n0i (n+40) s ms t a b m=some (if (c0k s ms t a b).2.2=0 then (if m<0 then ([],1) else ((S.take (topN m (c0k s ms t a b).1.length)).map (·.1),0)) else ([],(c0k s ms t a b).2.2)):=by
 rw[s0u,s0t (n+14) hw ms hm hk,obs,tfn,tfd];have hl:=m0t s ms t a b;have hok:=e1v s ms t a b;by_cases h:(c0k s ms t a b).2.2=0
 case neg=>rw[if_neg h,if_neg h]
 rw[if_pos h,if_pos h,tfd];by_cases hm0:m<0
 ·rw[if_pos hm0,if_pos hm0]
 rw[if_neg hm0,if_neg hm0];generalize (c0k s ms t a b).1=l at *
 obtain ⟨d,r1,r2,r3⟩:=x0l (more_cmp (n+36)) (n+18) 17 l (by omega) (by omega) (fun p hp=>t1t (hok p hp));have hlen:=r2.len;have hd:d=S:=by
  refine d2q d S (u1y (by rw[hlen];exact r3)) hS.srt fun c=>(r2.st c).trans (hS.stb c).symm
 have hSl:S.length=l.length:=by rw[←hd];exact hlen
 rw[r1,obs,hd];have e:(if ((S.length:Nat):Int)<m then ((S.length:Nat):Int) else m)=((topN m l.length:Nat):Int):=by
  unfold topN;rw[hSl];split<;>omega
 have hle:topN m l.length≤S.length:=by unfold topN;rw[hSl];split<;>omega
 rw[e,decide_eq_true (by omega),decide_eq_true (by omega),Bool.and_self,tft,Int.toNat_natCast,Nat.sub_zero];have:=z1i (n+39) (S.take (topN m l.length)) (by simp;omega) (S.take (topN m l.length)) [] [] a0d 0 _ rfl rfl rfl (by simp;unfold a0d;omega) (Nat.le_refl _);rw[List.nil_append,List.length_take,Nat.min_eq_left hle] at this;rw[this,obs,a0n]
def AtP (pre:List Prt) (dp:List Bool) (at_:Int):Prop :=
 (at_ = -1∧rem pre dp=[])∨∃A p B dA dB,pre=A++p::B∧dp=dA++false::dB∧dA.length=A.length∧at_=(A.length:Int)∧(∀q∈rem A dA,wv (incP q)<wv (incP p))∧∀q∈rem B dB,wv (incP q)≤wv (incP p)
theorem v1l (x:Prt):rem [x] [true]=[]:=by simp[rem]
theorem k2y (x:Prt):rem [x] [false]=[x]:=by simp[rem]
theorem a2k (n:Nat) (n_:Int) (out:List (List Lab)) (l:List Prt) (hL:l.length≤1000000) (hok:∀p∈l,PrW p) (done:List Bool) (hd:done.length=l.length):∀(rest pre:List Prt) (dr dp:List Bool) (f:Nat) (at_ i len:Int),l=pre++rest→done=dp++dr→dp.length=pre.length→i=pre.length→len=l.length→rest.length<f→AtP pre dp at_ →
  ∃at',i0j (n+2) f (n_,l,out,done,at_,l,len,i,())=some (.inl (n_,l,out,done,at',()))∧AtP l done at':=by
 intro rest;induction rest with
 | nil =>
  intro pre dr dp f at_ i len hl hdd hdl hi hn hf hat;obtain ⟨f,rfl⟩:∃g,f=g+1:=⟨f-1,by simp at hf;omega⟩;rw[w0m,decide_eq_false (idxe hl hi hn),tff];have e1:pre=l:=by rw[hl,List.append_nil]
  have e2:dp=done:=by
   have:dr=[]:=by
    have:=congrArg List.length hdd;rw[List.length_append] at this;rw[e1] at hdl;exact List.length_eq_zero_iff.1 (by omega)
   rw[hdd,this,List.append_nil]
  rw[←e1,←e2];refine ⟨at_,?_,hat⟩;rfl
 | cons x rest ih =>
  intro pre dr dp f at_ i len hl hdd hdl hi hn hf hat;obtain ⟨f,rfl⟩:∃g,f=g+1:=⟨f-1,by simp at hf;omega⟩;have hx:PrW x:=hok x (by rw[hl];simp);obtain ⟨b,dr,rfl⟩:∃b r,dr=b::r:=by
   cases dr with
   | cons b r=>exact ⟨b,r,rfl⟩
   | nil =>
    have h1:=congrArg List.length hdd;have h2:=congrArg List.length hl;simp at h1 h2;omega
  have hid:i=(dp.length:Int):=by omega
  have next:=fun at' hat'=>ih (pre++[x]) dr (dp++[b]) f at' (i+1) len (idxl hl) (idxl hdd) (by simp;omega) (idxs hi) hn (by simp at hf;omega) hat'
  have hrem:rem (pre++[x]) (dp++[b])=rem pre dp++rem [x] [b]:=b1m pre [x] dp [b] hdl;rw[w0m,decide_eq_true (idx hl hi hn),tft,b0g hl hi,obs,b0g hdd hid,obs,c1i hdd hid,obs,idxw hl hi (by omega)];cases b with
  | true =>
   rw[Bool.not_true,tff];refine next at_ ?_;rcases hat with ⟨h1,h2⟩ | ⟨A,p,B,dA,dB,h1,h2,h3,h4,h5,h6⟩
   ·left;refine ⟨h1,?_⟩;rw[hrem,h2,v1l];rfl
   ·right;refine ⟨A,p,B++[x],dA,dB++[true],by rw[h1];simp,by rw[h2];simp,h3,h4,h5,?_⟩;have hBl:dB.length=B.length:=by
     have e1:=congrArg List.length h1;have e2:=congrArg List.length h2;simp at e1 e2;omega
    rw[b1m B [x] dB [true] hBl,v1l,List.append_nil];exact h6
  | false =>
   rw[Bool.not_false,tft,tfd];rcases hat with ⟨h1,h2⟩ | ⟨A,p,B,dA,dB,h1,h2,h3,h4,h5,h6⟩
   ·rw[if_pos (by omega)];refine next i (.inr ⟨pre,x,[],dp,[],by simp,by simp,hdl,hi,?_,by simp[rem]⟩);rw[h2];simp
   ·have hBl:dB.length=B.length:=by
     have e1:=congrArg List.length h1;have e2:=congrArg List.length h2;simp at e1 e2;omega
    have hp:at? l at_=some p:=by
     refine b0g (pre:=A) (rest:=B++x::rest) ?_ h4;rw[hl,h1];simp
    have hpw:PrW p:=hok p (by rw[hl,h1];simp);rw[if_neg (by omega),hp,obs]
    change ∃at',a0b (j0o (n+2) (incP p) (incP x)) _=_∧_
    rw[r1s n hpw hx,obs,tfd];by_cases c:wv (incP p)<wv (incP x)
    ·rw[if_pos c];refine next i (.inr ⟨pre,x,[],dp,[],by simp,by simp,hdl,hi,fun q hq => ?_,by simp[rem]⟩);rw[h1,h2,b1m A (p::B) dA (false::dB) h3] at hq;rcases List.mem_append.1 hq with hq | hq
     ·have:=h5 q hq;omega
     ·simp only[rem] at hq;rw[if_neg (by decide)] at hq;rcases List.mem_cons.1 hq with rfl | hq
      ·exact c
      ·have:=h6 q hq;omega
    ·rw[if_neg c];refine next at_ (.inr ⟨A,p,B++[x],dA,dB++[false],by rw[h1];simp,by rw[h2];simp,h3,h4,h5,fun q hq => ?_⟩);rw[b1m B [x] dB [false] hBl,k2y] at hq;rcases List.mem_append.1 hq with hq | hq
     ·exact h6 q hq
     ·simp at hq;subst hq;omega
theorem h2a (n:Nat) (n_:Int) (l:List Prt) (hL:l.length≤1000000) (hok:∀p∈l,PrW p):∀(k f:Nat) (out:List (List Lab)) (done:List Bool) (S:List Prt),done.length=l.length→Sel keyP (rem l done) S→out.length+S.length=l.length→out.length+k=topN n_ l.length→0≤n_→k<f →
  v0k (n+2) f (n_,l,out,done,())=some (.inl (out++(S.take k).map (·.1),())):=by
 intro k;induction k with
 | zero =>
  intro f out done S hd hS ho hk h0 hf;obtain ⟨f,rfl⟩:∃g,f=g+1:=⟨f-1,by omega⟩;rw[z0d];have:¬((out.length:Int)<n_∧(out.length:Int)<(l.length:Int)):=by
   unfold topN at hk;split at hk<;>omega
  simp only[tfd,List.take_zero,List.map_nil,List.append_nil];by_cases c:(out.length:Int)<n_
  ·rw[if_pos c,if_neg fun e=>this ⟨c,e⟩]
  ·rw[if_neg c]
 | succ k ih =>
  intro f out done S hd hS ho hk h0 hf;obtain ⟨f,rfl⟩:∃g,f=g+1:=⟨f-1,by omega⟩;have c:(out.length:Int)<n_∧out.length<l.length:=by
   unfold topN at hk;split at hk<;>omega
  rw[z0d,decide_eq_true c.1,tft,decide_eq_true (by omega),tft];obtain ⟨at_,r1,r2⟩:=a2k n n_ out l hL hok done hd l [] done [] a0d (-1) 0 _ rfl rfl rfl rfl rfl (by unfold a0d;omega) (.inl ⟨rfl,rfl⟩);rw[r1,obs,a0n];rcases r2 with ⟨_,h2⟩ | ⟨A,p,B,dA,dB,h1,h2,h3,h4,h5,h6⟩
  ·have:=hS.perm.length_eq;rw[h2] at this;simp at this;rw[this] at ho;simp at ho;omega
  ·have hBl:dB.length=B.length:=by
    have e1:=congrArg List.length h1;have e2:=congrArg List.length h2;simp at e1 e2;omega
   have hidd:at_=(dA.length:Int):=by omega
   simp only;rw[b0g h2 hidd,obs,c1i h2 hidd,obs,b0g h1 h4,obs,decide_eq_true (by omega),tft];have hset:done.set at_.toNat true=dA++true::dB:=by rw[h2,set_mid hidd,List.append_assoc];rfl
   have hrem0:rem l done=rem A dA++p::rem B dB:=by
    rw[h1,h2,b1m A (p::B) dA (false::dB) h3];simp only[rem];rw[if_neg (by decide)]
   have hrem1:rem l (dA++true::dB)=rem A dA++rem B dB:=by
    rw[h1,b1m A (p::B) dA (true::dB) h3];simp only[rem];rw[if_pos trivial]
   obtain ⟨S',hS'⟩:=top_ex (rem A dA++rem B dB);have hSS:S=p::S':=by
    refine sel_uniq hS ?_;rw[hrem0];exact .step (fun q hq=>by have:=h5 q hq;unfold keyP;omega) (fun q hq=>by have:=h6 q hq;unfold keyP;omega) hS'
   subst hSS;rw[hset,ih f (out++[p.1]) (dA++true::dB) S' (by rw[h2] at hd;simpa using hd) (by rw[hrem1];exact hS') (by simp at ho ⊢;omega) (by simp;omega) h0 (by omega),List.append_assoc];rfl
theorem r23_top (n:Nat) {s:Sta} (hw:StaW s) (ms:List Mat) (hm:ms.length≤1000000) (hk:∀m∈ms,0≤m.1) (t a b m:Int) {S:List Prt} (hS:Sel keyP (c0k s ms t a b).1 S) :
  a2m (n+15) s ms t a b m=some (if (c0k s ms t a b).2.2=0 then (if m<0 then ([],1) else ((S.take (topN m (c0k s ms t a b).1.length)).map (·.1),0)) else ([],(c0k s ms t a b).2.2)):=by
 rw[h2c,b1r n hw ms hm hk,obs,tfn,tfd];have hl:=m0t s ms t a b;have hok:=e1v s ms t a b;by_cases h:(c0k s ms t a b).2.2=0
 case neg=>rw[if_neg h,if_neg h]
 rw[if_pos h,if_pos h,tfd];by_cases hm0:m<0
 ·rw[if_pos hm0,if_pos hm0]
 rw[if_neg hm0,if_neg hm0];generalize (c0k s ms t a b).1=l at *
 have t1:=len_test l.length 1 (by omega);rw[show ((1:Nat):Int)=1 from rfl] at t1;have hle:topN m l.length≤l.length:=by unfold topN;split<;>omega
 have:=h2a (n+12) m l (by omega) (fun p hp=>t1t (hok p hp)) (topN m l.length) a0d [] (List.replicate l.length false) S (by simp) (by rw[rem_all];exact hS) (by have:=hS.perm.length_eq;simp;omega) (by simp) (by omega) (by unfold a0d;omega);rw[List.nil_append] at this;rw[t1,tft,Int.toNat_natCast,this,obs,a0n]
end Go.Proofs.YtgkpkajaepphjaaGreatDoor
namespace Go.Proofs.YtgkpkajaepphjaaGreatDoor
open Go.Flat
theorem ob {α β:Type} {o:Option α} {x:α} {f:α→Option β} {r:Option β} (h:o=some x) (k:f x=r):a0b o f=r:=by rw[h];exact k
theorem tt {α:Type} {b:Bool} {x y r:α} (h:b=true) (k:x=r):tif b x y=r:=by rw[h];exact k
theorem tf {α:Type} {b:Bool} {x y r:α} (h:b=false) (k:y=r):tif b x y=r:=by rw[h];exact k
theorem j1d {α σ:Type} {g:Nat→σ→Option α} {c:Nat} {s:σ} {r:Option α} (k:g (a0d-c+c) s=r) (h:c≤a0d):g a0d s=r:=by rw[Nat.sub_add_cancel h] at k;exact k
end Go.Proofs.YtgkpkajaepphjaaGreatDoor
namespace Go.Proofs.YtgkpkajaepphjaaGreatDoor
open Go.Flat
set_option linter.unusedVariables false
theorem k1c (n:Nat)  : u0n (n+1)  =
 a0b (m2z n ) fun r0 =>
 a0b (k2h n r0) fun r1 =>
 tif ((!(decide (r1.2=(0:Int))))) (
 some false) (
 a0b (s0r n r1.1 ((((97:UInt8)::[]),((49:UInt8)::[]))::[]) (((2:Int),((1:Int),((0:Int),false)))::(((4:Int),((5:Int),((0:Int),false)))::[]))) fun r2 =>
 tif ((!(decide (r2.2.2=(0:Int))))) (
 some false) (
 a0b (s0r n r2.1 ((((97:UInt8)::[]),((50:UInt8)::[]))::[]) (((3:Int),((1:Int),((0:Int),false)))::(((4:Int),((9:Int),((0:Int),false)))::(((5:Int),((2:Int),((0:Int),false)))::[])))) fun r3 =>
 tif ((!(decide (r3.2.2=(0:Int))))) (
 some false) (
 a0b (y0h n r3.1 [] (1:Int) (0:Int) (10:Int)) fun r4 =>
 a0b (n0j n r3.1 (((1:Int),(((97:UInt8)::[]),((50:UInt8)::[])))::[]) (1:Int) (0:Int) (10:Int)) fun r5 =>
 a0b (n0i n r3.1 [] (1:Int) (0:Int) (10:Int) (1:Int)) fun r6 =>
 a0b (n0i n r3.1 [] (1:Int) (0:Int) (10:Int) ((-1):Int)) fun r7 =>
 a0b (k0x n ((1:Int),((0:Int),((0:Int),(((0:Int),(0:Int)),((0:Int),((0:Int),(0:Int))))))) ((2:Int),((0:Int),((0:Int),(((0:Int),(0:Int)),((0:Int),((0:Int),(0:Int)))))))) fun r8 =>
 a0b (n0f n (14:Int)) fun r9 =>
 tif (((decide (r4.1.1=(1:Int)))&&((decide (r4.1.2.1=(2:Int)))&&((decide (r4.1.2.2.1=(5:Int)))&&((decide (r4.1.2.2.2.1.1=r9.1))&&((decide (r4.1.2.2.2.1.2=r9.2))&&((decide (r4.1.2.2.2.2.1=(1:Int)))&&((decide (r4.1.2.2.2.2.2.1=(0:Int)))&&(decide (r4.1.2.2.2.2.2.2=(4:Int))))))))))) (
 tif ((decide (r4.2=(0:Int)))) (
 tif ((decide ((((List.length r5.1):Nat):Int)=(1:Int)))) (
 a0b (at? r5.1 (0:Int)) fun r10 =>
 a0b (n0f n (10:Int)) fun r11 =>
 tif (((decide (r10.2.1.2.2.2.1.1=r11.1))&&(decide (r10.2.1.2.2.2.1.2=r11.2)))) (
 tif ((decide (r5.2=(0:Int)))) (
 tif ((decide ((((List.length r6.1):Nat):Int)=(1:Int)))) (
 a0b (at? r6.1 (0:Int)) fun r12 =>
 a0b (i0y n r12 ((((97:UInt8)::[]),((50:UInt8)::[]))::[])) fun r13 =>
 tif (r13) (
 tif ((decide (r6.2=(0:Int)))) (
 tif ((decide (r7.2=(1:Int)))) (
 some (decide (r8.2=(2:Int)))) (
 some false)) (
 some false)) (
 some false)) (
 some false)) (
 some false)) (
 some false)) (
 some false)) (
 some false)) (
 some false)))):=by kernel_rfl
abbrev zC:Int×((Int×(Int×(Int×Bool)))×((Int×(Int×(Int×Bool)))×((Int×Int)×(Int×(Int×Int))))):=(0,((0,(0,(0,false))),((0,(0,(0,false))),((0,0),(0,(0,0))))))
abbrev zS:Int×(Int×((Int×(Int×(Int×Bool)))×((Int×(Int×(Int×Bool)))×((Int×Int)×(Int×(Int×Int)))))):=(0,zC)
abbrev a0l:a0m:=((20,((10,(20,60)),((4,(5,6)),(3,9)))),(0,((-1),[([([97],[49])],(4,((0,(0,[(2,(1,(0,false))),(4,(5,(0,false)))])),(([zS,zS,zS,zS],([zS,zS,zS,zS,zS],[zS,zS,zS,zS,zS,zS])),(0,(2,((2,(1,(0,false))),((4,(5,(0,false))),((0,4),(0,(0,2))))))))))),([([97],[50])],(5,((0,(0,[(3,(1,(0,false))),(4,(9,(0,false))),(5,(2,(0,false)))])),(([zS,zS,zS,zS],([zS,zS,zS,zS,zS],[zS,zS,zS,zS,zS,zS])),(0,(3,((3,(1,(0,false))),((5,(2,(0,false))),((0,10),(1,(0,2))))))))))),([],(0,((0,(0,[])),(([],([],[])),zS))))])))
abbrev e0b:a0m:=((20,((10,(20,60)),((4,(5,6)),(3,9)))),(0,((-1),[([([97],[49])],(4,((0,(0,[(2,(1,(0,false))),(4,(5,(0,false)))])),(([zS,zS,zS,zS],([zS,zS,zS,zS,zS],[zS,zS,zS,zS,zS,zS])),(0,(2,((2,(1,(0,false))),((4,(5,(0,false))),((0,4),(0,(0,2))))))))))),([([97],[50])],(4,((0,(0,[(3,(1,(0,false))),(4,(9,(0,false)))])),(([zS,zS,zS,zS],([zS,zS,zS,zS,zS],[zS,zS,zS,zS,zS,zS])),(0,(2,((3,(1,(0,false))),((4,(9,(0,false))),((0,8),(0,(0,1))))))))))),([],(0,((0,(0,[])),(([],([],[])),zS))))])))
abbrev e0a:a0m:=((20,((10,(20,60)),((4,(5,6)),(3,9)))),(0,((-1),[([([97],[49])],(4,((0,(0,[(2,(1,(0,false))),(4,(5,(0,false)))])),(([zS,zS,zS,zS],([zS,zS,zS,zS,zS],[zS,zS,zS,zS,zS,zS])),(0,(2,((2,(1,(0,false))),((4,(5,(0,false))),((0,4),(0,(0,2))))))))))),([([97],[50])],(3,((0,(0,[(3,(1,(0,false)))])),(([zS,zS,zS,zS],([zS,zS,zS,zS,zS],[zS,zS,zS,zS,zS,zS])),(0,(1,((3,(1,(0,false))),((3,(1,(0,false))),((0,0),(0,(0,0))))))))))),([],(0,((0,(0,[])),(([],([],[])),zS))))])))
abbrev b0j:a0m:=((20,((10,(20,60)),((4,(5,6)),(3,9)))),(0,((-1),[([([97],[49])],(4,((0,(0,[(2,(1,(0,false))),(4,(5,(0,false)))])),(([zS,zS,zS,zS],([zS,zS,zS,zS,zS],[zS,zS,zS,zS,zS,zS])),(0,(2,((2,(1,(0,false))),((4,(5,(0,false))),((0,4),(0,(0,2))))))))))),([],(0,((0,(0,[])),(([],([],[])),zS)))),([],(0,((0,(0,[])),(([],([],[])),zS))))])))
abbrev d0z:a0m:=((20,((10,(20,60)),((4,(5,6)),(3,9)))),(0,((-1),[([([97],[49])],(2,((0,(0,[(2,(1,(0,false)))])),(([zS,zS,zS,zS],([zS,zS,zS,zS,zS],[zS,zS,zS,zS,zS,zS])),(0,(1,((2,(1,(0,false))),((2,(1,(0,false))),((0,0),(0,(0,0))))))))))),([],(0,((0,(0,[])),(([],([],[])),zS)))),([],(0,((0,(0,[])),(([],([],[])),zS))))])))
theorem s1p (n:Nat):m2z (n+39)=some (20,((10,(20,60)),((4,(5,6)),(3,9)))):=by kernel_rfl
theorem s1o (n:Nat):k2h (n+39) (20,((10,(20,60)),((4,(5,6)),(3,9))))=some (((20,((10,(20,60)),((4,(5,6)),(3,9)))),(0,((-1),[([],(0,((0,(0,[])),(([],([],[])),zS)))),([],(0,((0,(0,[])),(([],([],[])),zS)))),([],(0,((0,(0,[])),(([],([],[])),zS))))]))),0):=by kernel_rfl
theorem s1n (n:Nat):f0d (n+16) ((20,((10,(20,60)),((4,(5,6)),(3,9)))),(0,((-1),[([],(0,((0,(0,[])),(([],([],[])),zS)))),([],(0,((0,(0,[])),(([],([],[])),zS)))),([],(0,((0,(0,[])),(([],([],[])),zS))))])))=some 0:=by kernel_rfl
theorem s0e (n:Nat):g0v (n+8) [([97],[49])]=some 0:=by kernel_rfl
theorem s1m (n:Nat):e0j (n+36) (2,(1,(0,false)))=some 0:=by kernel_rfl
theorem s1l (n:Nat):m0p (n+36) ((20,((10,(20,60)),((4,(5,6)),(3,9)))),(0,((-1),[([],(0,((0,(0,[])),(([],([],[])),zS)))),([],(0,((0,(0,[])),(([],([],[])),zS)))),([],(0,((0,(0,[])),(([],([],[])),zS))))])))=some (0,10):=by kernel_rfl
theorem s1k (n:Nat):j0c (n+13) ((20,((10,(20,60)),((4,(5,6)),(3,9)))),(0,((-1),[([],(0,((0,(0,[])),(([],([],[])),zS)))),([],(0,((0,(0,[])),(([],([],[])),zS)))),([],(0,((0,(0,[])),(([],([],[])),zS))))]))) [([97],[49])]=some (0,3):=by kernel_rfl
theorem s1j (n:Nat):e1n (n+36) ((20,((10,(20,60)),((4,(5,6)),(3,9)))),(0,((-1),[([],(0,((0,(0,[])),(([],([],[])),zS)))),([],(0,((0,(0,[])),(([],([],[])),zS)))),([],(0,((0,(0,[])),(([],([],[])),zS))))])))=some (0,0):=by kernel_rfl
theorem s1i (n:Nat):i0i (n+37) ((20,((10,(20,60)),((4,(5,6)),(3,9)))),(0,((-1),[([],(0,((0,(0,[])),(([],([],[])),zS)))),([],(0,((0,(0,[])),(([],([],[])),zS)))),([],(0,((0,(0,[])),(([],([],[])),zS))))]))) [([97],[49])] (2,(1,(0,false)))=some (0,(true,0)):=by
 rw[h0y];refine ob (s1n (n+20)) ?_;refine tf (by kernel_rfl) ?_;refine ob (s0e (n+28)) ?_;refine tf (by kernel_rfl) ?_;refine ob (s1m (n+0)) ?_;refine tf (by kernel_rfl) ?_;refine ob (s1l (n+0)) ?_;refine ob (s1k (n+23)) ?_;refine tf (by kernel_rfl) ?_;refine tf (by kernel_rfl) ?_;refine tf (by kernel_rfl) ?_;refine tf (by kernel_rfl) ?_;refine tf (by kernel_rfl) ?_;refine ob (s1j (n+0)) ?_
 kernel_rfl
theorem s1h (n:Nat):k0c (n+37) ((20,((10,(20,60)),((4,(5,6)),(3,9)))),(0,((-1),[([],(0,((0,(0,[])),(([],([],[])),zS)))),([],(0,((0,(0,[])),(([],([],[])),zS)))),([],(0,((0,(0,[])),(([],([],[])),zS))))]))) (0) (true) [([97],[49])]=some (([([97],[49])],((-1),((0,(0,[])),(([zS,zS,zS,zS],([zS,zS,zS,zS,zS],[zS,zS,zS,zS,zS,zS])),zS)))),0):=by kernel_rfl
theorem n1j (n:Nat):m0o (n+37) (20,((10,(20,60)),((4,(5,6)),(3,9)))) ([([97],[49])],((-1),((0,(0,[])),(([zS,zS,zS,zS],([zS,zS,zS,zS,zS],[zS,zS,zS,zS,zS,zS])),zS)))) (2,(1,(0,false)))=some (([([97],[49])],(2,((0,(0,[(2,(1,(0,false)))])),(([zS,zS,zS,zS],([zS,zS,zS,zS,zS],[zS,zS,zS,zS,zS,zS])),(0,(1,((2,(1,(0,false))),((2,(1,(0,false))),((0,0),(0,(0,0))))))))))),0):=by kernel_rfl
theorem n1i (n:Nat):f0e (n+37) [([],(0,((0,(0,[])),(([],([],[])),zS)))),([],(0,((0,(0,[])),(([],([],[])),zS)))),([],(0,((0,(0,[])),(([],([],[])),zS))))]=some [([],(0,((0,(0,[])),(([],([],[])),zS)))),([],(0,((0,(0,[])),(([],([],[])),zS)))),([],(0,((0,(0,[])),(([],([],[])),zS))))]:=by kernel_rfl
theorem n1h (n:Nat):n0e (n+38) ((20,((10,(20,60)),((4,(5,6)),(3,9)))),(0,((-1),[([],(0,((0,(0,[])),(([],([],[])),zS)))),([],(0,((0,(0,[])),(([],([],[])),zS)))),([],(0,((0,(0,[])),(([],([],[])),zS))))]))) [([97],[49])] (2,(1,(0,false)))=some (d0z,0):=by
 rw[k0u];refine ob (s1i n) ?_;refine tf (by kernel_rfl) ?_;refine ob (s1h (n+0)) ?_;refine tf (by kernel_rfl) ?_;refine ob (n1j (n+0)) ?_;refine tf (by kernel_rfl) ?_;refine ob (n1i (n+0)) ?_;refine ob (x:=([],(0,((0,(0,[])),(([],([],[])),zS))))) (by kernel_rfl) ?_;refine ob (x:=([],(0,((0,(0,[])),(([],([],[])),zS))))) (by kernel_rfl) ?_
 kernel_rfl
theorem n1g (n:Nat):f0d (n+16) d0z=some 0:=by kernel_rfl
theorem n1e (n:Nat):e0j (n+36) (4,(5,(0,false)))=some 0:=by kernel_rfl
theorem n1d (n:Nat):m0p (n+36) d0z=some (0,10):=by kernel_rfl
theorem n1a (n:Nat):j0c (n+13) d0z [([97],[49])]=some (0,0):=by kernel_rfl
theorem m1z (n:Nat):i0i (n+37) d0z [([97],[49])] (4,(5,(0,false)))=some (0,(false,0)):=by
 rw[h0y];refine ob (n1g (n+20)) ?_;refine tf (by kernel_rfl) ?_;refine ob (s0e (n+28)) ?_;refine tf (by kernel_rfl) ?_;refine ob (n1e (n+0)) ?_;refine tf (by kernel_rfl) ?_;refine ob (n1d (n+0)) ?_;refine ob (n1a (n+23)) ?_;refine tf (by kernel_rfl) ?_;refine tf (by kernel_rfl) ?_;refine tt (by kernel_rfl) ?_;refine ob (x:=([([97],[49])],(2,((0,(0,[(2,(1,(0,false)))])),(([zS,zS,zS,zS],([zS,zS,zS,zS,zS],[zS,zS,zS,zS,zS,zS])),(0,(1,((2,(1,(0,false))),((2,(1,(0,false))),((0,0),(0,(0,0)))))))))))) (by kernel_rfl) ?_
 refine tf (by kernel_rfl) ?_;refine tt (by kernel_rfl) ?_
 kernel_rfl
theorem m1y (n:Nat):k0c (n+37) d0z (0) (false) [([97],[49])]=some (([([97],[49])],(2,((0,(0,[(2,(1,(0,false)))])),(([zS,zS,zS,zS],([zS,zS,zS,zS,zS],[zS,zS,zS,zS,zS,zS])),(0,(1,((2,(1,(0,false))),((2,(1,(0,false))),((0,0),(0,(0,0))))))))))),0):=by kernel_rfl
theorem m1x (n:Nat):m0o (n+37) (20,((10,(20,60)),((4,(5,6)),(3,9)))) ([([97],[49])],(2,((0,(0,[(2,(1,(0,false)))])),(([zS,zS,zS,zS],([zS,zS,zS,zS,zS],[zS,zS,zS,zS,zS,zS])),(0,(1,((2,(1,(0,false))),((2,(1,(0,false))),((0,0),(0,(0,0))))))))))) (4,(5,(0,false)))=some (([([97],[49])],(4,((0,(0,[(2,(1,(0,false))),(4,(5,(0,false)))])),(([zS,zS,zS,zS],([zS,zS,zS,zS,zS],[zS,zS,zS,zS,zS,zS])),(0,(2,((2,(1,(0,false))),((4,(5,(0,false))),((0,4),(0,(0,2))))))))))),0):=by kernel_rfl
theorem m1w (n:Nat):f0e (n+37) [([([97],[49])],(2,((0,(0,[(2,(1,(0,false)))])),(([zS,zS,zS,zS],([zS,zS,zS,zS,zS],[zS,zS,zS,zS,zS,zS])),(0,(1,((2,(1,(0,false))),((2,(1,(0,false))),((0,0),(0,(0,0))))))))))),([],(0,((0,(0,[])),(([],([],[])),zS)))),([],(0,((0,(0,[])),(([],([],[])),zS))))]=some [([([97],[49])],(2,((0,(0,[(2,(1,(0,false)))])),(([zS,zS,zS,zS],([zS,zS,zS,zS,zS],[zS,zS,zS,zS,zS,zS])),(0,(1,((2,(1,(0,false))),((2,(1,(0,false))),((0,0),(0,(0,0))))))))))),([],(0,((0,(0,[])),(([],([],[])),zS)))),([],(0,((0,(0,[])),(([],([],[])),zS))))]:=by kernel_rfl
theorem m1v (n:Nat):n0e (n+38) d0z [([97],[49])] (4,(5,(0,false)))=some (b0j,0):=by
 rw[k0u];refine ob (m1z n) ?_;refine tf (by kernel_rfl) ?_;refine ob (m1y (n+0)) ?_;refine tf (by kernel_rfl) ?_;refine ob (m1x (n+0)) ?_;refine tf (by kernel_rfl) ?_;refine ob (m1w (n+0)) ?_;refine ob (x:=([([97],[49])],(2,((0,(0,[(2,(1,(0,false)))])),(([zS,zS,zS,zS],([zS,zS,zS,zS,zS],[zS,zS,zS,zS,zS,zS])),(0,(1,((2,(1,(0,false))),((2,(1,(0,false))),((0,0),(0,(0,0)))))))))))) (by kernel_rfl) ?_
 refine ob (x:=([([97],[49])],(2,((0,(0,[(2,(1,(0,false)))])),(([zS,zS,zS,zS],([zS,zS,zS,zS,zS],[zS,zS,zS,zS,zS,zS])),(0,(1,((2,(1,(0,false))),((2,(1,(0,false))),((0,0),(0,(0,0)))))))))))) (by kernel_rfl) ?_
 kernel_rfl
theorem m1u (n f:Nat):d0r (n+38) (f+1) ([([97],[49])],([(2,(1,(0,false))),(4,(5,(0,false)))],(b0j,(((0,((0,(0,0)),((0,(0,0)),(0,0)))),(0,(0,[]))),([(2,(1,(0,false))),(4,(5,(0,false)))],(2,(2,())))))))=some (.inl ([(2,(1,(0,false))),(4,(5,(0,false)))],(b0j,(((0,((0,(0,0)),((0,(0,0)),(0,0)))),(0,(0,[]))),())))):=by
 rw[e0d];refine tf (by kernel_rfl) ?_
 kernel_rfl
theorem m1t (n f:Nat):d0r (n+38) (f+2) ([([97],[49])],([(2,(1,(0,false))),(4,(5,(0,false)))],(d0z,(((0,((0,(0,0)),((0,(0,0)),(0,0)))),(0,(0,[]))),([(2,(1,(0,false))),(4,(5,(0,false)))],(2,(1,())))))))=some (.inl ([(2,(1,(0,false))),(4,(5,(0,false)))],(b0j,(((0,((0,(0,0)),((0,(0,0)),(0,0)))),(0,(0,[]))),())))):=by
 rw[e0d];refine tt (by kernel_rfl) ?_;refine ob (x:=(4,(5,(0,false)))) (by kernel_rfl) ?_;refine ob (m1v n) ?_;refine tf (by kernel_rfl) ?_;exact m1u n f
theorem m1s (n f:Nat):d0r (n+38) (f+3) ([([97],[49])],([(2,(1,(0,false))),(4,(5,(0,false)))],(((20,((10,(20,60)),((4,(5,6)),(3,9)))),(0,((-1),[([],(0,((0,(0,[])),(([],([],[])),zS)))),([],(0,((0,(0,[])),(([],([],[])),zS)))),([],(0,((0,(0,[])),(([],([],[])),zS))))]))),(((0,((0,(0,0)),((0,(0,0)),(0,0)))),(0,(0,[]))),([(2,(1,(0,false))),(4,(5,(0,false)))],(2,(0,())))))))=some (.inl ([(2,(1,(0,false))),(4,(5,(0,false)))],(b0j,(((0,((0,(0,0)),((0,(0,0)),(0,0)))),(0,(0,[]))),())))):=by
 rw[e0d];refine tt (by kernel_rfl) ?_;refine ob (x:=(2,(1,(0,false)))) (by kernel_rfl) ?_;refine ob (n1h n) ?_;refine tf (by kernel_rfl) ?_;exact m1t n f
theorem m1r (n:Nat):s0r (n+39) ((20,((10,(20,60)),((4,(5,6)),(3,9)))),(0,((-1),[([],(0,((0,(0,[])),(([],([],[])),zS)))),([],(0,((0,(0,[])),(([],([],[])),zS)))),([],(0,((0,(0,[])),(([],([],[])),zS))))]))) [([97],[49])] [(2,(1,(0,false))),(4,(5,(0,false)))]=some (b0j,(2,0)):=by
 rw[c1x];refine ob (j1d (h:=by unfold a0d;omega) (m1s n (a0d-3))) ?_;refine Eq.trans (a0n ..) ?_
 kernel_rfl
theorem m1q (n:Nat):f0d (n+16) b0j=some 0:=by kernel_rfl
theorem k0r (n:Nat):g0v (n+8) [([97],[50])]=some 0:=by kernel_rfl
theorem m1p (n:Nat):e0j (n+36) (3,(1,(0,false)))=some 0:=by kernel_rfl
theorem m1o (n:Nat):m0p (n+36) b0j=some (0,10):=by kernel_rfl
theorem m1n (n:Nat):j0c (n+13) b0j [([97],[50])]=some (0,3):=by kernel_rfl
theorem m1m (n:Nat):e1n (n+36) b0j=some (1,0):=by kernel_rfl
theorem m1l (n:Nat):i0i (n+37) b0j [([97],[50])] (3,(1,(0,false)))=some (1,(true,0)):=by
 rw[h0y];refine ob (m1q (n+20)) ?_;refine tf (by kernel_rfl) ?_;refine ob (k0r (n+28)) ?_;refine tf (by kernel_rfl) ?_;refine ob (m1p (n+0)) ?_;refine tf (by kernel_rfl) ?_;refine ob (m1o (n+0)) ?_;refine ob (m1n (n+23)) ?_;refine tf (by kernel_rfl) ?_;refine tf (by kernel_rfl) ?_;refine tf (by kernel_rfl) ?_;refine tf (by kernel_rfl) ?_;refine tf (by kernel_rfl) ?_;refine ob (m1m (n+0)) ?_
 kernel_rfl
theorem m1k (n:Nat):k0c (n+37) b0j (1) (true) [([97],[50])]=some (([([97],[50])],((-1),((0,(0,[])),(([zS,zS,zS,zS],([zS,zS,zS,zS,zS],[zS,zS,zS,zS,zS,zS])),zS)))),0):=by kernel_rfl
theorem m1j (n:Nat):m0o (n+37) (20,((10,(20,60)),((4,(5,6)),(3,9)))) ([([97],[50])],((-1),((0,(0,[])),(([zS,zS,zS,zS],([zS,zS,zS,zS,zS],[zS,zS,zS,zS,zS,zS])),zS)))) (3,(1,(0,false)))=some (([([97],[50])],(3,((0,(0,[(3,(1,(0,false)))])),(([zS,zS,zS,zS],([zS,zS,zS,zS,zS],[zS,zS,zS,zS,zS,zS])),(0,(1,((3,(1,(0,false))),((3,(1,(0,false))),((0,0),(0,(0,0))))))))))),0):=by kernel_rfl
theorem m1i (n:Nat):f0e (n+37) [([([97],[49])],(4,((0,(0,[(2,(1,(0,false))),(4,(5,(0,false)))])),(([zS,zS,zS,zS],([zS,zS,zS,zS,zS],[zS,zS,zS,zS,zS,zS])),(0,(2,((2,(1,(0,false))),((4,(5,(0,false))),((0,4),(0,(0,2))))))))))),([],(0,((0,(0,[])),(([],([],[])),zS)))),([],(0,((0,(0,[])),(([],([],[])),zS))))]=some [([([97],[49])],(4,((0,(0,[(2,(1,(0,false))),(4,(5,(0,false)))])),(([zS,zS,zS,zS],([zS,zS,zS,zS,zS],[zS,zS,zS,zS,zS,zS])),(0,(2,((2,(1,(0,false))),((4,(5,(0,false))),((0,4),(0,(0,2))))))))))),([],(0,((0,(0,[])),(([],([],[])),zS)))),([],(0,((0,(0,[])),(([],([],[])),zS))))]:=by kernel_rfl
theorem m1h (n:Nat):n0e (n+38) b0j [([97],[50])] (3,(1,(0,false)))=some (e0a,0):=by
 rw[k0u];refine ob (m1l n) ?_;refine tf (by kernel_rfl) ?_;refine ob (m1k (n+0)) ?_;refine tf (by kernel_rfl) ?_;refine ob (m1j (n+0)) ?_;refine tf (by kernel_rfl) ?_;refine ob (m1i (n+0)) ?_;refine ob (x:=([],(0,((0,(0,[])),(([],([],[])),zS))))) (by kernel_rfl) ?_;refine ob (x:=([],(0,((0,(0,[])),(([],([],[])),zS))))) (by kernel_rfl) ?_
 kernel_rfl
theorem m1g (n:Nat):f0d (n+16) e0a=some 0:=by kernel_rfl
theorem m1f (n:Nat):e0j (n+36) (4,(9,(0,false)))=some 0:=by kernel_rfl
theorem m1e (n:Nat):m0p (n+36) e0a=some (0,10):=by kernel_rfl
theorem m1d (n:Nat):j0c (n+13) e0a [([97],[50])]=some (1,0):=by kernel_rfl
theorem m1c (n:Nat):i0i (n+37) e0a [([97],[50])] (4,(9,(0,false)))=some (1,(false,0)):=by
 rw[h0y];refine ob (m1g (n+20)) ?_;refine tf (by kernel_rfl) ?_;refine ob (k0r (n+28)) ?_;refine tf (by kernel_rfl) ?_;refine ob (m1f (n+0)) ?_;refine tf (by kernel_rfl) ?_;refine ob (m1e (n+0)) ?_;refine ob (m1d (n+23)) ?_;refine tf (by kernel_rfl) ?_;refine tf (by kernel_rfl) ?_;refine tt (by kernel_rfl) ?_;refine ob (x:=([([97],[50])],(3,((0,(0,[(3,(1,(0,false)))])),(([zS,zS,zS,zS],([zS,zS,zS,zS,zS],[zS,zS,zS,zS,zS,zS])),(0,(1,((3,(1,(0,false))),((3,(1,(0,false))),((0,0),(0,(0,0)))))))))))) (by kernel_rfl) ?_
 refine tf (by kernel_rfl) ?_;refine tt (by kernel_rfl) ?_
 kernel_rfl
theorem m1b (n:Nat):k0c (n+37) e0a (1) (false) [([97],[50])]=some (([([97],[50])],(3,((0,(0,[(3,(1,(0,false)))])),(([zS,zS,zS,zS],([zS,zS,zS,zS,zS],[zS,zS,zS,zS,zS,zS])),(0,(1,((3,(1,(0,false))),((3,(1,(0,false))),((0,0),(0,(0,0))))))))))),0):=by kernel_rfl
theorem m1a (n:Nat):m0o (n+37) (20,((10,(20,60)),((4,(5,6)),(3,9)))) ([([97],[50])],(3,((0,(0,[(3,(1,(0,false)))])),(([zS,zS,zS,zS],([zS,zS,zS,zS,zS],[zS,zS,zS,zS,zS,zS])),(0,(1,((3,(1,(0,false))),((3,(1,(0,false))),((0,0),(0,(0,0))))))))))) (4,(9,(0,false)))=some (([([97],[50])],(4,((0,(0,[(3,(1,(0,false))),(4,(9,(0,false)))])),(([zS,zS,zS,zS],([zS,zS,zS,zS,zS],[zS,zS,zS,zS,zS,zS])),(0,(2,((3,(1,(0,false))),((4,(9,(0,false))),((0,8),(0,(0,1))))))))))),0):=by kernel_rfl
theorem l1z (n:Nat):f0e (n+37) [([([97],[49])],(4,((0,(0,[(2,(1,(0,false))),(4,(5,(0,false)))])),(([zS,zS,zS,zS],([zS,zS,zS,zS,zS],[zS,zS,zS,zS,zS,zS])),(0,(2,((2,(1,(0,false))),((4,(5,(0,false))),((0,4),(0,(0,2))))))))))),([([97],[50])],(3,((0,(0,[(3,(1,(0,false)))])),(([zS,zS,zS,zS],([zS,zS,zS,zS,zS],[zS,zS,zS,zS,zS,zS])),(0,(1,((3,(1,(0,false))),((3,(1,(0,false))),((0,0),(0,(0,0))))))))))),([],(0,((0,(0,[])),(([],([],[])),zS))))]=some [([([97],[49])],(4,((0,(0,[(2,(1,(0,false))),(4,(5,(0,false)))])),(([zS,zS,zS,zS],([zS,zS,zS,zS,zS],[zS,zS,zS,zS,zS,zS])),(0,(2,((2,(1,(0,false))),((4,(5,(0,false))),((0,4),(0,(0,2))))))))))),([([97],[50])],(3,((0,(0,[(3,(1,(0,false)))])),(([zS,zS,zS,zS],([zS,zS,zS,zS,zS],[zS,zS,zS,zS,zS,zS])),(0,(1,((3,(1,(0,false))),((3,(1,(0,false))),((0,0),(0,(0,0))))))))))),([],(0,((0,(0,[])),(([],([],[])),zS))))]:=by kernel_rfl
theorem l1y (n:Nat):n0e (n+38) e0a [([97],[50])] (4,(9,(0,false)))=some (e0b,0):=by
 rw[k0u];refine ob (m1c n) ?_;refine tf (by kernel_rfl) ?_;refine ob (m1b (n+0)) ?_;refine tf (by kernel_rfl) ?_;refine ob (m1a (n+0)) ?_;refine tf (by kernel_rfl) ?_;refine ob (l1z (n+0)) ?_;refine ob (x:=([([97],[50])],(3,((0,(0,[(3,(1,(0,false)))])),(([zS,zS,zS,zS],([zS,zS,zS,zS,zS],[zS,zS,zS,zS,zS,zS])),(0,(1,((3,(1,(0,false))),((3,(1,(0,false))),((0,0),(0,(0,0)))))))))))) (by kernel_rfl) ?_
 refine ob (x:=([([97],[50])],(3,((0,(0,[(3,(1,(0,false)))])),(([zS,zS,zS,zS],([zS,zS,zS,zS,zS],[zS,zS,zS,zS,zS,zS])),(0,(1,((3,(1,(0,false))),((3,(1,(0,false))),((0,0),(0,(0,0)))))))))))) (by kernel_rfl) ?_
 kernel_rfl
theorem l1x (n:Nat):f0d (n+16) e0b=some 0:=by kernel_rfl
theorem l1w (n:Nat):e0j (n+36) (5,(2,(0,false)))=some 0:=by kernel_rfl
theorem l1v (n:Nat):m0p (n+36) e0b=some (0,10):=by kernel_rfl
theorem l1u (n:Nat):j0c (n+13) e0b [([97],[50])]=some (1,0):=by kernel_rfl
theorem l1t (n:Nat):i0i (n+37) e0b [([97],[50])] (5,(2,(0,false)))=some (1,(false,0)):=by
 rw[h0y];refine ob (l1x (n+20)) ?_;refine tf (by kernel_rfl) ?_;refine ob (k0r (n+28)) ?_;refine tf (by kernel_rfl) ?_;refine ob (l1w (n+0)) ?_;refine tf (by kernel_rfl) ?_;refine ob (l1v (n+0)) ?_;refine ob (l1u (n+23)) ?_;refine tf (by kernel_rfl) ?_;refine tf (by kernel_rfl) ?_;refine tt (by kernel_rfl) ?_
 refine ob (x:=([([97],[50])],(4,((0,(0,[(3,(1,(0,false))),(4,(9,(0,false)))])),(([zS,zS,zS,zS],([zS,zS,zS,zS,zS],[zS,zS,zS,zS,zS,zS])),(0,(2,((3,(1,(0,false))),((4,(9,(0,false))),((0,8),(0,(0,1)))))))))))) (by kernel_rfl) ?_;refine tf (by kernel_rfl) ?_;refine tt (by kernel_rfl) ?_
 kernel_rfl
theorem l1s (n:Nat):k0c (n+37) e0b (1) (false) [([97],[50])]=some (([([97],[50])],(4,((0,(0,[(3,(1,(0,false))),(4,(9,(0,false)))])),(([zS,zS,zS,zS],([zS,zS,zS,zS,zS],[zS,zS,zS,zS,zS,zS])),(0,(2,((3,(1,(0,false))),((4,(9,(0,false))),((0,8),(0,(0,1))))))))))),0):=by kernel_rfl
theorem l1r (n:Nat):m0o (n+37) (20,((10,(20,60)),((4,(5,6)),(3,9)))) ([([97],[50])],(4,((0,(0,[(3,(1,(0,false))),(4,(9,(0,false)))])),(([zS,zS,zS,zS],([zS,zS,zS,zS,zS],[zS,zS,zS,zS,zS,zS])),(0,(2,((3,(1,(0,false))),((4,(9,(0,false))),((0,8),(0,(0,1))))))))))) (5,(2,(0,false)))=some (([([97],[50])],(5,((0,(0,[(3,(1,(0,false))),(4,(9,(0,false))),(5,(2,(0,false)))])),(([zS,zS,zS,zS],([zS,zS,zS,zS,zS],[zS,zS,zS,zS,zS,zS])),(0,(3,((3,(1,(0,false))),((5,(2,(0,false))),((0,10),(1,(0,2))))))))))),0):=by kernel_rfl
theorem l1q (n:Nat):f0e (n+37) [([([97],[49])],(4,((0,(0,[(2,(1,(0,false))),(4,(5,(0,false)))])),(([zS,zS,zS,zS],([zS,zS,zS,zS,zS],[zS,zS,zS,zS,zS,zS])),(0,(2,((2,(1,(0,false))),((4,(5,(0,false))),((0,4),(0,(0,2))))))))))),([([97],[50])],(4,((0,(0,[(3,(1,(0,false))),(4,(9,(0,false)))])),(([zS,zS,zS,zS],([zS,zS,zS,zS,zS],[zS,zS,zS,zS,zS,zS])),(0,(2,((3,(1,(0,false))),((4,(9,(0,false))),((0,8),(0,(0,1))))))))))),([],(0,((0,(0,[])),(([],([],[])),zS))))]=some [([([97],[49])],(4,((0,(0,[(2,(1,(0,false))),(4,(5,(0,false)))])),(([zS,zS,zS,zS],([zS,zS,zS,zS,zS],[zS,zS,zS,zS,zS,zS])),(0,(2,((2,(1,(0,false))),((4,(5,(0,false))),((0,4),(0,(0,2))))))))))),([([97],[50])],(4,((0,(0,[(3,(1,(0,false))),(4,(9,(0,false)))])),(([zS,zS,zS,zS],([zS,zS,zS,zS,zS],[zS,zS,zS,zS,zS,zS])),(0,(2,((3,(1,(0,false))),((4,(9,(0,false))),((0,8),(0,(0,1))))))))))),([],(0,((0,(0,[])),(([],([],[])),zS))))]:=by kernel_rfl
theorem l1p (n:Nat):n0e (n+38) e0b [([97],[50])] (5,(2,(0,false)))=some (a0l,0):=by
 rw[k0u];refine ob (l1t n) ?_;refine tf (by kernel_rfl) ?_;refine ob (l1s (n+0)) ?_;refine tf (by kernel_rfl) ?_;refine ob (l1r (n+0)) ?_;refine tf (by kernel_rfl) ?_;refine ob (l1q (n+0)) ?_;refine ob (x:=([([97],[50])],(4,((0,(0,[(3,(1,(0,false))),(4,(9,(0,false)))])),(([zS,zS,zS,zS],([zS,zS,zS,zS,zS],[zS,zS,zS,zS,zS,zS])),(0,(2,((3,(1,(0,false))),((4,(9,(0,false))),((0,8),(0,(0,1)))))))))))) (by kernel_rfl) ?_
 refine ob (x:=([([97],[50])],(4,((0,(0,[(3,(1,(0,false))),(4,(9,(0,false)))])),(([zS,zS,zS,zS],([zS,zS,zS,zS,zS],[zS,zS,zS,zS,zS,zS])),(0,(2,((3,(1,(0,false))),((4,(9,(0,false))),((0,8),(0,(0,1)))))))))))) (by kernel_rfl) ?_
 kernel_rfl
theorem l1o (n f:Nat):d0r (n+38) (f+1) ([([97],[50])],([(3,(1,(0,false))),(4,(9,(0,false))),(5,(2,(0,false)))],(a0l,(((0,((0,(0,0)),((0,(0,0)),(0,0)))),(0,(0,[]))),([(3,(1,(0,false))),(4,(9,(0,false))),(5,(2,(0,false)))],(3,(3,())))))))=some (.inl ([(3,(1,(0,false))),(4,(9,(0,false))),(5,(2,(0,false)))],(a0l,(((0,((0,(0,0)),((0,(0,0)),(0,0)))),(0,(0,[]))),())))):=by
 rw[e0d];refine tf (by kernel_rfl) ?_
 kernel_rfl
theorem l1n (n f:Nat):d0r (n+38) (f+2) ([([97],[50])],([(3,(1,(0,false))),(4,(9,(0,false))),(5,(2,(0,false)))],(e0b,(((0,((0,(0,0)),((0,(0,0)),(0,0)))),(0,(0,[]))),([(3,(1,(0,false))),(4,(9,(0,false))),(5,(2,(0,false)))],(3,(2,())))))))=some (.inl ([(3,(1,(0,false))),(4,(9,(0,false))),(5,(2,(0,false)))],(a0l,(((0,((0,(0,0)),((0,(0,0)),(0,0)))),(0,(0,[]))),())))):=by
 rw[e0d];refine tt (by kernel_rfl) ?_;refine ob (x:=(5,(2,(0,false)))) (by kernel_rfl) ?_;refine ob (l1p n) ?_;refine tf (by kernel_rfl) ?_;exact l1o n f
theorem l1m (n f:Nat):d0r (n+38) (f+3) ([([97],[50])],([(3,(1,(0,false))),(4,(9,(0,false))),(5,(2,(0,false)))],(e0a,(((0,((0,(0,0)),((0,(0,0)),(0,0)))),(0,(0,[]))),([(3,(1,(0,false))),(4,(9,(0,false))),(5,(2,(0,false)))],(3,(1,())))))))=some (.inl ([(3,(1,(0,false))),(4,(9,(0,false))),(5,(2,(0,false)))],(a0l,(((0,((0,(0,0)),((0,(0,0)),(0,0)))),(0,(0,[]))),())))):=by
 rw[e0d];refine tt (by kernel_rfl) ?_;refine ob (x:=(4,(9,(0,false)))) (by kernel_rfl) ?_;refine ob (l1y n) ?_;refine tf (by kernel_rfl) ?_;exact l1n n f
theorem l1l (n f:Nat):d0r (n+38) (f+4) ([([97],[50])],([(3,(1,(0,false))),(4,(9,(0,false))),(5,(2,(0,false)))],(b0j,(((0,((0,(0,0)),((0,(0,0)),(0,0)))),(0,(0,[]))),([(3,(1,(0,false))),(4,(9,(0,false))),(5,(2,(0,false)))],(3,(0,())))))))=some (.inl ([(3,(1,(0,false))),(4,(9,(0,false))),(5,(2,(0,false)))],(a0l,(((0,((0,(0,0)),((0,(0,0)),(0,0)))),(0,(0,[]))),())))):=by
 rw[e0d];refine tt (by kernel_rfl) ?_;refine ob (x:=(3,(1,(0,false)))) (by kernel_rfl) ?_;refine ob (m1h n) ?_;refine tf (by kernel_rfl) ?_;exact l1m n f
theorem l1k (n:Nat):s0r (n+39) b0j [([97],[50])] [(3,(1,(0,false))),(4,(9,(0,false))),(5,(2,(0,false)))]=some (a0l,(3,0)):=by
 rw[c1x];refine ob (j1d (h:=by unfold a0d;omega) (l1l n (a0d-4))) ?_;refine Eq.trans (a0n ..) ?_
 kernel_rfl
theorem g0a (n:Nat):f0d (n+16) a0l=some 0:=by kernel_rfl
theorem l1j (n:Nat):o0c (n+11) []=some 0:=by kernel_rfl
theorem p0n (n:Nat):h0p (n+35) (0) (10) (10)=some (0,(1,0)):=by kernel_rfl
theorem l1i (n:Nat):s0k (n+35) a0l (0)=some (0,(0,0)):=by kernel_rfl
theorem l1h (n:Nat):q0j (n+36) a0l (1) (0) (10)=some 0:=by
 rw[u0b];refine tt (by kernel_rfl) ?_;refine ob (p0n (n+0)) ?_;refine tf (by kernel_rfl) ?_;refine ob (l1i (n+0)) ?_;refine tt (by kernel_rfl) ?_;refine tf (by kernel_rfl) ?_
 kernel_rfl
theorem w0x (n:Nat):m0s (n+37) a0l (1) (0) (10)=some (1,0):=by
 rw[r0x];refine ob (g0a (n+20)) ?_;refine tf (by kernel_rfl) ?_;refine tf (by kernel_rfl) ?_;refine tf (by kernel_rfl) ?_;refine tf (by kernel_rfl) ?_;refine ob (l1h n) ?_;refine tf (by kernel_rfl) ?_
 kernel_rfl
theorem w0w (n:Nat):e1o (n+10) a0l=some [0,1]:=by kernel_rfl
theorem l1g (n:Nat):o0d (n+6) [] [([97],[49])]=some true:=by kernel_rfl
theorem l1f (n:Nat):u0d (n+36) a0l [([97],[49])]=some 0:=by
 rw[u0c];refine ob (g0a (n+19)) ?_;refine tf (by kernel_rfl) ?_;refine ob (s0e (n+27)) ?_
 kernel_rfl
theorem l1e (n:Nat):h0p (n+34) (0) (10) (10)=some (0,(1,0)):=by kernel_rfl
theorem l1d (n:Nat):s0k (n+34) a0l (0)=some (0,(0,0)):=by kernel_rfl
theorem l1c (n:Nat):q0j (n+35) a0l (1) (0) (10)=some 0:=by
 rw[u0b];refine tt (by kernel_rfl) ?_;refine ob (l1e (n+0)) ?_;refine tf (by kernel_rfl) ?_;refine ob (l1d (n+0)) ?_;refine tt (by kernel_rfl) ?_;refine tf (by kernel_rfl) ?_
 kernel_rfl
theorem w0v (n:Nat):m0s (n+36) a0l (1) (0) (10)=some (1,0):=by
 rw[r0x];refine ob (g0a (n+19)) ?_;refine tf (by kernel_rfl) ?_;refine tf (by kernel_rfl) ?_;refine tf (by kernel_rfl) ?_;refine tf (by kernel_rfl) ?_;refine ob (l1c n) ?_;refine tf (by kernel_rfl) ?_
 kernel_rfl
theorem l1b (n:Nat):j0c (n+13) a0l [([97],[49])]=some (0,0):=by kernel_rfl
theorem l1a (n:Nat):d0g (n+35) (20,((10,(20,60)),((4,(5,6)),(3,9)))) ([([97],[49])],(4,((0,(0,[(2,(1,(0,false))),(4,(5,(0,false)))])),(([zS,zS,zS,zS],([zS,zS,zS,zS,zS],[zS,zS,zS,zS,zS,zS])),(0,(2,((2,(1,(0,false))),((4,(5,(0,false))),((0,4),(0,(0,2))))))))))) (0) (0) (1)=some ((2,((2,(1,(0,false))),((4,(5,(0,false))),((0,4),(0,(0,2)))))),0):=by kernel_rfl
theorem k1z (n:Nat):a1a (n+36) a0l ([([97],[49])],(1,(0,10))) (0)=some ((2,((2,(1,(0,false))),((4,(5,(0,false))),((0,4),(0,(0,2)))))),0):=by
 rw[x0j];refine ob (l1b (n+22)) ?_;refine tf (by kernel_rfl) ?_;refine tt (by kernel_rfl) ?_;refine ob (p0n (n+0)) ?_;refine tf (by kernel_rfl) ?_;refine ob (x:=([([97],[49])],(4,((0,(0,[(2,(1,(0,false))),(4,(5,(0,false)))])),(([zS,zS,zS,zS],([zS,zS,zS,zS,zS],[zS,zS,zS,zS,zS,zS])),(0,(2,((2,(1,(0,false))),((4,(5,(0,false))),((0,4),(0,(0,2)))))))))))) (by kernel_rfl) ?_;refine ob (l1a (n+0)) ?_
 kernel_rfl
theorem k1y (n:Nat):q0k (n+36) (2,((2,(1,(0,false))),((4,(5,(0,false))),((0,4),(0,(0,2))))))=some (((0,2000),(0,1)),0):=by kernel_rfl
theorem k1x (n:Nat):a1b (n+37) a0l ([([97],[49])],(1,(0,10)))=some ((1,((2,((2,(1,(0,false))),((4,(5,(0,false))),((0,4),(0,(0,2)))))),(((0,2000),(0,1)),0))),0):=by
 rw[x0k];refine ob (l1f n) ?_;refine tf (by kernel_rfl) ?_;refine ob (w0v n) ?_;refine tf (by kernel_rfl) ?_;refine ob (k1z n) ?_;refine tf (by kernel_rfl) ?_;refine ob (k1y (n+0)) ?_
 kernel_rfl
theorem k1w (n:Nat):o0d (n+6) [] [([97],[50])]=some true:=by kernel_rfl
theorem k1v (n:Nat):u0d (n+36) a0l [([97],[50])]=some 0:=by
 rw[u0c];refine ob (g0a (n+19)) ?_;refine tf (by kernel_rfl) ?_;refine ob (k0r (n+27)) ?_
 kernel_rfl
theorem k1u (n:Nat):j0c (n+13) a0l [([97],[50])]=some (1,0):=by kernel_rfl
theorem k1t (n:Nat):d0g (n+35) (20,((10,(20,60)),((4,(5,6)),(3,9)))) ([([97],[50])],(5,((0,(0,[(3,(1,(0,false))),(4,(9,(0,false))),(5,(2,(0,false)))])),(([zS,zS,zS,zS],([zS,zS,zS,zS,zS],[zS,zS,zS,zS,zS,zS])),(0,(3,((3,(1,(0,false))),((5,(2,(0,false))),((0,10),(1,(0,2))))))))))) (0) (0) (1)=some ((3,((3,(1,(0,false))),((5,(2,(0,false))),((0,10),(1,(0,2)))))),0):=by kernel_rfl
theorem k1s (n:Nat):a1a (n+36) a0l ([([97],[50])],(1,(0,10))) (0)=some ((3,((3,(1,(0,false))),((5,(2,(0,false))),((0,10),(1,(0,2)))))),0):=by
 rw[x0j];refine ob (k1u (n+22)) ?_;refine tf (by kernel_rfl) ?_;refine tt (by kernel_rfl) ?_;refine ob (p0n (n+0)) ?_;refine tf (by kernel_rfl) ?_;refine ob (x:=([([97],[50])],(5,((0,(0,[(3,(1,(0,false))),(4,(9,(0,false))),(5,(2,(0,false)))])),(([zS,zS,zS,zS],([zS,zS,zS,zS,zS],[zS,zS,zS,zS,zS,zS])),(0,(3,((3,(1,(0,false))),((5,(2,(0,false))),((0,10),(1,(0,2)))))))))))) (by kernel_rfl) ?_;refine ob (k1t (n+0)) ?_
 kernel_rfl
theorem k1r (n:Nat):q0k (n+36) (3,((3,(1,(0,false))),((5,(2,(0,false))),((0,10),(1,(0,2))))))=some (((0,5000),(0,1)),0):=by kernel_rfl
theorem w0u (n:Nat):a1b (n+37) a0l ([([97],[50])],(1,(0,10)))=some ((1,((3,((3,(1,(0,false))),((5,(2,(0,false))),((0,10),(1,(0,2)))))),(((0,5000),(0,1)),0))),0):=by
 rw[x0k];refine ob (k1v n) ?_;refine tf (by kernel_rfl) ?_;refine ob (w0v n) ?_;refine tf (by kernel_rfl) ?_;refine ob (k1s n) ?_;refine tf (by kernel_rfl) ?_;refine ob (k1r (n+0)) ?_
 kernel_rfl
theorem k1q (n f:Nat):c0j (n+37) (f+1) ([],(0,(10,(a0l,(1,([([([97],[49])],(1,((2,((2,(1,(0,false))),((4,(5,(0,false))),((0,4),(0,(0,2)))))),(((0,2000),(0,1)),0)))),([([97],[50])],(1,((3,((3,(1,(0,false))),((5,(2,(0,false))),((0,10),(1,(0,2)))))),(((0,5000),(0,1)),0))))],([0,1],(2,(2,())))))))))=some (.inl (1,([([([97],[49])],(1,((2,((2,(1,(0,false))),((4,(5,(0,false))),((0,4),(0,(0,2)))))),(((0,2000),(0,1)),0)))),([([97],[50])],(1,((3,((3,(1,(0,false))),((5,(2,(0,false))),((0,10),(1,(0,2)))))),(((0,5000),(0,1)),0))))],()))):=by
 rw[c0q];refine tf (by kernel_rfl) ?_
 kernel_rfl
theorem k1p (n f:Nat):c0j (n+37) (f+2) ([],(0,(10,(a0l,(1,([([([97],[49])],(1,((2,((2,(1,(0,false))),((4,(5,(0,false))),((0,4),(0,(0,2)))))),(((0,2000),(0,1)),0))))],([0,1],(2,(1,())))))))))=some (.inl (1,([([([97],[49])],(1,((2,((2,(1,(0,false))),((4,(5,(0,false))),((0,4),(0,(0,2)))))),(((0,2000),(0,1)),0)))),([([97],[50])],(1,((3,((3,(1,(0,false))),((5,(2,(0,false))),((0,10),(1,(0,2)))))),(((0,5000),(0,1)),0))))],()))):=by
 rw[c0q];refine tt (by kernel_rfl) ?_;refine ob (x:=1) (by kernel_rfl) ?_;refine ob (x:=1) (by kernel_rfl) ?_;refine ob (x:=([([97],[50])],(5,((0,(0,[(3,(1,(0,false))),(4,(9,(0,false))),(5,(2,(0,false)))])),(([zS,zS,zS,zS],([zS,zS,zS,zS,zS],[zS,zS,zS,zS,zS,zS])),(0,(3,((3,(1,(0,false))),((5,(2,(0,false))),((0,10),(1,(0,2)))))))))))) (by kernel_rfl) ?_;refine ob (k1w (n+31)) ?_;refine tf (by kernel_rfl) ?_;refine ob (w0u n) ?_;refine tf (by kernel_rfl) ?_;refine tt (by kernel_rfl) ?_;refine tt (by kernel_rfl) ?_;exact k1q n f
theorem k1o (n f:Nat):c0j (n+37) (f+3) ([],(0,(10,(a0l,(1,([],([0,1],(2,(0,())))))))))=some (.inl (1,([([([97],[49])],(1,((2,((2,(1,(0,false))),((4,(5,(0,false))),((0,4),(0,(0,2)))))),(((0,2000),(0,1)),0)))),([([97],[50])],(1,((3,((3,(1,(0,false))),((5,(2,(0,false))),((0,10),(1,(0,2)))))),(((0,5000),(0,1)),0))))],()))):=by
 rw[c0q];refine tt (by kernel_rfl) ?_;refine ob (x:=0) (by kernel_rfl) ?_;refine ob (x:=0) (by kernel_rfl) ?_;refine ob (x:=([([97],[49])],(4,((0,(0,[(2,(1,(0,false))),(4,(5,(0,false)))])),(([zS,zS,zS,zS],([zS,zS,zS,zS,zS],[zS,zS,zS,zS,zS,zS])),(0,(2,((2,(1,(0,false))),((4,(5,(0,false))),((0,4),(0,(0,2)))))))))))) (by kernel_rfl) ?_;refine ob (l1g (n+31)) ?_;refine tf (by kernel_rfl) ?_;refine ob (k1x n) ?_;refine tf (by kernel_rfl) ?_;refine tt (by kernel_rfl) ?_;refine tt (by kernel_rfl) ?_;exact k1p n f
theorem p0m (n:Nat):i0h (n+38) a0l [] (1) (0) (10)=some ([([([97],[49])],(1,((2,((2,(1,(0,false))),((4,(5,(0,false))),((0,4),(0,(0,2)))))),(((0,2000),(0,1)),0)))),([([97],[50])],(1,((3,((3,(1,(0,false))),((5,(2,(0,false))),((0,10),(1,(0,2)))))),(((0,5000),(0,1)),0))))],(1,0)):=by
 rw[o0z];refine ob (g0a (n+21)) ?_;refine tf (by kernel_rfl) ?_;refine ob (l1j (n+26)) ?_;refine tf (by kernel_rfl) ?_;refine ob (w0x n) ?_;refine tf (by kernel_rfl) ?_;refine ob (w0w (n+27)) ?_;refine ob (j1d (h:=by unfold a0d;omega) (k1o n (a0d-3))) ?_;refine Eq.trans (a0n ..) ?_
 kernel_rfl
theorem k1n (n:Nat):y0g (n+38) (1) (2,((2,(1,(0,false))),((4,(5,(0,false))),((0,4),(0,(0,2))))))=some (1,(1,(2,((0,4),(0,(0,2)))))):=by kernel_rfl
theorem k1m (n:Nat):k0x (n+38) (1,(0,(0,((0,0),(0,(0,0)))))) (1,(1,(2,((0,4),(0,(0,2))))))=some ((1,(1,(2,((0,4),(0,(0,2)))))),0):=by kernel_rfl
theorem k1l (n:Nat):y0g (n+38) (1) (3,((3,(1,(0,false))),((5,(2,(0,false))),((0,10),(1,(0,2))))))=some (1,(1,(3,((0,10),(1,(0,2)))))):=by kernel_rfl
theorem k1k (n:Nat):k0x (n+38) (1,(1,(2,((0,4),(0,(0,2)))))) (1,(1,(3,((0,10),(1,(0,2))))))=some ((1,(2,(5,((0,14),(1,(0,4)))))),0):=by kernel_rfl
theorem k1j (n f:Nat):g0n (n+38) (f+1) ((0,(0,(0,((0,0),(0,(0,0)))))),(1,((1,(2,(5,((0,14),(1,(0,4)))))),([([([97],[49])],(1,((2,((2,(1,(0,false))),((4,(5,(0,false))),((0,4),(0,(0,2)))))),(((0,2000),(0,1)),0)))),([([97],[50])],(1,((3,((3,(1,(0,false))),((5,(2,(0,false))),((0,10),(1,(0,2)))))),(((0,5000),(0,1)),0))))],(2,(2,()))))))=some (.inl ((0,(0,(0,((0,0),(0,(0,0)))))),((1,(2,(5,((0,14),(1,(0,4)))))),()))):=by
 rw[h0w];refine tf (by kernel_rfl) ?_
 kernel_rfl
theorem k1i (n f:Nat):g0n (n+38) (f+2) ((0,(0,(0,((0,0),(0,(0,0)))))),(1,((1,(1,(2,((0,4),(0,(0,2)))))),([([([97],[49])],(1,((2,((2,(1,(0,false))),((4,(5,(0,false))),((0,4),(0,(0,2)))))),(((0,2000),(0,1)),0)))),([([97],[50])],(1,((3,((3,(1,(0,false))),((5,(2,(0,false))),((0,10),(1,(0,2)))))),(((0,5000),(0,1)),0))))],(2,(1,()))))))=some (.inl ((0,(0,(0,((0,0),(0,(0,0)))))),((1,(2,(5,((0,14),(1,(0,4)))))),()))):=by
 rw[h0w];refine tt (by kernel_rfl) ?_;refine ob (x:=([([97],[50])],(1,((3,((3,(1,(0,false))),((5,(2,(0,false))),((0,10),(1,(0,2)))))),(((0,5000),(0,1)),0))))) (by kernel_rfl) ?_;refine ob (x:=([([97],[50])],(1,((3,((3,(1,(0,false))),((5,(2,(0,false))),((0,10),(1,(0,2)))))),(((0,5000),(0,1)),0))))) (by kernel_rfl) ?_;refine ob (k1l (n+0)) ?_;refine ob (k1k (n+0)) ?_;refine tf (by kernel_rfl) ?_;exact k1j n f
theorem k1h (n f:Nat):g0n (n+38) (f+3) ((0,(0,(0,((0,0),(0,(0,0)))))),(1,((1,(0,(0,((0,0),(0,(0,0)))))),([([([97],[49])],(1,((2,((2,(1,(0,false))),((4,(5,(0,false))),((0,4),(0,(0,2)))))),(((0,2000),(0,1)),0)))),([([97],[50])],(1,((3,((3,(1,(0,false))),((5,(2,(0,false))),((0,10),(1,(0,2)))))),(((0,5000),(0,1)),0))))],(2,(0,()))))))=some (.inl ((0,(0,(0,((0,0),(0,(0,0)))))),((1,(2,(5,((0,14),(1,(0,4)))))),()))):=by
 rw[h0w];refine tt (by kernel_rfl) ?_;refine ob (x:=([([97],[49])],(1,((2,((2,(1,(0,false))),((4,(5,(0,false))),((0,4),(0,(0,2)))))),(((0,2000),(0,1)),0))))) (by kernel_rfl) ?_;refine ob (x:=([([97],[49])],(1,((2,((2,(1,(0,false))),((4,(5,(0,false))),((0,4),(0,(0,2)))))),(((0,2000),(0,1)),0))))) (by kernel_rfl) ?_;refine ob (k1n (n+0)) ?_;refine ob (k1m (n+0)) ?_;refine tf (by kernel_rfl) ?_;exact k1i n f
theorem k1g (n:Nat):y0h (n+39) a0l [] (1) (0) (10)=some ((1,(2,(5,((0,14),(1,(0,4)))))),0):=by
 rw[f1k];refine ob (p0m n) ?_;refine tf (by kernel_rfl) ?_;refine ob (j1d (h:=by unfold a0d;omega) (k1h n (a0d-3))) ?_;refine Eq.trans (a0n ..) ?_
 kernel_rfl
theorem k1f (n:Nat):o0c (n+11) [(1,([97],[50]))]=some 0:=by kernel_rfl
theorem k1e (n:Nat):o0d (n+6) [(1,([97],[50]))] [([97],[49])]=some false:=by kernel_rfl
theorem k1d (n:Nat):o0d (n+6) [(1,([97],[50]))] [([97],[50])]=some true:=by kernel_rfl
theorem i1j (n f:Nat):c0j (n+37) (f+1) ([(1,([97],[50]))],(0,(10,(a0l,(1,([([([97],[50])],(1,((3,((3,(1,(0,false))),((5,(2,(0,false))),((0,10),(1,(0,2)))))),(((0,5000),(0,1)),0))))],([0,1],(2,(2,())))))))))=some (.inl (1,([([([97],[50])],(1,((3,((3,(1,(0,false))),((5,(2,(0,false))),((0,10),(1,(0,2)))))),(((0,5000),(0,1)),0))))],()))):=by
 rw[c0q];refine tf (by kernel_rfl) ?_
 kernel_rfl
theorem i1i (n f:Nat):c0j (n+37) (f+2) ([(1,([97],[50]))],(0,(10,(a0l,(1,([],([0,1],(2,(1,())))))))))=some (.inl (1,([([([97],[50])],(1,((3,((3,(1,(0,false))),((5,(2,(0,false))),((0,10),(1,(0,2)))))),(((0,5000),(0,1)),0))))],()))):=by
 rw[c0q];refine tt (by kernel_rfl) ?_;refine ob (x:=1) (by kernel_rfl) ?_;refine ob (x:=1) (by kernel_rfl) ?_;refine ob (x:=([([97],[50])],(5,((0,(0,[(3,(1,(0,false))),(4,(9,(0,false))),(5,(2,(0,false)))])),(([zS,zS,zS,zS],([zS,zS,zS,zS,zS],[zS,zS,zS,zS,zS,zS])),(0,(3,((3,(1,(0,false))),((5,(2,(0,false))),((0,10),(1,(0,2)))))))))))) (by kernel_rfl) ?_;refine ob (k1d (n+31)) ?_;refine tf (by kernel_rfl) ?_;refine ob (w0u n) ?_;refine tf (by kernel_rfl) ?_;refine tt (by kernel_rfl) ?_;refine tt (by kernel_rfl) ?_;exact i1j n f
theorem i1h (n f:Nat):c0j (n+37) (f+3) ([(1,([97],[50]))],(0,(10,(a0l,(1,([],([0,1],(2,(0,())))))))))=some (.inl (1,([([([97],[50])],(1,((3,((3,(1,(0,false))),((5,(2,(0,false))),((0,10),(1,(0,2)))))),(((0,5000),(0,1)),0))))],()))):=by
 rw[c0q];refine tt (by kernel_rfl) ?_;refine ob (x:=0) (by kernel_rfl) ?_;refine ob (x:=0) (by kernel_rfl) ?_;refine ob (x:=([([97],[49])],(4,((0,(0,[(2,(1,(0,false))),(4,(5,(0,false)))])),(([zS,zS,zS,zS],([zS,zS,zS,zS,zS],[zS,zS,zS,zS,zS,zS])),(0,(2,((2,(1,(0,false))),((4,(5,(0,false))),((0,4),(0,(0,2)))))))))))) (by kernel_rfl) ?_;refine ob (k1e (n+31)) ?_;refine tt (by kernel_rfl) ?_;exact i1i n f
theorem i1g (n:Nat):i0h (n+38) a0l [(1,([97],[50]))] (1) (0) (10)=some ([([([97],[50])],(1,((3,((3,(1,(0,false))),((5,(2,(0,false))),((0,10),(1,(0,2)))))),(((0,5000),(0,1)),0))))],(1,0)):=by
 rw[o0z];refine ob (g0a (n+21)) ?_;refine tf (by kernel_rfl) ?_;refine ob (k1f (n+26)) ?_;refine tf (by kernel_rfl) ?_;refine ob (w0x n) ?_;refine tf (by kernel_rfl) ?_;refine ob (w0w (n+27)) ?_;refine ob (j1d (h:=by unfold a0d;omega) (i1h n (a0d-3))) ?_;refine Eq.trans (a0n ..) ?_
 kernel_rfl
theorem i1f (n f:Nat):f0w (n+38) (f+1) (0,([(1,((3,((3,(1,(0,false))),((5,(2,(0,false))),((0,10),(1,(0,2)))))),(((0,5000),(0,1)),0)))],([([([97],[50])],(1,((3,((3,(1,(0,false))),((5,(2,(0,false))),((0,10),(1,(0,2)))))),(((0,5000),(0,1)),0))))],(1,(1,())))))=some (.inl (0,([(1,((3,((3,(1,(0,false))),((5,(2,(0,false))),((0,10),(1,(0,2)))))),(((0,5000),(0,1)),0)))],()))):=by
 rw[g0y];refine tf (by kernel_rfl) ?_
 kernel_rfl
theorem i1e (n f:Nat):f0w (n+38) (f+2) (0,([],([([([97],[50])],(1,((3,((3,(1,(0,false))),((5,(2,(0,false))),((0,10),(1,(0,2)))))),(((0,5000),(0,1)),0))))],(1,(0,())))))=some (.inl (0,([(1,((3,((3,(1,(0,false))),((5,(2,(0,false))),((0,10),(1,(0,2)))))),(((0,5000),(0,1)),0)))],()))):=by
 rw[g0y];refine tt (by kernel_rfl) ?_;refine ob (x:=([([97],[50])],(1,((3,((3,(1,(0,false))),((5,(2,(0,false))),((0,10),(1,(0,2)))))),(((0,5000),(0,1)),0))))) (by kernel_rfl) ?_;refine ob (x:=([([97],[50])],(1,((3,((3,(1,(0,false))),((5,(2,(0,false))),((0,10),(1,(0,2)))))),(((0,5000),(0,1)),0))))) (by kernel_rfl) ?_;refine tt (by kernel_rfl) ?_;exact i1f n f
theorem i1d (n:Nat):n0j (n+39) a0l [(1,([97],[50]))] (1) (0) (10)=some ([(1,((3,((3,(1,(0,false))),((5,(2,(0,false))),((0,10),(1,(0,2)))))),(((0,5000),(0,1)),0)))],0):=by
 rw[w0e];refine ob (i1g n) ?_;refine ob (j1d (h:=by unfold a0d;omega) (i1e n (a0d-2))) ?_;refine Eq.trans (a0n ..) ?_
 kernel_rfl
theorem i1c (n:Nat):e0m (n+38) [([([97],[49])],(1,((2,((2,(1,(0,false))),((4,(5,(0,false))),((0,4),(0,(0,2)))))),(((0,2000),(0,1)),0)))),([([97],[50])],(1,((3,((3,(1,(0,false))),((5,(2,(0,false))),((0,10),(1,(0,2)))))),(((0,5000),(0,1)),0))))] (fun y1=>Go.Proofs.YtgkpkajaepphjaaGreatDoor.u0z (n+38) y1.fst y1.snd.fst)=some [([([97],[50])],(1,((3,((3,(1,(0,false))),((5,(2,(0,false))),((0,10),(1,(0,2)))))),(((0,5000),(0,1)),0)))),([([97],[49])],(1,((2,((2,(1,(0,false))),((4,(5,(0,false))),((0,4),(0,(0,2)))))),(((0,2000),(0,1)),0))))]:=by kernel_rfl
theorem i1b (n f:Nat):i0o (n+38) (f+1) ([[([97],[50])]],([([([97],[50])],(1,((3,((3,(1,(0,false))),((5,(2,(0,false))),((0,10),(1,(0,2)))))),(((0,5000),(0,1)),0))))],(1,(1,()))))=some (.inl ([[([97],[50])]],())):=by
 rw[j0b];refine tf (by kernel_rfl) ?_
 kernel_rfl
theorem i1a (n f:Nat):i0o (n+38) (f+2) ([],([([([97],[50])],(1,((3,((3,(1,(0,false))),((5,(2,(0,false))),((0,10),(1,(0,2)))))),(((0,5000),(0,1)),0))))],(1,(0,()))))=some (.inl ([[([97],[50])]],())):=by
 rw[j0b];refine tt (by kernel_rfl) ?_;refine ob (x:=([([97],[50])],(1,((3,((3,(1,(0,false))),((5,(2,(0,false))),((0,10),(1,(0,2)))))),(((0,5000),(0,1)),0))))) (by kernel_rfl) ?_;refine ob (x:=([([97],[50])],(1,((3,((3,(1,(0,false))),((5,(2,(0,false))),((0,10),(1,(0,2)))))),(((0,5000),(0,1)),0))))) (by kernel_rfl) ?_;refine tt (by kernel_rfl) ?_;exact i1b n f
theorem h1y (n:Nat):n0i (n+39) a0l [] (1) (0) (10) (1)=some ([[([97],[50])]],0):=by
 rw[s0u];refine ob (p0m n) ?_;refine tf (by kernel_rfl) ?_;refine tf (by kernel_rfl) ?_;refine ob (i1c (n+0)) ?_;refine tt (by kernel_rfl) ?_;refine ob (j1d (h:=by unfold a0d;omega) (i1a n (a0d-2))) ?_;refine Eq.trans (a0n ..) ?_
 kernel_rfl
theorem h1w (n:Nat):n0i (n+39) a0l [] (1) (0) (10) (-1)=some ([],1):=by
 rw[s0u];refine ob (p0m n) ?_;refine tf (by kernel_rfl) ?_;refine tt (by kernel_rfl) ?_
 kernel_rfl
theorem h1u (n:Nat):k0x (n+39) (1,(0,(0,((0,0),(0,(0,0)))))) (2,(0,(0,((0,0),(0,(0,0))))))=some ((0,(0,(0,((0,0),(0,(0,0)))))),2):=by kernel_rfl
theorem h1s (n:Nat):n0f (n+39) (14)=some (0,14):=by kernel_rfl
theorem h1q (n:Nat):n0f (n+39) (10)=some (0,10):=by kernel_rfl
theorem h1p (n:Nat):i0y (n+39) [([97],[50])] [([97],[50])]=some true:=by kernel_rfl
theorem p0o (n:Nat):u0n (n+40)=some true:=by
 rw[k1c];refine ob (s1p (n+0)) ?_;refine ob (s1o (n+0)) ?_;refine tf (by kernel_rfl) ?_;refine ob (m1r n) ?_;refine tf (by kernel_rfl) ?_;refine ob (l1k n) ?_;refine tf (by kernel_rfl) ?_;refine ob (k1g n) ?_;refine ob (i1d n) ?_;refine ob (h1y n) ?_;refine ob (h1w n) ?_;refine ob (h1u (n+0)) ?_;refine ob (h1s (n+0)) ?_;refine tt (by kernel_rfl) ?_;refine tt (by kernel_rfl) ?_;refine tt (by kernel_rfl) ?_
 refine ob (x:=(1,((3,((3,(1,(0,false))),((5,(2,(0,false))),((0,10),(1,(0,2)))))),(((0,5000),(0,1)),0)))) (by kernel_rfl) ?_;refine ob (h1q (n+0)) ?_;refine tt (by kernel_rfl) ?_;refine tt (by kernel_rfl) ?_;refine tt (by kernel_rfl) ?_;refine ob (x:=[([97],[50])]) (by kernel_rfl) ?_;refine ob (h1p (n+0)) ?_;refine tt (by kernel_rfl) ?_;refine tt (by kernel_rfl) ?_;refine tt (by kernel_rfl) ?_
 kernel_rfl
end Go.Proofs.YtgkpkajaepphjaaGreatDoor
namespace Go.Proofs.YtgkpkajaepphjaaGreatDoor
open Go.Flat Go.Plim
set_option linter.unusedVariables false
set_option linter.unusedSimpArgs false
theorem k2o (n:Nat) (ms:List Mat):∀(rest pre:List Mat) (f:Nat) (i len:Int),ms=pre++rest→i=pre.length→len=ms.length→rest.length<f→pre.length≤40 →
  l0h n f (ms,len,i,())=some (.inr 0)∨(l0h n f (ms,len,i,())=some (.inl ())∧ms.length≤40):=by
 intro rest;induction rest with
 | nil =>
  intro pre f i len hl hi hn hf hp;obtain ⟨f,rfl⟩:∃g,f=g+1:=⟨f-1,by simp at hf;omega⟩;rw[u0p,decide_eq_false (idxe hl hi hn),tff];exact .inr ⟨rfl,by rw[hl];simpa using hp⟩
 | cons x rest ih =>
  intro pre f i len hl hi hn hf hp;obtain ⟨f,rfl⟩:∃g,f=g+1:=⟨f-1,by simp at hf;omega⟩;rw[u0p,decide_eq_true (idx hl hi hn),tft,b0g hl hi,obs,tfd,tfd,tfd];by_cases h1:i=40
  ·rw[if_pos h1];exact .inl rfl
  rw[if_neg h1];by_cases h2:(1000:Int)<(x.2.1.length:Int)
  ·rw[if_pos h2];exact .inl rfl
  rw[if_neg h2];by_cases h3:(1000:Int)<(x.2.2.length:Int)
  ·rw[if_pos h3];exact .inl rfl
  rw[if_neg h3,w64 (x:=i+1) (by omega) (by omega)];exact ih (pre++[x]) f (i+1) len (idxl hl) (idxs hi) hn (by simp at hf;omega) (by simp;omega)
theorem n2a (n:Nat) (ms:List Mat) (hL:ms.length≤9223372036854775807):a1t (n+1) ms=some 0∨(a1t (n+1) ms=some 1∧ms.length≤40):=by
 rw[x1v];rcases k2o n ms ms [] a0d 0 _ rfl rfl rfl (by unfold a0d;omega) (by simp) with h | ⟨h,k⟩
 ·rw[h];exact .inl rfl
 ·rw[h];exact .inr ⟨rfl,k⟩
theorem mat_wf {m:Mat} (h:Wf a0r m):0≤m.1:=h.1.1
theorem l2x (s:Sta) (ms:List Mat) (t a b:Int):∀p∈(c0k s ms t a b).1,p.1.length≤16:=by
 intro p hp;unfold c0k at hp;by_cases h:StaOk s
 case neg=>rw[if_neg h] at hp;simp at hp
 rw[if_pos h] at hp;by_cases h1:c1w ms
 case neg=>rw[if_neg h1] at hp;simp at hp
 rw[if_pos h1] at hp;by_cases h2:(d0h s t a b).2=0
 case neg=>rw[if_neg h2] at hp;simp at hp
 rw[if_pos h2] at hp;obtain ⟨i,hi,hq⟩:=List.mem_filterMap.1 hp;obtain ⟨x,hx,_,hl⟩:=s1q h hi;unfold partOf at hq;simp only[hx] at hq;split at hq
 ·cases hq;exact hl.n1
 ·cases hq
theorem k2c (n:Nat) (m:List Prt) (hL:m.length≤1000000) (x y:List (List Lab)):∀(rest pre:List Prt) (f:Nat) (i len:Int),m=pre++rest→i=pre.length→len=m.length→rest.length<f →
  g0j n f (m.map (·.2),m,x,y,len,i,())=some (.inl (x,y,())):=by
 intro rest;induction rest with
 | nil =>
  intro pre f i len hl hi hn hf;obtain ⟨f,rfl⟩:∃g,f=g+1:=⟨f-1,by simp at hf;omega⟩;rw[l0f,decide_eq_false (idxe hl hi hn),tff]
 | cons p rest ih =>
  intro pre f i len hl hi hn hf;obtain ⟨f,rfl⟩:∃g,f=g+1:=⟨f-1,by simp at hf;omega⟩;have hm:m.map (·.2)=pre.map (·.2)++p.2::rest.map (·.2):=by rw[hl];simp
  rw[l0f,decide_eq_true (idx hl hi hn),tft,b0g hm (show i=((pre.map (·.2)).length:Int) by rw[List.length_map];exact hi),obs,b0g hl hi,obs,idxw hl hi (show m.length≤1000000000000 by omega)];simp only[decide_true,beq_self_eq_true,Bool.and_self,Bool.not_true,tff];exact ih (pre++[p]) f (i+1) len (idxl hl) (idxs hi) hn (by simp at hf;omega)
theorem k2b (n:Nat) (x:List (List Lab)) (hL:x.length≤1000000) (hx:∀l∈x,l.length≤16):∀(rest pre:List (List Lab)) (f:Nat) (i len:Int),x=pre++rest→i=pre.length→len=x.length→rest.length<f →
  g0i (n+2) f (x,x,len,i,())=some (.inl ()):=by
 intro rest;induction rest with
 | nil =>
  intro pre f i len hl hi hn hf;obtain ⟨f,rfl⟩:∃g,f=g+1:=⟨f-1,by simp at hf;omega⟩;rw[l0e,decide_eq_false (idxe hl hi hn),tff]
 | cons p rest ih =>
  intro pre f i len hl hi hn hf;obtain ⟨f,rfl⟩:∃g,f=g+1:=⟨f-1,by simp at hf;omega⟩;have hp:=hx p (by rw[hl];simp);rw[l0e,decide_eq_true (idx hl hi hn),tft,b0g hl hi,idxw hl hi (show x.length≤1000000000000 by omega)];simp only[obs,c1e n p p (by omega),decide_true,Bool.not_true,tff];exact ih (pre++[p]) f (i+1) len (idxl hl) (idxs hi) hn (by simp at hf;omega)
theorem f1l (n:Nat) (s:Sta) (ms:List Mat) (t a b m:Int) (hs:Wf a0i s) (hm:Wf (.slice a0r) ms):w0y (n+41) s ms t a b m=some true:=by
 have hw:=sta_wf hs;have hk:∀m∈ms,0≤m.1:=fun m h=>mat_wf (hm.2 m h)
 rw[c1g];rcases m2w (n+37) hw with h | ⟨h,_⟩
 ·rw[h,p0o n];rfl
 rw[h,obs,show (decide ((1:Int)=0))=false from rfl,tff];rcases n2a (n+39) ms hm.1 with h1 | ⟨h1,hlen⟩
 ·rw[h1,p0o n];rfl
 have hL:ms.length≤1000000:=by omega
 obtain ⟨S,hS⟩:=top_ex (c0k s ms t a b).1;rw[h1,obs,show (decide ((1:Int)=0))=false from rfl,tff,total_do (n+14) hw ms hL hk,obs,r23_do (n+25) hw ms hL hk,obs,f1j (n+14) hw ms hL hk,obs,b1r (n+26) hw ms hL hk,obs,j2w n hw ms hL hk t a b m hS,obs,r23_top (n+25) hw ms hL hk t a b m hS,obs];have hpl:=m0t s ms t a b;have hlab:=l2x s ms t a b;simp only[decide_true,beq_self_eq_true,Bool.and_self,Bool.not_true,tff,List.length_map]
 have hX:∀X:List (List Lab)×Int,X=(if (c0k s ms t a b).2.2=0 then (if m<0 then ([],1) else ((S.take (topN m (c0k s ms t a b).1.length)).map (·.1),0)) else ([],(c0k s ms t a b).2.2))→X.1.length≤1000000∧∀l∈X.1,l.length≤16:=by
  intro X hX;rw[hX];by_cases c1:(c0k s ms t a b).2.2=0
  case neg=>rw[if_neg c1];exact ⟨by simp,by simp⟩
  rw[if_pos c1];by_cases c2:m<0
  ·rw[if_pos c2];exact ⟨by simp,by simp⟩
  rw[if_neg c2];have hSl:=hS.perm.length_eq;refine ⟨by simp;omega,fun l hl => ?_⟩;obtain ⟨p,hp,rfl⟩:=List.mem_map.1 hl;exact hlab p (hS.perm.mem_iff.1 (List.mem_of_mem_take hp))
 obtain ⟨x1,x2⟩:=hX _ rfl;generalize (if (c0k s ms t a b).2.2=0 then (if m<0 then (([]:List (List Lab)),(1:Int)) else ((S.take (topN m (c0k s ms t a b).1.length)).map (·.1),0)) else ([],(c0k s ms t a b).2.2))=X at *
 rw[k2c (n+40) (c0k s ms t a b).1 (by omega) X.1 X.1 (c0k s ms t a b).1 [] a0d 0 _ rfl rfl rfl (by unfold a0d;omega),obs,a0n];simp only;rw[k2b (n+38) X.1 x1 x2 X.1 [] a0d 0 _ rfl rfl rfl (by unfold a0d;omega),obs,a0n,p0o n];rfl
end Go.Proofs.YtgkpkajaepphjaaGreatDoor
