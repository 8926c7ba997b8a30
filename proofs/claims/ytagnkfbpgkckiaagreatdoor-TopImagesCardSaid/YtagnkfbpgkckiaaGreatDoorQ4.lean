/-
 Plain proofs about the functions of this seat, part 4 of 4.
-/
import Derived.Test.YtagnkfbpgkckiaaGreatDoorQ3
import Derived.Test.YtagnkfbpgkckiaaGreatDoorTq
set_option linter.unusedVariables false
set_option linter.unusedSimpArgs false
namespace Go.Proofs.YtagnkfbpgkckiaaGreatDoor
open Go.Flat Go.Plim
def rateC (c:Cel):(Wd×Wd)×Int:=if c.2.2.2.2.2.2<1 then (((0,0),(0,0)),12) else rateV c.2.2.2.1 c.2.2.2.2.2.2
theorem k2y (n:Nat){c:Cel}(hw:WdOk c.2.2.2.1)(hs:c.2.2.2.2.2.2<=9223372036854775807):e1i (n+7) c=some (rateC c):=by
 rw[s1y,tfd];unfold rateC;by_cases h:c.2.2.2.2.2.2<1
 ·rw[q0z h,q0z h]
 ·rw[q0n h,q0n h,wu64 (by omega) (by omega),k2v n hw ⟨by omega,by omega⟩,obs]
theorem k2h (n:Nat)(c:Conf){s:Ser}(hw:SerW s){k:Int}(h0:0<=k)(h2:k<=2)(i j:Int):e0k (n+22) c s k i j=some (g1c c s k i j):=by
 unfold g1c;rcases (by omega:k=0\/k=1\/k=2) with e | e | e
 ·subst e;rw[q0z rfl];exact s1d n c hw i j
 ·subst e;rw[q0n (by decide),q0z rfl];exact s1c n c hw i j
 ·subst e;rw[q0n (by decide),q0n (by decide)];exact s1b n c hw i j
theorem span_ok {a b w:Int}(h:(s0t a b w).2.2=0):WidP w/\RngP a b/\a % w=0/\b % w=0/\s0t a b w=(a / w,(b / w,0))/\0<=a / w/\a / w<=b / w:=by
 unfold s0t at h ⊢;split at h
 ·rename_i h1;split at h
  ·rename_i h2;rw[q0z h1,q0z h2];exact ⟨h1.1,h1.2,h2.1,h2.2,rfl,Int.ediv_nonneg h1.2.1 (by have:=h1.1.1;omega),Int.ediv_le_ediv (by have:=h1.1.1;omega) (Int.le_of_lt h1.2.2.2)⟩
  ·cases h
 ·cases h
theorem one_ok {s:Sta}{k a b:Int}(h:oneV s k a b=0):(s0t a b (k0o s.1 k)).2.2=0/\(oldV s.2.1 (k0o s.1 k) (tierN s.1 k)).1<=(s0t a b (k0o s.1 k)).1:=by
 unfold oneV at h;split at h
 ·rename_i h1;split at h
  ·cases h
  ·exact ⟨h1,by omega⟩
 ·rename_i h1;exact absurd h h1
theorem which_ok {s:Sta}{a b:Int}:∀(d:Nat) (t why:Int),why≠0->(f0b s a b d t why).2=0->t<=(f0b s a b d t why).1/\(f0b s a b d t why).1<t+d/\oneV s ((f0b s a b d t why).1-1) a b=0:=by
 intro d;induction d with
 | zero=>intro t why hw h;exact absurd h hw
 | succ d ih =>
  intro t why hw h;rcases q2s s (t-1) a b with e | e | e | e
  ·rw[o2a e];exact ⟨by simp only;omega,by simp only;omega,e⟩
  ·rw[n2z e] at h;cases h
  ·rw[f2x e] at h ⊢;obtain ⟨h1,h2,h3⟩:=ih (t+1) why hw h;exact ⟨by omega,by omega,h3⟩
  ·rw[f2w e] at h ⊢;obtain ⟨h1,h2,h3⟩:=ih (t+1) 11 (by decide) h;exact ⟨by omega,by omega,h3⟩
theorem o2l {s:Sta}{t a b:Int}(h:(f0p s t a b).2=0):StaOk s/\1<=(f0p s t a b).1/\(f0p s t a b).1<=3/\oneV s ((f0p s t a b).1-1) a b=0/\0<=t/\t<=3/\(1<=t->(f0p s t a b).1=t):=by
 unfold f0p at h ⊢;by_cases hs:StaOk s
 case neg=>rw[q0n hs] at h;cases h
 rw[q0z hs] at h ⊢;by_cases h1:t<0\/3<t
 ·rw[q0z h1] at h;cases h
 rw[q0n h1] at h ⊢;by_cases h0:t=0
 ·rw[q0z h0] at h ⊢;obtain ⟨k1,k2,k3⟩:=which_ok 3 1 10 (by decide) h;exact ⟨hs,k1,by omega,k3,by omega,by omega,by omega⟩
 ·rw[q0n h0] at h ⊢;by_cases ho:oneV s (t-1) a b=0
  ·rw[q0z ho];exact ⟨hs,by simp only;omega,by simp only;omega,ho,by omega,by omega,fun _=>rfl⟩
  ·rw[q0n ho] at h;exact absurd h ho
noncomputable def n2f (s:Sta)(l:List Lab)(k a b:Int):Cel :=
 match p0m s l with
 | some i=>(g1c s.1 ((s.2.2.2[i]?).getD ser0) k (a / k0o s.1 k) (b / k0o s.1 k)).1
 | none=>z0
theorem found {s:Sta}(hs:StaOk s){l:List Lab}{i:Nat}(h:p0m s l=some i):∃x,s.2.2.2[i]? = some x/\x.1=l/\LvX s x/\SerOk s.1 x:=by
 obtain ⟨x,hx,h1,h2,_⟩:=h0w.1 h;exact ⟨x,hx,h1,h2,(t1m hs (q3y hx) h2).1⟩
theorem x1y (n:Nat){s:Sta}(hw:StaW s)(hs:StaOk s){q:List Lab×(Int×(Int×Int))}{k:Int}(h0:0<=k)(h2:k<=2)(ho:oneV s k q.2.2.1 q.2.2.2=0):s1u (n+23) s q k=some (n2f s q.1 k q.2.2.1 q.2.2.2,0):=by
 obtain ⟨l,t,a,b⟩:=q;simp only at ho ⊢;rw[d2h];simp only;rw[g2e (n+12) hw l,obs,tfn,tfd];unfold n2f;cases hf:p0m s l with
 | none=>rw[p1y hs.whole hf,q0n (show ¬((3:Int)=0) by decide)];rfl
 | some i =>
  obtain ⟨x,hx,hxl,hlv,hok⟩:=found hs hf;obtain ⟨s1,s2⟩:=one_ok ho;obtain ⟨_,_,_,_,e,e1,e2⟩:=span_ok s1;have hfine:=d2e hok k e1 e2;rw[p1x hs.whole hf,q0z rfl];simp only[hx,Option.getD_some];have fin:∀(x':Ser),x'=x->a0a (e0k (n+22) s.1 x' k (a / k0o s.1 k) (b / k0o s.1 k)) (fun r=>some r)=some ((g1c s.1 x k (a / k0o s.1 k) (b / k0o s.1 k)).1,0):=by
   rintro x' rfl;rw[k2h n s.1 (hw.at hx).1 h0 h2,obs];exact congrArg some (Prod.ext rfl hfine)
  rcases (by omega:k=0\/k=1\/k=2) with ek | ek | ek<;>subst ek
  ·rw[q2g rfl,tft]
   change a0a (j0m (n+22) a b (k0o s.1 0)) _=_
   rw[d1g (n+19),obs,e];simp only[decide_true,q3s,tff];rw[d1c hx,obs];exact fin x rfl
  ·rw[q1z (show ¬((1:Int)=0) by decide),tff,q2g rfl,tft]
   change a0a (j0m (n+22) a b (k0o s.1 1)) _=_
   rw[d1g (n+19),obs,e];simp only[decide_true,q3s,tff];rw[d1c hx,obs];exact fin x rfl
  ·rw[q1z (show ¬((2:Int)=0) by decide),tff,q1z (show ¬((2:Int)=1) by decide),tff,q2g rfl,tft]
   change a0a (j0m (n+22) a b (k0o s.1 2)) _=_
   rw[d1g (n+19),obs,e];simp only[decide_true,q3s,tff];rw[d1c hx,obs];exact fin x rfl
theorem mrgE_okc (a b:Cel):c0d (mrgE a b).1:=by
 unfold mrgE;split
 ·rename_i h;split
  ·rename_i ha;exact y1r h.1 h.2 ha
  ·exact t0o
 ·exact t0o
theorem e1h (ok:Prop)[Decidable ok](i j last w:Int)(t:List Slo)(now:Cel×Int):c0d (f0h ok i j last w t now).1:=by
 unfold f0h;split
 ·split
  ·exact t0o
  split
  ·exact t0o
  split
  ·exact t0o
  split
  ·exact r0d _ _ _
  split
  ·exact r0d _ _ _
  split
  ·exact t0o
  ·exact mrgE_okc _ _
 ·exact t0o
theorem k2x (c:Conf)(s:Ser)(k i j:Int):c0d (g1c c s k i j).1:=by
 unfold g1c;split
 ·exact e1h _ _ _ _ _ _ _
 split
 ·exact e1h _ _ _ _ _ _ _
 ·exact e1h _ _ _ _ _ _ _
theorem i2i (s:Sta)(l:List Lab)(k a b:Int):c0d (n2f s l k a b):=by
 unfold n2f;split
 ·exact k2x _ _ _ _ _
 ·exact t0o
theorem l1v {c:Cel}(h:c0d c):WdOk c.2.2.2.1/\c.2.2.2.2.2.2<=9223372036854775807:=by
 rcases h with rfl | h
 ·exact ⟨⟨by simp[z0],by simp[z0]⟩,by simp[z0]⟩
 ·have h1:=h.s1;have h2:=h.l.t1;have h3:=h.f.t0;exact ⟨h.w,by omega⟩
abbrev zr:Int×(Cel×((Wd×Wd)×Int)):=(0,(z0,(((0,0),(0,0)),0)))
noncomputable def doQ (s:Sta)(l:List Lab)(t a b:Int):(Int×(Cel×((Wd×Wd)×Int)))×Int :=
 if StaOk s then (if LabOk l then (if (f0p s t a b).2=0 then (((f0p s t a b).1,(n2f s l ((f0p s t a b).1-1) a b,rateC (n2f s l ((f0p s t a b).1-1) a b))),0) else (zr,(f0p s t a b).2)) else (zr,8)) else (zr,2)
theorem s1v (n:Nat){s:Sta}(hw:StaW s)(l:List Lab):k1h (n+15) s l=some (if StaOk s then (if LabOk l then 0 else 8) else 2):=by
 rw[x1z,f0e n hw,obs,tfn,tfd];by_cases h:StaOk s
 ·rw[q0z h,q0z h,q0z rfl,i0y (n+8) l,obs]
 ·rw[q0n h,q0n h,q0n (by decide)]
theorem s1w (n:Nat){s:Sta}(hw:StaW s)(q:List Lab×(Int×(Int×Int))):x0d (n+24) s q=some (doQ s q.1 q.2.1 q.2.2.1 q.2.2.2):=by
 rw[d2i,s1v (n+8) hw,obs,tfn,tfd];unfold doQ;by_cases h:StaOk s
 case neg=>rw[q0n h,q0n h,q0n (by decide)];rfl
 rw[q0z h,q0z h];by_cases hl:LabOk q.1
 case neg=>rw[q0n hl,q0n hl,q0n (by decide)];rfl
 rw[q0z hl,q0z hl,q0z rfl,p1e (n+4) hw,obs,tfn,tfd];by_cases ht:(f0p s q.2.1 q.2.2.1 q.2.2.2).2=0
 case neg=>rw[q0n ht,q0n ht];rfl
 obtain ⟨_,t1,t3,ho,_⟩:=o2l ht;have hr:=l1v (i2i s q.1 ((f0p s q.2.1 q.2.2.1 q.2.2.2).1-1) q.2.2.1 q.2.2.2);rw[q0z ht,q0z ht,w64 (by omega) (by omega),x1y n hw h (by omega) (by omega) ho,obs];simp only[decide_true,q3s,tff];rw[k2y (n+16) hr.1 hr.2,obs]
theorem serW_put {c:Conf}{s t:Ser}{e:Ev}(h:SerOk c s)(hp:putE c s e=(t,0)):SerW t/\SerM t:=by
 obtain ⟨q1,q2,q3,q4,q5⟩:=b1m h hp;have hc:=q1.fold.cok.rng;refine ⟨⟨?_,fun x hx=>EvW.of (q1.raw.f.ok x hx),q1.fold.w,?_⟩,?_⟩
 ·have:=q2.t0;have:=q2.t1;rw[q4];unfold I64;omega
 ·rcases q1.st with ⟨_,k⟩ | ⟨_,k⟩
  ·rw[k.opn];exact z0h
  ·have:=k.fit.i0;exact ⟨by unfold I64;omega,.of k.fit.n.ok⟩
 ·have l1:=q1.lab.n1;have l2:=q1.raw.len;have l3:=q1.raw.m1;have:=q1.fold.lens;exact ⟨by omega,by omega,by omega,by omega,by omega⟩
theorem write_w {s t:Sta}(hw:StaW s){l:List Lab}{e:Ev}{v:Int}(h:n0x s l e=(t,v)):StaW t:=by
 by_cases hv:v=0
 ·subst hv;obtain ⟨hg,i,x,b,y,hp,hput,rfl,_⟩:=i1b h;obtain ⟨p1,p2,p3,p4⟩:=b1w hg hp;have hy:=serW_put p1 hput;refine ⟨by simpa [setS] using hw.len,fun z hz => ?_⟩;rcases List.mem_or_eq_of_mem_set hz with k | k
  ·exact hw.ser z k
  ·rw[k];exact hy
 ·have:t=sta0:=by
   unfold n0x at h;split at h
   ·exact (congrArg Prod.fst h).symm
   ·split at h
    ·exact (congrArg Prod.fst h).symm
    ·exact absurd (congrArg Prod.snd h).symm hv
  rw[this];exact sta0_w
theorem writeV_w {s:Sta}(hw:StaW s)(l:List Lab)(e:Ev):StaW (n0x s l e).1:=write_w hw (v:=(n0x s l e).2) rfl
abbrev ActT:=Int×((List Lab×Ev)×Int)
theorem r1l (s:Sta)(now:Int):(w1t s now).1.2.2.2=s.2.2.2:=by
 unfold w1t;split<;>rfl
theorem w1s {s:Sta}(h:StaOk s)(now:Int):StaOk (w1t s now).1:=by
 unfold w1t;split
 ·rename_i hm;exact tick_ok hm
 ·exact h
theorem v2k {s:Sta}(hs:StaOk s)(hn:s.2.2.2.length<=8):(allB s).length<=1000000:=by
 have hp:=l0z hs.whole.1.rng;rw[(d1d hs).2.1];have:s.2.2.2.length*(plc s.1).toNat<=8*20000:=Nat.mul_le_mul hn (by omega);omega
theorem v2o (n:Nat){s:Sta}(hw:StaW s)(hs:StaOk s)(x:ActT)(hx:EvW x.2.1.2):∃t v,w0o (n+25) x s=some (t,v)/\StaW t/\StaOk t/\t.2.2.2.length=s.2.2.2.length:=by
 rw[r1d,tfd];by_cases h0:x.1=0
 ·obtain ⟨u,w,huw⟩:∃u w,n0x s x.2.1.1 x.2.1.2=(u,w):=⟨_,_,rfl⟩;have hW:=writeV_w hw x.2.1.1 x.2.1.2;rw[q0z h0,n2w n hw x.2.1.1 hx,obs,huw];rw[huw] at hW;dsimp only;by_cases k:w=0
  ·subst k;obtain ⟨i,y,old,f1,f2,f3,f4,f5⟩:=i2u huw;exact ⟨u,0,rfl,hW,c2b huw,by rw[f4];simp[setS]⟩
  ·rw[q1z k,tff];exact ⟨s,w,rfl,hw,hs,rfl⟩
 rw[q0n h0,tfd];by_cases h1:x.1=1
 ·rw[q0z h1,csc_tick (n+9) hw,obs];exact ⟨_,_,rfl,tickV_w hw _,w1s hs _,by rw[r1l]⟩
 rw[q0n h1,tfd];by_cases h2:x.1=2
 ·rw[q0z h2,sweep_do (n+8) hw,obs];have e:doV s=(o1k s,(((dueV s).length:Int),0)):=by unfold doV;rw[q0z hs]
  rw[e];exact ⟨_,_,rfl,sweptS_w hw,swept_ok hs,rfl⟩
 rw[q0n h2,tfd];by_cases h3:x.1=3
 ·rw[q0z h3,b2q (n+9) hw,obs];have e:i2g s=(l1o s,0):=by unfold i2g;rw[q0z hs]
  rw[e];exact ⟨_,_,rfl,cleanS_w hw,clean_ok hs,by simp[l1o]⟩
 rw[q0n h3];exact ⟨_,_,rfl,hw,hs,rfl⟩
def MatR (m:Int×Lab):Prop:=1<=m.1/\m.1<=3/\LabOk [m.2]
def a2x (ms:List (Int×Lab)):Prop:=ms.length<=16/\∀m∈ms,MatR m
noncomputable instance (m:Int×Lab):Decidable (MatR m):=Classical.propDecidable _
noncomputable instance (ms:List (Int×Lab)):Decidable (a2x ms):=Classical.propDecidable _
end Go.Proofs.YtagnkfbpgkckiaaGreatDoor
namespace Go.Plim
variable {α:Type}
def Stb (key:α->Int)(d' d:List α):Prop:=∀c:Int,(d'.filter fun x=>decide (key x=c))=d.filter fun x=>decide (key x=c)
structure Mvk (key:α->Int)(d d':List α)(a b:Nat):Prop where
 mv:Mv d d' a b
 st:Stb key d' d
theorem Mvk.perm {key:α->Int}{d d':List α}{a b:Nat}(h:Mvk key d d' a b):d'.Perm d:=h.mv.perm
theorem Mvk.out {key:α->Int}{d d':List α}{a b:Nat}(h:Mvk key d d' a b):∀i,(i<a\/b<=i)->d'[i]? = d[i]? := h.mv.out
theorem Mvk.len {key:α->Int}{d d':List α}{a b:Nat}(h:Mvk key d d' a b):d'.length=d.length:=h.mv.len
theorem Mvk.refl {key:α->Int}(d:List α)(a b:Nat):Mvk key d d a b:=⟨.refl _ _ _,fun _=>rfl⟩
theorem Mvk.trans {key:α->Int}{d d' d'':List α}{a b:Nat}(h:Mvk key d d' a b)(g:Mvk key d' d'' a b):Mvk key d d'' a b:=⟨h.mv.trans g.mv,fun c=>(g.st c).trans (h.st c)⟩
theorem Mvk.mono {key:α->Int}{d d':List α}{a b a' b':Nat}(h:Mvk key d d' a b)(ha:a'<=a)(hb:b<=b'):Mvk key d d' a' b':=⟨h.mv.mono ha hb,h.st⟩
theorem Mvk.all {key:α->Int}{d d':List α}{a b:Nat}{P:α->Prop}(h:Mvk key d d' a b)(hP:∀x∈d,P x):∀x∈d',P x:=fun x hx=>hP x (h.perm.mem_iff.1 hx)
end Go.Plim
namespace Go.Plim
variable {α:Type}
inductive Sel (key:α->Int):List α->List α->Prop
 | nil:Sel key [] []
 | step {A B:List α} {x:α} {out:List α} (hA:∀a∈A,key x<key a) (hB:∀b∈B,key x<=key b) (h:Sel key (A++B) out):Sel key (A++x::B) (x::out)
theorem Sel.perm {key:α->Int}{l out:List α}(h:Sel key l out):out.Perm l:=by
 induction h with
 | nil=>exact .refl _
 | step hA hB h ih=>exact (List.Perm.cons _ ih).trans List.perm_middle.symm
def rem:List α->List Bool->List α
 | x::l,d::ds=>if d=true then rem l ds else x::rem l ds
 | _,_=>[]
end Go.Plim
namespace Go.Proofs.YtagnkfbpgkckiaaGreatDoor
open Go.Flat Go.Plim
theorem s2c (n:Nat){c:Conf}(h:OkC c):f1e (n+4) c=some (idxC c):=by
 have hl:=h.rng.log;rw[v1f,n0m n h];simp only[obs,tfd,tfn];rw[q0z trivial,v0p (n+2) _ 120 (by omega) (by omega) (by omega) (by omega)];rfl
theorem home_own (n:Nat){c:Conf}(h:OkC c):l1n (n+5) c=some (hom c):=by
 have hl:=h.rng.log;have hi:=idx_range h.rng;rw[a2d,n0m (n+1) h,s2c n h];simp only[obs,tfd,tfn];rw[q0z trivial,w64 (x:=1+idxC c) (by omega) (by omega),w64 (by omega) (by omega)];rfl
theorem q2e (n:Nat){c:Conf}(h:OkC c):l0e (n+4) c=some (plc c):=by
 rw[c1y,n0m n h,b1v (n+1) h.rng];simp only[obs,tfd,tfn];rw[q0z trivial]
theorem size_own (n:Nat){c:Conf}(h:OkC c):c1x (n+6) c=some (sizR c):=by
 obtain ⟨e,_⟩:=siz_wrap h;rw[g1m,n0m (n+2) h,home_own n h,q2e (n+1) h];simp only[obs,tfd,tfn,e];rw[q0z trivial];unfold sizR;by_cases hs:16777216<siz c
 ·rw[q0z hs,q0z hs]
 ·rw[q0n hs,q0n hs]
theorem c2i (n:Nat){c:Conf}(h:¬OkC c):c1x (n+6) c=some (0,2):=by
 rw[g1m,v1j (n+2) h];simp only[obs,tfd,tfn];rw[q0n (by decide)]
theorem b2w (n:Nat)(c:Conf):j1o (n+7) c=some (q2y c):=by
 rw[j2m];unfold q2y;by_cases h:OkC c
 case neg=>rw[c2i n h,q0n h];rfl
 rw[size_own n h,q0z h,obs,tfn,tfd];by_cases h1:(sizR c).2=0
 ·rw[q0z h1,q0z h1,cap_test h];rfl
 ·rw[q0n h1,q0n h1];rfl
theorem lvl12_0 (n:Nat):r2s (n+39)=some e2r:=by kernel_rfl
theorem lvl12_1 (n:Nat):j1o (n+39) e2r=some ((e2r,(0,((-1),[ser0,ser0,ser0]))),0):=by kernel_rfl
theorem lvl12_2 (n:Nat):u0u (n+39) (e2r,(0,((-1),[ser0,ser0,ser0]))) [([97],[])] (2,(1,(0,false)))=some (S12,0):=by kernel_rfl
theorem lvl12_3 (n:Nat):d0w (n+14) S12=some 0:=by kernel_rfl
theorem x12_w:SerW x12/\SerM x12:=by
 have r:∀k,∀s∈List.replicate k s0,SloW s:=fun k s hs=>by rw[(List.mem_replicate.1 hs).2];exact z0h
 have e:EvW (2,(1,(0,false))):=⟨by unfold I64;decide,by decide,by unfold I64;decide⟩;refine ⟨⟨by unfold I64;decide,fun y hy => ?_,⟨r 4,r 5,r 6⟩,⟨by unfold I64;decide,⟨by unfold I64;decide,e,e,?_,by unfold I64;decide,by unfold I64;decide,by unfold I64;decide⟩⟩⟩,⟨by decide,by decide,by decide,by decide,by decide⟩⟩
 ·rw[List.mem_singleton.1 hy];exact e
 ·exact ⟨by decide,by decide⟩
theorem S12_w:StaW S12:=⟨by decide,fun x hx=>by
 rcases q3k.1 hx with rfl | hx
 ·exact x12_w
 rcases q3k.1 hx with rfl | hx
 ·exact ⟨p2k,p2l⟩
 rw[List.mem_singleton.1 hx];exact ⟨p2k,p2l⟩⟩
theorem a2v:StaOk S12:=by
 have h:=lvl12_3 0;rw[f0e 0 S12_w] at h;by_cases k:StaOk S12
 ·exact k
 ·rw[q0n k] at h;cases h
theorem plc12:plc e2r=8:=by decide
theorem d1i (n:Nat):u0x (n+40)=some true:=by
 have hlen:(allB S12).length=25:=by rw[(d1d a2v).2.1];show 1+3*(plc e2r).toNat=25;rw[plc12];rfl
 rw[j1c,lvl12_0,obs,lvl12_1,obs,q2g rfl,q3s,tff,lvl12_2,obs];dsimp only;rw[v1u (n+23) S12_w,q0z a2v,obs,tot12x,obs];dsimp only;rw[hlen];rfl
theorem small_l4 (n:Nat)(acts:List ActT)(hL:acts.length<=9223372036854775807)(hw:∀x∈acts,x.2.1.1.length<=9223372036854775807):∀(rest pre:List ActT) (f:Nat) (ix len:Int),acts=pre++rest->ix=pre.length->len=acts.length->rest.length<f ->
  g0b (n+1) f (acts,len,ix,())=some (.inl ())\/g0b (n+1) f (acts,len,ix,())=some (.inr false):=by
 intro rest;induction rest with
 | nil =>
  intro pre f ix len ha hi hl hf;obtain ⟨f,rfl⟩:=FSu hf;subst hi;subst hl;rw[q3v] at ha;subst ha;rw[o0b,q1z (by omega),tff];exact .inl rfl
 | cons x r ih =>
  intro pre f ix len ha hi hl hf;obtain ⟨f,rfl⟩:=FSu hf;have hlen:acts.length=pre.length+(r.length+1):=by rw[ha];simp
  subst hi;subst hl;have hat:at? acts (pre.length:Int)=some x:=by
   rw[ha];exact c0c (pre:=pre) (rest:=r) rfl rfl
  rw[o0b,q2g (by omega),tft,hat,obs];rcases l1a n x.2.1.1 (hw x (by rw[ha];simp)) with h | h
  ·rw[h];exact .inr rfl
  ·rw[h,obs,show (decide ((1:Int)=0))=false from rfl,tff,w64 (by omega) (by omega)];exact ih (pre++[x]) f ((pre.length:Int)+1) (acts.length:Int) (by rw[ha];simp) (by simp) rfl (by simp at hf;omega)
theorem j2t (n:Nat)(acts:List ActT)(hL:acts.length<=9223372036854775807)(hw:∀x∈acts,x.2.1.1.length<=9223372036854775807):n0g (n+2) acts=some false\/(n0g (n+2) acts=some true/\acts.length<=40):=by
 rw[g1v,tfd];by_cases h:(40:Int)<((acts.length:Nat):Int)
 ·rw[q0z h];exact .inl rfl
 rw[q0n h];rcases small_l4 n acts hL hw acts [] a0b 0 _ rfl rfl rfl (by unfold a0b;omega) with e | e
 ·rw[e];exact .inr ⟨rfl,by omega⟩
 ·rw[e];exact .inl rfl
theorem fits11 (n:Nat)(c:Conf):w0n (n+8) c=some false\/(w0n (n+8) c=some true/\(q2y c).2=0):=by
 rw[r1c,b2w n,obs,tfd];by_cases h:(q2y c).2=0
 case neg=>rw[q0n h];exact .inl rfl
 rw[q0z h];simp only[tfd];by_cases h1:(((q2y c).1.2.2.2.length:Nat):Int)<=8
 case neg=>rw[q0n h1];exact .inl rfl
 rw[q0z h1];by_cases h2:c.1<=60
 case neg=>rw[q0n h2];exact .inl rfl
 rw[q0z h2];by_cases h3:c.2.2.1.1<=40
 case neg=>rw[q0n h3];exact .inl rfl
 rw[q0z h3];by_cases h4:c.2.2.1.2.1<=40
 case neg=>rw[q0n h4];exact .inl rfl
 rw[q0z h4];by_cases h5:c.2.2.1.2.2<=40
 ·rw[q2g h5];exact .inr ⟨rfl,h⟩
 ·rw[q1z h5];exact .inl rfl
theorem acts_wf {acts:List ActT}(ha:Wf (.slice n0z) acts):acts.length<=9223372036854775807/\(∀x∈acts,x.2.1.1.length<=9223372036854775807)/\∀x∈acts,EvW x.2.1.2 :=
 ⟨q4n ha.1 (by decide),fun x hx=>q4n (ha.2 x hx).2.1.1.1 (by decide),fun x hx=>ev_wf (ha.2 x hx).2.1.2⟩
theorem m2e (n:Nat)(q:List Lab×(Int×(Int×Int)))(acts:List ActT)(hL:acts.length<=40)(he:∀x∈acts,EvW x.2.1.2):∀(rest pre:List ActT) (f:Nat) (s:Sta) (ix len:Int),acts=pre++rest->ix=pre.length->len=acts.length->rest.length<f->StaW s->StaOk s ->
  ∃t,h0d (n+25) f (s,q,s,acts,len,ix,())=some (.inl (t,q,t,()))/\StaW t/\StaOk t:=by
 intro rest;induction rest with
 | nil =>
  intro pre f s ix len ha hi hl hf hw hs;obtain ⟨f,rfl⟩:=FSu hf;subst hi;subst hl;rw[q3v] at ha;subst ha;rw[m0q,q1z (by omega),tff];exact ⟨s,rfl,hw,hs⟩
 | cons x r ih =>
  intro pre f s ix len ha hi hl hf hw hs;obtain ⟨f,rfl⟩:=FSu hf;have hlen:acts.length=pre.length+(r.length+1):=by rw[ha];simp
  subst hi;subst hl;obtain ⟨t,v,e1,e2,e3,_⟩:=v2o n hw hs x (he x (by rw[ha];simp));have hat:at? acts (pre.length:Int)=some x:=by
   rw[ha];exact c0c (pre:=pre) (rest:=r) rfl rfl
  rw[m0q,q2g (by omega),tft,hat,obs,e1,obs,obs,q2g rfl,q3s,tff,w64 (by omega) (by omega)];obtain ⟨u,f1,f2,f3⟩:=ih (pre++[x]) f t ((pre.length:Int)+1) (acts.length:Int) (by rw[ha];simp) (by simp) rfl (by simp at hf;omega) e2 e3;exact ⟨u,f1,f2,f3⟩
theorem m1l (n:Nat)(s:Sta)(acts:List ActT)(q:List Lab×(Int×(Int×Int)))(hs:Wf a0i s)(ha:Wf (.slice n0z) acts)(hq:Wf a1n q):a1p (n+41) s acts q=some true:=by
 have hw:=sta_wf hs;obtain ⟨a1,a2,a3⟩:=acts_wf ha;rw[g1w,d1i n,obs,q3s,tff];rcases r2p (n+37) hw with h | ⟨h,h8⟩
 ·rw[h];rfl
 rw[h,obs,show (decide ((1:Int)=0))=false from rfl,tff,f0e (n+26) hw,obs];by_cases hok:StaOk s
 case neg=>rw[q0n hok];rfl
 rw[q0z hok,show (decide ((0:Int)=0))=true from rfl,q3s,tff];rcases fits11 (n+32) s.1 with h2 | ⟨h2,_⟩
 ·rw[h2];rfl
 rw[h2,obs,q3s,tff];rcases j2t (n+38) acts a1 a2 with h3 | ⟨h3,h40⟩
 ·rw[h3];rfl
 rw[h3,obs,q3s,tff];rcases l1a (n+39) q.1 (q4n hq.1.1 (by decide)) with h4 | h4
 ·rw[h4];rfl
 rw[h4,obs,show (decide ((1:Int)=0))=false from rfl,tff,v1u (n+24) hw,q0z hok,obs];dsimp only;rw[n1n (n+23) hw hok (v2k hok h8),obs,show (decide ((0:Int)=0))=true from rfl,q3s,tff,tff];obtain ⟨t,g1,g2,g3⟩:=m2e (n+15) q acts h40 a3 acts [] a0b s 0 _ rfl rfl rfl (by unfold a0b;omega) hw hok;rw[g1,obs,a0r];dsimp only;rw[v1u (n+24) g2,q0z g3,obs,obs,s1w (n+16) g2,obs,obs];dsimp only;have hl:(allB t).length<=1000000000000:=by
  have hp:=l0z g3.whole.1.rng;rw[(d1d g3).2.1];have:=g3.whole.len;have:t.2.2.2.length*(plc t.1).toNat<=1000000*20000:=Nat.mul_le_mul (by omega) (by omega);omega
 rw[p2n (n+39) _ _ hl,q2g rfl,obs];simp only[decide_true,tft,beq_self_eq_true,Bool.and_self]
end Go.Proofs.YtagnkfbpgkckiaaGreatDoor
