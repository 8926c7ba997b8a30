/-
 Plain proofs about the functions of this seat, part 4 of 4.
-/
import Derived.Test.YtgkpkajaepphjaaGreatDoorQ3
import Derived.Test.YtgkpkajaepphjaaGreatDoorTr
namespace Go.Proofs.YtgkpkajaepphjaaGreatDoor
open Go.Flat Go.Plim
set_option linter.unusedVariables false
set_option linter.unusedSimpArgs false
def rateC (c:Cel):(Wd×Wd)×Int:=if c.2.2.2.2.2.2<1 then (((0,0),(0,0)),12) else rateV c.2.2.2.1 c.2.2.2.2.2.2
theorem f2k (n:Nat) {c:Cel} (hw:WdOk c.2.2.2.1) (hs:c.2.2.2.2.2.2≤9223372036854775807):a1f (n+7) c=some (rateC c):=by
 rw[n1q,tfd];unfold rateC;by_cases h:c.2.2.2.2.2.2<1
 ·rw[if_pos h,if_pos h]
 ·rw[if_neg h,if_neg h,wu64 (by omega) (by omega),e2u n hw ⟨by omega,by omega⟩,obs]
theorem e2f (n:Nat) (c:Conf) {s:Ser} (hw:SerW s) {k:Int} (h0:0≤k) (h2:k≤2) (i j:Int):d0m (n+22) c s k i j=some (rangeK c s k i j):=by
 unfold rangeK;rcases (by omega:k=0∨k=1∨k=2) with e | e | e
 ·subst e;rw[if_pos rfl];exact m1j n c hw i j
 ·subst e;rw[if_neg (by decide),if_pos rfl];exact m1i n c hw i j
 ·subst e;rw[if_neg (by decide),if_neg (by decide)];exact m1h n c hw i j
theorem i0o {a b w:Int} (h:(n0f a b w).2.2=0):WidP w∧RngP a b∧a % w=0∧b % w=0∧n0f a b w=(a / w,(b / w,0))∧0≤a / w∧a / w≤b / w:=by
 unfold n0f at h ⊢;split at h
 ·rename_i h1;split at h
  ·rename_i h2;rw[if_pos h1,if_pos h2];exact ⟨h1.1,h1.2,h2.1,h2.2,rfl,Int.ediv_nonneg h1.2.1 (by have:=h1.1.1;omega),Int.ediv_le_ediv (by have:=h1.1.1;omega) (Int.le_of_lt h1.2.2.2)⟩
  ·cases h
 ·cases h
theorem o0k {s:Sta} {k a b:Int} (h:oneV s k a b=0):(n0f a b (a0i s.1 k)).2.2=0∧(oldV s.2.1 (a0i s.1 k) (z0d s.1 k)).1≤(n0f a b (a0i s.1 k)).1:=by
 unfold oneV at h;split at h
 ·rename_i h1;split at h
  ·cases h
  ·exact ⟨h1,by omega⟩
 ·rename_i h1;exact absurd h h1
theorem which_ok {s:Sta} {a b:Int}:∀(d:Nat) (t why:Int),why≠0→(d0w s a b d t why).2=0→t≤(d0w s a b d t why).1∧(d0w s a b d t why).1<t+d∧oneV s ((d0w s a b d t why).1-1) a b=0:=by
 intro d;induction d with
 | zero=>intro t why hw h;exact absurd h hw
 | succ d ih =>
  intro t why hw h;rcases k2r s (t-1) a b with e | e | e | e
  ·rw[h2w e];exact ⟨by simp only;omega,by simp only;omega,e⟩
  ·rw[h2v e] at h;cases h
  ·rw[a2i e] at h ⊢;obtain ⟨h1,h2,h3⟩:=ih (t+1) why hw h;exact ⟨by omega,by omega,h3⟩
  ·rw[a2h e] at h ⊢;obtain ⟨h1,h2,h3⟩:=ih (t+1) 11 (by decide) h;exact ⟨by omega,by omega,h3⟩
theorem v1s {s:Sta} {t a b:Int} (h:(j0l s t a b).2=0):StaOk s∧1≤(j0l s t a b).1∧(j0l s t a b).1≤3∧oneV s ((j0l s t a b).1-1) a b=0∧0≤t∧t≤3∧(1≤t→(j0l s t a b).1=t):=by
 unfold j0l at h ⊢;by_cases hs:StaOk s
 case neg=>rw[if_neg hs] at h;cases h
 rw[if_pos hs] at h ⊢;by_cases h1:t<0∨3<t
 ·rw[if_pos h1] at h;cases h
 rw[if_neg h1] at h ⊢;by_cases h0:t=0
 ·rw[if_pos h0] at h ⊢;obtain ⟨k1,k2,k3⟩:=which_ok 3 1 10 (by decide) h;exact ⟨hs,k1,by omega,k3,by omega,by omega,by omega⟩
 ·rw[if_neg h0] at h ⊢;by_cases ho:oneV s (t-1) a b=0
  ·rw[if_pos ho];exact ⟨hs,by simp only;omega,by simp only;omega,ho,by omega,by omega,fun _=>rfl⟩
  ·rw[if_neg ho] at h;exact absurd h ho
noncomputable def j1c (s:Sta) (l:List Lab) (k a b:Int):Cel :=
 match i0x s l with
 | some i=>(rangeK s.1 ((s.2.2.2[i]?).getD ser0) k (a / a0i s.1 k) (b / a0i s.1 k)).1
 | none=>z0
theorem found {s:Sta} (hs:StaOk s) {l:List Lab} {i:Nat} (h:i0x s l=some i):∃x,s.2.2.2[i]? = some x∧x.1=l∧LvX s x∧SerOk s.1 x:=by
 obtain ⟨x,hx,h1,h2,_⟩:=o0v.1 h;exact ⟨x,hx,h1,h2,(y1t hs (List.mem_of_getElem? hx) h2).1⟩
theorem s1u (n:Nat) {s:Sta} (hw:StaW s) (hs:StaOk s) {q:List Lab×(Int×(Int×Int))} {k:Int} (h0:0≤k) (h2:k≤2) (ho:oneV s k q.2.2.1 q.2.2.2=0):n1n (n+23) s q k=some (j1c s q.1 k q.2.2.1 q.2.2.2,0):=by
 obtain ⟨l,t,a,b⟩:=q;simp only at ho ⊢;rw[y1g];simp only;rw[l1u (n+12) hw l,obs,tfn,tfd];unfold j1c;cases hf:i0x s l with
 | none=>rw[a1w hs.whole hf,if_neg (show ¬((3:Int)=0) by decide)];rfl
 | some i =>
  obtain ⟨x,hx,hxl,hlv,hok⟩:=found hs hf;obtain ⟨s1,s2⟩:=o0k ho;obtain ⟨_,_,_,_,e,e1,e2⟩:=i0o s1;have hfine:=f1b hok k e1 e2;rw[a1v hs.whole hf,if_pos rfl];simp only[hx,Option.getD_some];have fin:∀(x':Ser),x'=x→a0a (d0m (n+22) s.1 x' k (a / a0i s.1 k) (b / a0i s.1 k)) (fun r=>some r)=some ((rangeK s.1 x k (a / a0i s.1 k) (b / a0i s.1 k)).1,0):=by
   rintro x' rfl;rw[e2f n s.1 (hw.at hx).1 h0 h2,obs];exact congrArg some (Prod.ext rfl hfine)
  rcases (by omega:k=0∨k=1∨k=2) with ek | ek | ek<;>subst ek
  ·rw[decide_eq_true rfl,tft]
   change a0a (e0t (n+22) a b (a0i s.1 0)) _=_
   rw[v0d (n+19),obs,e];simp only[decide_true,Bool.not_true,tff];rw[u0f hx,obs];exact fin x rfl
  ·rw[decide_eq_false (show ¬((1:Int)=0) by decide),tff,decide_eq_true rfl,tft]
   change a0a (e0t (n+22) a b (a0i s.1 1)) _=_
   rw[v0d (n+19),obs,e];simp only[decide_true,Bool.not_true,tff];rw[u0f hx,obs];exact fin x rfl
  ·rw[decide_eq_false (show ¬((2:Int)=0) by decide),tff,decide_eq_false (show ¬((2:Int)=1) by decide),tff,decide_eq_true rfl,tft]
   change a0a (e0t (n+22) a b (a0i s.1 2)) _=_
   rw[v0d (n+19),obs,e];simp only[decide_true,Bool.not_true,tff];rw[u0f hx,obs];exact fin x rfl
theorem mrgE_okc (a b:Cel):b0d (mrgE a b).1:=by
 unfold mrgE;split
 ·rename_i h;split
  ·rename_i ha;exact u0w h.1 h.2 ha
  ·exact i0i
 ·exact i0i
theorem z0y (ok:Prop) [Decidable ok] (i j last w:Int) (t:List Slo) (now:Cel×Int):b0d (b0r ok i j last w t now).1:=by
 unfold b0r;split
 ·split
  ·exact i0i
  split
  ·exact i0i
  split
  ·exact i0i
  split
  ·exact n0t _ _ _
  split
  ·exact n0t _ _ _
  split
  ·exact i0i
  ·exact mrgE_okc _ _
 ·exact i0i
theorem k1d (c:Conf) (s:Ser) (k i j:Int):b0d (rangeK c s k i j).1:=by
 unfold rangeK;split
 ·exact z0y _ _ _ _ _ _ _
 split
 ·exact z0y _ _ _ _ _ _ _
 ·exact z0y _ _ _ _ _ _ _
theorem cellQ_ok (s:Sta) (l:List Lab) (k a b:Int):b0d (j1c s l k a b):=by
 unfold j1c;split
 ·exact k1d _ _ _ _ _
 ·exact i0i
theorem z1v {c:Cel} (h:b0d c):WdOk c.2.2.2.1∧c.2.2.2.2.2.2≤9223372036854775807:=by
 rcases h with rfl | h
 ·exact ⟨⟨by simp[z0],by simp[z0]⟩,by simp[z0]⟩
 ·have h1:=h.s1;have h2:=h.l.t1;have h3:=h.f.t0;exact ⟨h.w,by omega⟩
abbrev zr:Int×(Cel×((Wd×Wd)×Int)):=(0,(z0,(((0,0),(0,0)),0)))
noncomputable def doQ (s:Sta) (l:List Lab) (t a b:Int):(Int×(Cel×((Wd×Wd)×Int)))×Int :=
 if StaOk s then (if LabOk l then (if (j0l s t a b).2=0 then (((j0l s t a b).1,(j1c s l ((j0l s t a b).1-1) a b,rateC (j1c s l ((j0l s t a b).1-1) a b))),0) else (zr,(j0l s t a b).2)) else (zr,8)) else (zr,2)
theorem n1o (n:Nat) {s:Sta} (hw:StaW s) (l:List Lab):f1r (n+15) s l=some (if StaOk s then (if LabOk l then 0 else 8) else 2):=by
 rw[s1v,h0m n hw,obs,tfn,tfd];by_cases h:StaOk s
 ·rw[if_pos h,if_pos h,if_pos rfl,q0g (n+8) l,obs]
 ·rw[if_neg h,if_neg h,if_neg (by decide)]
theorem query_do (n:Nat) {s:Sta} (hw:StaW s) (q:List Lab×(Int×(Int×Int))):n1r (n+24) s q=some (doQ s q.1 q.2.1 q.2.2.1 q.2.2.2):=by
 rw[y1h,n1o (n+8) hw,obs,tfn,tfd];unfold doQ;by_cases h:StaOk s
 case neg=>rw[if_neg h,if_neg h,if_neg (by decide)];rfl
 rw[if_pos h,if_pos h];by_cases hl:LabOk q.1
 case neg=>rw[if_neg hl,if_neg hl,if_neg (by decide)];rfl
 rw[if_pos hl,if_pos hl,if_pos rfl,f2j (n+4) hw,obs,tfn,tfd];by_cases ht:(j0l s q.2.1 q.2.2.1 q.2.2.2).2=0
 case neg=>rw[if_neg ht,if_neg ht];rfl
 obtain ⟨_,t1,t3,ho,_⟩:=v1s ht;have hr:=z1v (cellQ_ok s q.1 ((j0l s q.2.1 q.2.2.1 q.2.2.2).1-1) q.2.2.1 q.2.2.2);rw[if_pos ht,if_pos ht,w64 (by omega) (by omega),s1u n hw h (by omega) (by omega) ho,obs];simp only[decide_true,Bool.not_true,tff];rw[f2k (n+16) hr.1 hr.2,obs]
def inR (a b:Int) (e:Ev):Bool:=decide (a≤e.1)&&decide (e.1<b)
theorem l2l (n:Nat) {c:Conf} (h:OkC c):b1b (n+4) c=some (idxC c):=by
 have hl:=h.rng.log;rw[p1h,y0q n h];simp only[obs,tfd,tfn];rw[if_pos trivial,s0a (n+2) _ 120 (by omega) (by omega) (by omega) (by omega)];rfl
theorem home_own (n:Nat) {c:Conf} (h:OkC c):g1u (n+5) c=some (hom c):=by
 have hl:=h.rng.log;have hi:=idx_range h.rng;rw[u1p,y0q (n+1) h,l2l n h];simp only[obs,tfd,tfn];rw[if_pos trivial,w64 (x:=1+idxC c) (by omega) (by omega),w64 (by omega) (by omega)];rfl
theorem k2f (n:Nat) {c:Conf} (h:OkC c):b1a (n+4) c=some (plc c):=by
 rw[p1g,y0q n h,f1s (n+1) h.rng];simp only[obs,tfd,tfn];rw[if_pos trivial]
theorem size_own (n:Nat) {c:Conf} (h:OkC c):y0n (n+6) c=some (sizR c):=by
 obtain ⟨e,_⟩:=siz_wrap h;rw[b1z,y0q (n+2) h,home_own n h,k2f (n+1) h];simp only[obs,tfd,tfn,e];rw[if_pos trivial];unfold sizR;by_cases hs:16777216<siz c
 ·rw[if_pos hs,if_pos hs]
 ·rw[if_neg hs,if_neg hs]
theorem w1q (n:Nat) {c:Conf} (h:¬OkC c):y0n (n+6) c=some (0,2):=by
 rw[b1z,c2t (n+2) h];simp only[obs,tfd,tfn];rw[if_neg (by decide)]
theorem e1l (n:Nat) (c:Conf):z0m (n+7) c=some (q0v c):=by
 rw[d2q];unfold q0v;by_cases h:OkC c
 case neg=>rw[w1q n h,if_neg h];rfl
 rw[size_own n h,if_pos h,obs,tfn,tfd];by_cases h1:(sizR c).2=0
 ·rw[if_pos h1,if_pos h1,cap_test h];rfl
 ·rw[if_neg h1,if_neg h1];rfl
theorem serW_put {c:Conf} {s t:Ser} {e:Ev} (h:SerOk c s) (hp:putE c s e=(t,0)):SerW t∧SerM t:=by
 obtain ⟨q1,q2,q3,q4,q5⟩:=w0y h hp;have hc:=q1.fold.cok.rng;refine ⟨⟨?_,fun x hx=>EvW.of (q1.raw.f.ok x hx),q1.fold.w,?_⟩,?_⟩
 ·have:=q2.t0;have:=q2.t1;rw[q4];unfold I64;omega
 ·rcases q1.st with ⟨_,k⟩ | ⟨_,k⟩
  ·rw[k.opn];exact z0n
  ·have:=k.fit.i0;exact ⟨by unfold I64;omega,.of k.fit.n.ok⟩
 ·have l1:=q1.lab.n1;have l2:=q1.raw.len;have l3:=q1.raw.m1;have:=q1.fold.lens;exact ⟨by omega,by omega,by omega,by omega,by omega⟩
theorem write_w {s t:Sta} (hw:StaW s) {l:List Lab} {e:Ev} {v:Int} (h:f0d s l e=(t,v)):StaW t:=by
 by_cases hv:v=0
 ·subst hv;obtain ⟨hg,i,x,b,y,hp,hput,rfl,_⟩:=l1f h;obtain ⟨p1,p2,p3,p4⟩:=d1f hg hp;have hy:=serW_put p1 hput;refine ⟨by simpa [setS] using hw.len,fun z hz => ?_⟩;rcases List.mem_or_eq_of_mem_set hz with k | k
  ·exact hw.ser z k
  ·rw[k];exact hy
 ·have:t=sta0:=by
   unfold f0d at h;split at h
   ·exact (congrArg Prod.fst h).symm
   ·split at h
    ·exact (congrArg Prod.fst h).symm
    ·exact absurd (congrArg Prod.snd h).symm hv
  rw[this];exact i2v
theorem writeV_w {s:Sta} (hw:StaW s) (l:List Lab) (e:Ev):StaW (f0d s l e).1:=write_w hw (v:=(f0d s l e).2) rfl
structure StaInv (N:Nat) (s:Sta):Prop where
 ok:StaOk s
 w:StaW s
 ser:∀x∈s.2.2.2,x=ser0∨∃l,SerInv s.1 x l∧l≠[]∧l.length≤N
theorem inv_new {c:Conf} (h:(q0v c).2=0):StaInv 0 (q0v c).1:=by
 refine ⟨(newSt_ok h).1,newSt_w c,fun x hx => .inl ?_⟩;unfold q0v at h hx;split at hx
 ·split at hx
  ·exact List.eq_of_mem_replicate hx
  ·rename_i h1 h2;rw[if_pos h1,if_neg h2] at h;exact absurd h h2
 ·simp[sta0] at hx
theorem rng_inR {w a b:Int} (hw:1≤w) (ha:a % w=0) (hb:b % w=0) (l:List Ev):rng w l (a / w) (b / w)=l.filter (inR a b):=by
 unfold rng;apply List.filter_congr;intro e _;unfold inR;rw[←Bool.decide_and];apply decide_eq_decide.2;have ea:a / w*w=a:=Int.ediv_mul_cancel_of_emod_eq_zero ha;have eb:b / w*w=b:=Int.ediv_mul_cancel_of_emod_eq_zero hb;have h1:=Int.le_ediv_iff_mul_le (a:=a / w) (b:=e.1) (c:=w) (by omega);have h2:=Int.le_ediv_iff_mul_le (a:=b / w) (b:=e.1) (c:=w) (by omega);rw[ea] at h1;rw[eb] at h2;omega
theorem g2f {c:Conf} {x:Ser} {l:List Ev} (h:SerInv c x l) (hl:l≠[]) {k i j:Int} (hk0:0≤k) (hk2:k≤2) (h0:0≤i) (hij:i≤j) (hk:x.2.1 / a0i c k<i+z0d c k):rangeK c x k i j=(cellOf (rng (a0i c k) l i j),0):=by
 unfold rangeK;rcases (by omega:k=0∨k=1∨k=2) with e | e | e
 ·subst e;rw[if_pos rfl];exact g2i h hl h0 hij hk
 ·subst e;rw[if_neg (by decide),if_pos rfl];exact g2h h hl h0 hij hk
 ·subst e;rw[if_neg (by decide),if_neg (by decide)];exact g2g h hl h0 hij hk
theorem last_le {s:Sta} (hs:StaOk s) {i:Nat} {x:Ser} (hx:s.2.2.2[i]? = some x) (hn:x≠ser0) {k:Int} (h0:0≤k) (h2:k≤2):x.2.1 / a0i s.1 k≤s.2.1 / a0i s.1 k:=by
 obtain ⟨_,r1,r2,_⟩:=(hs.right i x hx).resolve_left hn;have hc:=hs.whole.1;have hr:=hc.rng;have w0:=hr.w0.1;have w1:=hr.w1.1;have w2:=hr.w2.1;have b0:x.2.1 / s.1.2.1.1≤s.2.1 / s.1.2.1.1:=by
  have:x.2.1<(s.2.1 / s.1.2.1.1+1)*s.1.2.1.1:=by rw[Int.add_mul,Int.one_mul];exact r2
  have:=Int.ediv_lt_of_lt_mul (by omega) this;omega
 have b1:x.2.1 / s.1.2.1.2.1≤s.2.1 / s.1.2.1.2.1:=by
  rw[←(edvm (t:=x.2.1) w0 w1 hc.m1).2,←(edvm (t:=s.2.1) w0 w1 hc.m1).2];exact Int.ediv_le_ediv (f0z w0 w1 hc.m1) b0
 have b2:x.2.1 / s.1.2.1.2.2≤s.2.1 / s.1.2.1.2.2:=by
  rw[←(edvm (t:=x.2.1) w1 w2 hc.m2).2,←(edvm (t:=s.2.1) w1 w2 hc.m2).2];exact Int.ediv_le_ediv (f0z w1 w2 hc.m2) b1
 rcases (by omega:k=0∨k=1∨k=2) with e | e | e<;>subst e
 ·exact b0
 ·exact b1
 ·exact b2
theorem kept_lt {s:Sta} (hs:StaOk s) {i:Nat} {x:Ser} (hx:s.2.2.2[i]? = some x) (hn:x≠ser0) {k a b:Int} (h0:0≤k) (h2:k≤2) (ho:oneV s k a b=0):x.2.1 / a0i s.1 k<a / a0i s.1 k+z0d s.1 k:=by
 have hl:=last_le hs hx hn h0 h2;obtain ⟨s1,s2⟩:=o0k ho;obtain ⟨_,_,_,_,e,e1,e2⟩:=i0o s1;obtain ⟨r1,r2,r3,r4⟩:=tier_rng hs.whole.1 k;have ht:=hs.clock.1;rw[e] at s2;unfold oldV at s2;rw[if_pos (show OfP s.2.1 (a0i s.1 k)∧1≤z0d s.1 k∧z0d s.1 k≤4096 from ⟨⟨ht.1,ht.2,r1,r2⟩,r3,r4⟩)] at s2;simp only at s2;split at s2<;>omega
theorem o0u {d f:Nat} (h:d<f):∃g,f=g+1:=⟨f-1,by omega⟩
def Fd (o:Int) (r:Int×Int) (a b:List Slo):Prop:=a.length=b.length∧∀j:Nat,a[j]? = b[j]? ∨ (a[j]? = some s0∧∃s,b[j]? = some s∧s≠s0∧¬h1u o r s)
theorem Fd.refl (o r) (a:List Slo):Fd o r a a:=⟨rfl,fun _ => .inl rfl⟩
theorem Fd.mono {o o':Int} {r} {a b:List Slo} (h:Fd o r a b) (ho:o≤o'):Fd o' r a b :=
 ⟨h.1,fun j=>(h.2 j).imp id fun ⟨h1,s,h2,h3,h4⟩=>⟨h1,s,h2,h3,fun k=>h4 fun q=>k ⟨by have:=q.1;omega,q.2⟩⟩⟩
theorem Fd.fade {o r} {a b:List Slo} (h:Fd o r a b):Fd o r (m0a o r a) b:=by
 refine ⟨by rw[g0k];exact h.1,fun j => ?_⟩;unfold m0a;rw[List.getElem?_map];rcases h.2 j with k | ⟨k,s,k2,k3⟩
 ·rw[k];cases hb:b[j]? with
  | none=>exact .inl rfl
  | some s =>
   simp only[Option.map_some];by_cases q:h1u o r s
   ·rw[if_pos q];exact .inl rfl
   ·rw[if_neg q];by_cases z:s=s0
    ·rw[z];exact .inl rfl
    ·exact .inr ⟨rfl,s,rfl,z,q⟩
 ·rw[k];simp only[Option.map_some];refine .inr ⟨?_,s,k2,k3⟩;split<;>rfl
theorem Fd.put {o r} {a b:List Slo} (h:Fd o r a b) (i:Int) (c:Cel):Fd o r (tput a i c) (tput b i c):=by
 unfold tput;refine ⟨by simp[h.1],fun j => ?_⟩;rw[h.1,List.getElem?_set,List.getElem?_set,h.1];split
 ·exact .inl rfl
 ·exact h.2 j
theorem Fd.up {o:Int} {r r':Int×Int} {a b:List Slo} {w:Int} (h:Fd o r a b) (hb:TierOk b w) (hn:a0k b r.2) (hr:r.1≤r'.1):Fd o r' a b:=by
 refine ⟨h.1,fun j=>(h.2 j).imp id fun ⟨h1,s,h2,h3,h4⟩=>⟨h1,s,h2,h3,fun k=>h4 fun q=>k ⟨q.1,.inl ?_⟩⟩⟩;rcases q.2 with q | q
 ·omega
 ·obtain ⟨_,hf⟩:=(hb.s j s h2).resolve_left h3;have:=hn s (List.mem_of_getElem? h2) (by have:=hf.n.n1;omega);omega
theorem up_ext:∀ {A B:List Slo},Up A→Up B→(∀s,s∈A↔s∈B)→A=B:=by
 intro A;induction A with
 | nil =>
  intro B _ _ h;cases B with
  | nil=>rfl
  | cons b B=>exact absurd ((h b).2 (by simp)) (by simp)
 | cons a A ih =>
  intro B ha hb h;cases B with
  | nil=>exact absurd ((h a).1 (by simp)) (by simp)
  | cons b B =>
   have ha':=ha;have hb':=hb;unfold Up at ha hb;rw[List.pairwise_cons] at ha hb;have e:a=b:=by
    rcases List.mem_cons.1 ((h a).1 (by simp)) with k | k
    ·exact k
    ·rcases List.mem_cons.1 ((h b).2 (by simp)) with q | q
     ·exact q.symm
     ·have:=ha.1 b q;have:=hb.1 a k;omega
   subst e;rw[ih ha.2 hb.2 (fun s => ?_)];constructor
   ·intro k;rcases List.mem_cons.1 ((h s).1 (by simp[k])) with q | q
    ·have:=ha.1 s k;rw[q] at this;omega
    ·exact q
   ·intro k;rcases List.mem_cons.1 ((h s).2 (by simp[k])) with q | q
    ·have:=hb.1 s k;rw[q] at this;omega
    ·exact q
theorem Fd.tfold {o r} {a b:List Slo} {w i j:Int} (h:Fd o r a b) (ha:TierOk a w) (hb:TierOk b w) (hk:o≤i∨r.1≤i∧j≤r.2):tfold a i j=tfold b i j:=by
 have e:within a i j=within b i j:=by
  unfold within;refine congrArg _ (up_ext ((m0y ha).filter _) ((m0y hb).filter _) fun s => ?_);rw[List.mem_filter,List.mem_filter,k0n,k0n];simp only[decide_eq_true_eq];constructor
  ·rintro ⟨⟨h1,h2⟩,h3⟩;obtain ⟨n,hn⟩:=List.getElem?_of_mem h1;rcases h.2 n with k | ⟨k,_⟩
   ·exact ⟨⟨List.mem_of_getElem? (by rw[←k];exact hn),h2⟩,h3⟩
   ·rw[hn] at k;injection k with k;exact absurd k h2
  ·rintro ⟨⟨h1,h2⟩,h3,h4⟩;obtain ⟨n,hn⟩:=List.getElem?_of_mem h1;rcases h.2 n with k | ⟨k,s',k2,k3,k4⟩
   ·exact ⟨⟨List.mem_of_getElem? (by rw[k];exact hn),h2⟩,h3,h4⟩
   ·exfalso;rw[hn] at k2;injection k2 with k2;subst k2;exact k4 fun q=>by have:=q.1;rcases q.2 with q | q<;>omega
 unfold Go.Plim.tfold;rw[e]
structure Fad (c:Conf) (o:Int×(Int×Int)) (x y:Ser):Prop where
 lab:x.1=y.1
 last:x.2.1=y.2.1
 raw:x.2.2.1=y.2.2.1
 opn:x.2.2.2.2=y.2.2.2.2
 t0:Fd o.1 (n0q c y.2.1) x.2.2.2.1.1 y.2.2.2.1.1
 t1:Fd o.2.1 (o0n c y.2.1) x.2.2.2.1.2.1 y.2.2.2.1.2.1
 t2:Fd o.2.2 (0,0) x.2.2.2.1.2.2 y.2.2.2.1.2.2
theorem Fad.refl (c o) (x:Ser):Fad c o x x:=⟨rfl,rfl,rfl,rfl,.refl _ _ _,.refl _ _ _,.refl _ _ _⟩
theorem Fad.mono {c} {o o':Int×(Int×Int)} {x y:Ser} (h:Fad c o x y) (h0:o.1≤o'.1) (h1:o.2.1≤o'.2.1) (h2:o.2.2≤o'.2.2):Fad c o' x y :=
 ⟨h.lab,h.last,h.raw,h.opn,h.t0.mono h0,h.t1.mono h1,h.t2.mono h2⟩
def olds (c:Conf) (now:Int):Int×(Int×Int):=((oldV now c.2.1.1 c.2.2.1.1).1,((oldV now c.2.1.2.1 c.2.2.1.2.1).1,(oldV now c.2.1.2.2 c.2.2.1.2.2).1))
theorem Fad.clean {c} {now:Int} {x y:Ser} (h:Fad c (olds c now) x y):Fad c (olds c now) (i0l c now x) y:=by
 refine ⟨h.lab,h.last,h.raw,h.opn,?_,?_,?_⟩
 ·show Fd _ _ (m0a _ (n0q c x.2.1) _) _;rw[h.last];exact h.t0.fade
 ·show Fd _ _ (m0a _ (o0n c x.2.1) _) _;rw[h.last];exact h.t1.fade
 ·exact h.t2.fade
theorem g1a {c:Conf} (h:OkC c) (t:Int):t / c.2.1.1+1≤(n0q c t).2∧(n0q c t).1≤t / c.2.1.1:=by
 have hr:=h.rng;have hp:=f0z hr.w0.1 hr.w1.1 h.m1;have q:=(edvm (t:=t) hr.w0.1 hr.w1.1 h.m1).2;unfold n0q;simp only;rw[←q];have:=Int.lt_ediv_add_one_mul_self (t / c.2.1.1) hp;rw[Int.add_mul,Int.one_mul] at this;exact ⟨by omega,Int.ediv_mul_le _ (by omega)⟩
theorem t1n {c:Conf} (h:OkC c) (t:Int):t / c.2.1.2.1+1≤(o0n c t).2∧(o0n c t).1≤t / c.2.1.2.1:=by
 have hr:=h.rng;have hp:=f0z hr.w1.1 hr.w2.1 h.m2;have q:=(edvm (t:=t) hr.w1.1 hr.w2.1 h.m2).2;unfold o0n;simp only;rw[←q];have:=Int.lt_ediv_add_one_mul_self (t / c.2.1.2.1) hp;rw[Int.add_mul,Int.one_mul] at this;exact ⟨by omega,Int.ediv_mul_le _ (by omega)⟩
theorem need_nb {c:Conf} {y:Ser} (h:SerOk c y):a0k y.2.2.2.1.1 (n0q c y.2.1).2∧a0k y.2.2.2.1.2.1 (o0n c y.2.1).2:=by
 obtain ⟨b0,b1,_⟩:=nb_all h;exact ⟨e0w b0 (g1a h.fold.cok _).1,e0w b1 (t1n h.fold.cok _).1⟩
theorem Fad.now1 {c} {o} {x y:Ser} (h:Fad c o x y) (hx:SerOk c x) (hy:SerOk c y):now1 c x=now1 c y:=by
 unfold Go.Proofs.YtgkpkajaepphjaaGreatDoor.now1;have e:Go.Plim.tfold x.2.2.2.1.1 (y.2.1 / c.2.1.2.1*(c.2.1.2.1 / c.2.1.1)) (y.2.1 / c.2.1.1)=Go.Plim.tfold y.2.2.2.1.1 (y.2.1 / c.2.1.2.1*(c.2.1.2.1 / c.2.1.1)) (y.2.1 / c.2.1.1) :=
  h.t0.tfold hx.fold.t0 hy.fold.t0 (.inr ⟨Int.le_refl _,by have:=(g1a hy.fold.cok y.2.1).1;omega⟩)
 rw[h.last,h.opn,e]
theorem Fad.now2 {c} {o} {x y:Ser} (h:Fad c o x y) (hx:SerOk c x) (hy:SerOk c y):now2 c x=now2 c y:=by
 unfold Go.Proofs.YtgkpkajaepphjaaGreatDoor.now2;have e:Go.Plim.tfold x.2.2.2.1.2.1 (y.2.1 / c.2.1.2.2*(c.2.1.2.2 / c.2.1.2.1)) (y.2.1 / c.2.1.2.1)=Go.Plim.tfold y.2.2.2.1.2.1 (y.2.1 / c.2.1.2.2*(c.2.1.2.2 / c.2.1.2.1)) (y.2.1 / c.2.1.2.1) :=
  h.t1.tfold hx.fold.t1 hy.fold.t1 (.inr ⟨Int.le_refl _,by have:=(t1n hy.fold.cok y.2.1).1;omega⟩)
 rw[h.now1 hx hy,h.last,e]
theorem e1z {o r} {a b:List Slo} {w i j last:Int} {now:Cel×Int} {ok ok':Prop} [Decidable ok] [Decidable ok'] (h1:ok) (h2:ok') (h:Fd o r a b) (ha:TierOk a w) (hb:TierOk b w) (hi:o≤i):b0r ok i j last w a now=b0r ok' i j last w b now:=by
 unfold b0r;rw[if_pos h1,if_pos h2,h.tfold ha hb (.inl hi)]
theorem Fad.rangeK {c} {now:Int} {x y:Ser} (h:Fad c (olds c now) x y) (hx:SerOk c x) (hy:SerOk c y) {k:Int} (h0:0≤k) (h2:k≤2) {i j:Int} (hi:(oldV now (a0i c k) (z0d c k)).1≤i):rangeK c x k i j=rangeK c y k i j:=by
 unfold Go.Proofs.YtgkpkajaepphjaaGreatDoor.rangeK;unfold a0i z0d at hi;rcases (by omega:k=0∨k=1∨k=2) with e | e | e
 ·subst e;rw[if_pos rfl,if_pos rfl] at hi ⊢;rw[h.last,h.opn];exact e1z hx hy h.t0 hx.fold.t0 hy.fold.t0 hi
 ·subst e;rw[if_neg (by decide),if_pos rfl,if_neg (by decide),if_pos rfl] at hi ⊢;rw[h.last,h.now1 hx hy];exact e1z hx hy h.t1 hx.fold.t1 hy.fold.t1 hi
 ·subst e;rw[if_neg (by decide),if_neg (by decide),if_neg (by decide),if_neg (by decide)] at hi ⊢;rw[h.last,h.now2 hx hy];exact e1z hx hy h.t2 hx.fold.t2 hy.fold.t2 hi
theorem t1m {c:Conf} (h:OkC c) {T U:Int} (hTU:T≤U):(n0q c T).1≤(n0q c U).1∧(o0n c T).1≤(o0n c U).1:=by
 have hr:=h.rng;have p0:=f0z hr.w0.1 hr.w1.1 h.m1;have p1:=f0z hr.w1.1 hr.w2.1 h.m2;have w1:=hr.w1.1;have w2:=hr.w2.1;exact ⟨Int.mul_le_mul_of_nonneg_right (Int.ediv_le_ediv (by omega) hTU) (by omega),Int.mul_le_mul_of_nonneg_right (Int.ediv_le_ediv (by omega) hTU) (by omega)⟩
theorem up1_fd {c:Conf} (hc:OkC c) {s t:Trs} {o0 o1 T j:Int} {r:Int×Int} (hs:TierOk s.1 c.2.1.1) (ht:TierOk t.1 c.2.1.1) (h0:Fd o0 (n0q c T) s.1 t.1) (h1:Fd o1 r s.2.1 t.2.1) :
  (up1 c s (T / c.2.1.1) j).1=s.1∧(up1 c t (T / c.2.1.1) j).1=t.1∧(up1 c s (T / c.2.1.1) j).2.2=s.2.2∧(up1 c t (T / c.2.1.1) j).2.2=t.2.2∧Fd o1 r (up1 c s (T / c.2.1.1) j).2.1 (up1 c t (T / c.2.1.1) j).2.1:=by
 have hr:=hc.rng;have q:=(edvm (t:=T) hr.w0.1 hr.w1.1 hc.m1).1;have e:mk1 c s (T / c.2.1.2.1)=mk1 c t (T / c.2.1.2.1):=by
  unfold mk1;refine h0.tfold hs ht (.inr ⟨Int.le_refl _,?_⟩);rw[Int.add_mul,Int.one_mul];exact Int.le_refl _
 unfold up1;rw[q,e];split
 ·exact ⟨rfl,rfl,rfl,rfl,h1⟩
 ·split
  ·exact ⟨rfl,rfl,rfl,rfl,h1.put _ _⟩
  ·exact ⟨rfl,rfl,rfl,rfl,h1⟩
theorem up2_fd {c:Conf} (hc:OkC c) {s t:Trs} {o1 o2 T j:Int} {r:Int×Int} (hs:TierOk s.2.1 c.2.1.2.1) (ht:TierOk t.2.1 c.2.1.2.1) (h1:Fd o1 (o0n c T) s.2.1 t.2.1) (h2:Fd o2 r s.2.2 t.2.2) :
  (up2 c s (T / c.2.1.1) j).1=s.1∧(up2 c t (T / c.2.1.1) j).1=t.1∧(up2 c s (T / c.2.1.1) j).2.1=s.2.1∧(up2 c t (T / c.2.1.1) j).2.1=t.2.1∧Fd o2 r (up2 c s (T / c.2.1.1) j).2.2 (up2 c t (T / c.2.1.1) j).2.2:=by
 have hr:=hc.rng;have m02:c.2.1.2.2 % c.2.1.1=0:=hc.m02;have q:=(edvm (t:=T) hr.w0.1 hr.w2.1 m02).1;have e:mk2 c s (T / c.2.1.2.2)=mk2 c t (T / c.2.1.2.2):=by
  unfold mk2;refine h1.tfold hs ht (.inr ⟨Int.le_refl _,?_⟩);rw[Int.add_mul,Int.one_mul];exact Int.le_refl _
 unfold up2;rw[q,e];split
 ·exact ⟨rfl,rfl,rfl,rfl,h2⟩
 ·split
  ·exact ⟨rfl,rfl,rfl,rfl,h2.put _ _⟩
  ·exact ⟨rfl,rfl,rfl,rfl,h2⟩
theorem upw_fd {c:Conf} (hc:OkC c) {s t:Trs} {o0 o1 o2 T U:Int} (hTU:T≤U) (hs:FoldOk c s) (ht:FoldOk c t) (h0:Fd o0 (n0q c T) s.1 t.1) (h1:Fd o1 (o0n c T) s.2.1 t.2.1) (h2:Fd o2 (0,0) s.2.2 t.2.2) (n0:a0k t.1 (n0q c T).2) (n1:a0k t.2.1 (o0n c T).2) :
  Fd o0 (n0q c U) (upw c s (T / c.2.1.1) (U / c.2.1.1)).1 (upw c t (T / c.2.1.1) (U / c.2.1.1)).1∧Fd o1 (o0n c U) (upw c s (T / c.2.1.1) (U / c.2.1.1)).2.1 (upw c t (T / c.2.1.1) (U / c.2.1.1)).2.1∧Fd o2 (0,0) (upw c s (T / c.2.1.1) (U / c.2.1.1)).2.2 (upw c t (T / c.2.1.1) (U / c.2.1.1)).2.2:=by
 obtain ⟨m0,m1⟩:=t1m hc hTU;have k0:Fd o0 (n0q c U) s.1 t.1:=h0.up ht.t0 n0 m0;have k1:Fd o1 (o0n c U) s.2.1 t.2.1:=h1.up ht.t1 n1 m1;obtain ⟨a1,a2,a3,a4,a5⟩:=up1_fd (j:=U / c.2.1.1) hc hs.t0 ht.t0 h0 h1;obtain ⟨_,_,_,_,b5⟩:=up1_fd (j:=U / c.2.1.1) hc hs.t0 ht.t0 h0 k1;have s1:=q1e hs (T / c.2.1.1) (U / c.2.1.1);have t1:=q1e ht (T / c.2.1.1) (U / c.2.1.1);obtain ⟨c1,c2,c3,c4,c5⟩:=up2_fd (o2:=o2) (r:=(0,0)) (j:=U / c.2.1.1) hc s1.t1 t1.t1 a5 (by rw[a3,a4];exact h2);unfold upw;rw[c1,c2,c3,c4,a1,a2];exact ⟨k0,b5,c5⟩
theorem i2d {c:Conf} {o:Int×(Int×Int)} {x y:Ser} {e:Ev} (h:Fad c o x y) (hx:SerOk c x) (hy:SerOk c y) (hlt:y.2.1<e.1) (hq:(turned c y (e.1 / c.2.1.1)).2=0) :
  (turned c x (e.1 / c.2.1.1)).2=0∧(turned c x (e.1 / c.2.1.1)).1.2=(turned c y (e.1 / c.2.1.1)).1.2∧Fd o.1 (n0q c e.1) (turned c x (e.1 / c.2.1.1)).1.1.1 (turned c y (e.1 / c.2.1.1)).1.1.1∧Fd o.2.1 (o0n c e.1) (turned c x (e.1 / c.2.1.1)).1.1.2.1 (turned c y (e.1 / c.2.1.1)).1.1.2.1∧Fd o.2.2 (0,0) (turned c x (e.1 / c.2.1.1)).1.1.2.2 (turned c y (e.1 / c.2.1.1)).1.1.2.2:=by
 have hc:=hy.fold.cok;obtain ⟨n0,n1⟩:=need_nb hy;obtain ⟨m0,m1⟩:=t1m hc (Int.le_of_lt hlt);by_cases ht:y0x y (e.1 / c.2.1.1)
 case neg =>
  have htx:¬y0x x (e.1 / c.2.1.1):=by unfold y0x at ht ⊢;rw[h.opn];exact ht
  unfold turned;rw[if_neg ht,if_neg htx];exact ⟨rfl,h.opn,h.t0.up hy.fold.t0 n0 m0,h.t1.up hy.fold.t1 n1 m1,h.t2⟩
 have htx:y0x x (e.1 / c.2.1.1):=by unfold y0x at ht ⊢;rw[h.opn];exact ht
 have hE:EndsP c y:=by
  rcases hy.st with ⟨_,k⟩ | ⟨_,k⟩
  ·exact absurd k.opn ht.1
  ·exact k
 have ei:y.2.2.2.2.1=y.2.1 / c.2.1.1:=by rw[←hE.fit.l,hE.ol]
 unfold turned at hq ⊢;rw[if_pos ht] at hq;rw[if_pos ht,if_pos htx];by_cases hk:(k0g c y.2.2.2.1 y.2.2.2.2 (e.1 / c.2.1.1)).2=0
 case neg=>rw[if_neg hk] at hq;exact absurd hq hk
 have hk':=hk;unfold k0g at hk';rw[if_pos hy.fold,if_neg ht.1,if_pos hE.fit,if_neg ht.2] at hk';by_cases hb:y.2.2.2.2.1≤e.1 / c.2.1.1∧h0e c.2.1.1 (e.1 / c.2.1.1)
 case neg=>rw[if_neg hb] at hk';cases hk'
 have ey:k0g c y.2.2.2.1 y.2.2.2.2 (e.1 / c.2.1.1)=(upw c (tput y.2.2.2.1.1 y.2.2.2.2.1 y.2.2.2.2.2,y.2.2.2.1.2) y.2.2.2.2.1 (e.1 / c.2.1.1),0):=by
  unfold k0g;rw[if_pos hy.fold,if_neg ht.1,if_pos hE.fit,if_neg ht.2,if_pos hb]
 have ex:k0g c x.2.2.2.1 x.2.2.2.2 (e.1 / c.2.1.1)=(upw c (tput x.2.2.2.1.1 y.2.2.2.2.1 y.2.2.2.2.2,x.2.2.2.1.2) y.2.2.2.2.1 (e.1 / c.2.1.1),0):=by
  unfold k0g;rw[h.opn,if_pos hx.fold,if_neg ht.1,if_pos hE.fit,if_neg ht.2,if_pos hb]
 rw[ex,ey,if_pos rfl,if_pos rfl,ei];have fx:=q0h hx.fold hE.fit;have fy:=q0h hy.fold hE.fit;rw[ei] at fx fy;have k0:=h.t0.put (y.2.1 / c.2.1.1) y.2.2.2.2.2;have nb:a0k (tput y.2.2.2.1.1 (y.2.1 / c.2.1.1) y.2.2.2.2.2) (n0q c y.2.1).2:=n1x n0 (by have:=(g1a hc y.2.1).1;omega);exact ⟨rfl,rfl,upw_fd hc (Int.le_of_lt hlt) fx fy k0 h.t1 h.t2 nb n1⟩
theorem Fad.putE {c:Conf} {o:Int×(Int×Int)} {x y y':Ser} {e:Ev} (h:Fad c o x y) (hx:SerOk c x) (hy:SerOk c y) (hp:putE c y e=(y',0)):∃x',putE c x e=(x',0)∧Fad c o x' y':=by
 obtain ⟨_,he,hlt,_⟩:=w0y hy hp;unfold Go.Proofs.YtgkpkajaepphjaaGreatDoor.putE at hp ⊢;rw[if_pos ⟨hy,he⟩,if_neg (by omega)] at hp;rw[if_pos ⟨hx,he⟩,if_neg (by rw[h.last];omega)];by_cases h1:(turned c y (e.1 / c.2.1.1)).2=0
 case neg=>rw[if_pos h1] at hp;exact absurd (congrArg Prod.snd hp) h1
 obtain ⟨a1,a2,a3,a4,a5⟩:=i2d h hx hy hlt h1;rw[if_neg (fun k=>k h1)] at hp;rw[if_neg (fun k=>k a1),h.raw,a2];by_cases h2:(m0o y.2.2.1 c.1 e).2=0
 case neg=>rw[if_pos h2] at hp;exact absurd (congrArg Prod.snd hp) h2
 rw[if_neg (fun k=>k h2)] at hp ⊢;by_cases h3:(mrgE (turned c y (e.1 / c.2.1.1)).1.2.2 (c0e e)).2=0
 case neg=>rw[if_pos h3] at hp;exact absurd (congrArg Prod.snd hp) h3
 rw[if_neg (fun k=>k h3)] at hp ⊢;injection hp with hp _;subst hp;exact ⟨_,rfl,h.lab,rfl,rfl,rfl,a3,a4,a5⟩
theorem n2m {α:Type} {s:Sta} (h:StaOk s) (x y:α):tif (decide ((if StaOk s then (0:Int) else 2)=0)) x y=x:=by rw[if_pos h];rfl
theorem n2n {α:Type} {s:Sta} (h:¬StaOk s) (x y:α):tif (decide ((if StaOk s then (0:Int) else 2)=0)) x y=y:=by rw[if_neg h];rfl
theorem l2q {α:Type} {l pre rest:List α} {x:α} {i:Int} (h:l=pre++x::rest) (hi:i=pre.length):l[i.toNat]? = some x:=by subst h hi;simp
theorem set_mid {α:Type} {pre rest:List α} {x v:α} {i:Int} (hi:i=pre.length):(pre++x::rest).set i.toNat v=(pre++[v])++rest:=by subst hi;simp
theorem at_nn {α:Type} {l:List α} {i:Int} {x:α} (h0:0≤i) (h:l[i.toNat]? = some x):at? l i=some x:=by unfold at?;rw[decide_eq_true h0];exact h
section
variable {del:Int×Unit→Option Bool} {p:Int→Bool} {L:List Int} (hd:∀x∈L,del (x,())=some (p x))
include hd
theorem index_il (n:Nat) (l:List Int) (hL:l.length≤1000000):∀(rest pre:List Int) (f:Nat) (i len:Int),(∀x∈rest,x∈L)→l=pre++rest→i=pre.length→len=l.length→rest.length<f →
  (d0c n f (l,del,len,i,())=some (.inl ())∧∀x∈rest,p x=false) ∨
  (∃A x B,rest=A++x::B∧(∀y∈A,p y=false)∧p x=true∧d0c n f (l,del,len,i,())=some (.inr (i+A.length))):=by
 intro rest;induction rest with
 | nil =>
  intro pre f i len hm hl hi hn hf;obtain ⟨f,rfl⟩:∃g,f=g+1:=⟨f-1,by simp at hf;omega⟩;rw[i0k];exact .inl ⟨by simp only[tfd,if_neg (idxe hl hi hn)],by simp⟩
 | cons x rest ih =>
  intro pre f i len hm hl hi hn hf;obtain ⟨f,rfl⟩:∃g,f=g+1:=⟨f-1,by simp at hf;omega⟩;rw[i0k];simp only[tfd,if_pos (idx hl hi hn),b0q hl hi,obs,hd x (hm x (by simp)),idxw hl hi (show l.length≤1000000000000 by omega)];cases hp:p x with
  | true=>exact .inr ⟨[],x,rest,rfl,by simp,hp,by simp⟩
  | false =>
   rw[tff];rcases ih (pre++[x]) f (i+1) len (fun y hy=>hm y (by simp[hy])) (idxl hl) (idxs hi) hn (by simp at hf;omega) with ⟨h1,h2⟩ | ⟨A,y,B,h1,h2,h3,h4⟩
   ·exact .inl ⟨h1,by intro z hz;rcases List.mem_cons.1 hz with rfl | hz;exact hp;exact h2 z hz⟩
   ·refine .inr ⟨x::A,y,B,by rw[h1];rfl,?_,h3,by rw[h4,List.length_cons,show i+1+(A.length:Int)=i+((A.length+1:Nat):Int) by omega]⟩;intro z hz;rcases List.mem_cons.1 hz with rfl | hz
    ·exact hp
    ·exact h2 z hz
theorem m2z (n:Nat) (l0:List Int) (hL:l0.length≤1000000):∀(rest F G:List Int) (f:Nat) (i j:Int),(∀x∈rest,x∈L)→(F++(G++rest)).length=l0.length→G≠[]→i=F.length→j=F.length+G.length→rest.length<f →
  ∃G',c0q n f (F++(G++rest),del,i,j,())=some (.inl (F++rest.filter (fun x => !p x)++G',(F++rest.filter (fun x => !p x)).length,()))∧(F++rest.filter (fun x => !p x)++G').length=l0.length:=by
 intro rest;induction rest with
 | nil =>
  intro F G f i j hm hl hg hi hj hf;obtain ⟨f,rfl⟩:∃g,f=g+1:=⟨f-1,by simp at hf;omega⟩;rw[h0u];have:¬(j<((F++(G++[])).length:Int)):=by simp;omega
  simp only[tfd,if_neg this];exact ⟨G,by simp[hi],by simpa using hl⟩
 | cons x rest ih =>
  intro F G f i j hm hl hg hi hj hf;have hm':∀y∈rest,y∈L:=fun y hy=>hm y (by simp[hy])
  obtain ⟨f,rfl⟩:∃g,f=g+1:=⟨f-1,by simp at hf;omega⟩;rw[h0u];simp only[List.length_append,List.length_cons] at hl;have hlt:j<((F++(G++x::rest)).length:Int):=by simp;omega
  have hat:at? (F++(G++x::rest)) j=some x:=b0q (pre:=F++G) (rest:=rest) (by simp) (by simp;omega);have hget:(F++(G++x::rest))[j.toNat]? = some x:=by
   rw[show j.toNat=F.length+G.length by omega,List.getElem?_append_right (by omega),List.getElem?_append_right (by omega)];simp
  simp only[tfd,if_pos hlt,hat,hget,obs,hd x (hm x (by simp))];have wj:IntKind.wrap .i64 (j+1)=j+1:=by rw[w64 (by omega) (by omega)]
  have wi:IntKind.wrap .i64 (i+1)=i+1:=by rw[w64 (by omega) (by omega)]
  rw[wj,wi]
  match G,hg with
  | g::G,_ =>
  cases hp:p x with
  | false =>
   have hat':at? (F++(g::G++x::rest)) i=some g:=b0q (pre:=F) (rest:=G++x::rest) (by simp) hi;have hget':(F++(g::G++x::rest))[i.toNat]? = some g:=by
    rw[show i.toNat=F.length by omega];simp
   have hset:(F++(g::G++x::rest)).set i.toNat x=(F++[x])++((G++[x])++rest):=by
    rw[show i.toNat=F.length by omega,List.set_append_right _ _ (by omega)];simp
   simp only[Bool.not_false,tft,hat',hget',obs,hset];obtain ⟨G',h1,h2⟩:=ih (F++[x]) (G++[x]) f (i+1) (j+1) hm' (by simp at hl ⊢;omega) (by simp) (by simp;omega) (by simp at hj ⊢;omega) (by simp at hf;omega);refine ⟨G',?_,?_⟩
   ·rw[h1];simp[List.filter_cons,hp]
   ·rw[←h2];simp[List.filter_cons,hp]
  | true =>
   simp only[Bool.not_true,tff];obtain ⟨G',h1,h2⟩:=ih F (g::G++[x]) f i (j+1) hm' (by simp at hl ⊢;omega) (by simp) hi (by simp at hj ⊢;omega) (by simp at hf;omega);simp only[List.append_assoc,List.singleton_append] at h1;refine ⟨G',?_,?_⟩
   ·rw[h1];simp[List.filter_cons,hp]
   ·rw[←h2];simp[List.filter_cons,hp]
theorem g2y (n:Nat) (l:List Int) (hL:l.length≤1000000) (hm:∀x∈l,x∈L):i0r (n+2) l del=some (l.filter fun x => !p x):=by
 rw[u0c,v0i];rcases index_il hd n l hL l [] a0b 0 l.length hm rfl rfl rfl (by unfold a0b;omega) with ⟨h1,h2⟩ | ⟨A,x,B,h1,h2,h3,h4⟩
 ·rw[h1];simp only[obs,a0w,tfd,if_pos trivial];exact congrArg some (List.filter_eq_self.2 fun y hy=>by simp[h2 y hy]).symm
 ·rw[h4];have hl:l.length=A.length+(B.length+1):=by rw[h1];simp
  simp only[obs,o0a,tfd,Int.zero_add];rw[if_neg (by omega),w64 (x:=(A.length:Int)+1) (by omega) (by omega)];obtain ⟨G',g1,g2⟩:=m2z hd (n+1) l hL B A [x] a0b (A.length:Int) (A.length+1) (fun y hy=>hm y (by rw[h1];simp[hy])) (by rw[h1];simp) (by simp) rfl (by simp) (by unfold a0b;omega);rw[show A++([x]++B)=l by rw[h1];simp] at g1;rw[g1];have hF:A++B.filter (fun x => !p x)=l.filter fun x => !p x:=by
   rw[h1,List.filter_append,List.filter_cons];have:A.filter (fun x => !p x)=A:=List.filter_eq_self.2 fun y hy=>by simp[h2 y hy]
   simp[h3,this]
  rw[hF] at g2 ⊢;generalize (l.filter fun x => !p x)=F at *
  simp only[obs,a0w,r0b,tfd,Int.toNat_natCast];have hle:F.length≤(F++G').length:=by simp
  have k1:putRow (F++G') F.length (List.replicate ((F++G').length-F.length) (0:Int))=F++List.replicate ((F++G').length-F.length) (0:Int):=by
   unfold putRow;rw[List.drop_of_length_le (by simp)];simp
  rw[k1,if_pos (by omega),if_pos hle,if_pos (by omega),if_pos (by omega),if_pos (by simp;omega)];simp
end
theorem y1u {s:Sta} {z:Int} (h:z∈(o0o s).map Int.ofNat):0≤z∧∃y,s.2.2.2[z.toNat]? = some y∧LvX s y:=by
 obtain ⟨i,hi,rfl⟩:=List.mem_map.1 h;have h1:=(List.mem_filter.1 hi).2;obtain ⟨x,hx,hl⟩:=o1b.1 h1;exact ⟨Int.natCast_nonneg i,x,hx,hl⟩
theorem w1a (n:Nat) {s:Sta} {z:Int} {x:Ser} (h0:0≤z) (hx:s.2.2.2[z.toNat]? = some x):l0l (n+7) z s=some (!z1h s z.toNat):=by
 rw[i1b,at_nn h0 hx,obs,e1s n,obs];unfold z1h;rw[hx]
theorem due_list (s:Sta):((o0o s).map Int.ofNat).filter (fun z=>z1h s z.toNat)=((o0o s).filter (z1h s)).map Int.ofNat:=by
 rw[List.filter_map];rfl
theorem i2l (n:Nat) {s:Sta} (hw:StaW s):e1k (n+15) s=some ((dueV s).map Int.ofNat):=by
 rw[q1m,h0m n hw,obs,tfn];unfold dueV;by_cases h:StaOk s
 case neg=>rw[n2n h,if_neg h];rfl
 have hd:∀z∈(o0o s).map Int.ofNat,(fun y2:Int×Unit=>l0l (n+14) y2.1 s) (z,())=some (!z1h s z.toNat):=fun z hz=>by
  obtain ⟨h0,y,hy,_⟩:=y1u hz;exact w1a (n+7) h0 hy
 have hL:((o0o s).map Int.ofNat).length≤1000000:=by have:=b2v s;have:=h.whole.len;simp;omega
 have e:liveR s=(o0o s).map Int.ofNat:=if_pos h.whole;rw[n2m h,a2n (n+6) hw,obs,e,g2y (del:=fun y2:Int×Unit=>l0l (n+14) y2.1 s) (p:=fun z => !z1h s z.toNat) hd (n+12) _ hL (fun _ hx=>hx),obs,if_pos h,←due_list];simp only[Bool.not_not]
noncomputable def doV (s:Sta):Sta×(Int×Int):=if StaOk s then (b1j s,(((dueV s).length:Int),0)) else (sta0,(0,2))
theorem a2l (n:Nat) {s:Sta} (hw:StaW s):l1t (n+16) s=some (doV s):=by
 rw[w1b,h0m (n+1) hw,obs,tfn];unfold doV;by_cases h:StaOk s
 case neg=>rw[n2n h,if_neg h,if_neg h];rfl
 rw[n2m h,if_pos h,i2l n hw,obs,List.length_map];rfl
theorem sweptS_w {s:Sta} (hw:StaW s):StaW (b1j s):=⟨hw.len,hw.ser⟩
theorem m2g (o:Int) (r:Int×Int) (x:Slo) (l:List Slo):m0a o r (x::l)=(if h1u o r x then x else s0)::m0a o r l:=rfl
theorem z1d (n:Nat) (o a b:Int):∀(rest pre:List Slo) (f:Nat) (ix len:Int),pre.length+rest.length≤1000000→ix=pre.length→len=(pre.length:Int)+rest.length→rest.length<f →
  c0j n f (o,a,b,pre++rest,len,ix,())=some (.inl (pre++m0a o (a,b) rest,())):=by
 intro rest;induction rest with
 | nil =>
  intro pre f ix len hL hi hn hf;obtain ⟨f,rfl⟩:∃g,f=g+1:=⟨f-1,by simp at hf;omega⟩;rw[q0o,decide_eq_false (by simp at hn;omega),tff];rfl
 | cons x rest ih =>
  intro pre f ix len hL hi hn hf;obtain ⟨f,rfl⟩:∃g,f=g+1:=⟨f-1,by simp at hf;omega⟩;simp only[List.length_cons] at hL hn hf;have go:∀v:Slo,v=(if h1u o (a,b) x then x else s0)→c0j n f (o,a,b,(pre++[v])++rest,len,ix+1,())=some (.inl (pre++m0a o (a,b) (x::rest),())):=by
   intro v hv;rw[ih (pre++[v]) f (ix+1) len (by simp;omega) (by simp;omega) (by simp;omega) (by omega),m2g,←hv];simp
  have same:(pre++[x])++rest=pre++x::rest:=by simp
  have gm:∀v:Slo,(pre++x::rest).set ix.toNat v=(pre++[v])++rest:=fun v=>set_mid hi
  rw[q0o,decide_eq_true (by omega),tft,b0q rfl hi,obs,l2q rfl hi,obs,w64 (by omega) (by omega)];simp only[tfd,obs,gm];by_cases h1:x.1<o
  ·rw[if_pos h1];by_cases h2:x.1<a
   ·rw[if_pos h2];exact go s0 (if_neg (fun k:h1u o (a,b) x=>k ⟨h1,.inl h2⟩)).symm
   ·rw[if_neg h2];by_cases h3:b≤x.1
    ·rw[if_pos h3];exact go s0 (if_neg (fun k:h1u o (a,b) x=>k ⟨h1,.inr h3⟩)).symm
    ·rw[if_neg h3,←same];exact go x (if_pos (show h1u o (a,b) x from fun k=>k.2.elim h2 h3)).symm
  ·rw[if_neg h1,←same];exact go x (if_pos (show h1u o (a,b) x from fun k=>h1 k.1)).symm
theorem b2k {t a b:Int} (ht:0≤t∧t<35184372088832) (ha:1≤a) (hb:1≤b) (hb1:b≤1099511627776) (hm:b % a=0):0≤t / b*(b / a)∧t / b*(b / a)≤t∧1≤b / a∧b / a≤1099511627776:=by
 have hp:=f0z ha hb hm;have q:=(edvm (t:=t) ha hb hm).2;have h0:0≤t / b:=Int.ediv_nonneg ht.1 (by omega);have h1:t / b*(b / a)≤t / a:=by rw[←q];exact Int.ediv_mul_le _ (by omega)
 have h2:t / a≤t:=Int.ediv_le_self _ ht.1;have h3:b / a≤b:=Int.ediv_le_self _ (by omega);exact ⟨Int.mul_nonneg h0 (by omega),by omega,by omega,by omega⟩
theorem b2l {a b:Int} (ha:1≤a) (hb:1≤b) (hb1:b≤1099511627776):IntKind.wrap .i64 (Int.tdiv b a)=b / a:=i0b ⟨by omega,by omega⟩ ha
theorem needed_0 (n:Nat) {c:Conf} (h:OkC c) {t:Int} (ht:0≤t∧t<35184372088832):e0d (n+1) c t 0=some (n0q c t):=by
 have hr:=h.rng;obtain ⟨a1,a2,a3,a4⟩:=b2k ht hr.w0.1 hr.w1.1 hr.w1.2 h.m1;rw[z0h,tfd,if_neg (nz hr.w0.1),tfd,if_neg (nz hr.w1.1),i0b ht hr.w1.1,b2l hr.w0.1 hr.w1.1 hr.w1.2,w64 (x:=t / c.2.1.2.1*(c.2.1.2.1 / c.2.1.1)) (by omega) (by omega),w64 (by omega) (by omega)];rfl
theorem needed_1 (n:Nat) {c:Conf} (h:OkC c) {t:Int} (ht:0≤t∧t<35184372088832):e0d (n+1) c t 1=some (o0n c t):=by
 have hr:=h.rng;obtain ⟨a1,a2,a3,a4⟩:=b2k ht hr.w1.1 hr.w2.1 hr.w2.2 h.m2;rw[z0g,tfd,if_neg (nz hr.w1.1),tfd,if_neg (nz hr.w2.1),i0b ht hr.w2.1,b2l hr.w1.1 hr.w2.1 hr.w2.2,w64 (x:=t / c.2.1.2.2*(c.2.1.2.2 / c.2.1.2.1)) (by omega) (by omega),w64 (by omega) (by omega)];rfl
theorem fade_0 (n:Nat) {c:Conf} (h:OkC c) (x:Ser) (ht:0≤x.2.1∧x.2.1<35184372088832) (hL:x.2.2.2.1.1.length≤1000000) (o:Int):f0q (n+2) c x 0 o=some (m0a o (n0q c x.2.1) x.2.2.2.1.1):=by
 rw[e1i,needed_0 n h ht,obs,p0a n _ hL,obs];have e:=z1d (n+1) o (n0q c x.2.1).1 (n0q c x.2.1).2 x.2.2.2.1.1 [] a0b 0 (x.2.2.2.1.1.length:Int) (by simpa using hL) rfl (by simp) (by unfold a0b;omega);rw[List.nil_append] at e;rw[e,obs,a0w];rfl
theorem fade_1 (n:Nat) {c:Conf} (h:OkC c) (x:Ser) (ht:0≤x.2.1∧x.2.1<35184372088832) (hL:x.2.2.2.1.2.1.length≤1000000) (o:Int):f0q (n+2) c x 1 o=some (m0a o (o0n c x.2.1) x.2.2.2.1.2.1):=by
 rw[e1h,needed_1 n h ht,obs,p0a n _ hL,obs];have e:=z1d (n+1) o (o0n c x.2.1).1 (o0n c x.2.1).2 x.2.2.2.1.2.1 [] a0b 0 (x.2.2.2.1.2.1.length:Int) (by simpa using hL) rfl (by simp) (by unfold a0b;omega);rw[List.nil_append] at e;rw[e,obs,a0w];rfl
theorem fade_2 (n:Nat) (c:Conf) (x:Ser) (hL:x.2.2.2.1.2.2.length≤1000000) (o:Int):f0q (n+2) c x 2 o=some (m0a o (0,0) x.2.2.2.1.2.2):=by
 rw[e1g,z0f,obs,p0a n _ hL,obs];have e:=z1d (n+1) o 0 0 x.2.2.2.1.2.2 [] a0b 0 (x.2.2.2.1.2.2.length:Int) (by simpa using hL) rfl (by simp) (by unfold a0b;omega);rw[List.nil_append] at e;rw[e,obs,a0w];rfl
theorem time_of {s:Sta} (h:StaOk s) {x:Ser} (hx:SerOk s.1 x) (h0:0≤x.2.1):0≤x.2.1∧x.2.1<35184372088832:=f0w hx (by omega)
theorem n2i (n:Nat) {s:Sta} (h:StaOk s) {x:Ser} (hx:SerOk s.1 x) (h0:0≤x.2.1) (s2:Sta) (out:List Ser) (i:Int) (L:List Int) (q1 q2:Int) (f:Nat) :
  c0d (n+14) (f+4) (s,s2,out,i,x,L,q1,q2,s.1.2.1,(0:Int),())=some (.inl (s,s2,out,i,i0l s.1 s.2.1 x,L,q1,q2,())):=by
 have hr:=h.whole.1.rng;have ht:=h.clock.1;have hc:=h.whole.1;have hT:=time_of h hx h0;have l0:=hx.fold.t0.l1;have l1:=hx.fold.t1.l1;have l2:=hx.fold.t2.l1;rw[u0a,q0x (n+10),obs,tfn,decide_eq_true (q0d ⟨ht.1,ht.2,hr.w0.1,hr.w0.2⟩ hr.n0),tft,fade_0 (n+12) hc x hT (by omega),obs];generalize e0:m0a (oldV s.2.1 s.1.2.1.1 s.1.2.2.1.1).1 (n0q s.1 x.2.1) x.2.2.2.1.1=F0;rw[t0z,q0x (n+10),obs,tfn,decide_eq_true (q0d ⟨ht.1,ht.2,hr.w1.1,hr.w1.2⟩ hr.n1),tft,
  fade_1 (n+12) hc (x.1,(x.2.1,(x.2.2.1,((F0,x.2.2.2.1.2),x.2.2.2.2)))) hT (by show x.2.2.2.1.2.1.length≤_;omega),obs]
 dsimp only;generalize e1:m0a (oldV s.2.1 s.1.2.1.2.1 s.1.2.2.1.2.1).1 (o0n s.1 x.2.1) x.2.2.2.1.2.1=F1;rw[t0y,q0x (n+10),obs,tfn,decide_eq_true (q0d ⟨ht.1,ht.2,hr.w2.1,hr.w2.2⟩ hr.n2),tft,
  fade_2 (n+12) s.1 (x.1,(x.2.1,(x.2.2.1,((F0,(F1,x.2.2.2.1.2.2)),x.2.2.2.2)))) (by show x.2.2.2.1.2.2.length≤_;omega),obs,t0x]
 subst e0 e1;rfl
noncomputable def c2s (s:Sta) (L:List Int) (out:List Ser):List Ser:=L.foldl (fun o z=>o.set z.toNat (i0l s.1 s.2.1 ((s.2.2.2[z.toNat]?).getD ser0))) out
theorem clean_l6 (n:Nat) {s:Sta} (h:StaOk s) (s2:Sta) (L:List Int) (hL:L.length≤1000000) (hm:∀z∈L,0≤z∧∃y,s.2.2.2[z.toNat]? = some y∧SerOk s.1 y∧0≤y.2.1):∀(rest pre:List Int) (f:Nat) (out:List Ser) (ix len:Int),L=pre++rest→ix=pre.length→len=L.length→rest.length<f→out.length=s.2.2.2.length →
  g0g (n+14) f (s,s2,out,L,len,ix,())=some (.inl (s,s2,c2s s rest out,())):=by
 intro rest;induction rest with
 | nil =>
  intro pre f out ix len hl hi hn hf ho;obtain ⟨f,rfl⟩:∃g,f=g+1:=⟨f-1,by simp at hf;omega⟩;rw[n0u,decide_eq_false (idxe hl hi hn),tff];rfl
 | cons z rest ih =>
  intro pre f out ix len hl hi hn hf ho;obtain ⟨f,rfl⟩:∃g,f=g+1:=⟨f-1,by simp at hf;omega⟩;obtain ⟨h0,y,hy,hs,hy0⟩:=hm z (by rw[hl];simp);have hlt:z.toNat<out.length:=by rw[ho];exact (List.getElem?_eq_some_iff.1 hy).1
  have hg:out[z.toNat]? = some out[z.toNat]:=List.getElem?_eq_getElem hlt;have e10:=n2i n h hs hy0 s2 out z L len ix (2^70-4);rw[show 2^70-4+4=a0b from by decide] at e10;rw[n0u,decide_eq_true (idx hl hi hn),tft,b0q hl hi,obs,l2q hl hi,obs,at_nn h0 hy,obs,e10,obs,a0w];dsimp only;rw[at_nn h0 hg,obs,hg,obs,idxw hl hi (show L.length≤1000000000000 by omega),ih (pre++[z]) f _ (ix+1) len (idxl hl) (idxs hi) hn (by simp at hf;omega) (by simpa using ho)];unfold c2s;rw[List.foldl_cons,hy];rfl
theorem set_fold {α:Type} (g:Int→α) (j:Nat):∀(L:List Int) (out:List α),(∀z∈L,0≤z)→(L.foldl (fun o z=>o.set z.toNat (g z)) out)[j]? = if (j:Int)∈L then (if j<out.length then some (g j) else none) else out[j]? := by
 intro L;induction L with
 | nil=>intro out _;simp
 | cons z L ih =>
  intro out hz;have h0:=hz z (by simp);rw[List.foldl_cons,ih _ (fun y hy=>hz y (by simp[hy])),List.length_set];by_cases h:(j:Int)∈L
  ·rw[if_pos h,if_pos (show (j:Int)∈z::L by simp[h])]
  ·rw[if_neg h,List.getElem?_set];by_cases e:z.toNat=j
   ·have e':z=(j:Int):=by omega
    rw[if_pos e,if_pos (show (j:Int)∈z::L by simp[e']),e,e']
   ·rw[if_neg e,if_neg (show ¬(j:Int)∈z::L by simp[h];omega)]
theorem h2a {s:Sta} (h:StaOk s):c2s s ((o0o s).map Int.ofNat) (List.replicate s.2.2.2.length ser0)=s.2.2.2.map (s0l s):=by
 apply List.ext_getElem?;intro j;unfold c2s;rw[set_fold (fun z=>i0l s.1 s.2.1 ((s.2.2.2[z.toNat]?).getD ser0)) j _ _ (fun z hz=>(y1u hz).1),List.getElem?_map,List.length_replicate];have hmem:((j:Int)∈(o0o s).map Int.ofNat)↔lvAt s j=true:=by
  constructor
  ·intro hz;obtain ⟨i,hi,e⟩:=List.mem_map.1 hz;have e:i=j:=by injection e
   rw[←e];exact (List.mem_filter.1 hi).2
  ·intro hl;exact List.mem_map.2 ⟨j,List.mem_filter.2 ⟨List.mem_range.2 (k2z hl),hl⟩,rfl⟩
 by_cases hl:lvAt s j=true
 ·obtain ⟨x,hx,hlx⟩:=o1b.1 hl;rw[if_pos (hmem.2 hl),if_pos (k2z hl),hx];simp only[Option.map_some,Int.toNat_natCast,hx,Option.getD_some];exact congrArg some (if_pos hlx).symm
 ·rw[if_neg (fun k=>hl (hmem.1 k)),List.getElem?_replicate];cases hx:s.2.2.2[j]? with
  | none=>rw[if_neg (by have:=List.getElem?_eq_none_iff.1 hx;omega)];rfl
  | some x =>
   rw[if_pos (List.getElem?_eq_some_iff.1 hx).1];have hn:¬LvX s x:=fun k=>hl (o1b.2 ⟨x,hx,k⟩)
   exact congrArg some (if_neg hn).symm
noncomputable def k1z (s:Sta):Sta×Int:=if StaOk s then (c1b s,0) else (sta0,2)
theorem y1v {s:Sta} (h:StaOk s):∀z∈(o0o s).map Int.ofNat,0≤z∧∃y,s.2.2.2[z.toNat]? = some y∧SerOk s.1 y∧0≤y.2.1:=by
 intro z hz;obtain ⟨h0,y,hy,hl⟩:=y1u hz;exact ⟨h0,y,hy,y1t h (List.mem_of_getElem? hy) hl⟩
theorem e1j (n:Nat) {s:Sta} (hw:StaW s):v0g (n+15) s=some (k1z s):=by
 rw[i1c,h0m n hw,obs,tfn];unfold k1z;by_cases h:StaOk s
 case neg=>rw[n2n h,if_neg h,if_neg h];rfl
 have hlen:=h.whole.len;have hL:((o0o s).map Int.ofNat).length≤1000000:=by have:=b2v s;simp;omega
 have e:liveR s=(o0o s).map Int.ofNat:=if_pos h.whole;have e6:=clean_l6 n h sta0 _ hL (y1v h) _ [] a0b (List.replicate s.2.2.2.length ser0) 0 _ rfl rfl rfl (by unfold a0b;omega) (by simp);rw[h2a h] at e6;rw[n2m h,if_pos h,decide_eq_true (by omega),decide_eq_true (Int.le_refl _),decide_eq_true (show (s.2.2.2.length:Int)*264≤140737488355328 by omega),Bool.and_self,Bool.and_self,tft,a2n (n+6) hw,obs,e,Int.toNat_natCast]
 change a0a (g0g (n+14) a0b (s,sta0,List.replicate s.2.2.2.length ser0,(o0o s).map Int.ofNat,(((o0o s).map Int.ofNat).length:Int),(0:Int),())) _=_
 rw[e6,obs,a0w];rfl
theorem cleanX_w {c:Conf} {now:Int} {x:Ser} (hx:SerW x∧SerM x):SerW (i0l c now x)∧SerM (i0l c now x):=by
 obtain ⟨⟨h1,h2,h3,h4⟩,m1,m2,m3,m4,m5⟩:=hx;have fw:∀(o:Int) (r:Int×Int) (l:List Slo),(∀z∈l,SloW z)→∀z∈m0a o r l,SloW z:=by
  intro o r l hl z hz;obtain ⟨y,hy,e⟩:=List.mem_map.1 hz;split at e
  ·rw[←e];exact hl y hy
  ·rw[←e];exact z0n
 refine ⟨⟨h1,h2,?_,h4⟩,m1,m2,by simpa [i0l,g0k] using m3,by simpa [i0l,g0k] using m4,by simpa [i0l,g0k] using m5⟩;obtain ⟨t1,t2,t3⟩:=h3;exact ⟨fw _ _ _ t1,fw _ _ _ t2,fw _ _ _ t3⟩
theorem cleanS_w {s:Sta} (hw:StaW s):StaW (c1b s):=by
 refine ⟨by simpa [c1b] using hw.len,fun x hx => ?_⟩;obtain ⟨y,hy,e⟩:=List.mem_map.1 hx;unfold s0l at e;split at e
 ·rw[←e];exact cleanX_w (hw.ser y hy)
 ·rw[←e];exact ⟨ser0_w,ser0_m⟩
structure EvInv (N:Nat) (s:Sta):Prop where
 ok:StaOk s
 w:StaW s
 ser:∀x∈s.2.2.2,x=ser0∨∃y l,SerInv s.1 y l∧l≠[]∧l.length≤N∧Fad s.1 (olds s.1 s.2.1) x y
theorem EvInv.of {N:Nat} {s:Sta} (h:StaInv N s):EvInv N s:=⟨h.ok,h.w,fun x hx=>(h.ser x hx).imp id fun ⟨l,h1,h2,h3⟩=>⟨x,l,h1,h2,h3,.refl _ _ _⟩⟩
theorem EvInv.mono {N M:Nat} {s:Sta} (h:EvInv N s) (hm:N≤M):EvInv M s :=
 ⟨h.ok,h.w,fun x hx=>(h.ser x hx).imp id fun ⟨y,l,h1,h2,h3,h4⟩=>⟨y,l,h1,h2,Nat.le_trans h3 hm,h4⟩⟩
theorem k2t {s:Sta} (h:StaOk s) {now:Int} (h1:s.2.1≤now) (h2:now<35184372088832):(olds s.1 s.2.1).1≤(olds s.1 now).1∧(olds s.1 s.2.1).2.1≤(olds s.1 now).2.1∧(olds s.1 s.2.1).2.2≤(olds s.1 now).2.2:=by
 have hr:=h.whole.1.rng;have hc:=h.clock.1;have c1:=hc.1;have c2:=hc.2;exact ⟨d1h ⟨c1,c2,hr.w0.1,hr.w0.2⟩ ⟨by omega,h2,hr.w0.1,hr.w0.2⟩ h1 hr.n0,d1h ⟨c1,c2,hr.w1.1,hr.w1.2⟩ ⟨by omega,h2,hr.w1.1,hr.w1.2⟩ h1 hr.n1,d1h ⟨c1,c2,hr.w2.1,hr.w2.2⟩ ⟨by omega,h2,hr.w2.1,hr.w2.2⟩ h1 hr.n2⟩
theorem EvInv.tick {N:Nat} {s:Sta} (h:EvInv N s) (now:Int):EvInv N (d2p s now).1:=by
 unfold d2p;by_cases hm:Moves s now
 ·rw[if_pos hm];obtain ⟨m1,m2,m3⟩:=k2t h.ok (Int.le_of_lt hm.2.1) hm.2.2;exact ⟨tick_ok hm,tickS_w h.w now,fun x hx=>(h.ser x hx).imp id fun ⟨y,l,h1,h2,h3,h4⟩=>⟨y,l,h1,h2,h3,h4.mono m1 m2 m3⟩⟩
 ·rw[if_neg hm];exact h
theorem m2h {c:Conf} {o:Int×(Int×Int)} {x y x':Ser} {l:List Ev} {e:Ev} (hx:SerOk c x) (h:Fad c o x y) (hy:SerInv c y l) (hL:l.length<1000000) (hp:Go.Proofs.YtgkpkajaepphjaaGreatDoor.putE c x e=(x',0)):∃y',SerInv c y' (l++[e])∧Fad c o x' y':=by
 obtain ⟨_,he,hlt,_⟩:=w0y hx hp;have hf:Foll (l++[e]):=by
  refine b0c.2 ⟨hy.foll,⟨by simp[he],by simp⟩,fun a ha b hb => ?_⟩;simp at hb;subst hb;rcases hy.last with ⟨k,_⟩ | k
  ·rw[k] at ha;cases ha
  ·have:=k.le a ha;rw[h.last] at hlt;omega
 obtain ⟨y',h1,h2⟩:=w1w hy hf hL;obtain ⟨x'',h3,h4⟩:=h.putE hx (j0m hy) h1;rw[hp] at h3;injection h3 with h3 _;subst h3;exact ⟨y',h2,h4⟩
theorem EvInv.write {N:Nat} {s:Sta} (h:EvInv N s) (hb:N<1000000) (l:List Lab) (e:Ev):EvInv (N+1) (if (f0d s l e).2=0 then (f0d s l e).1 else s):=by
 by_cases h0:(f0d s l e).2=0
 case neg=>rw[if_neg h0];exact h.mono (Nat.le_succ N)
 rw[if_pos h0];have hw:f0d s l e=((f0d s l e).1,0):=Prod.ext rfl h0;have hww:=writeV_w h.w l e;generalize (f0d s l e).1=t at *
 refine ⟨w1k hw,hww,?_⟩;obtain ⟨hg,i,x,b,y,hp,hput,rfl,_⟩:=l1f hw;obtain ⟨p1,_⟩:=d1f hg hp;intro z hz;rcases List.mem_or_eq_of_mem_set hz with k | k
 ·exact (h.ser z k).imp id fun ⟨y,l,h1,h2,h3,h4⟩=>⟨y,l,h1,h2,by omega,h4⟩
 ·subst k;right;cases hp with
  | found hf hx hl hlv ht =>
   obtain ⟨y0,l0,h1,_,h3,h4⟩:=(h.ser x (List.mem_of_getElem? hx)).resolve_left hlv.1;obtain ⟨y',q1,q2⟩:=m2h p1 h4 h1 (by omega) hput;exact ⟨y',_,q1,by simp,by simp;omega,q2⟩
  | room hf hs hr =>
   obtain ⟨y',q1,q2⟩:=m2h (o:=olds s.1 s.2.1) p1 (.refl _ _ _) (y1q hg.st.whole.1 hg.lab) (by simp) hput;exact ⟨y',_,q1,by simp,by simp,q2⟩
theorem EvInv.sweep {N:Nat} {s:Sta} (h:EvInv N s):EvInv N (b1j s):=⟨swept_ok h.ok,sweptS_w h.w,h.ser⟩
theorem EvInv.clean {N:Nat} {s:Sta} (h:EvInv N s):EvInv N (c1b s):=by
 refine ⟨clean_ok h.ok,cleanS_w h.w,fun z hz => ?_⟩;obtain ⟨x,hx,e⟩:=List.mem_map.1 hz;unfold s0l at e;split at e
 ·rename_i hl;obtain ⟨y,l,h1,h2,h3,h4⟩:=(h.ser x hx).resolve_left hl.1;rw[←e];exact .inr ⟨y,l,h1,h2,h3,h4.clean⟩
 ·exact .inl e.symm
abbrev Act:Type:=Int×((List Lab×Ev)×Int)
theorem small_l4 (n:Nat) (acts:List Act) (hL:acts.length≤9223372036854775807) (hw:∀x∈acts,x.2.1.1.length≤9223372036854775807):∀(rest pre:List Act) (f:Nat) (ix len:Int),acts=pre++rest→ix=pre.length→len=acts.length→rest.length<f →
  e0p (n+1) f (acts,len,ix,())=some (.inl ())∨e0p (n+1) f (acts,len,ix,())=some (.inr false):=by
 intro rest;induction rest with
 | nil =>
  intro pre f ix len ha hi hl hf;obtain ⟨f,rfl⟩:=o0u hf;subst hi;subst hl;rw[List.append_nil] at ha;subst ha;rw[l0h,decide_eq_false (by omega),tff];exact .inl rfl
 | cons x r ih =>
  intro pre f ix len ha hi hl hf;obtain ⟨f,rfl⟩:=o0u hf;have hlen:acts.length=pre.length+(r.length+1):=by rw[ha];simp
  subst hi;subst hl;have hat:at? acts (pre.length:Int)=some x:=by
   rw[ha];exact b0q (pre:=pre) (rest:=r) rfl rfl
  rw[l0h,decide_eq_true (by omega),tft,hat,obs];rcases t1t n x.2.1.1 (hw x (by rw[ha];simp)) with h | h
  ·rw[h];exact .inr rfl
  ·rw[h,obs,show (decide ((1:Int)=0))=false from rfl,tff,w64 (by omega) (by omega)];exact ih (pre++[x]) f ((pre.length:Int)+1) (acts.length:Int) (by rw[ha];simp) (by simp) rfl (by simp at hf;omega)
theorem d2u (n:Nat) (acts:List Act) (hL:acts.length≤9223372036854775807) (hw:∀x∈acts,x.2.1.1.length≤9223372036854775807):k0j (n+2) acts=some false∨(k0j (n+2) acts=some true∧acts.length≤40):=by
 rw[c1d,tfd];by_cases h:(40:Int)<((acts.length:Nat):Int)
 ·rw[if_pos h];exact .inl rfl
 rw[if_neg h];rcases small_l4 n acts hL hw acts [] a0b 0 _ rfl rfl rfl (by unfold a0b;omega) with e | e
 ·rw[e];exact .inr ⟨rfl,by omega⟩
 ·rw[e];exact .inl rfl
theorem fits11 (n:Nat) (c:Conf):s0w (n+8) c=some false∨(s0w (n+8) c=some true∧(q0v c).2=0):=by
 rw[l1m,e1l n,obs,tfd];by_cases h:(q0v c).2=0
 case neg=>rw[if_neg h];exact .inl rfl
 rw[if_pos h];simp only[tfd];by_cases h1:((((q0v c).1.2.2.2.length:Nat):Int))≤8
 case neg=>rw[if_neg h1];exact .inl rfl
 rw[if_pos h1];by_cases h2:c.1≤60
 case neg=>rw[if_neg h2];exact .inl rfl
 rw[if_pos h2];by_cases h3:c.2.2.1.1≤40
 case neg=>rw[if_neg h3];exact .inl rfl
 rw[if_pos h3];by_cases h4:c.2.2.1.2.1≤40
 case neg=>rw[if_neg h4];exact .inl rfl
 rw[if_pos h4];by_cases h5:c.2.2.1.2.2≤40
 ·rw[decide_eq_true h5];exact .inr ⟨rfl,h⟩
 ·rw[decide_eq_false h5];exact .inl rfl
theorem top_act (n:Nat) {N:Nat} {s:Sta} (h:EvInv N s) (hb:N<1000000) (x:Act) (hx:EvW x.2.1.2):∃t v,s0x (n+25) x s=some (t,v)∧EvInv (N+1) t:=by
 rw[w0c,tfd];by_cases h0:x.1=0
 ·rw[if_pos h0,p1u n h.w x.2.1.1 hx,obs,tfd];have hw:=h.write hb x.2.1.1 x.2.1.2;by_cases k:(f0d s x.2.1.1 x.2.1.2).2=0
  ·rw[if_pos k] at hw ⊢;exact ⟨_,_,rfl,hw⟩
  ·rw[if_neg k] at hw ⊢;exact ⟨_,_,rfl,hw⟩
 rw[if_neg h0,tfd];by_cases h1:x.1=1
 ·rw[if_pos h1,c2n (n+9) h.w,obs];exact ⟨_,_,rfl,(h.tick x.2.2).mono (Nat.le_succ N)⟩
 rw[if_neg h1,tfd];by_cases h2:x.1=2
 ·rw[if_pos h2,a2l (n+8) h.w,obs];have e:doV s=(b1j s,(((dueV s).length:Int),0)):=by unfold doV;rw[if_pos h.ok]
  rw[e];exact ⟨_,_,rfl,h.sweep.mono (Nat.le_succ N)⟩
 rw[if_neg h2,tfd];by_cases h3:x.1=3
 ·rw[if_pos h3,e1j (n+9) h.w,obs];have e:k1z s=(c1b s,0):=by unfold k1z;rw[if_pos h.ok]
  rw[e];exact ⟨_,_,rfl,h.clean.mono (Nat.le_succ N)⟩
 rw[if_neg h3];exact ⟨_,_,rfl,h.mono (Nat.le_succ N)⟩
theorem acts_wf {acts:List Act} (ha:Wf (.slice l0f) acts):acts.length≤9223372036854775807∧(∀x∈acts,x.2.1.1.length≤9223372036854775807)∧∀x∈acts,EvW x.2.1.2 :=
 ⟨Nat.le_trans ha.1 (by decide),fun x hx=>Nat.le_trans (ha.2 x hx).2.1.1.1 (by decide),fun x hx=>ev_wf (ha.2 x hx).2.1.2⟩
structure Seg (c:Cel) (w lo hi:Int):Prop where
 ok:b0d c
 w0:1≤w
 at':c=z0∨lo≤c.2.1.1 / w∧c.2.2.1.1 / w<hi
theorem seg_z0 {w lo hi:Int} (hw:1≤w):Seg z0 w lo hi:=⟨i0i,hw,.inl rfl⟩
theorem Seg.mono {c:Cel} {w a b a' b':Int} (h:Seg c w a b) (h1:a'≤a) (h2:b≤b'):Seg c w a' b' :=
 ⟨h.ok,h.w0,h.at'.imp id fun k=>⟨by omega,by omega⟩⟩
theorem seg_fits {c:Cel} {w i:Int} (h:FitsP c w i):Seg c w i (i+1):=⟨h.n.ok,h.w0,.inr ⟨by rw[h.f];omega,by rw[h.l];omega⟩⟩
theorem r0i {a b:Cel} {w lo m m' hi:Int} (ha:Seg a w lo m) (hb:Seg b w m' hi) (h:m≤m'):Ahead a b:=by
 rcases ha.at' with k | ⟨_,k⟩
 ·exact .inl k
 rcases hb.at' with q | ⟨q,_⟩
 ·exact .inr (.inl q)
 refine .inr (.inr ?_);rcases Int.lt_or_le a.2.2.1.1 b.2.1.1 with u | u
 ·exact u
 ·have:=Int.ediv_le_ediv (c:=w) (by have:=ha.w0;omega) u;omega
theorem m1m {a b:Cel} {w lo m m' hi:Int} (ha:Seg a w lo m) (hb:Seg b w m' hi) (h:m≤m') (h1:lo≤m') (h2:m≤hi):mrgE a b=(mrg a b,0)∧Seg (mrg a b) w lo hi:=by
 have hah:=r0i ha hb h;refine ⟨d0d ha.ok hb.ok hah,u0w ha.ok hb.ok hah,ha.w0,?_⟩;unfold mrg;by_cases za:a=z0
 ·rw[if_pos za];exact hb.at'.imp id fun k=>⟨by omega,k.2⟩
 ·rw[if_neg za];obtain ⟨a1,a2⟩:=ha.at'.resolve_left za;by_cases zb:b=z0
  ·rw[if_pos zb];exact .inr ⟨a1,by omega⟩
  ·rw[if_neg zb];obtain ⟨b1,b2⟩:=hb.at'.resolve_left zb;exact .inr ⟨a1,b2⟩
theorem allE_seg {w:Int}:∀(L:List Slo) (lo hi:Int),1≤w→lo≤hi→Up L→(∀s∈L,FitsP s.2 w s.1∧lo≤s.1∧s.1<hi) →
  Seg (allE z0 (L.map (·.2))).1 w lo hi∧∀(c:Cel) (lo0:Int),lo0≤lo→Seg c w lo0 lo→allE c (L.map (·.2))=(mrg c (allE z0 (L.map (·.2))).1,0):=by
 intro L;induction L with
 | nil =>
  intro lo hi hw _ _ _;exact ⟨seg_z0 hw,fun c _ _ hc=>by simp only[List.map_nil,allE];rw[q0r]⟩
 | cons s L ih =>
  intro lo hi hw hle hu hs;unfold Up at hu;rw[List.pairwise_cons] at hu;obtain ⟨hf,h1,h2⟩:=hs s (by simp);obtain ⟨i1,i2⟩:=ih (s.1+1) hi hw (by omega) hu.2 (fun x hx=>⟨(hs x (by simp[hx])).1,by have:=hu.1 x hx;omega,(hs x (by simp[hx])).2.2⟩);have sf:=seg_fits hf;have e0:allE z0 ((s::L).map (·.2))=(mrg s.2 (allE z0 (L.map (·.2))).1,0):=by
   simp only[List.map_cons,allE];rw[d0d i0i sf.ok (.inl rfl),i0j,if_pos rfl];exact i2 s.2 s.1 (by omega) sf
  obtain ⟨_,q2⟩:=m1m sf i1 (Int.le_refl _) (by omega) (by omega);rw[e0];refine ⟨q2.mono h1 (Int.le_refl _),fun c lo0 hl hc => ?_⟩;obtain ⟨r1,r2⟩:=m1m hc sf (by omega) (by omega) (by omega);simp only[List.map_cons,allE];rw[r1,if_pos rfl,i2 _ lo0 (by omega) r2,g1c hc.ok sf.ok i1.ok (r0i hc sf (by omega)) (r0i sf i1 (Int.le_refl _)) (r0i hc i1 (by omega))]
theorem u1h {l:List Slo} (hu:Up l) {i m j:Int} (h1:i≤m) (h2:m≤j):(l.filter fun s=>decide (i≤s.1∧s.1<j))=(l.filter fun s=>decide (i≤s.1∧s.1<m))++l.filter fun s=>decide (m≤s.1∧s.1<j):=by
 induction l with
 | nil=>rfl
 | cons s l ih =>
  unfold Up at hu;rw[List.pairwise_cons] at hu;have ih:=ih hu.2;by_cases a:s.1<m
  ·have b:¬(m≤s.1∧s.1<j):=by omega
   by_cases c:i≤s.1
   ·rw[List.filter_cons_of_pos (by simp;omega),List.filter_cons_of_pos (by simp;omega),List.filter_cons_of_neg (by simpa using b),ih];rfl
   ·rw[List.filter_cons_of_neg (by simp;omega),List.filter_cons_of_neg (by simp;omega),List.filter_cons_of_neg (by simpa using b),ih]
  ·have e:(l.filter fun s=>decide (i≤s.1∧s.1<m))=[]:=by
    rw[List.filter_eq_nil_iff];intro x hx;have:=hu.1 x hx;simp;omega
   rw[e,List.nil_append] at ih;rw[List.filter_cons_of_neg (p:=fun s:Slo=>decide (i≤s.1∧s.1<m)) (by simp;omega),e,List.nil_append];by_cases c:s.1<j
   ·rw[List.filter_cons_of_pos (by simp;omega),List.filter_cons_of_pos (by simp;omega),ih]
   ·rw[List.filter_cons_of_neg (by simp;omega),List.filter_cons_of_neg (by simp;omega),ih]
theorem s0p (c a:Cel) (A:List Cel):allE c (a::A)=if (mrgE c a).2=0 then allE (mrgE c a).1 A else (z0,(mrgE c a).2):=rfl
theorem y0v:∀(A B:List Cel) (c:Cel),(allE c A).2=0→allE c (A++B)=allE (allE c A).1 B:=by
 intro A;induction A with
 | nil=>intro B c _;rfl
 | cons a A ih =>
  intro B c h;rw[s0p] at h;rw[List.cons_append,s0p,s0p];by_cases k:(mrgE c a).2=0
  ·rw[if_pos k] at h;rw[if_pos k,if_pos k,ih B _ h]
  ·rw[if_neg k] at h;exact absurd h k
theorem w0h {t:List Slo} {w i j:Int} (h:TierOk t w) (h0:0≤i) (hij:i≤j):Seg (tfold t i j).1 w i j∧(tfold t i j).2=0∧∀(c:Cel) (lo0:Int),lo0≤i→Seg c w lo0 i→allE c (within t i j)=(mrg c (tfold t i j).1,0):=by
 unfold tfold;rw[if_neg (by omega)];unfold within;obtain ⟨k1,k2⟩:=allE_seg (w:=w) ((tall t).filter fun s=>decide (i≤s.1∧s.1<j)) i j h.w0 hij ((m0y h).filter _) (fun s hs=>by
  obtain ⟨s1,s2⟩:=List.mem_filter.1 hs;have s2:=of_decide_eq_true s2
  exact ⟨(d0y h s1).1,s2.1,s2.2⟩)
 exact ⟨k1,by rw[k2 z0 i (Int.le_refl _) (seg_z0 h.w0)],k2⟩
theorem v1y {t:List Slo} {w i m j:Int} (h:TierOk t w) (h0:0≤i) (h1:i≤m) (h2:m≤j):(tfold t i j).1=mrg (tfold t i m).1 (tfold t m j).1:=by
 obtain ⟨a1,a2,_⟩:=w0h h h0 h1;obtain ⟨b1,b2,b3⟩:=w0h (j:=j) h (by omega:0≤m) h2;have e:within t i j=within t i m++within t m j:=by
  unfold within;rw[u1h (m0y h) h1 h2,List.map_append]
 have ea:tfold t i m=allE z0 (within t i m):=by unfold tfold;rw[if_neg (by omega)]
 rw[ea] at a1 a2 ⊢;have:tfold t i j=allE z0 (within t i j):=by unfold tfold;rw[if_neg (by omega)]
 rw[this,e,y0v _ _ _ a2,b3 _ i h1 a1]
theorem v1k {t:List Slo} {w a m j:Int} (h:TierOk t w) (hb:a0k t a) (ha:a≤m):within t m j=[]:=by
 have hn:=(e0e h _).1 hb;unfold within;rw[List.filter_eq_nil_iff.2 (fun s hs=>by have:=hn s hs;simp;omega)];rfl
theorem e1d {t:List Slo} {w a m j:Int} (h:TierOk t w) (hb:a0k t a) (ha:a≤m) (h0:0≤m) (hm:m≤j):tfold t m j=(z0,0):=by
 unfold tfold;rw[if_neg (by omega),v1k h hb ha];rfl
theorem o2i {a b c:Cel} (h1:Ahead a b) (h2:Ahead a c):Ahead a (mrg b c):=by
 unfold mrg;by_cases zb:b=z0
 ·rw[if_pos zb];exact h2
 ·rw[if_neg zb];by_cases zc:c=z0
  ·rw[if_pos zc];exact h1
  ·rw[if_neg zc];rcases h1 with h | h | h
   ·exact .inl h
   ·exact absurd h zb
   ·exact .inr (.inr h)
theorem l1e:mrgE z0 z0=(z0,0):=by rw[d0d i0i i0i (.inl rfl),i0j]
theorem range_split {t:List Slo} {w T i m j:Int} {cur:Cel} {ok:Prop} [Decidable ok] (hok:ok) (h:TierOk t w) (hb:T = -1∨a0k t (T / w)∧CellN cur∧cur.2.1.1 / w=T / w) (h0:0≤i) (h1:i<m) (h2:m<j) :
  mrgE (b0r ok i m T w t (cur,0)).1 (b0r ok m j T w t (cur,0)).1=((b0r ok i j T w t (cur,0)).1,0):=by
 unfold b0r;simp only[if_pos hok];rw[if_neg (by omega:¬i<0),if_neg (by omega:¬m<i),if_neg (by omega:¬m<0),if_neg (by omega:¬j<m),if_neg (by omega:¬i<0),if_neg (by omega:¬j<i)];by_cases k1:T = -1
 ·rw[if_pos k1,if_pos k1,if_pos k1];exact l1e
 rw[if_neg k1,if_neg k1,if_neg k1];obtain ⟨hb,hc,hf⟩:=hb.resolve_left k1;obtain ⟨a1,a2,_⟩:=w0h (j:=m) h h0 (by omega);obtain ⟨b1,b2,_⟩:=w0h (i:=m) (j:=j) h (by omega) (by omega);have sp:=v1y (i:=i) (m:=m) (j:=j) h h0 (by omega) (by omega);by_cases k2:T / w<i
 ·rw[if_pos k2,if_pos (by omega),if_pos k2,(m1m a1 b1 (Int.le_refl _) (by omega) (by omega)).1,sp]
 rw[if_neg k2,if_neg k2];by_cases k3:j≤T / w
 ·rw[if_pos (by omega),if_neg (by omega),if_pos k3,if_pos k3,(m1m a1 b1 (Int.le_refl _) (by omega) (by omega)).1,sp]
 rw[if_neg k3,if_neg k3];have n0:¬((0:Int)≠0):=fun q=>q rfl
 rw[if_neg n0,if_neg n0,if_neg n0];by_cases k4:m≤T / w
 ·rw[if_pos k4,if_neg (by omega)];obtain ⟨l1,l2⟩:=k0v (j:=j) h hb (by omega:0≤m) k4;have ha2:=t0w h.w0 l2 (.inr hf);obtain ⟨_,l4⟩:=k0v (j:=m) h hb h0 (by omega:i≤T / w);have ha3:=t0w h.w0 l4 (.inr hf);have ha1:=r0i a1 b1 (Int.le_refl _);obtain ⟨m1,m2⟩:=k0v (j:=j) h hb h0 (by omega:i≤T / w);rw[d0d l1 hc.ok ha2,d0d m1 hc.ok (t0w h.w0 m2 (.inr hf)),d0d a1.ok (u0w l1 hc.ok ha2) (o2i ha1 ha3),sp,g1c a1.ok l1 hc.ok ha1 ha2 ha3]
 ·rw[if_neg k4,if_pos (by omega)];have e:=e1d (j:=j) h hb (by omega:T / w≤m) (by omega) (by omega);rw[e,q0r] at sp;obtain ⟨l1,l2⟩:=k0v (j:=m) h hb h0 (by omega:i≤T / w);have ha:=t0w h.w0 l2 (.inr hf);rw[e,sp,d0d l1 hc.ok ha,d0d (u0w l1 hc.ok ha) i0i (.inr (.inl rfl)),q0r]
theorem r1r {c:Conf} {s:Ser} (h:SerOk c s) (k:Int) {i m j:Int} (h0:0≤i) (h1:i<m) (h2:m<j):mrgE (rangeK c s k i m).1 (rangeK c s k m j).1=((rangeK c s k i j).1,0):=by
 have he:=v0j h;have non:s.2.1 = -1→∀(a b w:Int) (t:List Slo) (z:Cel×Int),0≤a→a≤b→b0r (SerOk c s) a b s.2.1 w t z=(z0,0):=fun hn a b w t z u v=>by
  unfold b0r;rw[if_pos h,if_neg (by omega),if_neg (by omega),if_pos hn]
 unfold rangeK;split
 ·exact range_split h h.fold.t0 he.t0 h0 h1 h2
 split
 ·by_cases hn:s.2.1 = -1
  ·rw[non hn _ _ _ _ _ h0 (by omega),non hn _ _ _ _ _ (by omega) (by omega),non hn _ _ _ _ _ h0 (by omega)];exact l1e
  ·obtain ⟨q,e,k1,k2,k3⟩:=he.t1.resolve_left hn;rw[e];exact range_split h h.fold.t1 (.inr ⟨k1,k2,k3⟩) h0 h1 h2
 ·by_cases hn:s.2.1 = -1
  ·rw[non hn _ _ _ _ _ h0 (by omega),non hn _ _ _ _ _ (by omega) (by omega),non hn _ _ _ _ _ h0 (by omega)];exact l1e
  ·obtain ⟨q,e,k1,k2,k3⟩:=he.t2.resolve_left hn;rw[e];exact range_split h h.fold.t2 (.inr ⟨k1,k2,k3⟩) h0 h1 h2
theorem d2e {t:List Slo} {w i:Int} (h:TierOk t w):within t i (i+1)=if tget t i=z0 then [] else [tget t i]:=by
 unfold within;have hu:Up ((tall t).filter fun s=>decide (i≤s.1∧s.1<i+1)):=(m0y h).filter _;have hm:∀s∈(tall t).filter (fun s=>decide (i≤s.1∧s.1<i+1)),s∈tall t∧s.1=i:=fun s hs=>by
  obtain ⟨a,b⟩:=List.mem_filter.1 hs;have b:=of_decide_eq_true b;exact ⟨a,by omega⟩
 have hin:∀s∈tall t,s.1=i→s∈(tall t).filter (fun s=>decide (i≤s.1∧s.1<i+1)):=fun s hs e=>List.mem_filter.2 ⟨hs,decide_eq_true (by omega)⟩
 generalize (tall t).filter (fun s=>decide (i≤s.1∧s.1<i+1))=F at *
 match F,hu,hm,hin with
 | [],_,_,hin =>
  rcases j1k h i with e | e
  ·rw[if_pos e];rfl
  ·exact absurd (hin _ e rfl) (by simp)
 | [s],_,hm,_ =>
  obtain ⟨a,b⟩:=hm s (by simp);have e:=a2j h a;rw[b] at e;rw[e,if_neg (d0y h a).1.n.ne];rfl
 | s::s'::r,hu,hm,_ =>
  have:=(List.pairwise_cons.1 hu).1 s' (by simp);obtain ⟨_,e1⟩:=hm s (by simp);obtain ⟨_,e2⟩:=hm s' (by simp);omega
theorem i2i {t:List Slo} {w i:Int} (h:TierOk t w) (h0:0≤i):tfold t i (i+1)=(tget t i,0):=by
 unfold tfold;rw[if_neg (by omega),d2e h];by_cases e:tget t i=z0
 ·rw[if_pos e,e];rfl
 ·rw[if_neg e];have hx:b0d (tget t i):=(d0y h ((j1k h i).resolve_left e)).1.n.ok;show (if (mrgE z0 (tget t i)).2=0 then ((mrgE z0 (tget t i)).1,(0:Int)) else (z0,(mrgE z0 (tget t i)).2))=_;rw[d0d i0i hx (.inl rfl),i0j,if_pos rfl]
theorem b1d {t:List Slo} {w T i:Int} {cur:Cel} {ok:Prop} [Decidable ok] (hok:ok) (h:TierOk t w) (hb:T = -1∨a0k t (T / w)∧CellN cur) (hp:a0k t (T / w+1)) (h0:0≤i) :
  cellV ok i T w t (cur,0)=b0r ok i (i+1) T w t (cur,0):=by
 by_cases hn:T = -1
 ·unfold cellV b0r;rw[if_pos hok,if_neg (by omega),if_pos hn,if_pos hok,if_neg (by omega),if_neg (by omega),if_pos hn]
 obtain ⟨hb,hc⟩:=hb.resolve_left hn;by_cases hi:T / w<i
 ·rw[e2w hok h hp h0 (by omega) hi];unfold cellV;rw[if_pos hok,if_neg (by omega),if_neg hn,if_pos hi]
 unfold cellV b0r;rw[if_pos hok,if_neg (show ¬i<0 by omega),if_neg hn,if_neg hi,if_pos hok,if_neg (show ¬i<0 by omega),if_neg (show ¬i+1<i by omega),if_neg hn,if_neg hi];by_cases e:i=T / w
 ·rw[if_pos e,if_neg (show ¬i+1≤T / w by omega),if_neg (show ¬((cur,(0:Int)).2≠0) from fun k=>k rfl),e1d h hb (by omega) h0 (by omega)];simp only;rw[d0d i0i hc.ok (.inl rfl),i0j]
 ·rw[if_neg e,if_pos (show i+1≤T / w by omega),i2i h h0]
noncomputable def n2p (c:Conf) (s:Ser) (k i:Int):Cel×Int :=
 if k=0 then cellV (SerOk c s) i s.2.1 c.2.1.1 s.2.2.2.1.1 (s.2.2.2.2.2,0)
 else if k=1 then cellV (SerOk c s) i s.2.1 c.2.1.2.1 s.2.2.2.1.2.1 (now1 c s)
 else cellV (SerOk c s) i s.2.1 c.2.1.2.2 s.2.2.2.1.2.2 (now2 c s)
theorem g1x {ok:Prop} [Decidable ok] (hok:ok) {i T w:Int} {t:List Slo} {now:Cel×Int} (hn:T = -1) (h0:0≤i):cellV ok i T w t now=b0r ok i (i+1) T w t now:=by
 unfold cellV b0r;rw[if_pos hok,if_neg (by omega),if_pos hn,if_pos hok,if_neg (by omega),if_neg (by omega),if_pos hn]
theorem z1x {c:Conf} {s:Ser} (h:SerOk c s) (k:Int) {i:Int} (h0:0≤i):n2p c s k i=rangeK c s k i (i+1):=by
 have he:=v0j h;obtain ⟨n0,n1,n2⟩:=nb_all h;unfold n2p rangeK;split
 ·exact b1d h h.fold.t0 (he.t0.imp id fun ⟨a,b,_⟩=>⟨a,b⟩) n0 h0
 split
 ·by_cases hn:s.2.1 = -1
  ·exact g1x h hn h0
  ·obtain ⟨m,e,k1,k2,_⟩:=he.t1.resolve_left hn;rw[e];exact b1d h h.fold.t1 (.inr ⟨k1,k2⟩) n1 h0
 ·by_cases hn:s.2.1 = -1
  ·exact g1x h hn h0
  ·obtain ⟨m,e,k1,k2,_⟩:=he.t2.resolve_left hn;rw[e];exact b1d h h.fold.t2 (.inr ⟨k1,k2⟩) n2 h0
theorem j2d (n:Nat) (c:Conf) {s:Ser} (hw:SerW s) {k:Int} (h0:0≤k) (h2:k≤2) (i:Int):f0i (n+21) c s k i=some (n2p c s k i):=by
 unfold n2p;rcases (by omega:k=0∨k=1∨k=2) with e | e | e
 ·subst e;rw[if_pos rfl];exact r1f n c hw i
 ·subst e;rw[if_neg (by decide),if_pos rfl];exact r1e n c hw i
 ·subst e;rw[if_neg (by decide),if_neg (by decide)];exact r1d n c hw i
noncomputable def winC (s:Sta) (l:List Lab) (k i:Int):Cel :=
 match i0x s l with
 | some p=>(rangeK s.1 ((s.2.2.2[p]?).getD ser0) k i (i+1)).1
 | none=>z0
noncomputable def winL (s:Sta) (l:List Lab) (k i:Int) (m:Nat):List Cel:=(List.range m).map fun j:Nat=>winC s l k (i+(j:Int))
theorem d0v (s:Sta) (l:List Lab) (k i:Int) (m:Nat):(winL s l k i m).length=m:=by simp[winL]
theorem d1r (s:Sta) (l:List Lab) (k i:Int) (m:Nat):winL s l k i (m+1)=winL s l k i m++[winC s l k (i+(m:Int))]:=by
 unfold winL;rw[List.range_succ,List.map_append];rfl
theorem h2t (s:Sta) (l:List Lab) (k i:Int):b0d (winC s l k i):=by
 unfold winC;split
 ·exact k1d _ _ _ _ _
 ·exact i0i
theorem v1l (s:Sta) (l:List Lab) (k i:Int) (m:Nat):∀c∈winL s l k i m,b0d c:=by
 intro c hc;unfold winL at hc;obtain ⟨j,_,rfl⟩:=List.mem_map.1 hc;exact h2t _ _ _ _
noncomputable def rngQ (s:Sta) (l:List Lab) (k i j:Int):Cel :=
 match i0x s l with
 | some p=>(rangeK s.1 ((s.2.2.2[p]?).getD ser0) k i j).1
 | none=>z0
theorem k1a (s:Sta) (l:List Lab) (k a b:Int):j1c s l k a b=rngQ s l k (a / a0i s.1 k) (b / a0i s.1 k):=rfl
theorem a2e (s:Sta) (l:List Lab) (k i:Int):winC s l k i=rngQ s l k i (i+1):=rfl
theorem e2o {s:Sta} (hs:StaOk s) (l:List Lab) {k i m j:Int} (h0:0≤i) (h1:i<m) (h2:m<j):mrgE (rngQ s l k i m) (rngQ s l k m j)=(rngQ s l k i j,0):=by
 unfold rngQ;cases hf:i0x s l with
 | none=>exact l1e
 | some p =>
  obtain ⟨x,hx,hxl,hlv,hok⟩:=found hs hf;simp only[hx,Option.getD_some];exact r1r hok k h0 h1 h2
theorem l1g {s:Sta} (hs:StaOk s) (l:List Lab) (k:Int) {i:Int} (h0:0≤i):∀m:Nat,allE z0 (winL s l k i (m+1))=(rngQ s l k i (i+((m+1:Nat):Int)),0):=by
 intro m;induction m with
 | zero =>
  rw[d1r];show allE z0 [winC s l k (i+((0:Nat):Int))]=_;rw[show i+((0:Nat):Int)=i by omega];show (if (mrgE z0 (winC s l k i)).2=0 then ((mrgE z0 (winC s l k i)).1,(0:Int)) else (z0,(mrgE z0 (winC s l k i)).2))=_;rw[d0d i0i (h2t s l k i) (.inl rfl),i0j,if_pos rfl];rfl
 | succ m ih =>
  rw[d1r,y0v _ _ z0 (by rw[ih]),ih];simp only;show (if (mrgE (rngQ s l k i (i+((m+1:Nat):Int))) (winC s l k (i+((m+1:Nat):Int)))).2=0 then ((mrgE (rngQ s l k i (i+((m+1:Nat):Int))) (winC s l k (i+((m+1:Nat):Int)))).1,(0:Int)) else _)=_;rw[a2e,e2o hs l h0 (by omega) (by omega),if_pos rfl,show i+((m+1:Nat):Int)+1=i+((m+1+1:Nat):Int) by omega]
def stp:Cel→List Cel→List Wd
 | _,[]=>[]
 | c,x::r=>mkW (wv (mrg c x).2.2.2.1-wv c.2.2.2.1)::stp (mrg c x) r
def hstpV (l:List Cel):List Wd×Int:=if (allE z0 l).2=0 then (stp z0 l,0) else ([],(allE z0 l).2)
theorem v0h (l:List Cel):∀c,(stp c l).length=l.length:=by
 induction l with
 | nil=>intro c;rfl
 | cons x l ih=>intro c;simp[stp,ih]
theorem y0u {c x:Cel} {r:List Cel} (h:(allE c (x::r)).2=0):b0d c∧b0d x∧Ahead c x∧mrgE c x=(mrg c x,0)∧(allE (mrg c x) r).2=0:=by
 unfold allE at h;by_cases k:(mrgE c x).2=0
 ·rw[if_pos k] at h;obtain ⟨h1,h2,h3,h4,h5⟩:=n1z k;rw[h4] at h;exact ⟨h1,h2,h3,Prod.ext h4 k,h⟩
 ·rw[if_neg k] at h;exact (k h).elim
theorem step_z {c:Cel}:mkW (wv (mrg c z0).2.2.2.1-wv c.2.2.2.1)=(0,0):=by
 rw[q0r,Int.sub_self];rfl
theorem j1o {x:Cel} (hx:CellN x):mkW (wv (mrg z0 x).2.2.2.1-wv z0.2.2.2.1)=x.2.2.2.1:=by
 rw[i0j];show mkW (wv x.2.2.2.1-wv (0,0))=_;rw[y0y,Int.sub_zero,g1e hx.w]
theorem step_next {c x:Cel} (hc:CellN c) (hx:CellN x):wv (mrg c x).2.2.2.1-wv c.2.2.2.1=(btw c.2.2.1 x.2.1).1+wv x.2.2.2.1:=by
 rw[x0z hc hx];simp only[n0s];omega
theorem step_range {c x:Cel} (hc:CellN c) (hx:CellN x) (ha:c.2.2.1.1<x.2.1.1):0≤(btw c.2.2.1 x.2.1).1∧(btw c.2.2.1 x.2.1).1≤18446744073709551615∧wv x.2.2.2.1≤18446744073709551615*35184372088832∧0≤wv x.2.2.2.1:=by
 have hd:=(v1d hc.l hx.f ha).i;have:=hx.inc;have:=hx.small;have:=e0f hx.w;omega
theorem wv_small {x:Int}:wv (0,x)=x:=wv_lo x
theorem w1r {α:Type} {pre:List α} {m:Nat} {z v:α} {i:Int} (hi:i=pre.length):(pre++List.replicate (m+1) z).set i.toNat v=(pre++[v])++List.replicate m z:=by
 subst hi;rw[List.replicate_succ];simp
theorem y1z {α:Type} {pre:List α} {m:Nat} {z:α} {i:Int} (hi:i=pre.length):(pre++List.replicate (m+1) z)[i.toNat]? = some z:=by
 subst hi;simp
theorem n2z {α:Type} {pre:List α} {m:Nat} {z:α} {i:Int} (hi:i=pre.length):at? (pre++List.replicate (m+1) z) i=some z:=by
 subst hi;simp[at?]
theorem set_two {α:Type} {pre:List α} {m:Nat} {v w z:α} {i:Int} (hi:i=pre.length):(((pre++[v])++List.replicate m z).set i.toNat w)=(pre++[w])++List.replicate m z:=by
 subst hi;simp
theorem get_two {α:Type} {pre:List α} {m:Nat} {v z:α} {i:Int} (hi:i=pre.length):((pre++[v])++List.replicate m z)[i.toNat]? = some v:=by
 subst hi;simp
theorem at_two {α:Type} {pre:List α} {m:Nat} {v z:α} {i:Int} (hi:i=pre.length):at? ((pre++[v])++List.replicate m z) i=some v:=by
 subst hi;simp[at?]
theorem t1y (n:Nat) (l:List Cel) (hL:l.length≤1000000000000):∀(rest pre:List Cel) (out:List Wd) (f:Nat) (c:Cel) (last:Option Cel) (i len:Int),l=pre++rest→i=pre.length→len=l.length→rest.length<f→out.length=pre.length→(allE c rest).2=0 →
  b0d c→(last=none∧c=z0∨∃y,last=some y∧c≠z0∧y.2.2.1=c.2.2.1) →
  d0o (n+4) f (l,out++List.replicate rest.length (0,0),last,len,i,())=some (.inl (out++stp c rest,())):=by
 intro rest;induction rest with
 | nil =>
  intro pre out f c last i len hl hi hn hf ho ha hc hlast;obtain ⟨f,rfl⟩:∃g,f=g+1:=⟨f-1,by simp at hf;omega⟩;rw[q0s,decide_eq_false (idxe hl hi hn),tff];rcases hlast with ⟨rfl,_⟩ | ⟨y,rfl,_⟩
  ·rw[a1l];simp[stp]
  ·rw[c0y,tff];simp[stp]
 | cons x rest ih =>
  intro pre out f c last i len hl hi hn hf ho ha hc hlast;obtain ⟨f,rfl⟩:∃g,f=g+1:=⟨f-1,by simp at hf;omega⟩;obtain ⟨_,hx,hah,hm,hr⟩:=y0u ha;have hcx:=u0w hc hx hah;have hio:i=out.length:=by omega
  have next:∀(last':Option Cel) (v:Wd),v=mkW (wv (mrg c x).2.2.2.1-wv c.2.2.2.1)→(last'=none∧mrg c x=z0∨∃y,last'=some y∧mrg c x≠z0∧y.2.2.1=(mrg c x).2.2.1) →
    d0o (n+4) f (l,(out++[v])++List.replicate rest.length (0,0),last',len,i+1,())=some (.inl (out++stp c (x::rest),())):=by
   intro last' v hv hl';rw[ih (pre++[x]) (out++[v]) f (mrg c x) last' (i+1) len (idxl hl) (idxs hi) hn (by simp at hf;omega) (by simp;omega) hr hcx hl',hv,List.append_assoc];rfl
  rw[q0s,decide_eq_true (idx hl hi hn),b0q hl hi,idxw hl hi hL];simp only[tft,obs,List.length_cons,tfd];by_cases hz:x.1=0
  ·have hxz:x=z0:=hx.count.1.1 hz;have key:=next last (0,0) (by rw[hxz,step_z]) (by
    rw[hxz,q0r];exact hlast)
   have e:(out++[((0:Int),(0:Int))])++List.replicate rest.length ((0:Int),(0:Int))=out++List.replicate (rest.length+1) (0,0):=by
    rw[List.append_assoc,List.singleton_append,List.replicate_succ]
   rw[e] at key;simp only[if_pos hz];rcases hlast with ⟨rfl,_⟩ | ⟨y,rfl,_⟩
   ·rw[a1l];exact key
   ·rw[c0y];exact key
  ·have hxN:CellN x:=hx.n fun e=>hz (by rw[e];rfl)
   simp only[if_neg hz];rcases hlast with ⟨rfl,hc0⟩ | ⟨y,rfl,hc0,hy⟩
   ·rw[a1l,n2z hio,obs,y1z hio,obs,w1r hio];exact next (some x) _ (by rw[hc0,j1o hxN]) (.inr ⟨x,rfl,by rw[hc0,i0j];exact hxN.ne,by rw[hc0,i0j]⟩)
   ·have hcN:=hc.n hc0;have hlt:=(hah.resolve_left hc0).resolve_left hxN.ne;obtain ⟨d1,d2,d3,d4⟩:=step_range hcN hxN hlt;rw[c0y,n2z hio,obs,y1z hio,obs,w1r hio,hy,y0i (n+1) hcN.l hxN.f,if_pos hlt,obs];have hadd:s0u (n+4) (i1z (btw c.2.2.1 x.2.1)).2.2.2.1 x.2.2.2.1=some (mkW ((btw c.2.2.1 x.2.1).1+wv x.2.2.2.1),0):=by
     show s0u (n+2+2) (0,(btw c.2.2.1 x.2.1).1) x.2.2.2.1=_;rw[a2g (n+2) (a:=(0,(btw c.2.2.1 x.2.1).1)) ⟨by simp,⟨d1,d2⟩⟩ hxN.w];unfold addW;rw[wv_small,if_pos (by omega)]
    simp only;rw[hadd,obs,at_two hio,obs,get_two hio,obs,set_two hio];exact next (some x) _ (by rw[step_next hcN hxN]) (.inr ⟨x,rfl,(y1r hcN hxN hlt).ne,by rw[x0z hcN hxN]⟩)
theorem len_test (L:Nat) (k:Nat) (hL:L*k≤140737488355328):((decide ((0:Int)≤(L:Int)))&&((decide ((L:Int)≤(L:Int)))&&(decide (((L:Int)*(k:Int))≤(140737488355328:Int)))))=true:=by
 have h1:(0:Int)≤(L:Int):=by omega
 have h2:((L:Int)*(k:Int))≤140737488355328:=by rw[←Int.natCast_mul];omega
 rw[decide_eq_true h1,decide_eq_true (Int.le_refl _),decide_eq_true h2];rfl
theorem k1q (n:Nat) (l:List Cel) (hL:l.length≤1000000) (hw:∀x∈l,CelW x):b0l (n+8) l=some (hstpV l):=by
 rw[o1h,p1l n l (by omega) hw,obs,tfn,tfd];unfold hstpV;by_cases h:(allE z0 l).2=0
 case neg=>rw[if_neg h,if_neg h]
 rw[if_pos h,if_pos h];have t:=len_test l.length 16 (by omega);rw[show ((16:Nat):Int)=16 from rfl] at t;rw[t,tft];have:=t1y (n+3) l (by omega) l [] [] a0b z0 none 0 _ rfl rfl rfl (by unfold a0b;omega) rfl h i0i (.inl ⟨rfl,rfl⟩);rw[List.nil_append,List.nil_append] at this;rw[Int.toNat_natCast,this,obs,a0w]
theorem stp_w:∀(l:List Cel) (c:Cel),(allE c l).2=0→b0d c→∀w∈stp c l,WdOk w:=by
 intro l;induction l with
 | nil=>intro c _ _ w hw;simp[stp] at hw
 | cons x l ih =>
  intro c h hc w hw;obtain ⟨_,hx,hah,hm,hr⟩:=y0u h;rcases List.mem_cons.1 hw with rfl | hw
  ·by_cases hx0:x=z0
   ·rw[hx0,step_z];exact ⟨by simp,by simp⟩
   ·have hxN:=hx.n hx0;by_cases hc0:c=z0
    ·rw[hc0,j1o hxN];exact hxN.w
    ·have hlt:=(hah.resolve_left hc0).resolve_left hx0;have:=step_range (hc.n hc0) hxN hlt;rw[step_next (hc.n hc0) hxN];exact u0x (by omega) (by omega)
  ·exact ih _ hr (u0w hc hx hah) w hw
noncomputable def s0m (s:Sta) (q:List Lab×(Int×(Int×Int))):List Cel×Int :=
 if (doQ s q.1 q.2.1 q.2.2.1 q.2.2.2).2=0 then
  (if 4096<q.2.2.2 / a0i s.1 ((j0l s q.2.1 q.2.2.1 q.2.2.2).1-1)-q.2.2.1 / a0i s.1 ((j0l s q.2.1 q.2.2.1 q.2.2.2).1-1) then ([],6)
   else (winL s q.1 ((j0l s q.2.1 q.2.2.1 q.2.2.2).1-1) (q.2.2.1 / a0i s.1 ((j0l s q.2.1 q.2.2.1 q.2.2.2).1-1)) (q.2.2.2 / a0i s.1 ((j0l s q.2.1 q.2.2.1 q.2.2.2).1-1)-q.2.2.1 / a0i s.1 ((j0l s q.2.1 q.2.2.1 q.2.2.2).1-1)).toNat,0))
 else ([],(doQ s q.1 q.2.1 q.2.2.1 q.2.2.2).2)
theorem c2l {s:Sta} {l:List Lab} {t a b:Int} (h:(doQ s l t a b).2=0):StaOk s∧LabOk l∧(j0l s t a b).2=0∧(doQ s l t a b).1.1=(j0l s t a b).1:=by
 unfold doQ at *
 by_cases h1:StaOk s
 case neg=>rw[if_neg h1] at h;cases h
 by_cases h2:LabOk l
 case neg=>rw[if_pos h1,if_neg h2] at h;cases h
 by_cases h3:(j0l s t a b).2=0
 case neg=>rw[if_pos h1,if_pos h2,if_neg h3] at h;exact (h3 h).elim
 rw[if_pos h1,if_pos h2,if_pos h3];exact ⟨h1,h2,h3,rfl⟩
theorem h2u {s:Sta} {l:List Lab} (h:i0x s l=none) (k i:Int):winC s l k i=z0:=by unfold winC;rw[h]
theorem h2s {s:Sta} {l:List Lab} {p:Nat} {x:Ser} (h:i0x s l=some p) (hx:s.2.2.2[p]? = some x) (hok:SerOk s.1 x) (k:Int) {i:Int} (h0:0≤i):n2p s.1 x k i=(winC s l k i,0):=by
 unfold winC;rw[h];simp only[hx,Option.getD_some];rw[z1x hok k h0];exact Prod.ext rfl (f1b hok k h0 (by omega))
theorem t1z (n:Nat) {s:Sta} (hw:StaW s) {l:List Lab} {p:Nat} {x:Ser} (h:i0x s l=some p) (hx:s.2.2.2[p]? = some x) (hok:SerOk s.1 x) (r:Int×(Cel×((Wd×Wd)×Int))) {k:Int} (h0:0≤k) (h2:k≤2) (hr:IntKind.wrap .i64 (r.1-1)=k) {i:Int} (hi:0≤i∧i≤35184372088832) (m:Nat) (hm:m≤4096):∀(d j f:Nat),j+d=m→d<f →
  c0w (n+21) f (s,r,i,winL s l k i j++List.replicate d z0,(p:Int),(m:Int),(j:Int),())=some (.inl (winL s l k i m,())):=by
 intro d;induction d with
 | zero =>
  intro j f hj hf;obtain ⟨f,rfl⟩:∃g,f=g+1:=⟨f-1,by omega⟩;obtain rfl:j=m:=by omega
  rw[o0t,decide_eq_false (by omega),tff];simp
 | succ d ih =>
  intro j f hj hf;obtain ⟨f,rfl⟩:∃g,f=g+1:=⟨f-1,by omega⟩;have hl:((j:Nat):Int)=((winL s l k i j).length:Int):=by rw[d0v]
  rw[o0t,decide_eq_true (by omega),tft,u0f hx,obs,hr,w64 (x:=i+(j:Int)) (by omega) (by omega),j2d n s.1 (hw.at hx).1 h0 h2,obs,h2s h hx hok k (by omega),n2z hl,obs,y1z hl,obs,w1r hl];simp only[decide_true,Bool.not_true,tff];rw[←d1r,w64 (by omega) (by omega),show ((j:Int)+1)=((j+1:Nat):Int) by omega];exact ih (j+1) f (by omega) (by omega)
theorem cap112 {x:Int} (h0:0≤x) (h:x≤4096):((decide ((0:Int)≤x))&&((decide (x≤x))&&(decide ((x*(112:Int))≤(140737488355328:Int)))))=true:=by
 rw[decide_eq_true h0,decide_eq_true (Int.le_refl x),decide_eq_true (by omega)];rfl
theorem k1r (n:Nat) {s:Sta} (hw:StaW s) (q:List Lab×(Int×(Int×Int))):t0p (n+25) s q=some (s0m s q):=by
 obtain ⟨l,t,a,b⟩:=q;rw[o1i,query_do n hw,obs,tfn,tfd];unfold s0m;simp only;by_cases h:(doQ s l t a b).2=0
 case neg=>rw[if_neg h,if_neg h]
 rw[if_pos h,if_pos h];obtain ⟨hs,hl,ht,e1⟩:=c2l h;obtain ⟨_,t1,t3,ho,_⟩:=v1s ht;obtain ⟨s1,s2⟩:=o0k ho;obtain ⟨wp,rp,ha,hb,es,ea,eab⟩:=i0o s1;generalize hr:(doQ s l t a b).1=r at *
 rw[←e1] at t1 t3 ho s1 s2 wp ha hb es ea eab ⊢;have hk:IntKind.wrap .i64 (r.1-1)=r.1-1:=w64 (by omega) (by omega);generalize hkk:r.1-1=k at *
 have hk0:0≤k:=by omega
 have hk2:k≤2:=by omega
 rw[hk];have fin:(a0a (e0t (n+24) a b (a0i s.1 k)) fun r1 =>
   tif (!(decide (r1.2.2=(0:Int)))) (some (([]:List Cel),r1.2.2)) (
   tif (decide ((4096:Int)<(IntKind.wrap .i64 (r1.2.1-r1.1)))) (some ([],(6:Int))) (
   tif (((decide ((0:Int)≤(IntKind.wrap .i64 (r1.2.1-r1.1))))&&((decide ((IntKind.wrap .i64 (r1.2.1-r1.1))≤(IntKind.wrap .i64 (r1.2.1-r1.1))))&&(decide (((IntKind.wrap .i64 (r1.2.1-r1.1))*(112:Int))≤(140737488355328:Int)))))) (
   a0a (m0k (n+24) s l) fun r2 =>
   tif (!(decide (r2.2=(0:Int)))) (some ((List.replicate (Int.toNat (IntKind.wrap .i64 (r1.2.1-r1.1))) z0),(0:Int))) (
   a0a (c0w (n+24) a0b (s,(r,(r1.1,((List.replicate (Int.toNat (IntKind.wrap .i64 (r1.2.1-r1.1))) z0),(r2.1,((((List.length (List.replicate (Int.toNat (IntKind.wrap .i64 (r1.2.1-r1.1))) z0)):Nat):Int),((0:Int),())))))))) fun r3 =>
   b0i (fun y4=>some (y4.1,(0:Int))) (fun z5=>some z5) r3)) none)))
   = some (if 4096<b / a0i s.1 k-a / a0i s.1 k then ([],6) else (winL s l k (a / a0i s.1 k) (b / a0i s.1 k-a / a0i s.1 k).toNat,0)):=by
  have hbw:b / a0i s.1 k≤b:=Int.ediv_le_self _ (by have:=rp.1;have:=rp.2.2;omega);have hb2:=rp.2.1;rw[v0d (n+21),obs,es];simp only[decide_true,Bool.not_true,tff];have hsub:IntKind.wrap .i64 (b / a0i s.1 k-a / a0i s.1 k)=b / a0i s.1 k-a / a0i s.1 k:=w64 (by omega) (by omega);rw[hsub,tfd];by_cases hlong:4096<b / a0i s.1 k-a / a0i s.1 k
  ·rw[if_pos hlong,if_pos hlong]
  rw[if_neg hlong,if_neg hlong,cap112 (by omega) (by omega),tft,l1u (n+14) hw,obs,tfn,tfd];cases hf:i0x s l with
  | none =>
   rw[a1w hs.whole hf,if_neg (show ¬((3:Int)=0) by decide)];have e3:∀m:Nat,winL s l k (a / a0i s.1 k) m=List.replicate m z0:=fun m=>List.eq_replicate_iff.2 ⟨d0v _ _ _ _ _,fun b hb=>by
    unfold winL at hb;obtain ⟨j,_,rfl⟩:=List.mem_map.1 hb
    exact h2u hf _ _⟩
   rw[e3]
  | some p =>
   obtain ⟨x,hx,_,_,hok⟩:=found hs hf;rw[a1v hs.whole hf,if_pos rfl];simp only[List.length_replicate];have:=t1z (n+3) hw hf hx hok r hk0 hk2 (hk ▸ hkk ▸ rfl) (i:=a / a0i s.1 k) ⟨ea,by omega⟩ (b / a0i s.1 k-a / a0i s.1 k).toNat (by omega) (b / a0i s.1 k-a / a0i s.1 k).toNat 0 a0b (by omega) (by unfold a0b;omega);have e:c0w (n+24) a0b (s,r,a / a0i s.1 k,List.replicate (b / a0i s.1 k-a / a0i s.1 k).toNat z0,(p:Int),(((b / a0i s.1 k-a / a0i s.1 k).toNat:Nat):Int),(0:Int),())=_:=this;rw[e,obs,a0w]
 rcases (by omega:k=0∨k=1∨k=2) with ek | ek | ek
 ·rw[decide_eq_true ek,tft];rw[ek] at fin ⊢;exact fin
 ·rw[decide_eq_false (by omega),tff,decide_eq_true ek,tft];rw[ek] at fin ⊢;exact fin
 ·rw[decide_eq_false (by omega),tff,decide_eq_false (by omega),tff,decide_eq_true ek,tft];rw[ek] at fin ⊢;exact fin
theorem i2n (x:Wd) (l:List Wd):sumW (x::l)=wv x+sumW l:=by simp[sumW]
theorem stp_sum:∀(l:List Cel) (c:Cel),(allE c l).2=0→sumW (stp c l)=wv (allE c l).1.2.2.2.1-wv c.2.2.2.1:=by
 intro l;induction l with
 | nil=>intro c _;simp[stp,allE,sumW]
 | cons x l ih =>
  intro c h;obtain ⟨hc,hx,hah,hm,hr⟩:=y0u h;rw[stp,i2n,ih _ hr,n0s,s0p,hm,if_pos rfl];simp only;omega
theorem winL_at (s:Sta) (l:List Lab) (k i:Int) {m j:Nat} (h:j<m):(winL s l k i m)[j]? = some (winC s l k (i+(j:Int))):=by
 unfold winL;rw[List.getElem?_map,List.getElem?_range h];rfl
theorem evi_cell {N:Nat} {s:Sta} (h:EvInv N s) (l:List Lab) (a b:Int):∃C,∀k,0≤k→k≤2→oneV s k a b=0→j1c s l k a b=C:=by
 have hs:=h.ok;cases hf:i0x s l with
 | none=>exact ⟨z0,fun k _ _ _=>by unfold j1c;rw[hf]⟩
 | some i =>
  obtain ⟨x,hx,hxl,hlv,hok⟩:=found hs hf;obtain ⟨y,l0,h1,h2,h3,h4⟩:=(h.ser x (List.mem_of_getElem? hx)).resolve_left hlv.1;refine ⟨cellOf (l0.filter (inR a b)),fun k k0 k2 ho => ?_⟩;obtain ⟨s1,s2⟩:=o0k ho;obtain ⟨wp,rp,ha,hb,es,e1,e2⟩:=i0o s1;have hk:=kept_lt hs hx hlv.1 (k:=k) k0 k2 ho;rw[es] at s2;unfold j1c;rw[hf];simp only[hx,Option.getD_some];rw[h4.rangeK hok (j0m h1) k0 k2 s2,g2f h1 h2 k0 k2 e1 e2 (by rw[←h4.last];exact hk),rng_inR wp.1 ha hb]
theorem k2s {s:Sta} {k a b:Int} (h:oneV s k a b=0) {a' b':Int} (h1:a≤a') (h2:a'<b') (h3:b'≤b) (h4:a' % a0i s.1 k=0) (h5:b' % a0i s.1 k=0):oneV s k a' b'=0:=by
 obtain ⟨s1,s2⟩:=o0k h;obtain ⟨wp,rp,ha,hb,es,ea,eab⟩:=i0o s1;rw[es] at s2;simp only at s2;unfold oneV;generalize a0i s.1 k=w at *
 have r1:=rp.1;have r2:=rp.2.1;have hw:=wp.1;have hs:n0f a' b' w=(a' / w,(b' / w,0)):=by
  unfold n0f;rw[if_pos ⟨wp,by omega,by omega,h2⟩,if_pos ⟨h4,h5⟩]
 have hle:a / w≤a' / w:=Int.ediv_le_ediv (by omega) h1;rw[hs];simp only;rw[if_pos trivial,if_neg (by omega)]
theorem i2p:∀(A B:List Cel) (c:Cel),(allE c A).2=0→stp c (A++B)=stp c A++stp (allE c A).1 B:=by
 intro A;induction A with
 | nil=>intro B c _;rfl
 | cons x A ih =>
  intro B c h;obtain ⟨_,_,_,hm,hr⟩:=y0u h;have e:allE c (x::A)=allE (mrg c x) A:=by rw[s0p,hm,if_pos rfl]
  rw[List.cons_append,stp,ih B _ hr,e];rfl
theorem m0h (s:Sta) (l:List Lab) (k i:Int) (a b:Nat):winL s l k i (a+b)=winL s l k i a++winL s l k (i+(a:Int)) b:=by
 unfold winL;rw[List.range_add,List.map_append,List.map_map];congr 1;refine List.map_congr_left fun j _ => ?_
 show winC s l k (i+((a+j:Nat):Int))=winC s l k (i+(a:Int)+(j:Int));rw[show i+((a+j:Nat):Int)=i+(a:Int)+(j:Int) by omega]
theorem slice_mid {α:Type} {A B C:List α} {i j:Nat} (hi:i=A.length) (hj:j=A.length+B.length):List.drop i (List.take j (A++(B++C)))=B:=by
 subst hi hj;rw[←List.append_assoc,List.take_left' (by simp),List.drop_left]
noncomputable def a1g (s:Sta) (l:List Lab) (k i:Int) (m:Nat):Cel:=(allE z0 (winL s l k i m)).1
theorem h0f {s:Sta} (hs:StaOk s) (l:List Lab) (k:Int) {i:Int} (h0:0≤i) (m:Nat):(allE z0 (winL s l k i m)).2=0:=by
 cases m with
 | zero=>rfl
 | succ m=>rw[l1g hs l k h0 m]
theorem k1f {s:Sta} (hs:StaOk s) (l:List Lab) (k:Int) {i:Int} (h0:0≤i) (m:Nat):a1g s l k i (m+1)=rngQ s l k i (i+((m+1:Nat):Int)):=by
 unfold a1g;rw[l1g hs l k h0 m]
theorem prefC_ok (s:Sta) (l:List Lab) (k i:Int) (m:Nat):b0d (a1g s l k i m):=d2b _ _ i0i
theorem j1n {s:Sta} (hs:StaOk s) (l:List Lab) (k:Int) {i:Int} (h0:0≤i) (a b c:Nat) :
  ∃B,stp z0 (winL s l k i (a+b+c))=stp z0 (winL s l k i a)++(B++stp (a1g s l k i (a+b)) (winL s l k (i+((a+b:Nat):Int)) c))∧B.length=b∧sumW B=wv (a1g s l k i (a+b)).2.2.2.1-wv (a1g s l k i a).2.2.2.1∧∀w∈B,WdOk w:=by
 refine ⟨stp (a1g s l k i a) (winL s l k (i+(a:Int)) b),?_,by rw[v0h,d0v],?_,?_⟩
 ·rw[m0h s l k i (a+b) c,i2p _ _ _ (h0f hs l k h0 _),m0h s l k i a b,i2p _ _ _ (h0f hs l k h0 _),List.append_assoc];unfold a1g;rw[m0h s l k i a b]
 ·have h2:=h0f hs l k h0 (a+b);rw[m0h s l k i a b,y0v _ _ _ (h0f hs l k h0 a)] at h2;rw[show a1g s l k i (a+b)=(allE (a1g s l k i a) (winL s l k (i+(a:Int)) b)).1 from by
   unfold a1g;rw[m0h s l k i a b,y0v _ _ _ (h0f hs l k h0 a)]]
  exact stp_sum _ _ h2
 ·have h2:=h0f hs l k h0 (a+b);rw[m0h s l k i a b,y0v _ _ _ (h0f hs l k h0 a)] at h2;exact stp_w _ _ h2 (prefC_ok _ _ _ _ _)
section
variable {N:Nat} {s:Sta} (h:EvInv N s) (l:List Lab) {kc kf a b:Int} (c0:0≤kc) (c2:kc≤2) (f0:0≤kf) (f2:kf≤2) (oc:oneV s kc a b=0) (of:oneV s kf a b=0) {F:Nat} (hF:a0i s.1 kc=(F:Int)*a0i s.1 kf)
include h c0 c2 f0 f2 oc of hF
theorem q1f {i j:Nat} (hij:i<j) (hj:(j:Int)≤b / a0i s.1 kc-a / a0i s.1 kc) :
  rngQ s l kc (a / a0i s.1 kc+(i:Int)) (a / a0i s.1 kc+(j:Int))=rngQ s l kf ((a / a0i s.1 kc+(i:Int))*(F:Int)) ((a / a0i s.1 kc+(j:Int))*(F:Int)):=by
 obtain ⟨s1,s2⟩:=o0k oc;obtain ⟨wp,rp,ha,hb,es,ea,eab⟩:=i0o s1;obtain ⟨s1',s2'⟩:=o0k of;obtain ⟨wp',rp',ha',hb',es',ea',eab'⟩:=i0o s1';have hwc:=wp.1;have hwf:=wp'.1;have ea2:a / a0i s.1 kc*a0i s.1 kc=a:=Int.ediv_mul_cancel_of_emod_eq_zero ha;have eb2:b / a0i s.1 kc*a0i s.1 kc=b:=Int.ediv_mul_cancel_of_emod_eq_zero hb;have key:∀z:Int,(z*a0i s.1 kc) % a0i s.1 kc=0∧(z*a0i s.1 kc) % a0i s.1 kf=0∧z*a0i s.1 kc / a0i s.1 kc=z∧z*a0i s.1 kc / a0i s.1 kf=z*(F:Int):=fun z=>by
  refine ⟨Int.mul_emod_left _ _,?_,Int.mul_ediv_cancel _ (by omega),?_⟩
  ·rw[hF,←Int.mul_assoc];exact Int.mul_emod_left _ _
  ·rw[hF,←Int.mul_assoc];exact Int.mul_ediv_cancel _ (by omega)
 obtain ⟨k1,k2,k3,k4⟩:=key (a / a0i s.1 kc+(i:Int));obtain ⟨k1',k2',k3',k4'⟩:=key (a / a0i s.1 kc+(j:Int));have m1:(a / a0i s.1 kc)*a0i s.1 kc≤(a / a0i s.1 kc+(i:Int))*a0i s.1 kc:=Int.mul_le_mul_of_nonneg_right (by omega) (by omega);have m2:(a / a0i s.1 kc+(i:Int))*a0i s.1 kc<(a / a0i s.1 kc+(j:Int))*a0i s.1 kc:=Int.mul_lt_mul_of_pos_right (by omega) (by omega);have m3:(a / a0i s.1 kc+(j:Int))*a0i s.1 kc≤(b / a0i s.1 kc)*a0i s.1 kc:=Int.mul_le_mul_of_nonneg_right (by omega) (by omega);rw[ea2] at m1;rw[eb2] at m3
 obtain ⟨C,hC⟩:=evi_cell h l ((a / a0i s.1 kc+(i:Int))*a0i s.1 kc) ((a / a0i s.1 kc+(j:Int))*a0i s.1 kc);have q1:=hC kc c0 c2 (k2s oc m1 m2 m3 k1 k1');have q2:=hC kf f0 f2 (k2s of m1 m2 m3 k2 k2');rw[k1a,k3,k3'] at q1;rw[k1a,k4,k4'] at q2;rw[q1,q2]
theorem q1g {j:Nat} (hj:(j:Int)≤b / a0i s.1 kc-a / a0i s.1 kc) (hFp:1≤F) :
  a1g s l kc (a / a0i s.1 kc) j=a1g s l kf (a / a0i s.1 kc*(F:Int)) (j*F):=by
 obtain ⟨s1,s2⟩:=o0k oc;obtain ⟨wp,rp,ha,hb,es,ea,eab⟩:=i0o s1;have hA:0≤a / a0i s.1 kc*(F:Int):=Int.mul_nonneg ea (by omega);cases j with
 | zero=>rw[Nat.zero_mul];rfl
 | succ j =>
  have h1:=q1f h l c0 c2 f0 f2 oc of hF (i:=0) (j:=j+1) (by omega) hj;have e0:a / a0i s.1 kc+((0:Nat):Int)=a / a0i s.1 kc:=by omega
  rw[e0] at h1;obtain ⟨m,hm⟩:∃m,(j+1)*F=m+1:=⟨(j+1)*F-1,by have:=Nat.mul_le_mul_left (j+1) hFp;omega⟩;rw[k1f h.ok l kc ea j,h1,hm,k1f h.ok l kf hA m,←hm,Int.add_mul];congr 2
end
end Go.Proofs.YtgkpkajaepphjaaGreatDoor
namespace Go.Proofs.YtgkpkajaepphjaaGreatDoor
open Go.Flat
theorem ob {α β:Type} {o:Option α} {x:α} {f:α→Option β} {r:Option β} (h:o=some x) (k:f x=r):a0a o f=r:=by rw[h];exact k
theorem tt {α:Type} {b:Bool} {x y r:α} (h:b=true) (k:x=r):tif b x y=r:=by rw[h];exact k
theorem tf {α:Type} {b:Bool} {x y r:α} (h:b=false) (k:y=r):tif b x y=r:=by rw[h];exact k
end Go.Proofs.YtgkpkajaepphjaaGreatDoor
namespace Go.Proofs.YtgkpkajaepphjaaGreatDoor
open Go.Flat
set_option linter.unusedVariables false
theorem a1o (n:Nat)  : r0a (n+1)  =
 a0a (l2f n ) fun r0 =>
 a0a (z0m n r0) fun r1 =>
 tif ((!(decide (r1.2=(0:Int))))) (
 some false) (
 a0a (q1d n r1.1 ((((((97:UInt8)::[]),[])::[]),((1:Int),((0:Int),(30:Int)))),(((0:Int),(0:Int)),((0:Int),(1:Int))))) fun r2 =>
 a0a (u1a n r1.1 (((((97:UInt8)::[]),[])::[]),((1:Int),((0:Int),(30:Int))))) fun r3 =>
 tif ((decide (r2.2=(12:Int)))) (
 tif ((r3.1==((48:UInt8)::((48:UInt8)::((48:UInt8)::[]))))) (
 some (decide (r3.2=(0:Int)))) (
 some false)) (
 some false)):=by kernel_rfl
theorem c1q (n:Nat):l2f (n+39)=some (20,((10,(20,60)),((4,(5,6)),(3,9)))):=by kernel_rfl
theorem c1p (n:Nat):z0m (n+39) (20,((10,(20,60)),((4,(5,6)),(3,9))))=some (((20,((10,(20,60)),((4,(5,6)),(3,9)))),(0,((-1),[([],(0,((0,(0,[])),(([],([],[])),(0,(0,((0,(0,(0,false))),((0,(0,(0,false))),((0,0),(0,(0,0))))))))))),([],(0,((0,(0,[])),(([],([],[])),(0,(0,((0,(0,(0,false))),((0,(0,(0,false))),((0,0),(0,(0,0))))))))))),([],(0,((0,(0,[])),(([],([],[])),(0,(0,((0,(0,(0,false))),((0,(0,(0,false))),((0,0),(0,(0,0)))))))))))]))),0):=by kernel_rfl
theorem c1o (n:Nat):q1d (n+39) ((20,((10,(20,60)),((4,(5,6)),(3,9)))),(0,((-1),[([],(0,((0,(0,[])),(([],([],[])),(0,(0,((0,(0,(0,false))),((0,(0,(0,false))),((0,0),(0,(0,0))))))))))),([],(0,((0,(0,[])),(([],([],[])),(0,(0,((0,(0,(0,false))),((0,(0,(0,false))),((0,0),(0,(0,0))))))))))),([],(0,((0,(0,[])),(([],([],[])),(0,(0,((0,(0,(0,false))),((0,(0,(0,false))),((0,0),(0,(0,0)))))))))))]))) (([([97],[])],(1,(0,30))),((0,0),(0,1)))=some (false,12):=by kernel_rfl
theorem c1n (n:Nat):u1a (n+39) ((20,((10,(20,60)),((4,(5,6)),(3,9)))),(0,((-1),[([],(0,((0,(0,[])),(([],([],[])),(0,(0,((0,(0,(0,false))),((0,(0,(0,false))),((0,0),(0,(0,0))))))))))),([],(0,((0,(0,[])),(([],([],[])),(0,(0,((0,(0,(0,false))),((0,(0,(0,false))),((0,0),(0,(0,0))))))))))),([],(0,((0,(0,[])),(([],([],[])),(0,(0,((0,(0,(0,false))),((0,(0,(0,false))),((0,0),(0,(0,0)))))))))))]))) ([([97],[])],(1,(0,30)))=some ([48,48,48],0):=by kernel_rfl
theorem z0b (n:Nat):r0a (n+40)=some true:=by
 rw[a1o];refine ob (c1q n) ?_;refine ob (c1p n) ?_;refine tf (by kernel_rfl) ?_;refine ob (c1o n) ?_;refine ob (c1n n) ?_;refine tt (by kernel_rfl) ?_;refine tt (by kernel_rfl) ?_
 kernel_rfl
end Go.Proofs.YtgkpkajaepphjaaGreatDoor
namespace Go.Proofs.YtgkpkajaepphjaaGreatDoor
open Go.Flat Go.Plim
set_option linter.unusedVariables false
set_option linter.unusedSimpArgs false
noncomputable def TCw (n:Nat) (A B:List b0a) (wc wf:Int):Option Bool :=
 tif ((decide (wf=(0:Int)))) (
 none) (
 a0a (b0l n A) fun r24 =>
 a0a (b0l n B) fun r25 =>
 tif ((!(decide ((((List.length B):Nat):Int)=(IntKind.wrap .i64 ((IntKind.wrap .i64 (Int.tdiv wc wf))*(((List.length A):Nat):Int))))))) (
 some false) (
 tif ((!(decide (r24.2=(0:Int))))) (
 some false) (
 tif ((!(decide (r25.2=(0:Int))))) (
 some false) (
 tif ((!(decide ((((List.length r24.1):Nat):Int)=(((List.length A):Nat):Int))))) (
 some false) (
 tif ((!(decide ((((List.length r25.1):Nat):Int)=(((List.length B):Nat):Int))))) (
 some false) (
 a0a (a0z n a0b (B,((IntKind.wrap .i64 (Int.tdiv wc wf)),(r24.1,(r25.1,(A,((((List.length A):Nat):Int),((0:Int),())))))))) fun r26 =>
 b0i (fun y27 =>
 some true) (fun z28 =>
 some z28) r26))))))
theorem v1j {s:Sta} {l:List Lab} {e:Ev} (h:(f0d s l e).2=0):(f0d s l e).1.1=s.1:=by
 unfold f0d at *
 by_cases h1:(d0k s l e).2.2≠0
 ·rw[if_pos h1] at h;exact (h1 h).elim
 rw[if_neg h1] at h ⊢;by_cases h2:(putE s.1 (xOf s l (d0k s l e)) e).2≠0
 ·rw[if_pos h2] at h;exact (h2 h).elim
 rw[if_neg h2];rfl
theorem d2o (s:Sta) (now:Int):(d2p s now).1.1=s.1:=by
 unfold d2p;split<;>rfl
theorem f2t {c:Conf} (h:(q0v c).2=0):(q0v c).1.1=c:=by
 unfold q0v at *
 by_cases h1:OkC c
 case neg=>rw[if_neg h1] at h;cases h
 rw[if_pos h1] at h ⊢;by_cases h2:(sizR c).2=0
 case neg=>rw[if_neg h2] at h;exact (h2 h).elim
 rw[if_pos h2]
theorem top_act1 (n:Nat) {N:Nat} {s:Sta} (h:EvInv N s) (hb:N<1000000) (x:Act) (hx:EvW x.2.1.2):∃t v,s0x (n+25) x s=some (t,v)∧EvInv (N+1) t∧t.1=s.1:=by
 obtain ⟨t,v,e1,e2⟩:=top_act n h hb x hx;refine ⟨t,v,e1,e2,?_⟩;rw[w0c,tfd] at e1;by_cases h0:x.1=0
 ·rw[if_pos h0,p1u n h.w x.2.1.1 hx,obs,tfd] at e1;by_cases k:(f0d s x.2.1.1 x.2.1.2).2=0
  ·rw[if_pos k] at e1;have et:=congrArg Prod.fst (Option.some.inj e1);simp only at et;rw[←et];exact v1j k
  ·rw[if_neg k] at e1;cases e1;rfl
 rw[if_neg h0,tfd] at e1;by_cases h1:x.1=1
 ·rw[if_pos h1,c2n (n+9) h.w,obs] at e1;cases e1;exact d2o s x.2.2
 rw[if_neg h1,tfd] at e1;by_cases h2:x.1=2
 ·rw[if_pos h2,a2l (n+8) h.w,obs] at e1;have e:doV s=(b1j s,(((dueV s).length:Int),0)):=by unfold doV;rw[if_pos h.ok]
  rw[e] at e1;cases e1;rfl
 rw[if_neg h2,tfd] at e1;by_cases h3:x.1=3
 ·rw[if_pos h3,e1j (n+9) h.w,obs] at e1;have e:k1z s=(c1b s,0):=by unfold k1z;rw[if_pos h.ok]
  rw[e] at e1;cases e1;rfl
 rw[if_neg h3] at e1;cases e1;rfl
theorem g2z (n:Nat) (l:List Lab) (k a b:Int) (c:Conf) (acts:List Act) (hL:acts.length≤40) (he:∀x∈acts,EvW x.2.1.2):∀(rest pre:List Act) (f:Nat) (s:Sta) (ix len:Int),acts=pre++rest→ix=pre.length→len=acts.length→rest.length<f→EvInv pre.length s→s.1=c →
  ∃t,f0o (n+25) f (l,k,a,b,c,s,acts,len,ix,())=some (.inl (l,k,a,b,c,t,()))∧EvInv 40 t∧t.1=c:=by
 intro rest;induction rest with
 | nil =>
  intro pre f s ix len ha hi hl hf hs hc;obtain ⟨f,rfl⟩:=o0u hf;subst hi;subst hl;rw[List.append_nil] at ha;subst ha;rw[j0z,decide_eq_false (by omega),tff];exact ⟨s,rfl,hs.mono hL,hc⟩
 | cons x r ih =>
  intro pre f s ix len ha hi hl hf hs hc;obtain ⟨f,rfl⟩:=o0u hf;have hlen:acts.length=pre.length+(r.length+1):=by rw[ha];simp
  subst hi;subst hl;obtain ⟨t,v,e1,e2,e3⟩:=top_act1 n hs (by omega) x (he x (by rw[ha];simp));have hat:at? acts (pre.length:Int)=some x:=by
   rw[ha];exact b0q (pre:=pre) (rest:=r) rfl rfl
  rw[j0z,decide_eq_true (by omega),tft,hat,obs,e1,obs,w64 (by omega) (by omega)];exact ih (pre++[x]) f t ((pre.length:Int)+1) (acts.length:Int) (by rw[ha];simp) (by simp) rfl (by simp at hf;omega) (by simpa using e2) (e3.trans hc)
theorem g1w {s:Sta} {q:List Lab×(Int×(Int×Int))} (h:(s0m s q).2≠0):(s0m s q).1=[]:=by
 unfold s0m at *
 by_cases h1:(doQ s q.1 q.2.1 q.2.2.1 q.2.2.2).2=0
 case neg=>rw[if_neg h1]
 rw[if_pos h1] at h ⊢;by_cases h2:4096<q.2.2.2 / a0i s.1 ((j0l s q.2.1 q.2.2.1 q.2.2.2).1-1)-q.2.2.1 / a0i s.1 ((j0l s q.2.1 q.2.2.1 q.2.2.2).1-1)
 ·rw[if_pos h2]
 ·rw[if_neg h2] at h;exact (h rfl).elim
theorem l1a {s:Sta} {l:List Lab} {t a b:Int} (h1:1≤t) (h:(s0m s (l,(t,(a,b)))).2=0):oneV s (t-1) a b=0∧b / a0i s.1 (t-1)-a / a0i s.1 (t-1)≤4096∧(s0m s (l,(t,(a,b)))).1=winL s l (t-1) (a / a0i s.1 (t-1)) (b / a0i s.1 (t-1)-a / a0i s.1 (t-1)).toNat:=by
 unfold s0m at *
 simp only at *
 by_cases hd:(doQ s l t a b).2=0
 case neg=>rw[if_neg hd] at h;exact (hd h).elim
 rw[if_pos hd] at h ⊢;obtain ⟨hs,hl,ht,e1⟩:=c2l hd;obtain ⟨_,t1,t3,ho,_,_,e2⟩:=v1s ht;have e2:=e2 h1;rw[e2] at h ho ⊢;by_cases hlong:4096<b / a0i s.1 (t-1)-a / a0i s.1 (t-1)
 ·rw[if_pos hlong] at h;cases h
 rw[if_neg hlong];exact ⟨ho,by omega,rfl⟩
section
variable {N:Nat} {s:Sta} (h:EvInv N s) (l:List Lab) {kc kf a b:Int} (c0:0≤kc) (c2:kc≤2) (f0:0≤kf) (f2:kf≤2) (oc:oneV s kc a b=0) (of:oneV s kf a b=0) {F:Nat} (hF:a0i s.1 kc=(F:Int)*a0i s.1 kf) (hFp:1≤F) {m:Nat} (hm:(m:Int)=b / a0i s.1 kc-a / a0i s.1 kc) (h4:m*F≤4096)
include h c0 c2 f0 f2 oc of hF hFp hm h4
theorem z1o (n:Nat):∀(d j f:Nat),j+d=m→d<f →
  a0z (n+7) f (winL s l kf (a / a0i s.1 kc*(F:Int)) (m*F),(F:Int),stp z0 (winL s l kc (a / a0i s.1 kc) m),stp z0 (winL s l kf (a / a0i s.1 kc*(F:Int)) (m*F)),winL s l kc (a / a0i s.1 kc) m,(m:Int),(j:Int),())=some (.inl ()):=by
 have hs:=h.ok;obtain ⟨s1,s2⟩:=o0k oc;obtain ⟨wp,rp,ha,hb,es,ea,eab⟩:=i0o s1;have hA:0≤a / a0i s.1 kc*(F:Int):=Int.mul_nonneg ea (by omega);have hmF:m≤m*F:=Nat.le_mul_of_pos_right m hFp;intro d;induction d with
 | zero =>
  intro j f hk hf;obtain ⟨f,rfl⟩:=o0u hf;rw[j0k,decide_eq_false (by omega),tff]
 | succ d ih =>
  intro j f hk hf;obtain ⟨f,rfl⟩:=o0u hf;have next:=ih (j+1) f (by omega) (by omega);rw[show ((j+1:Nat):Int)=(j:Int)+1 by omega] at next;have hmul:(j+1)*F=j*F+F:=by rw[Nat.add_mul,Nat.one_mul]
  have hsplit:m*F=j*F+F+d*F:=by
   rw[show m=(j+1)+d by omega,Nat.add_mul,hmul]
  have hFle:F≤4096:=by omega
  have i1:IntKind.wrap .i64 ((j:Int)*(F:Int))=((j*F:Nat):Int):=by
   rw[←Int.natCast_mul,w64 (by omega) (by omega)]
  have i2:IntKind.wrap .i64 (IntKind.wrap .i64 ((j:Int)+1)*(F:Int))=((j*F+F:Nat):Int):=by
   rw[w64 (x:=(j:Int)+1) (by omega) (by omega),show ((j:Int)+1)*(F:Int)=(((j+1)*F:Nat):Int) by rw[Int.natCast_mul];rfl,hmul,w64 (by omega) (by omega)]
  have hcell:List.drop (j*F) (List.take (j*F+F) (winL s l kf (a / a0i s.1 kc*(F:Int)) (m*F)))=winL s l kf (a / a0i s.1 kc*(F:Int)+((j*F:Nat):Int)) F:=by
   rw[hsplit,m0h s l kf _ (j*F+F) (d*F),m0h s l kf _ (j*F) F,List.append_assoc];exact slice_mid (d0v _ _ _ _ _).symm (by rw[d0v,d0v])
  have hx:=winL_at s l kc (a / a0i s.1 kc) (m:=m) (j:=j) (by omega);have htwo:=q1f h l c0 c2 f0 f2 oc of hF (i:=j) (j:=j+1) (by omega) (by omega);have hall:allE z0 (winL s l kf (a / a0i s.1 kc*(F:Int)+((j*F:Nat):Int)) F)=(winC s l kc (a / a0i s.1 kc+(j:Int)),0):=by
   obtain ⟨g,rfl⟩:∃g,F=g+1:=⟨F-1,by omega⟩;rw[l1g hs l kf (by omega) g,a2e];rw[show a / a0i s.1 kc+((j+1:Nat):Int)=a / a0i s.1 kc+(j:Int)+1 by omega] at htwo;rw[htwo,Int.add_mul,Int.add_mul,Int.add_mul,Int.one_mul,←Int.natCast_mul]
  obtain ⟨B,q1,q2,q3,q4⟩:=j1n hs l kf hA (j*F) F (d*F);rw[←hsplit] at q1;obtain ⟨B',p1,p2,p3,p4⟩:=j1n hs l kc ea j 1 d;rw[show j+1+d=m by omega] at p1;obtain ⟨w,hw⟩:∃w,B'=[w]:=List.length_eq_one_iff.1 p2;subst hw;have hww:WdOk w:=p4 w (by simp);have hslice:List.drop (j*F) (List.take (j*F+F) (stp z0 (winL s l kf (a / a0i s.1 kc*(F:Int)) (m*F))))=B:=by
   rw[q1];exact slice_mid (by rw[v0h,d0v]) (by rw[v0h,d0v,q2])
  have hp:(stp z0 (winL s l kc (a / a0i s.1 kc) m))[j]? = some w:=by
   rw[p1,List.getElem?_append_right (by rw[v0h,d0v];exact Nat.le_refl _),v0h,d0v,Nat.sub_self];rfl
  have t1:=q1g h l c0 c2 f0 f2 oc of hF (j:=j) (by omega) hFp;have t2:=q1g h l c0 c2 f0 f2 oc of hF (j:=j+1) (by omega) hFp;rw[hmul] at t2;have hsum:sumW B=wv w:=by
   rw[q3,←t1,←t2,←p3];simp[sumW]
  have hql:(stp z0 (winL s l kf (a / a0i s.1 kc*(F:Int)) (m*F))).length=m*F:=by rw[v0h,d0v]
  have hfl:(winL s l kf (a / a0i s.1 kc*(F:Int)) (m*F)).length=m*F:=d0v _ _ _ _ _;have hok:=v1l s l kf (a / a0i s.1 kc*(F:Int)+((j*F:Nat):Int)) F;rw[j0k,decide_eq_true (show (j:Int)<(m:Int) by omega),tft,u0f hx,obs,i1,i2,Int.toNat_natCast,Int.toNat_natCast,decide_eq_true (show (0:Int)≤((j*F:Nat):Int) by omega),tft,hfl,hql,
   decide_eq_true (show ((j*F:Nat):Int)≤((j*F+F:Nat):Int) by omega),decide_eq_true (show ((j*F+F:Nat):Int)≤((m*F:Nat):Int) by omega),Bool.and_self,tft,hcell,p1l n _ (by rw[d0v];omega) (fun x hx => .of (hok x hx)),obs,hall,tft,tft,hslice,
   a2f (n+4) B (by omega) q4 (by rw[hsum];exact (e0f hww).2),obs,hsum,g1e hww,u0f hp,w64 (x:=(j:Int)+1) (by omega) (by omega)]
  simp only[obs,decide_true,beq_self_eq_true,Bool.and_self,Bool.not_true,tff];exact next
theorem z1m (n:Nat):TCw (n+40) (winL s l kc (a / a0i s.1 kc) m) (winL s l kf (a / a0i s.1 kc*(F:Int)) (m*F)) (a0i s.1 kc) (a0i s.1 kf)=some true:=by
 have hs:=h.ok;obtain ⟨s1,s2⟩:=o0k oc;obtain ⟨wp,rp,ha,hb,es,ea,eab⟩:=i0o s1;obtain ⟨s1',_⟩:=o0k of;obtain ⟨wp',_,_,_,_,_,_⟩:=i0o s1';have hA:0≤a / a0i s.1 kc*(F:Int):=Int.mul_nonneg ea (by omega);have hmF:m≤m*F:=Nat.le_mul_of_pos_right m hFp;have hwf:=wp'.1;have hwc:=wp.1;have hwc2:=wp.2;have hFw:(F:Int)≤a0i s.1 kc:=by
  rw[hF];have:(F:Int)*1≤(F:Int)*a0i s.1 kf:=Int.mul_le_mul_of_nonneg_left hwf (by omega);omega
 have hd:IntKind.wrap .i64 (Int.tdiv (a0i s.1 kc) (a0i s.1 kf))=(F:Int):=by
  rw[g0p (by omega),show a0i s.1 kc / a0i s.1 kf=(F:Int) by rw[hF];exact Int.mul_ediv_cancel _ (by omega),w64 (by omega) (by omega)]
 have hlen:IntKind.wrap .i64 ((F:Int)*(m:Int))=((m*F:Nat):Int):=by
  rw[←Int.natCast_mul,Nat.mul_comm,w64 (by omega) (by omega)]
 have o1:=v1l s l kc (a / a0i s.1 kc) m;have o2:=v1l s l kf (a / a0i s.1 kc*(F:Int)) (m*F);have e1:hstpV (winL s l kc (a / a0i s.1 kc) m)=(stp z0 (winL s l kc (a / a0i s.1 kc) m),0):=if_pos (h0f hs l kc ea m);have e2:hstpV (winL s l kf (a / a0i s.1 kc*(F:Int)) (m*F))=(stp z0 (winL s l kf (a / a0i s.1 kc*(F:Int)) (m*F)),0):=if_pos (h0f hs l kf hA (m*F));have h25:=z1o h l c0 c2 f0 f2 oc of hF hFp hm h4 (n+33) m 0 a0b (by omega) (by unfold a0b;omega)
 have h25':a0z (n+40) a0b (winL s l kf (a / a0i s.1 kc*(F:Int)) (m*F),(F:Int),stp z0 (winL s l kc (a / a0i s.1 kc) m),stp z0 (winL s l kf (a / a0i s.1 kc*(F:Int)) (m*F)),winL s l kc (a / a0i s.1 kc) m,(m:Int),(0:Int),())=_:=h25;unfold TCw;rw[decide_eq_false (show ¬a0i s.1 kf=0 by omega),tff,k1q (n+32) _ (by rw[d0v];omega) (fun x hx => .of (o1 x hx)),obs,k1q (n+32) _ (by rw[d0v];omega) (fun x hx => .of (o2 x hx)),obs,hd,e1,e2];simp only[d0v,v0h,hlen,decide_true,Bool.not_true,tff];rw[h25',obs,a0w]
end
theorem e1a (n:Nat) (c:Conf) (acts:List Act) (l:List Lab) (k a b:Int) (ha:Wf (.slice l0f) acts) (hl:l.length≤9223372036854775807) (hb:b≤9223372036854775807):u0i (n+41) c acts l k a b=some true:=by
 obtain ⟨a1,a2,a3⟩:=acts_wf ha;rw[z0c,z0b n,obs,tfn,tft];rcases fits11 (n+32) c with h | ⟨h,h0⟩
 ·rw[h];rfl
 rw[h,obs,tfn,tft];rcases d2u (n+38) acts a1 a2 with h1 | ⟨h1,h40⟩
 ·rw[h1];rfl
 rw[h1,obs,tfn,tft];rcases t1t (n+39) l hl with h2 | h2
 ·rw[h2];rfl
 rw[h2,obs,show (decide ((1:Int)=0))=false from rfl,tff,tfd];by_cases k2:k<2
 ·rw[if_pos k2]
 rw[if_neg k2,tfd];by_cases k3:3<k
 ·rw[if_pos k3]
 rw[if_neg k3,e1l (n+33),obs,tfn,tfd,if_pos h0];obtain ⟨s,e1,hs,hc⟩:=g2z (n+15) l k a b c acts h40 a3 acts [] a0b (q0v c).1 0 _ rfl rfl rfl (by unfold a0b;omega) (.of (inv_new h0)) (f2t h0);rw[e1,obs,a0w];subst hc;simp only;have hok:=hs.ok;have hr:=hok.whole.1;have w0:=hr.rng.w0.1;have w1:=hr.rng.w1.1;have w2:=hr.rng.w2.1;rw[tfd];by_cases g1:a<0
 ·rw[if_pos g1]
 rw[if_neg g1,tfd];by_cases g2:b<a
 ·rw[if_pos g2]
 rw[if_neg g2,decide_eq_false (show ¬s.1.2.1.1=0 by omega),tff,tfd];by_cases g3:(200:Int)<IntKind.wrap .i64 (Int.tdiv (IntKind.wrap .i64 (b-a)) s.1.2.1.1)
 ·rw[if_pos g3]
 rw[if_neg g3,w64 (x:=k-1) (by omega) (by omega),w64 (x:=k-2) (by omega) (by omega),k1r (n+15) hs.w (l,(k,(a,b))),obs,k1r (n+15) hs.w (l,(k-1,(a,b))),obs];by_cases gA:(s0m s (l,(k,(a,b)))).2=0
 case neg =>
  rw[g1w gA,decide_eq_false gA];by_cases gB:(s0m s (l,(k-1,(a,b)))).2=0
  ·rw[decide_eq_true gB];rfl
  ·rw[g1w gB,decide_eq_false gB];rfl
 by_cases gB:(s0m s (l,(k-1,(a,b)))).2=0
 case neg =>
  rw[g1w gB,decide_eq_true gA,decide_eq_false gB];rfl
 rw[decide_eq_true gA,decide_eq_true gB,Bool.not_true,tff,tff];obtain ⟨oc,lc,ec⟩:=l1a (by omega) gA;obtain ⟨of,lf,ef⟩:=l1a (by omega) gB;rw[show k-1-1=k-2 by omega] at of lf ef;rw[ec,ef];have mid:∀ {F:Nat} {wc wf:Int},wc=a0i s.1 (k-1)→wf=a0i s.1 (k-2)→a0i s.1 (k-1)=(F:Int)*a0i s.1 (k-2)→1≤F→TCw (n+40) (winL s l (k-1) (a / a0i s.1 (k-1)) (b / a0i s.1 (k-1)-a / a0i s.1 (k-1)).toNat) (winL s l (k-2) (a / a0i s.1 (k-2)) (b / a0i s.1 (k-2)-a / a0i s.1 (k-2)).toNat) wc wf=some true:=by
  intro F wc wf hwc hwf hF hFp;rw[hwc,hwf];obtain ⟨s1,s2⟩:=o0k oc;obtain ⟨wp,rp,hda,hdb,es,ea,eab⟩:=i0o s1;obtain ⟨s1',_⟩:=o0k of;obtain ⟨wp',_,_,_,_,_,_⟩:=i0o s1';have hwfp:=wp'.1;have key:∀z:Int,z % a0i s.1 (k-1)=0→z / a0i s.1 (k-2)=z / a0i s.1 (k-1)*(F:Int):=fun z hz=>by
   have ez:z / a0i s.1 (k-1)*a0i s.1 (k-1)=z:=Int.ediv_mul_cancel_of_emod_eq_zero hz;generalize z / a0i s.1 (k-1)=y at *
   rw[←ez,hF,←Int.mul_assoc];exact Int.mul_ediv_cancel _ (by omega)
  have ka:=key a hda;have kb:=key b hdb;have hm:(((b / a0i s.1 (k-1)-a / a0i s.1 (k-1)).toNat:Nat):Int)=b / a0i s.1 (k-1)-a / a0i s.1 (k-1):=Int.toNat_of_nonneg (by omega);have hmf:(b / a0i s.1 (k-2)-a / a0i s.1 (k-2)).toNat=(b / a0i s.1 (k-1)-a / a0i s.1 (k-1)).toNat*F:=by
   have e:b / a0i s.1 (k-2)-a / a0i s.1 (k-2)=(((b / a0i s.1 (k-1)-a / a0i s.1 (k-1)).toNat*F:Nat):Int):=by
    rw[Int.natCast_mul,hm,ka,kb,Int.sub_mul]
   rw[e,Int.toNat_natCast]
  have h4:(b / a0i s.1 (k-1)-a / a0i s.1 (k-1)).toNat*F≤4096:=by rw[←hmf];omega
  rw[hmf,ka];exact z1m hs l (by omega) (by omega) (by omega) (by omega) oc of hF hFp hm h4 n
 have fac:∀ {x y:Int},1≤x→1≤y→x % y=0→∃F:Nat,x=(F:Int)*y∧1≤F:=fun {x y} hx hy hxy=>by
  have e:x / y*y=x:=Int.ediv_mul_cancel_of_emod_eq_zero hxy;have hp:0<x / y:=by
   rcases Int.lt_or_le 0 (x / y) with q | q
   ·exact q
   ·have:x / y*y≤0*y:=Int.mul_le_mul_of_nonneg_right q (by omega);omega
  exact ⟨(x / y).toNat,by rw[Int.toNat_of_nonneg (by omega),e],by omega⟩
 rcases (by omega:k=2∨k=3) with e | e
 ·subst e;obtain ⟨F,f1,f2⟩:=fac (x:=s.1.2.1.2.1) (y:=s.1.2.1.1) w1 w0 hr.m1;have:=mid (F:=F) (wc:=s.1.2.1.2.1) (wf:=s.1.2.1.1) rfl rfl f1 f2;unfold TCw at this;simp only[show (2:Int)-1=1 from rfl,show (2:Int)-2=0 from rfl,decide_true,tft,show (decide ((1:Int)=0))=false from rfl,decide_eq_false (show ¬s.1.2.1.1=0 by omega),tff] at this ⊢;exact this
 ·subst e;obtain ⟨F,f1,f2⟩:=fac (x:=s.1.2.1.2.2) (y:=s.1.2.1.2.1) w2 w1 hr.m2;have:=mid (F:=F) (wc:=s.1.2.1.2.2) (wf:=s.1.2.1.2.1) rfl rfl f1 f2;unfold TCw at this;simp only[show (3:Int)-1=2 from rfl,show (3:Int)-2=1 from rfl,decide_true,tft,show (decide ((2:Int)=0))=false from rfl,show (decide ((2:Int)=1))=false from rfl,show (decide ((1:Int)=0))=false from rfl,decide_eq_false (show ¬s.1.2.1.1=0 by omega),tff] at this ⊢;exact this
end Go.Proofs.YtgkpkajaepphjaaGreatDoor
