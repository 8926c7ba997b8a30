/-
 Plain proofs about the functions of this seat, part 3 of 3.
-/
import Derived.Test.YtojobamheigpbaaGreatQ2
import Derived.Test.YtojobamheigpbaaGreatFlatM3
import Derived.Test.YtojobamheigpbaaGreatTr
namespace Go.Proofs.YtojobamheigpbaaGreat
open Go.Flat Go.Plim
set_option linter.unusedVariables false
set_option linter.unusedSimpArgs false
theorem a2h (o:Int) (r:Int×Int) (x:Slo) (l:List Slo):j0z o r (x::l)=(if b1m o r x then x else s0)::j0z o r l:=rfl
theorem o1q (n:Nat) (o a b:Int):∀(rest pre:List Slo) (f:Nat) (ix len:Int),pre.length+rest.length≤1000000→ix=pre.length→len=(pre.length:Int)+rest.length→rest.length<f →
  b0x n f (o,a,b,pre++rest,len,ix,())=some (.inl (pre++j0z o (a,b) rest,())):=by
 intro rest;induction rest with
 | nil =>
  intro pre f ix len hL hi hn hf;obtain ⟨f,rfl⟩:∃g,f=g+1:=⟨f-1,by simp at hf;omega⟩;rw[n0w,decide_eq_false (by simp at hn;omega),tff];rfl
 | cons x rest ih =>
  intro pre f ix len hL hi hn hf;obtain ⟨f,rfl⟩:∃g,f=g+1:=⟨f-1,by simp at hf;omega⟩;simp only[List.length_cons] at hL hn hf;have go:∀v:Slo,v=(if b1m o (a,b) x then x else s0)→b0x n f (o,a,b,(pre++[v])++rest,len,ix+1,())=some (.inl (pre++j0z o (a,b) (x::rest),())):=by
   intro v hv;rw[ih (pre++[v]) f (ix+1) len (by simp;omega) (by simp;omega) (by simp;omega) (by omega),a2h,←hv];simp
  have same:(pre++[x])++rest=pre++x::rest:=by simp
  have gm:∀v:Slo,(pre++x::rest).set ix.toNat v=(pre++[v])++rest:=fun v=>set_mid hi
  rw[n0w,decide_eq_true (by omega),tft,b0r rfl hi,obs,z1s rfl hi,obs,w64 (by omega) (by omega)];simp only[tfd,obs,gm];by_cases h1:x.1<o
  ·rw[if_pos h1];by_cases h2:x.1<a
   ·rw[if_pos h2];exact go s0 (if_neg (fun k:b1m o (a,b) x=>k ⟨h1,.inl h2⟩)).symm
   ·rw[if_neg h2];by_cases h3:b≤x.1
    ·rw[if_pos h3];exact go s0 (if_neg (fun k:b1m o (a,b) x=>k ⟨h1,.inr h3⟩)).symm
    ·rw[if_neg h3,←same];exact go x (if_pos (show b1m o (a,b) x from fun k=>k.2.elim h2 h3)).symm
  ·rw[if_neg h1,←same];exact go x (if_pos (show b1m o (a,b) x from fun k=>h1 k.1)).symm
theorem q1q {t a b:Int} (ht:0≤t∧t<35184372088832) (ha:1≤a) (hb:1≤b) (hb1:b≤1099511627776) (hm:b % a=0):0≤t / b*(b / a)∧t / b*(b / a)≤t∧1≤b / a∧b / a≤1099511627776:=by
 have hp:=l0z ha hb hm;have q:=(edvm (t:=t) ha hb hm).2;have h0:0≤t / b:=Int.ediv_nonneg ht.1 (by omega);have h1:t / b*(b / a)≤t / a:=by rw[←q];exact Int.ediv_mul_le _ (by omega)
 have h2:t / a≤t:=Int.ediv_le_self _ ht.1;have h3:b / a≤b:=Int.ediv_le_self _ (by omega);exact ⟨Int.mul_nonneg h0 (by omega),by omega,by omega,by omega⟩
theorem q1r {a b:Int} (ha:1≤a) (hb:1≤b) (hb1:b≤1099511627776):IntKind.wrap .i64 (Int.tdiv b a)=b / a:=x1p ⟨by omega,by omega⟩ ha
theorem needed_0 (n:Nat) {c:Conf} (h:OkC c) {t:Int} (ht:0≤t∧t<35184372088832):d0m (n+1) c t 0=some (l0e c t):=by
 have hr:=h.rng;obtain ⟨a1,a2,a3,a4⟩:=q1q ht hr.w0.1 hr.w1.1 hr.w1.2 h.m1;rw[u0s,tfd,if_neg (nz hr.w0.1),tfd,if_neg (nz hr.w1.1),x1p ht hr.w1.1,q1r hr.w0.1 hr.w1.1 hr.w1.2,w64 (x:=t / c.2.1.2.1*(c.2.1.2.1 / c.2.1.1)) (by omega) (by omega),w64 (by omega) (by omega)];rfl
theorem needed_1 (n:Nat) {c:Conf} (h:OkC c) {t:Int} (ht:0≤t∧t<35184372088832):d0m (n+1) c t 1=some (l0t c t):=by
 have hr:=h.rng;obtain ⟨a1,a2,a3,a4⟩:=q1q ht hr.w1.1 hr.w2.1 hr.w2.2 h.m2;rw[u0r,tfd,if_neg (nz hr.w1.1),tfd,if_neg (nz hr.w2.1),x1p ht hr.w2.1,q1r hr.w1.1 hr.w2.1 hr.w2.2,w64 (x:=t / c.2.1.2.2*(c.2.1.2.2 / c.2.1.2.1)) (by omega) (by omega),w64 (by omega) (by omega)];rfl
theorem fade_0 (n:Nat) {c:Conf} (h:OkC c) (x:Ser) (ht:0≤x.2.1∧x.2.1<35184372088832) (hL:x.2.2.2.1.1.length≤1000000) (o:Int):e0m (n+2) c x 0 o=some (j0z o (l0e c x.2.1) x.2.2.2.1.1):=by
 rw[z0a,needed_0 n h ht,obs,m0e n _ hL,obs];have e:=o1q (n+1) o (l0e c x.2.1).1 (l0e c x.2.1).2 x.2.2.2.1.1 [] a0b 0 (x.2.2.2.1.1.length:Int) (by simpa using hL) rfl (by simp) (by unfold a0b;omega);rw[List.nil_append] at e;rw[e,obs,b0d];rfl
theorem fade_1 (n:Nat) {c:Conf} (h:OkC c) (x:Ser) (ht:0≤x.2.1∧x.2.1<35184372088832) (hL:x.2.2.2.1.2.1.length≤1000000) (o:Int):e0m (n+2) c x 1 o=some (j0z o (l0t c x.2.1) x.2.2.2.1.2.1):=by
 rw[y0z,needed_1 n h ht,obs,m0e n _ hL,obs];have e:=o1q (n+1) o (l0t c x.2.1).1 (l0t c x.2.1).2 x.2.2.2.1.2.1 [] a0b 0 (x.2.2.2.1.2.1.length:Int) (by simpa using hL) rfl (by simp) (by unfold a0b;omega);rw[List.nil_append] at e;rw[e,obs,b0d];rfl
theorem fade_2 (n:Nat) (c:Conf) (x:Ser) (hL:x.2.2.2.1.2.2.length≤1000000) (o:Int):e0m (n+2) c x 2 o=some (j0z o (0,0) x.2.2.2.1.2.2):=by
 rw[y0y,u0q,obs,m0e n _ hL,obs];have e:=o1q (n+1) o 0 0 x.2.2.2.1.2.2 [] a0b 0 (x.2.2.2.1.2.2.length:Int) (by simpa using hL) rfl (by simp) (by unfold a0b;omega);rw[List.nil_append] at e;rw[e,obs,b0d];rfl
theorem time_of {s:Sta} (h:StaOk s) {x:Ser} (hx:SerOk s.1 x) (h0:0≤x.2.1):0≤x.2.1∧x.2.1<35184372088832:=q1b hx (by omega)
theorem b2e (n:Nat) {s:Sta} (h:StaOk s) {x:Ser} (hx:SerOk s.1 x) (h0:0≤x.2.1) (s2:Sta) (out:List Ser) (i:Int) (L:List Int) (q1 q2:Int) (f:Nat) :
  b0p (n+14) (f+4) (s,s2,out,i,x,L,q1,q2,s.1.2.1,(0:Int),())=some (.inl (s,s2,out,i,g0p s.1 s.2.1 x,L,q1,q2,())):=by
 have hr:=h.whole.1.rng;have ht:=h.clock.1;have hc:=h.whole.1;have hT:=time_of h hx h0;have l0:=hx.fold.t0.l1;have l1:=hx.fold.t1.l1;have l2:=hx.fold.t2.l1;rw[q0i,s0h (n+10),obs,tfn,decide_eq_true (y0b ⟨ht.1,ht.2,hr.w0.1,hr.w0.2⟩ hr.n0),tft,fade_0 (n+12) hc x hT (by omega),obs];generalize e0:j0z (oldV s.2.1 s.1.2.1.1 s.1.2.2.1.1).1 (l0e s.1 x.2.1) x.2.2.2.1.1=F0;rw[q0h,s0h (n+10),obs,tfn,decide_eq_true (y0b ⟨ht.1,ht.2,hr.w1.1,hr.w1.2⟩ hr.n1),tft,
  fade_1 (n+12) hc (x.1,(x.2.1,(x.2.2.1,((F0,x.2.2.2.1.2),x.2.2.2.2)))) hT (by show x.2.2.2.1.2.1.length≤_;omega),obs]
 dsimp only;generalize e1:j0z (oldV s.2.1 s.1.2.1.2.1 s.1.2.2.1.2.1).1 (l0t s.1 x.2.1) x.2.2.2.1.2.1=F1;rw[q0g,s0h (n+10),obs,tfn,decide_eq_true (y0b ⟨ht.1,ht.2,hr.w2.1,hr.w2.2⟩ hr.n2),tft,
  fade_2 (n+12) s.1 (x.1,(x.2.1,(x.2.2.1,((F0,(F1,x.2.2.2.1.2.2)),x.2.2.2.2)))) (by show x.2.2.2.1.2.2.length≤_;omega),obs,q0f]
 subst e0 e1;rfl
noncomputable def r1u (s:Sta) (L:List Int) (out:List Ser):List Ser:=L.foldl (fun o z=>o.set z.toNat (g0p s.1 s.2.1 ((s.2.2.2[z.toNat]?).getD ser0))) out
theorem clean_l6 (n:Nat) {s:Sta} (h:StaOk s) (s2:Sta) (L:List Int) (hL:L.length≤1000000) (hm:∀z∈L,0≤z∧∃y,s.2.2.2[z.toNat]? = some y∧SerOk s.1 y∧0≤y.2.1):∀(rest pre:List Int) (f:Nat) (out:List Ser) (ix len:Int),L=pre++rest→ix=pre.length→len=L.length→rest.length<f→out.length=s.2.2.2.length →
  f0f (n+14) f (s,s2,out,L,len,ix,())=some (.inl (s,s2,r1u s rest out,())):=by
 intro rest;induction rest with
 | nil =>
  intro pre f out ix len hl hi hn hf ho;obtain ⟨f,rfl⟩:∃g,f=g+1:=⟨f-1,by simp at hf;omega⟩;rw[l0l,decide_eq_false (idxe hl hi hn),tff];rfl
 | cons z rest ih =>
  intro pre f out ix len hl hi hn hf ho;obtain ⟨f,rfl⟩:∃g,f=g+1:=⟨f-1,by simp at hf;omega⟩;obtain ⟨h0,y,hy,hs,hy0⟩:=hm z (by rw[hl];simp);have hlt:z.toNat<out.length:=by rw[ho];exact (List.getElem?_eq_some_iff.1 hy).1
  have hg:out[z.toNat]? = some out[z.toNat]:=List.getElem?_eq_getElem hlt;have e10:=b2e n h hs hy0 s2 out z L len ix (2^70-4);rw[show 2^70-4+4=a0b from by decide] at e10;rw[l0l,decide_eq_true (idx hl hi hn),tft,b0r hl hi,obs,z1s hl hi,obs,at_nn h0 hy,obs,e10,obs,b0d];dsimp only;rw[at_nn h0 hg,obs,hg,obs,idxw hl hi (show L.length≤1000000000000 by omega),ih (pre++[z]) f _ (ix+1) len (idxl hl) (idxs hi) hn (by simp at hf;omega) (by simpa using ho)];unfold r1u;rw[List.foldl_cons,hy];rfl
theorem set_fold {α:Type} (g:Int→α) (j:Nat):∀(L:List Int) (out:List α),(∀z∈L,0≤z)→(L.foldl (fun o z=>o.set z.toNat (g z)) out)[j]? = if (j:Int)∈L then (if j<out.length then some (g j) else none) else out[j]? := by
 intro L;induction L with
 | nil=>intro out _;simp
 | cons z L ih =>
  intro out hz;have h0:=hz z (by simp);rw[List.foldl_cons,ih _ (fun y hy=>hz y (by simp[hy])),List.length_set];by_cases h:(j:Int)∈L
  ·rw[if_pos h,if_pos (show (j:Int)∈z::L by simp[h])]
  ·rw[if_neg h,List.getElem?_set];by_cases e:z.toNat=j
   ·have e':z=(j:Int):=by omega
    rw[if_pos e,if_pos (show (j:Int)∈z::L by simp[e']),e,e']
   ·rw[if_neg e,if_neg (show ¬(j:Int)∈z::L by simp[h];omega)]
theorem v1j {s:Sta} (h:StaOk s):r1u s ((l0u s).map Int.ofNat) (List.replicate s.2.2.2.length ser0)=s.2.2.2.map (k0c s):=by
 apply List.ext_getElem?;intro j;unfold r1u;rw[set_fold (fun z=>g0p s.1 s.2.1 ((s.2.2.2[z.toNat]?).getD ser0)) j _ _ (fun z hz=>(o1j hz).1),List.getElem?_map,List.length_replicate];have hmem:((j:Int)∈(l0u s).map Int.ofNat)↔lvAt s j=true:=by
  constructor
  ·intro hz;obtain ⟨i,hi,e⟩:=List.mem_map.1 hz;have e:i=j:=by injection e
   rw[←e];exact (List.mem_filter.1 hi).2
  ·intro hl;exact List.mem_map.2 ⟨j,List.mem_filter.2 ⟨List.mem_range.2 (y1v hl),hl⟩,rfl⟩
 by_cases hl:lvAt s j=true
 ·obtain ⟨x,hx,hlx⟩:=f1x.1 hl;rw[if_pos (hmem.2 hl),if_pos (y1v hl),hx];simp only[Option.map_some,Int.toNat_natCast,hx,Option.getD_some];exact congrArg some (if_pos hlx).symm
 ·rw[if_neg (fun k=>hl (hmem.1 k)),List.getElem?_replicate];cases hx:s.2.2.2[j]? with
  | none=>rw[if_neg (by have:=List.getElem?_eq_none_iff.1 hx;omega)];rfl
  | some x =>
   rw[if_pos (List.getElem?_eq_some_iff.1 hx).1];have hn:¬LvX s x:=fun k=>hl (f1x.2 ⟨x,hx,k⟩)
   exact congrArg some (if_neg hn).symm
noncomputable def d1z (s:Sta):Sta×Int:=if StaOk s then (r0f s,0) else (sta0,2)
theorem o1k {s:Sta} (h:StaOk s):∀z∈(l0u s).map Int.ofNat,0≤z∧∃y,s.2.2.2[z.toNat]? = some y∧SerOk s.1 y∧0≤y.2.1:=by
 intro z hz;obtain ⟨h0,y,hy,hl⟩:=o1j hz;exact ⟨h0,y,hy,o1i h (List.mem_of_getElem? hy) hl⟩
theorem z0b (n:Nat) {s:Sta} (hw:StaW s):r0l (n+15) s=some (d1z s):=by
 rw[b1s,j0o n hw,obs,tfn];unfold d1z;by_cases h:StaOk s
 case neg=>rw[b2i h,if_neg h,if_neg h];rfl
 have hlen:=h.whole.len;have hL:((l0u s).map Int.ofNat).length≤1000000:=by have:=q1y s;simp;omega
 have e:liveR s=(l0u s).map Int.ofNat:=if_pos h.whole;have e6:=clean_l6 n h sta0 _ hL (o1k h) _ [] a0b (List.replicate s.2.2.2.length ser0) 0 _ rfl rfl rfl (by unfold a0b;omega) (by simp);rw[v1j h] at e6;rw[b2h h,if_pos h,decide_eq_true (by omega),decide_eq_true (Int.le_refl _),decide_eq_true (show (s.2.2.2.length:Int)*264≤140737488355328 by omega),Bool.and_self,Bool.and_self,tft,p1y (n+6) hw,obs,e,Int.toNat_natCast]
 change a0a (f0f (n+14) a0b (s,sta0,List.replicate s.2.2.2.length ser0,(l0u s).map Int.ofNat,(((l0u s).map Int.ofNat).length:Int),(0:Int),())) _=_
 rw[e6,obs,b0d];rfl
theorem cleanX_w {c:Conf} {now:Int} {x:Ser} (hx:SerW x∧SerM x):SerW (g0p c now x)∧SerM (g0p c now x):=by
 obtain ⟨⟨h1,h2,h3,h4⟩,m1,m2,m3,m4,m5⟩:=hx;have fw:∀(o:Int) (r:Int×Int) (l:List Slo),(∀z∈l,SloW z)→∀z∈j0z o r l,SloW z:=by
  intro o r l hl z hz;obtain ⟨y,hy,e⟩:=List.mem_map.1 hz;split at e
  ·rw[←e];exact hl y hy
  ·rw[←e];exact u0y
 refine ⟨⟨h1,h2,?_,h4⟩,m1,m2,by simpa [g0p,f0k] using m3,by simpa [g0p,f0k] using m4,by simpa [g0p,f0k] using m5⟩;obtain ⟨t1,t2,t3⟩:=h3;exact ⟨fw _ _ _ t1,fw _ _ _ t2,fw _ _ _ t3⟩
theorem r1t {s:Sta} (hw:StaW s):StaW (r0f s):=by
 refine ⟨by simpa [r0f] using hw.len,fun x hx => ?_⟩;obtain ⟨y,hy,e⟩:=List.mem_map.1 hx;unfold k0c at e;split at e
 ·rw[←e];exact cleanX_w (hw.ser y hy)
 ·rw[←e];exact ⟨ser0_w,ser0_m⟩
theorem rawQ_of {room:Int} (h:1≤room) {l:List Ev} (hl:Foll l) {a b:Int} {R:List Ev} (hr:rawQ (h0y room l) a b=(R,0)):R=l.filter (inR a b):=by
 unfold rawQ at hr;by_cases h1:b≤a
 ·rw[if_pos h1] at hr;cases congrArg Prod.snd hr
 rw[if_neg h1] at hr;by_cases h2:0<(h0y room l).1∧a≤(h0y room l).2.1
 ·rw[if_pos h2] at hr;cases congrArg Prod.snd hr
 rw[if_neg h2] at hr;have hr:((l.drop (l.length-room.toNat)).filter (inR a b))=R:=congrArg Prod.fst hr;rw[←hr];by_cases h3:(l.length:Int)≤room
 ·rw[show l.length-room.toNat=0 by omega,List.drop_zero]
 ·have e1:(h0y room l).1=(l.length:Int)-room:=by simp only[h0y];rw[if_neg h3]
  have e2:(h0y room l).2.1=((l[l.length-room.toNat-1]?).getD e0).1:=by simp only[h0y];rw[if_neg h3]
  have hn:l.length-room.toNat-1<l.length:=by omega
  rw[List.getElem?_eq_getElem hn,Option.getD_some] at e2;have ha:(l[l.length-room.toNat-1]).1<a:=by
   rcases Int.lt_or_le (l[l.length-room.toNat-1]).1 a with k | k
   ·exact k
   ·exact absurd ⟨by omega,by omega⟩ h2
  have e3:(l.take (l.length-room.toNat)).filter (inR a b)=[]:=by
   rw[List.filter_eq_nil_iff];intro x hx;obtain ⟨k,hk,e⟩:=List.getElem_of_mem hx;rw[List.getElem_take] at e;have hk':k<l.length-room.toNat:=by rw[List.length_take] at hk;omega
   have hp:=List.pairwise_iff_getElem.1 hl.inc;have:x.1≤(l[l.length-room.toNat-1]).1:=by
    rw[←e];by_cases q:k=l.length-room.toNat-1
    ·subst q;exact Int.le_refl _
    ·exact Int.le_of_lt (hp k (l.length-room.toNat-1) (by omega) hn (by omega))
   unfold inR;simp;omega
  calc (l.drop (l.length-room.toNat)).filter (inR a b)=(l.take (l.length-room.toNat)).filter (inR a b)++(l.drop (l.length-room.toNat)).filter (inR a b):=by rw[e3,List.nil_append]
   _=l.filter (inR a b):=by rw[←List.filter_append,List.take_append_drop]
structure EvInv (N:Nat) (s:Sta):Prop where
 ok:StaOk s
 w:StaW s
 ser:∀x∈s.2.2.2,x=ser0∨∃y l,SerInv s.1 y l∧l≠[]∧l.length≤N∧Fad s.1 (olds s.1 s.2.1) x y
theorem EvInv.of {N:Nat} {s:Sta} (h:StaInv N s):EvInv N s:=⟨h.ok,h.w,fun x hx=>(h.ser x hx).imp id fun ⟨l,h1,h2,h3⟩=>⟨x,l,h1,h2,h3,.refl _ _ _⟩⟩
theorem EvInv.mono {N M:Nat} {s:Sta} (h:EvInv N s) (hm:N≤M):EvInv M s :=
 ⟨h.ok,h.w,fun x hx=>(h.ser x hx).imp id fun ⟨y,l,h1,h2,h3,h4⟩=>⟨y,l,h1,h2,Nat.le_trans h3 hm,h4⟩⟩
theorem k1o {s:Sta} (h:StaOk s) {now:Int} (h1:s.2.1≤now) (h2:now<35184372088832):(olds s.1 s.2.1).1≤(olds s.1 now).1∧(olds s.1 s.2.1).2.1≤(olds s.1 now).2.1∧(olds s.1 s.2.1).2.2≤(olds s.1 now).2.2:=by
 have hr:=h.whole.1.rng;have hc:=h.clock.1;have c1:=hc.1;have c2:=hc.2;exact ⟨y0c ⟨c1,c2,hr.w0.1,hr.w0.2⟩ ⟨by omega,h2,hr.w0.1,hr.w0.2⟩ h1 hr.n0,y0c ⟨c1,c2,hr.w1.1,hr.w1.2⟩ ⟨by omega,h2,hr.w1.1,hr.w1.2⟩ h1 hr.n1,y0c ⟨c1,c2,hr.w2.1,hr.w2.2⟩ ⟨by omega,h2,hr.w2.1,hr.w2.2⟩ h1 hr.n2⟩
theorem EvInv.tick {N:Nat} {s:Sta} (h:EvInv N s) (now:Int):EvInv N (s0s s now).1:=by
 unfold s0s;by_cases hm:Moves s now
 ·rw[if_pos hm];obtain ⟨m1,m2,m3⟩:=k1o h.ok (Int.le_of_lt hm.2.1) hm.2.2;exact ⟨w1m hm,w1n h.w now,fun x hx=>(h.ser x hx).imp id fun ⟨y,l,h1,h2,h3,h4⟩=>⟨y,l,h1,h2,h3,h4.mono m1 m2 m3⟩⟩
 ·rw[if_neg hm];exact h
theorem o1r {c:Conf} {o:Int×(Int×Int)} {x y x':Ser} {l:List Ev} {e:Ev} (hx:SerOk c x) (h:Fad c o x y) (hy:SerInv c y l) (hL:l.length<1000000) (hp:Go.Proofs.YtojobamheigpbaaGreat.putE c x e=(x',0)):∃y',SerInv c y' (l++[e])∧Fad c o x' y':=by
 obtain ⟨_,he,hlt,_⟩:=j0v hx hp;have hf:Foll (l++[e]):=by
  refine a0v.2 ⟨hy.foll,⟨by simp[he],by simp⟩,fun a ha b hb => ?_⟩;simp at hb;subst hb;rcases hy.last with ⟨k,_⟩ | k
  ·rw[k] at ha;cases ha
  ·have:=k.le a ha;rw[h.last] at hlt;omega
 obtain ⟨y',h1,h2⟩:=n1h hy hf hL;obtain ⟨x'',h3,h4⟩:=h.putE hx (t0j hy) h1;rw[hp] at h3;injection h3 with h3 _;subst h3;exact ⟨y',h2,h4⟩
theorem EvInv.write {N:Nat} {s:Sta} (h:EvInv N s) (hb:N<1000000) (l:List Lab) (e:Ev):EvInv (N+1) (if (d0b s l e).2=0 then (d0b s l e).1 else s):=by
 by_cases h0:(d0b s l e).2=0
 case neg=>rw[if_neg h0];exact h.mono (Nat.le_succ N)
 rw[if_pos h0];have hw:d0b s l e=((d0b s l e).1,0):=Prod.ext rfl h0;have hww:=p1m h.w l e;generalize (d0b s l e).1=t at *
 refine ⟨z0e hw,hww,?_⟩;obtain ⟨hg,i,x,b,y,hp,hput,rfl,_⟩:=m0k hw;obtain ⟨p1,_⟩:=n0f hg hp;intro z hz;rcases List.mem_or_eq_of_mem_set hz with k | k
 ·exact (h.ser z k).imp id fun ⟨y,l,h1,h2,h3,h4⟩=>⟨y,l,h1,h2,by omega,h4⟩
 ·subst k;right;cases hp with
  | found hf hx hl hlv ht =>
   obtain ⟨y0,l0,h1,_,h3,h4⟩:=(h.ser x (List.mem_of_getElem? hx)).resolve_left hlv.1;obtain ⟨y',q1,q2⟩:=o1r p1 h4 h1 (by omega) hput;exact ⟨y',_,q1,by simp,by simp;omega,q2⟩
  | room hf hs hr =>
   obtain ⟨y',q1,q2⟩:=o1r (o:=olds s.1 s.2.1) p1 (.refl _ _ _) (f1u hg.st.whole.1 hg.lab) (by simp) hput;exact ⟨y',_,q1,by simp,by simp,q2⟩
theorem EvInv.sweep {N:Nat} {s:Sta} (h:EvInv N s):EvInv N (q0r s):=⟨p1u h.ok,p1w h.w,h.ser⟩
theorem EvInv.clean {N:Nat} {s:Sta} (h:EvInv N s):EvInv N (r0f s):=by
 refine ⟨r1s h.ok,r1t h.w,fun z hz => ?_⟩;obtain ⟨x,hx,e⟩:=List.mem_map.1 hz;unfold k0c at e;split at e
 ·rename_i hl;obtain ⟨y,l,h1,h2,h3,h4⟩:=(h.ser x hx).resolve_left hl.1;rw[←e];exact .inr ⟨y,l,h1,h2,h3,h4.clean⟩
 ·exact .inl e.symm
abbrev Act:Type:=Int×((List Lab×Ev)×Int)
theorem small_l4 (n:Nat) (acts:List Act) (hL:acts.length≤9223372036854775807) (hw:∀x∈acts,x.2.1.1.length≤9223372036854775807):∀(rest pre:List Act) (f:Nat) (ix len:Int),acts=pre++rest→ix=pre.length→len=acts.length→rest.length<f →
  d0t (n+1) f (acts,len,ix,())=some (.inl ())∨d0t (n+1) f (acts,len,ix,())=some (.inr false):=by
 intro rest;induction rest with
 | nil =>
  intro pre f ix len ha hi hl hf;obtain ⟨f,rfl⟩:=g0g hf;subst hi;subst hl;rw[List.append_nil] at ha;subst ha;rw[j0k,decide_eq_false (by omega),tff];exact .inl rfl
 | cons x r ih =>
  intro pre f ix len ha hi hl hf;obtain ⟨f,rfl⟩:=g0g hf;have hlen:acts.length=pre.length+(r.length+1):=by rw[ha];simp
  subst hi;subst hl;have hat:at? acts (pre.length:Int)=some x:=by
   rw[ha];exact b0r (pre:=pre) (rest:=r) rfl rfl
  rw[j0k,decide_eq_true (by omega),tft,hat,obs];rcases k1t n x.2.1.1 (hw x (by rw[ha];simp)) with h | h
  ·rw[h];exact .inr rfl
  ·rw[h,obs,show (decide ((1:Int)=0))=false from rfl,tff,w64 (by omega) (by omega)];exact ih (pre++[x]) f ((pre.length:Int)+1) (acts.length:Int) (by rw[ha];simp) (by simp) rfl (by simp at hf;omega)
theorem s1w (n:Nat) (acts:List Act) (hL:acts.length≤9223372036854775807) (hw:∀x∈acts,x.2.1.1.length≤9223372036854775807):i0r (n+2) acts=some false∨(i0r (n+2) acts=some true∧acts.length≤40):=by
 rw[w0z,tfd];by_cases h:(40:Int)<((acts.length:Nat):Int)
 ·rw[if_pos h];exact .inl rfl
 rw[if_neg h];rcases small_l4 n acts hL hw acts [] a0b 0 _ rfl rfl rfl (by unfold a0b;omega) with e | e
 ·rw[e];exact .inr ⟨rfl,by omega⟩
 ·rw[e];exact .inl rfl
theorem fits11 (n:Nat) (c:Conf):p0i (n+8) c=some false∨(p0i (n+8) c=some true∧(i0t c).2=0):=by
 rw[e1m,z0d n,obs,tfd];by_cases h:(i0t c).2=0
 case neg=>rw[if_neg h];exact .inl rfl
 rw[if_pos h];simp only[tfd];by_cases h1:((((i0t c).1.2.2.2.length:Nat):Int))≤8
 case neg=>rw[if_neg h1];exact .inl rfl
 rw[if_pos h1];by_cases h2:c.1≤60
 case neg=>rw[if_neg h2];exact .inl rfl
 rw[if_pos h2];by_cases h3:c.2.2.1.1≤40
 case neg=>rw[if_neg h3];exact .inl rfl
 rw[if_pos h3];by_cases h4:c.2.2.1.2.1≤40
 case neg=>rw[if_neg h4];exact .inl rfl
 rw[if_pos h4];by_cases h5:c.2.2.1.2.2≤40
 ·rw[decide_eq_true h5];exact .inr ⟨rfl,h⟩
 ·rw[decide_eq_false h5];exact .inl rfl
theorem acts_wf {acts:List Act} (ha:Wf (.slice h0p) acts):acts.length≤9223372036854775807∧(∀x∈acts,x.2.1.1.length≤9223372036854775807)∧∀x∈acts,EvW x.2.1.2 :=
 ⟨Nat.le_trans ha.1 (by decide),fun x hx=>Nat.le_trans (ha.2 x hx).2.1.1.1 (by decide),fun x hx=>ev_wf (ha.2 x hx).2.1.2⟩
theorem rawQ_err {r:Rw} {a b:Int} (h:(rawQ r a b).2≠0):(rawQ r a b).1=[]:=by
 unfold rawQ at h ⊢;by_cases h1:b≤a
 ·rw[if_pos h1]
 rw[if_neg h1] at h ⊢;by_cases h2:0<r.1∧a≤r.2.1
 ·rw[if_pos h2]
 ·rw[if_neg h2] at h;exact absurd rfl h
theorem rawV_err {s:Sta} {l:List Lab} {a b:Int} (h:(rawV s l a b).2≠0):(rawV s l a b).1=[]:=by
 unfold rawV at h ⊢;by_cases h1:StaOk s
 case neg=>rw[if_neg h1]
 rw[if_pos h1] at h ⊢;by_cases h2:LabOk l
 case neg=>rw[if_neg h2]
 rw[if_pos h2] at h ⊢;by_cases h3:RngP a b
 case neg=>rw[if_neg h3]
 rw[if_pos h3] at h ⊢;by_cases h4:i0d s.1 a s.2.1=true
 ·rw[if_pos h4]
 rw[if_neg h4] at h ⊢;cases hf:f0d s l with
 | none=>rfl
 | some i=>rw[hf] at h;exact rawQ_err h
end Go.Proofs.YtojobamheigpbaaGreat

namespace Go.Plim
open Go.Flat
set_option linter.unusedVariables false
theorem y1t (e:Ty) {key:List UInt8}:∀(xs:List (El .str×El e)) (i:Nat),(∀p∈xs,p.1≠key)→mget .str e xs key i=none:=by
 intro xs;induction xs with
 | nil=>intro i _;rfl
 | cons p r ih =>
  intro i h;obtain ⟨a,v⟩:=p;have hne:(key==a)=false:=by
   have:=h (a,v) (by simp);simp only[ne_eq] at this;cases hq:(key==a) with
   | false=>rfl
   | true=>exact absurd (eq_of_beq hq).symm this
  simp only[mget,x0n];rw[hne];exact ih (i+1) fun p hp=>h p (by simp[hp])
theorem mget_at (e:Ty) {key:List UInt8} {v:El e} {post:List (El .str×El e)}:∀(pre:List (El .str×El e)) (i:Nat),(∀p∈pre,p.1≠key)→mget .str e (pre++(key,v)::post) key i=some (i+pre.length,v):=by
 intro pre;induction pre with
 | nil=>intro i _;simp[mget,x0n]
 | cons p r ih =>
  intro i h;obtain ⟨a,w⟩:=p;have hne:(key==a)=false:=by
   have:=h (a,w) (by simp);simp only[ne_eq] at this;cases hq:(key==a) with
   | false=>rfl
   | true=>exact absurd (eq_of_beq hq).symm this
  simp only[List.cons_append,mget,x0n];rw[hne,cond_false,ih (i+1) fun p hp=>h p (by simp[hp])];simp;omega
theorem mput_new (e:Ty) {key:List UInt8} {v:El e}:∀(xs:List (El .str×El e)),(∀p∈xs,p.1≠key)→mput .str e xs key v=xs++[(key,v)]:=by
 intro xs;induction xs with
 | nil=>intro _;rfl
 | cons p r ih =>
  intro h;obtain ⟨a,w⟩:=p;have hne:(key==a)=false:=by
   have:=h (a,w) (by simp);simp only[ne_eq] at this;cases hq:(key==a) with
   | false=>rfl
   | true=>exact absurd (eq_of_beq hq).symm this
  simp only[mput,x0n];rw[hne,cond_false,ih fun p hp=>h p (by simp[hp])];rfl
theorem b2p (e:Ty) {L V:Type} {key:L→List UInt8} (hk:∀a b,key a=key b→a=b) (f:L×V→El e) {B:List (L×V)} {l:L} (hl:l ∉ B.map Prod.fst) (i:Nat) (w:El e) :
  mget .str e (B.map fun p=>(key p.1,f p)) (key l) i=none∧mput .str e (B.map fun p=>(key p.1,f p)) (key l) w=(B.map fun p=>(key p.1,f p))++[(key l,w)]:=by
 have h:∀p∈B.map (fun p=>((key p.1,f p):El .str×El e)),p.1≠key l:=by
  intro p hp e2;obtain ⟨q,hq,rfl⟩:=List.mem_map.1 hp;exact hl (List.mem_map.2 ⟨q,hq,hk _ _ e2⟩)
 exact ⟨y1t e _ i h,mput_new e _ h⟩
theorem bk_at (e:Ty) {L V:Type} {key:L→List UInt8} (hk:∀a b,key a=key b→a=b) (f:L×V→El e) {pre post:List (L×V)} {l:L} {v:V} (hl:l ∉ pre.map Prod.fst) (i:Nat) (w:El e) :
  mget .str e ((pre++(l,v)::post).map fun p=>(key p.1,f p)) (key l) i=some (i+pre.length,f (l,v)) ∧
  ((pre++(l,v)::post).map fun p=>((key p.1,f p):El .str×El e)).set pre.length (key l,w)=(pre.map fun p=>(key p.1,f p))++(key l,w)::post.map fun p=>(key p.1,f p):=by
 have h:∀p∈pre.map (fun p=>((key p.1,f p):El .str×El e)),p.1≠key l:=by
  intro p hp e2;obtain ⟨q,hq,rfl⟩:=List.mem_map.1 hp;exact hl (List.mem_map.2 ⟨q,hq,hk _ _ e2⟩)
 have hg:=mget_at e (v:=f (l,v)) (post:=post.map fun p=>((key p.1,f p):El .str×El e)) (pre.map fun p=>(key p.1,f p)) i h;refine ⟨by rw[List.map_append,List.map_cons,hg,List.length_map],?_⟩;rw[List.map_append,List.map_cons,List.set_append_right _ _ (by simp)];simp
theorem bk_set (e:Ty) {L V:Type} {key:L→List UInt8} (f:L×V→El e) {pre post:List (L×V)} {l:L} {v:V} (w:El e) :
  mset .str e ((pre++(l,v)::post).map fun p=>((key p.1,f p):El .str×El e)) pre.length w=(pre.map fun p=>(key p.1,f p))++(key l,w)::post.map fun p=>(key p.1,f p):=by
 rw[y1o];have h:((pre++(l,v)::post).map fun p=>((key p.1,f p):El .str×El e))[pre.length]? = some (key l,f (l,v)):=by
  rw[List.map_append,List.map_cons,List.getElem?_append_right (by simp)];simp
 rw[h];dsimp only;rw[List.map_append,List.map_cons,List.set_append_right _ _ (by simp)];simp
def uvB (n:Nat):List UInt8:=if n<128 then [UInt8.ofNat n] else UInt8.ofNat (n % 128+128)::uvB (n / 128)
termination_by n
decreasing_by omega
theorem s0i {n:Nat} (h:n<128):uvB n=[UInt8.ofNat n]:=by unfold uvB;rw[if_pos h]
theorem x0s {n:Nat} (h:¬n<128):uvB n=UInt8.ofNat (n % 128+128)::uvB (n / 128):=by rw[uvB];rw[if_neg h]
theorem p1p {a b:Nat} (ha:a<256) (hb:b<256) (h:UInt8.ofNat a=UInt8.ofNat b):a=b:=by
 have:=congrArg UInt8.toNat h;simp at this;omega
theorem w1c:∀(a b:Nat) (x y:List UInt8),uvB a++x=uvB b++y→a=b∧x=y:=by
 intro a;induction a using Nat.strongRecOn with
 | _ a ih =>
  intro b x y h;by_cases ha:a<128
  ·rw[s0i ha] at h;by_cases hb:b<128
   ·rw[s0i hb] at h;simp only[List.cons_append,List.nil_append,List.cons.injEq] at h;exact ⟨p1p (by omega) (by omega) h.1,h.2⟩
   ·rw[x0s hb] at h;simp only[List.cons_append,List.nil_append,List.cons.injEq] at h;have:=p1p (by omega) (by omega) h.1;omega
  ·rw[x0s ha] at h;by_cases hb:b<128
   ·rw[s0i hb] at h;simp only[List.cons_append,List.nil_append,List.cons.injEq] at h;have:=p1p (by omega) (by omega) h.1;omega
   ·rw[x0s hb] at h;simp only[List.cons_append,List.cons.injEq] at h;have h1:=p1p (by omega) (by omega) h.1;obtain ⟨h2,h3⟩:=ih (a / 128) (by omega) (b / 128) x y h.2;exact ⟨by omega,h3⟩
def txB (s:List UInt8):List UInt8:=uvB s.length++s
theorem w1g {s t x y:List UInt8} (h:txB s++x=txB t++y):s=t∧x=y:=by
 unfold txB at h;rw[List.append_assoc,List.append_assoc] at h;obtain ⟨h1,h2⟩:=w1c _ _ _ _ h;exact List.append_inj h2 h1
def labB (l:List (List UInt8×List UInt8)):List UInt8:=uvB l.length++l.flatMap fun x=>txB x.1++txB x.2
theorem g1f {l m:List (List UInt8×List UInt8)} (h:labB l=labB m):l=m:=by
 unfold labB at h;obtain ⟨h1,h2⟩:=w1c _ _ _ _ h;clear h;induction l generalizing m with
 | nil =>
  cases m with
  | nil=>rfl
  | cons=>cases h1
 | cons x l ih =>
  cases m with
  | nil=>cases h1
  | cons y m =>
   simp only[List.flatMap_cons,List.append_assoc] at h2;obtain ⟨k1,k2⟩:=w1g h2;obtain ⟨k3,k4⟩:=w1g k2;rw[ih (by simpa using h1) k4];congr 1;exact Prod.ext k1 k3
end Go.Plim

namespace Go.Plim
open Go.Flat
set_option linter.unusedVariables false
theorem y1c:∀c:Fin 256,orI .u8 (c.val:Int) 128=(c.val:Int) % 128+128:=by decide +kernel
theorem or128 (v:Int):orI .u8 (IntKind.wrap .u8 v) 128=v % 128+128:=by
 rw[y0o];have h1:=Int.emod_nonneg v (show (256:Int)≠0 by decide);have h2:=Int.emod_lt_of_pos v (show (0:Int)<256 by decide);have:=y1c ⟨(v % 256).toNat,by omega⟩;simp only at this;rw[show (((v % 256).toNat:Nat):Int)=v % 256 by omega] at this;rw[this];omega
theorem shr7 {v:Int} (h:0≤v):shrI .u64 v 7=v / 128:=by
 show v.fdiv (2^(7:Int).toNat)=_;rw[Int.fdiv_eq_ediv_of_nonneg _ (by decide)];rfl
def uvI (v:Int):List Int:=h0x (uvB v.toNat)
theorem i1r {v:Int} (h0:0≤v) (h:v<128):uvI v=[v]:=by
 unfold uvI;rw[s0i (by omega)];simp[h0x];omega
theorem e1k {v:Int} (h0:0≤v) (h:¬v<128):uvI v=(v % 128+128)::uvI (v / 128):=by
 unfold uvI;rw[x0s (by omega)];have e:(v / 128).toNat=v.toNat / 128:=by omega
 rw[e];simp[h0x];omega
end Go.Plim

namespace Go.Proofs.YtojobamheigpbaaGreat
open Go.Flat Go.Plim
set_option linter.unusedVariables false
set_option linter.unusedSimpArgs false
theorem w0t {u x:Sta} {l:List Lab} {e:Ev} (h:d0b u l e=(x,0)):∃i y,f0d x l=some i∧x.2.2.2[i]? = some y∧y.2.1=e.1:=by
 obtain ⟨hg,i,z,b,y,hp,hput,rfl,_⟩:=m0k h;obtain ⟨p1,p2,p3,p4⟩:=n0f hg hp;obtain ⟨q1,q2,q3,q4,q5⟩:=j0v p1 hput;have hy:(setS u i y).2.2.2[i]? = some y:=by rw[k0j,if_pos rfl,if_pos p3]
 have hne:y≠ser0:=fun k=>by
  have e1:y.1=[]:=congrArg Prod.fst k;have:=q1.lab.n0;rw[e1] at this;simp at this
 have hl:LvX (setS u i y) y:=y1n (s:=u) hg.st hne (by rw[q4];exact hg.lo) (by rw[q4];exact hg.ev.t1);refine ⟨i,y,d0j.2 ⟨y,hy,q5.trans p2,hl,fun j hj w hw hn => ?_⟩,hy,q4⟩;rw[k0j,if_neg (by omega)] at hw;cases hp with
 | found hf hx hl hlv ht =>
  obtain ⟨_,_,_,_,first⟩:=d0j.1 hf;exact first j hj w hw hn
 | room hf hs hr=>exact f0r.1 hf w (List.mem_of_getElem? hw) hn
theorem l1a (x:Sta) (now:Int) (l:List Lab):f0d (s0s x now).1 l=f0d x l:=by
 unfold s0s;split<;>rfl
theorem n1u (x:Sta) (now:Int):(s0s x now).1.2.2.2=x.2.2.2:=by
 unfold s0s;split<;>rfl
abbrev Bk:Type:=List (List Lab×List Ev)
def putB:Bk→List Lab→Ev→Bk
 | [],l,e=>[(l,[e])]
 | (m,es)::r,l,e=>if m=l then (m,es++[e])::r else (m,es)::putB r l e
def evsB (B:Bk) (l:List Lab):List Ev:=match B.find? (fun p=>decide (p.1=l)) with | some p=>p.2 | none=>[]
def keysB (B:Bk):List (List Lab):=B.map Prod.fst
def sumB (B:Bk):Nat:=(B.map fun p=>p.2.length).sum
theorem x1r (l:List Lab) (e:Ev):∀B:Bk,keysB (putB B l e)=if l∈keysB B then keysB B else keysB B++[l]:=by
 intro B;induction B with
 | nil=>rfl
 | cons p r ih =>
  obtain ⟨m,es⟩:=p;unfold keysB at *
  simp only[putB];by_cases h:m=l
  ·subst h;simp
  ·rw[if_neg h];simp only[List.map_cons,ih,List.mem_cons];by_cases k:l∈r.map Prod.fst
   ·rw[if_pos k,if_pos (.inr k)]
   ·rw[if_neg k,if_neg (by rintro (q | q);exact h q.symm;exact k q)];rfl
theorem q1i (l:List Lab) (e:Ev):∀B:Bk,sumB (putB B l e)=sumB B+1:=by
 intro B;induction B with
 | nil=>rfl
 | cons p r ih =>
  obtain ⟨m,es⟩:=p;unfold sumB at *
  simp only[putB];by_cases h:m=l
  ·rw[if_pos h];simp;omega
  ·rw[if_neg h];simp only[List.map_cons,List.sum_cons,ih];omega
theorem f1o {l:List Lab} {e:Ev}:∀ {B:Bk},(keysB B).Nodup→∀ {p:List Lab×List Ev},p∈putB B l e→(p.1≠l∧p∈B)∨(∃es,p=(l,es++[e])∧((l,es)∈B∨(es=[]∧l ∉ keysB B))):=by
 intro B;induction B with
 | nil=>intro _ p h;simp[putB] at h;exact .inr ⟨[],by simp[h],.inr ⟨rfl,by simp[keysB]⟩⟩
 | cons q r ih =>
  intro hn p h;obtain ⟨m,es⟩:=q;have hn':m ∉ keysB r∧(keysB r).Nodup:=by unfold keysB at hn ⊢;simpa using hn
  simp only[putB] at h;by_cases hm:m=l
  ·rw[if_pos hm] at h;subst hm;rcases List.mem_cons.1 h with h | h
   ·exact .inr ⟨es,h,.inl (by simp)⟩
   ·refine .inl ⟨fun k=>hn'.1 ?_,by simp[h]⟩;rw[←k];exact List.mem_map.2 ⟨p,h,rfl⟩
  ·rw[if_neg hm] at h;rcases List.mem_cons.1 h with h | h
   ·subst h;exact .inl ⟨hm,by simp⟩
   ·rcases ih hn'.2 h with ⟨k1,k2⟩ | ⟨es',k1,k2⟩
    ·exact .inl ⟨k1,by simp[k2]⟩
    ·refine .inr ⟨es',k1,?_⟩;rcases k2 with k2 | ⟨k2,k3⟩
     ·exact .inl (by simp[k2])
     ·exact .inr ⟨k2,by unfold keysB at k3 ⊢;simp only[List.map_cons,List.mem_cons,not_or];exact ⟨fun e=>hm e.symm,k3⟩⟩
theorem t1x {l:List Lab} {e:Ev}:∀ {B:Bk} {p:List Lab×List Ev},p∈B→p.1≠l→p∈putB B l e:=by
 intro B;induction B with
 | nil=>intro p h;cases h
 | cons q r ih =>
  intro p h hp;obtain ⟨m,es⟩:=q;simp only[putB];by_cases hm:m=l
  ·rw[if_pos hm];rcases List.mem_cons.1 h with h | h
   ·subst h;exact absurd hm hp
   ·simp[h]
  ·rw[if_neg hm];rcases List.mem_cons.1 h with h | h
   ·subst h;simp
   ·simp[ih h hp]
theorem q1j {l:List Lab} {e:Ev}:∀ {B:Bk} {es:List Ev},(keysB B).Nodup→(l,es)∈B→(l,es++[e])∈putB B l e:=by
 intro B;induction B with
 | nil=>intro es _ h;cases h
 | cons q r ih =>
  intro es hn h;obtain ⟨m,es'⟩:=q;have hn':m ∉ keysB r∧(keysB r).Nodup:=by unfold keysB at hn ⊢;simpa using hn
  simp only[putB];by_cases hm:m=l
  ·rw[if_pos hm];subst hm;rcases List.mem_cons.1 h with h | h
   ·simp only[Prod.mk.injEq] at h;rw[h.2];simp
   ·exact absurd (List.mem_map.2 ⟨_,h,rfl⟩) hn'.1
  ·rw[if_neg hm];rcases List.mem_cons.1 h with h | h
   ·simp only[Prod.mk.injEq] at h;exact absurd h.1.symm hm
   ·simp[ih hn'.2 h]
theorem putB_new {l:List Lab} {e:Ev}:∀ {B:Bk},l ∉ keysB B→(l,[e])∈putB B l e:=by
 intro B;induction B with
 | nil=>intro _;simp[putB]
 | cons q r ih =>
  intro h;obtain ⟨m,es⟩:=q;have h':l≠m∧l ∉ keysB r:=by unfold keysB at h ⊢;simpa using h
  simp only[putB];rw[if_neg (fun k=>h'.1 k.symm)];simp[ih h'.2]
theorem u0a {B:Bk} (hn:(keysB B).Nodup) {l:List Lab} {es:List Ev} (h:(l,es)∈B):evsB B l=es:=by
 unfold evsB;induction B with
 | nil=>cases h
 | cons q r ih =>
  obtain ⟨m,es'⟩:=q;have hn':m ∉ keysB r∧(keysB r).Nodup:=by unfold keysB at hn ⊢;simpa using hn
  by_cases hm:m=l
  ·subst hm;rcases List.mem_cons.1 h with h | h
   ·simp only[Prod.mk.injEq] at h;simp[h.2]
   ·exact absurd (List.mem_map.2 ⟨_,h,rfl⟩) hn'.1
  ·rcases List.mem_cons.1 h with h | h
   ·simp only[Prod.mk.injEq] at h;exact absurd h.1.symm hm
   ·rw[List.find?_cons_of_neg (by simpa using hm)];exact ih hn'.2 h
theorem r0t (B:Bk) (l:List Lab):(evsB B l=[]∧l ∉ keysB B)∨(l,evsB B l)∈B:=by
 unfold evsB;cases hf:B.find? (fun p=>decide (p.1=l)) with
 | none =>
  left;refine ⟨rfl,fun h => ?_⟩;obtain ⟨p,hp,e⟩:=List.mem_map.1 h;have:=List.find?_eq_none.1 hf p hp;simp[e] at this
 | some p =>
  right;have h1:=List.mem_of_find?_eq_some hf;have h2:=List.find?_some hf;simp at h2;rw[←h2];exact h1
def Gon (s:Sta) (es:List Ev):Prop:=∀e∈es,i0d s.1 e.1 s.2.1=true
theorem a1n {t u now w m:Int} (h0:0≤t) (htu:t≤u) (h:n0n u now w m=true):n0n t now w m=true:=by
 unfold n0n at *
 have h:=of_decide_eq_true h;obtain ⟨⟨h1,h2,h3,h4⟩,h5,h6⟩:=h;have:t / w≤u / w:=Int.ediv_le_ediv (by omega) htu;exact decide_eq_true ⟨⟨h0,by omega,h3,h4⟩,h5,by omega⟩
theorem l1j {c:Conf} {t u now:Int} (h0:0≤t) (htu:t≤u) (h:i0d c u now=true):i0d c t now=true:=by
 unfold i0d at *
 simp only[Bool.and_eq_true] at h ⊢;exact ⟨h.1,a1n h0 htu h.2.1,a1n h0 htu h.2.2.1,a1n h0 htu h.2.2.2⟩
theorem dead_lt {s:Sta} (hs:StaOk s) {t:Int} (h:i0d s.1 t s.2.1=true):t<mk s:=by
 unfold i0d at h;simp only[Bool.and_eq_true] at h;obtain ⟨_,h,_⟩:=h;unfold n0n at h;obtain ⟨⟨h1,h2,h3,h4⟩,h5,h6⟩:=of_decide_eq_true h;have hr:=hs.whole.1.rng;have ht:=hs.clock.1;unfold oldV at h6;rw[if_pos ⟨⟨ht.1,ht.2,h3,h4⟩,hr.n0.1,hr.n0.2⟩] at h6;have hd:=Int.ediv_nonneg h1 (show (0:Int)≤s.1.2.1.1 by omega);have hlt:t / s.1.2.1.1<s.2.1 / s.1.2.1.1:=by
  have:=hr.n0.1;simp only at h6;split at h6<;>omega
 unfold mk;exact Int.lt_of_lt_of_le (Int.lt_mul_of_ediv_lt (by omega) (show t / s.1.2.1.1<t / s.1.2.1.1+1 by omega)) (Int.mul_le_mul_of_nonneg_right (by omega) (by omega))
theorem Gon.mono {s t:Sta} {es:List Ev} (hs:StaOk s) (h:Gon s es) (hc:t.1=s.1) (h1:s.2.1≤t.2.1) (h2:p0c t.2.1):Gon t es:=fun e he=>by
 rw[hc];exact l1i hs.clock.1 h2 h1 (h e he)
structure BkInv (N:Nat) (s:Sta) (B:Bk):Prop where
 ok:StaOk s
 w:StaW s
 nd:(keysB B).Nodup
 bk:∀p∈B,LabOk p.1∧Foll p.2∧p.2≠[]
 sum:sumB B≤N
 ser:∀(i:Nat) x,s.2.2.2[i]? = some x→x=ser0∨∃y l,SerInv s.1 y l∧l≠[]∧l.length≤N∧Fad s.1 (olds s.1 s.2.1) x y∧(LvX s x→∃old,(x.1,old++l)∈B∧Gon s old)
 gone:∀p∈B,f0d s p.1=none→Gon s p.2
theorem BkInv.ev {N:Nat} {s:Sta} {B:Bk} (h:BkInv N s B):EvInv N s:=⟨h.ok,h.w,fun x hx=>by
 obtain ⟨i,hi⟩:=List.getElem?_of_mem hx
 exact (h.ser i x hi).imp id fun ⟨y,l,h1,h2,h3,h4,_⟩=>⟨y,l,h1,h2,h3,h4⟩⟩
theorem BkInv.mono {N M:Nat} {s:Sta} {B:Bk} (h:BkInv N s B) (hm:N≤M):BkInv M s B :=
 ⟨h.ok,h.w,h.nd,h.bk,Nat.le_trans h.sum hm,fun i x hx=>(h.ser i x hx).imp id fun ⟨y,l,h1,h2,h3,h4⟩=>⟨y,l,h1,h2,Nat.le_trans h3 hm,h4⟩,h.gone⟩
theorem BkInv.new {c:Conf} (h:(i0t c).2=0):BkInv 0 (i0t c).1 []:=by
 have k:=z1j h;refine ⟨k.ok,k.w,List.nodup_nil,(fun p hp=>by cases hp),Nat.le_refl _,fun i x hx => ?_,(fun p hp=>by cases hp)⟩;rcases k.ser x (List.mem_of_getElem? hx) with q | ⟨l,q1,q2,q3⟩
 ·exact .inl q
 ·exact absurd (List.length_eq_zero_iff.1 (by omega)) q2
theorem BkInv.tick {N:Nat} {s:Sta} {B:Bk} (h:BkInv N s B) (now:Int):BkInv N (s0s s now).1 B:=by
 have hf:=l1a s now;unfold s0s at hf ⊢;by_cases hm:Moves s now
 ·rw[if_pos hm] at hf ⊢;obtain ⟨m1,m2,m3⟩:=k1o h.ok (Int.le_of_lt hm.2.1) hm.2.2;have ht:p0c now:=⟨by have:=h.ok.clock.1.1;have:=hm.2.1;omega,hm.2.2⟩;have hg:∀es,Gon s es→Gon (s1r s now) es:=fun es k=>k.mono h.ok rfl (Int.le_of_lt hm.2.1) ht
  exact ⟨w1m hm,w1n h.w now,h.nd,h.bk,h.sum,fun i x hx=>(h.ser i x hx).imp id fun ⟨y,l,h1,h2,h3,h4,h5⟩=>⟨y,l,h1,h2,h3,h4.mono m1 m2 m3,fun hl=>by
   obtain ⟨old,k1,k2⟩:=h5 hl
   exact ⟨old,k1,hg _ k2⟩⟩,fun p hp hn=>hg _ (h.gone p hp (by rw[←hf];exact hn))⟩
 ·rw[if_neg hm];exact h
theorem BkInv.one {N:Nat} {s:Sta} {B:Bk} (h:BkInv N s B) {i:Nat} {x:Ser} (hx:s.2.2.2[i]? = some x) (hl:LvX s x):∃y l old,SerInv s.1 y l∧l≠[]∧l.length≤N∧Fad s.1 (olds s.1 s.2.1) x y∧(x.1,old++l)∈B∧Gon s old:=by
 obtain ⟨y,l,h1,h2,h3,h4,h5⟩:=(h.ser i x hx).resolve_left hl.1;obtain ⟨old,k1,k2⟩:=h5 hl;exact ⟨y,l,old,h1,h2,h3,h4,k1,k2⟩
theorem BkInv.same {N:Nat} {s:Sta} {B:Bk} (h:BkInv N s B) {l:List Lab} {es es':List Ev} (h1:(l,es)∈B) (h2:(l,es')∈B):es=es':=by
 rw[←u0a h.nd h1,←u0a h.nd h2]
theorem inv_le {c:Conf} {y:Ser} {l:List Ev} (h:SerInv c y l):∀e∈l,e.1≤y.2.1:=by
 intro e he;rcases h.last with ⟨k,_⟩ | k
 ·rw[k] at he;cases he
 ·exact k.le e he
theorem BkInv.sweep {N:Nat} {s:Sta} {B:Bk} (h:BkInv N s B):BkInv N (q0r s) B:=by
 refine ⟨p1u h.ok,p1w h.w,h.nd,h.bk,h.sum,fun i x hx=>(h.ser i x hx).imp id fun ⟨y,l,h1,h2,h3,h4,h5⟩=>⟨y,l,h1,h2,h3,h4,fun hl=>h5 (e1t h.ok hl)⟩,fun p hp hn => ?_⟩;cases hf:f0d s p.1 with
 | none=>exact h.gone p hp hf
 | some i =>
  obtain ⟨x,hx,hxl,hlv,_⟩:=d0j.1 hf;obtain ⟨y,l,old,h1,h2,h3,h4,h5,h6⟩:=h.one hx hlv;have hd:i0d s.1 x.2.1 s.2.1=true:=by
   cases hd:i0d s.1 x.2.1 s.2.1 with
   | true=>rfl
   | false=>exact absurd ⟨hxl,(p1v h.ok).2 ⟨hlv.1,hd⟩⟩ (f0r.1 hn x (List.mem_of_getElem? hx))
  have hp2:p.2=old++l:=h.same (l:=x.1) (by rw[hxl];exact hp) h5;rw[hp2];intro e he;rcases List.mem_append.1 he with he | he
  ·exact h6 e he
  ·exact l1j (h1.foll.ok e he).t0 (by rw[h4.last];exact inv_le h1 e he) hd
theorem BkInv.clean {N:Nat} {s:Sta} {B:Bk} (h:BkInv N s B):BkInv N (r0f s) B:=by
 refine ⟨r1s h.ok,r1t h.w,h.nd,h.bk,h.sum,fun i z hz => ?_,fun p hp hn=>h.gone p hp ?_⟩
 ·have hz:(s.2.2.2.map (k0c s))[i]? = some z:=hz;rw[List.getElem?_map] at hz;cases hx:s.2.2.2[i]? with
  | none=>rw[hx] at hz;cases hz
  | some x =>
   rw[hx] at hz;simp only[Option.map_some,Option.some.injEq] at hz;unfold k0c at hz;split at hz
   ·rename_i hl;obtain ⟨y,l,old,h1,h2,h3,h4,h5,h6⟩:=h.one hx hl;rw[←hz];exact .inr ⟨y,l,h1,h2,h3,h4.clean,fun _=>⟨old,h5,h6⟩⟩
   ·exact .inl hz.symm
 ·rw[f0r] at hn ⊢;rintro x hx ⟨k1,k2⟩;refine hn (k0c s x) (List.mem_map.2 ⟨x,hx,rfl⟩) ⟨?_,(l1m h.ok hx).2 k2⟩;unfold k0c;rw[if_pos k2];exact k1
theorem BkInv.write {N:Nat} {s t:Sta} {B:Bk} (h:BkInv N s B) (hb:N<1000000) {l:List Lab} {e:Ev} (hw:d0b s l e=(t,0)):BkInv (N+1) t (putB B l e)∧LabOk l∧EvOk e∧∀a∈evsB B l,a.1<e.1:=by
 have hww:=p1m h.w l e;rw[hw] at hww;obtain ⟨i0,y0,hfw,_,_⟩:=w0t hw;obtain ⟨hg,i,x,b,z,hp,hput,rfl,_⟩:=m0k hw;obtain ⟨p1,p2,p3,p4⟩:=n0f hg hp;obtain ⟨q1,q2,q3,q4,q5⟩:=j0v p1 hput;have hkn:(keysB (putB B l e)).Nodup:=by
  rw[x1r];by_cases k:l∈keysB B
  ·rw[if_pos k];exact h.nd
  ·rw[if_neg k,List.nodup_append];exact ⟨h.nd,by simp,fun a ha b hb2 e=>k (by simp at hb2;rw[←hb2,←e];exact ha)⟩
 have core:∃y l0 old,SerInv s.1 y l0∧l0.length≤N∧Fad s.1 (olds s.1 s.2.1) x y∧(l,(old++l0)++[e])∈putB B l e∧Gon s old∧evsB B l=old++l0∧∀a∈old++l0,a.1<e.1:=by
  cases hp with
  | found hf hx hl hlv ht =>
   obtain ⟨y,l0,old,h1,h2,h3,h4,h5,h6⟩:=h.one hx hlv;rw[hl] at h5;have hfo:=(h.bk _ h5).2.1;have hle:∀a∈l0,a.1<e.1:=fun a ha=>by have:=inv_le h1 a ha;rw[←h4.last] at this;omega
   refine ⟨y,l0,old,h1,h3,h4,q1j h.nd h5,h6,u0a h.nd h5,fun a ha => ?_⟩;rcases List.mem_append.1 ha with ha | ha
   ·obtain ⟨a0,ha0⟩:=List.exists_mem_of_ne_nil l0 h2;have:=(a0v.1 hfo).2.2 a ha a0 ha0;have:=hle a0 ha0;omega
   ·exact hle a ha
  | room hf hs hr =>
   refine ⟨_,[],evsB B l,f1u hg.st.whole.1 hg.lab,Nat.zero_le _,.refl _ _ _,?_,?_,by simp,fun a ha => ?_⟩
   ·rw[List.append_nil];rcases r0t B l with ⟨k1,k2⟩ | k
    ·rw[k1];exact putB_new k2
    ·exact q1j h.nd k
   ·rcases r0t B l with ⟨k1,k2⟩ | k
    ·rw[k1];intro a ha;cases ha
    ·exact h.gone _ k hf
   ·rw[List.append_nil] at ha;rcases r0t B l with ⟨k1,k2⟩ | k
    ·rw[k1] at ha;cases ha
    ·have:=dead_lt h.ok (h.gone _ k hf a ha);have:=hg.lo;omega
 obtain ⟨y,l0,old,c1,c2,c3,c4,c5,c6,c7⟩:=core;obtain ⟨y',r1,r2⟩:=o1r p1 c3 c1 (by omega) hput;refine ⟨⟨z0e hw,hww,hkn,fun p hp' => ?_,by rw[q1i];have:=h.sum;omega,fun j u hu => ?_,fun p hp' hn => ?_⟩,hg.lab,hg.ev,fun a ha=>c7 a (by rw[←c6];exact ha)⟩
 ·rcases f1o h.nd hp' with ⟨_,k⟩ | ⟨es,rfl,k⟩
  ·exact h.bk p k
  ·have hes:es=old++l0:=by
    rcases k with k | ⟨k1,k2⟩
    ·rw[←c6,u0a h.nd k]
    ·rw[←c6,k1];rcases r0t B l with ⟨k3,_⟩ | k3
     ·exact k3.symm
     ·exact absurd (List.mem_map.2 ⟨_,k3,rfl⟩) k2
   have hfo:Foll es:=by
    rcases k with k | ⟨k1,_⟩
    ·exact (h.bk _ k).2.1
    ·rw[k1];exact Foll.nil
   exact ⟨hg.lab,a0v.2 ⟨hfo,⟨by simp[hg.ev],by simp⟩,fun a ha b hb=>by simp at hb;subst hb;exact c7 a (hes ▸ ha)⟩,by simp⟩
 ·rw[k0j] at hu;by_cases hij:i=j
  ·rw[if_pos hij,if_pos p3] at hu;injection hu with hu;subst hu;right;refine ⟨y',l0++[e],r1,by simp,by simp;omega,r2,fun _=>⟨old,?_,c5⟩⟩;rw[q5,p2,←List.append_assoc];exact c4
  ·rw[if_neg hij] at hu;refine (h.ser j u hu).imp id fun ⟨y2,l2,h1,h2,h3,h4,h5⟩=>⟨y2,l2,h1,h2,by omega,h4,fun hl => ?_⟩
   obtain ⟨old2,k1,k2⟩:=h5 hl;refine ⟨old2,t1x k1 (fun hul => ?_),k2⟩;have hul:u.1=l:=hul;have hfu:=a2f h.ok hu hl;rw[hul] at hfu;cases hp with
   | found hf hx hl' hlv ht=>rw[hf] at hfu;injection hfu with hfu;exact hij hfu
   | room hf hs hr=>rw[hf] at hfu;cases hfu
 ·rcases f1o h.nd hp' with ⟨k1,k⟩ | ⟨es,rfl,k⟩
  ·refine h.gone p k ?_;rw[f0r] at hn ⊢;rintro u hu ⟨k2,k3⟩;obtain ⟨j,hj⟩:=List.getElem?_of_mem hu;have hij:i≠j:=by
    rintro rfl;cases hp with
    | found hf hx hl' hlv ht=>rw[hx] at hj;injection hj with hj;subst hj;exact k1 (k2.symm.trans hl')
    | room hf hs hr =>
     obtain ⟨x',hx',hx'',_⟩:=l0q.1 hr;rw[hx'] at hj;injection hj with hj;subst hj;exact hx'' k3
   refine hn u (List.mem_of_getElem? (i:=j) ?_) ⟨k2,k3⟩;rw[k0j,if_neg hij];exact hj
  ·rw[hfw] at hn;cases hn
theorem bk_told {N:Nat} {s:Sta} {B:Bk} (h:BkInv N s B) {l:List Lab} {a b:Int} {R:List Ev} (hr:rawV s l a b=(R,0)):R=(evsB B l).filter (inR a b):=by
 have hs:=h.ok;unfold rawV at hr;rw[if_pos hs] at hr;by_cases hl:LabOk l
 case neg=>rw[if_neg hl] at hr;cases congrArg Prod.snd hr
 rw[if_pos hl] at hr;by_cases rp:RngP a b
 case neg=>rw[if_neg rp] at hr;cases congrArg Prod.snd hr
 rw[if_pos rp] at hr;by_cases hdd:i0d s.1 a s.2.1=true
 ·rw[if_pos hdd] at hr;cases congrArg Prod.snd hr
 rw[if_neg hdd] at hr;have none_:∀es,Gon s es→es.filter (inR a b)=[]:=by
  intro es hg;rw[List.filter_eq_nil_iff];intro x hx;have:x.1<a:=by
   rcases Int.lt_or_le x.1 a with q | q
   ·exact q
   ·exact absurd (l1j rp.1 q (hg x hx)) hdd
  unfold inR;simp;omega
 cases hf:f0d s l with
 | none =>
  rw[hf] at hr;have:R=[]:=(congrArg Prod.fst hr).symm;subst this;rcases r0t B l with ⟨q1,_⟩ | q
  ·rw[q1];rfl
  ·rw[none_ _ (h.gone _ q hf)]
 | some i =>
  rw[hf] at hr;obtain ⟨x,hx,hxl,hlv,hok⟩:=found hs hf;simp only[hx,Option.getD_some] at hr;obtain ⟨y,l0,old,h1,h2,h3,h4,h5,h6⟩:=h.one hx hlv;rw[hxl] at h5;rw[h4.raw,h1.raw] at hr;rw[u0a h.nd h5,List.filter_append,none_ _ h6,List.nil_append];exact rawQ_of hs.whole.1.rng.raw.1 h1.foll hr
theorem q1p {s:Sta} {l:List Lab} {a b:Int} (hr:(rawV s l a b).2=11):(rawV s l a b).1=[]∧((∃i x,f0d s l=some i∧s.2.2.2[i]? = some x∧0<x.2.2.1.1) ∨
  (a / s.1.2.1.1≤s.2.1 / s.1.2.1.1-s.1.2.2.1.1∧a / s.1.2.1.2.1≤s.2.1 / s.1.2.1.2.1-s.1.2.2.1.2.1∧a / s.1.2.1.2.2≤s.2.1 / s.1.2.1.2.2-s.1.2.2.1.2.2)):=by
 unfold rawV at hr ⊢;by_cases hs:StaOk s
 case neg=>rw[if_neg hs] at hr;cases hr
 rw[if_pos hs] at hr ⊢;by_cases hl:LabOk l
 case neg=>rw[if_neg hl] at hr;cases hr
 rw[if_pos hl] at hr ⊢;by_cases rp:RngP a b
 case neg=>rw[if_neg rp] at hr;cases hr
 rw[if_pos rp] at hr ⊢;by_cases hdd:i0d s.1 a s.2.1=true
 ·rw[if_pos hdd];refine ⟨rfl,.inr ?_⟩;have key:∀w n,n0n a s.2.1 w n=true→a / w≤s.2.1 / w-n:=by
   intro w n hg;unfold n0n at hg;obtain ⟨h1,h2,h3⟩:=of_decide_eq_true hg;have hd:=Int.ediv_nonneg h1.1 (show (0:Int)≤w by have:=h1.2.2.1;omega);unfold oldV at h2 h3;split at h3
   ·simp only at h3;split at h3<;>omega
   ·simp only at h3;omega
  unfold i0d at hdd;simp only[Bool.and_eq_true] at hdd;exact ⟨key _ _ hdd.2.1,key _ _ hdd.2.2.1,key _ _ hdd.2.2.2⟩
 ·rw[if_neg hdd] at hr ⊢;cases hf:f0d s l with
  | none=>rw[hf] at hr;cases hr
  | some i =>
   rw[hf] at hr;obtain ⟨x,hx,hxl,hlv,hok⟩:=found hs hf;simp only[hx,Option.getD_some] at hr ⊢;unfold rawQ at hr ⊢;by_cases q1:b≤a
   ·have:=rp.2.2;omega
   rw[if_neg q1] at hr ⊢;by_cases q2:0<x.2.2.1.1∧a≤x.2.2.1.2.1
   ·rw[if_pos q2];exact ⟨rfl,.inl ⟨i,x,rfl,hx,q2.1⟩⟩
   ·rw[if_neg q2] at hr;cases hr
end Go.Proofs.YtojobamheigpbaaGreat

namespace Go.Plim
open Go.Flat Go.Proofs.YtojobamheigpbaaGreat
set_option linter.unusedVariables false
set_option linter.unusedSimpArgs false
end Go.Plim

namespace Go.Proofs.YtojobamheigpbaaGreat
open Go.Flat Go.Plim
set_option linter.unusedVariables false
set_option linter.unusedSimpArgs false
def evN (x:Ser):Int:=x.2.2.1.1+((x.2.2.1.2.2.length:Nat):Int)
theorem evN_zero:evN ser0=0:=rfl
theorem putE_evN {c:Conf} {x z:Ser} {e:Ev} (hx:SerOk c x) (hp:putE c x e=(z,0)):evN z=evN x+1:=by
 have hroom:=hx.fold.cok.rng.raw.1;unfold putE at hp;by_cases h1:SerOk c x∧EvOk e
 case neg=>rw[if_neg h1] at hp;cases hp
 rw[if_pos h1] at hp;by_cases h2:e.1≤x.2.1
 ·rw[if_pos h2] at hp;cases hp
 rw[if_neg h2] at hp;by_cases h3:(turned c x (e.1 / c.2.1.1)).2≠0
 ·rw[if_pos h3] at hp;exact absurd (congrArg Prod.snd hp) h3
 rw[if_neg h3] at hp;by_cases h4:(g0c x.2.2.1 c.1 e).2≠0
 ·rw[if_pos h4] at hp;exact absurd (congrArg Prod.snd hp) h4
 rw[if_neg h4] at hp;by_cases h5:(mrgE (turned c x (e.1 / c.2.1.1)).1.2.2 (b0o e)).2≠0
 ·rw[if_pos h5] at hp;exact absurd (congrArg Prod.snd hp) h5
 rw[if_neg h5] at hp;have hp:=(Prod.ext_iff.1 hp).1;have hp:_=z:=hp;have hr:z.2.2.1=(g0c x.2.2.1 c.1 e).1:=by rw[←hp]
 have h4:(g0c x.2.2.1 c.1 e).2=0:=by
  rcases Int.lt_trichotomy (g0c x.2.2.1 c.1 e).2 0 with q | q | q
  ·exact absurd (Int.ne_of_lt q) h4
  ·exact q
  ·exact absurd (Int.ne_of_gt q) h4
 unfold g0c at hr h4;split at h4
 case isFalse=>cases h4
 rename_i k1;rw[if_pos k1] at hr;split at h4
 case isFalse=>cases h4
 rename_i k2;rw[if_pos k2] at hr;split at h4
 ·cases h4
 rename_i k3;rw[if_neg k3] at hr;unfold evN;rw[hr];unfold i0a;split
 ·simp;omega
 ·rename_i hlen;have hpos:1≤x.2.2.1.2.2.length:=by omega
  simp only[List.length_append,List.length_drop,List.length_cons,List.length_nil];omega
theorem sum_set:∀(l:List Ser) (i:Nat) (x z:Ser),l[i]? = some x→((l.set i z).map evN).sum=(l.map evN).sum-evN x+evN z:=by
 intro l;induction l with
 | nil=>intro i x z h;simp at h
 | cons y r ih =>
  intro i x z h;cases i with
  | zero=>simp at h;subst h;simp;omega
  | succ i =>
   have:=ih i x z (by simpa using h);simp only[List.set_cons_succ,List.map_cons,List.sum_cons,this];omega
structure CtInv (N:Nat) (s:Sta) (B:Bk):Prop where
 bk:BkInv N s B
 sw:s.2.2.1 = -1
 liv:∀p∈B,∃i,f0d s p.1=some i
 tot:(s.2.2.2.map evN).sum=((sumB B:Nat):Int)
theorem CtInv.new {c:Conf} (h:(i0t c).2=0):CtInv 0 (i0t c).1 []:=by
 have k:=BkInv.new h;have hz:∀x∈(i0t c).1.2.2.2,x=ser0:=by
  intro x hx;rcases (z1j h).ser x hx with q | ⟨l,q1,q2,q3⟩
  ·exact q
  ·exact absurd (List.length_eq_zero_iff.1 (by omega)) q2
 refine ⟨k,?_,(fun p hp=>by cases hp),?_⟩
 ·unfold i0t at h ⊢;split
  ·split
   ·rfl
   ·rename_i h1 h2;rw[if_pos h1,if_neg h2] at h;exact absurd h h2
  ·rename_i h1;rw[if_neg h1] at h;exact absurd h (by decide)
 ·have:∀l:List Ser,(∀x∈l,x=ser0)→(l.map evN).sum=0:=by
   intro l;induction l with
   | nil=>intro _;rfl
   | cons x r ih =>
    intro hl;have hx:=hl x (by simp);subst hx;simp only[List.map_cons,List.sum_cons,evN_zero,ih fun y hy=>hl y (by simp[hy])];rfl
  rw[this _ hz];rfl
theorem CtInv.mono {N M:Nat} {s:Sta} {B:Bk} (h:CtInv N s B) (hm:N≤M):CtInv M s B:=⟨h.bk.mono hm,h.sw,h.liv,h.tot⟩
theorem CtInv.tick {N:Nat} {s:Sta} {B:Bk} (h:CtInv N s B) (now:Int):CtInv N (s0s s now).1 B:=by
 refine ⟨h.bk.tick now,?_,fun p hp => ?_,?_⟩
 ·unfold s0s;split
  ·exact h.sw
  ·exact h.sw
 ·obtain ⟨i,hi⟩:=h.liv p hp;exact ⟨i,by rw[l1a];exact hi⟩
 ·rw[n1u];exact h.tot
theorem ct_live {s:Sta} (h:s.2.2.1 = -1) (x:Ser):LvX s x↔x≠ser0:=⟨fun k=>k.1,fun k=>⟨k,.inl h⟩⟩
theorem CtInv.write {N:Nat} {s t:Sta} {B:Bk} (h:CtInv N s B) (hb:N<1000000) {l:List Lab} {e:Ev} (hw:d0b s l e=(t,0)):CtInv (N+1) t (putB B l e):=by
 obtain ⟨hbk,_,_,_⟩:=h.bk.write hb hw;obtain ⟨i0,y0,hfw,_,_⟩:=w0t hw;obtain ⟨hg,i,x,b,z,hp,hput,rfl,_⟩:=m0k hw;obtain ⟨p1,p2,p3,p4⟩:=n0f hg hp;obtain ⟨q1,q2,q3,q4,q5⟩:=j0v p1 hput;refine ⟨hbk,h.sw,fun p hp' => ?_,?_⟩
 ·rcases f1o h.bk.nd hp' with ⟨k1,k⟩ | ⟨es,rfl,k⟩
  ·obtain ⟨j,hj⟩:=h.liv p k;obtain ⟨u,hu,hul,hlv,_⟩:=d0j.1 hj;cases hf:f0d (setS s i z) p.1 with
   | some j'=>exact ⟨j',rfl⟩
   | none =>
    exfalso;have hij:i≠j:=by
     rintro rfl;cases hp with
     | found hf' hx hl' hlv' ht=>rw[hx] at hu;injection hu with hu;subst hu;exact k1 (hul.symm.trans hl')
     | room hf' hs hr =>
      obtain ⟨x',hx',hx'',_⟩:=l0q.1 hr;rw[hx'] at hu;injection hu with hu;subst hu;exact hx'' hlv
    refine f0r.1 hf u (List.mem_of_getElem? (i:=j) ?_) ⟨hul,hlv⟩;rw[k0j,if_neg hij];exact hu
  ·exact ⟨i0,hfw⟩
 ·rw[q1i];have key:∃x0,s.2.2.2[i]? = some x0∧evN x0=evN x:=by
   cases hp with
   | found hf hx hl hlv ht=>exact ⟨x,hx,rfl⟩
   | room hf hs hr =>
    obtain ⟨x',hx',hx'',_⟩:=l0q.1 hr;have:x'=ser0:=by
     by_cases k:x'=ser0
     ·exact k
     ·exact absurd ((ct_live h.sw x').2 k) hx''
    exact ⟨x',hx',by rw[this];rfl⟩
  obtain ⟨x0,k1,k2⟩:=key;show ((s.2.2.2.set i z).map evN).sum=_;rw[sum_set _ i x0 z k1,h.tot,k2,putE_evN p1 hput];omega
theorem s1n (n:Nat) {N:Nat} {s:Sta} {B:Bk} (h:BkInv N s B) (hb:N<1000000) (x:Act) (hx:EvW x.2.1.2):∃t v,l0j (n+25) x s=some (t,v) ∧
  ((x.1=0∧v=0∧BkInv (N+1) t (putB B x.2.1.1 x.2.1.2)∧LabOk x.2.1.1∧EvOk x.2.1.2∧(∀a∈evsB B x.2.1.1,a.1<x.2.1.2.1)∧d0b s x.2.1.1 x.2.1.2=(t,0))∨(¬(x.1=0∧v=0)∧BkInv (N+1) t B∧(x.1≤1→t=s∨∃now,t=(s0s s now).1))):=by
 rw[s0m,tfd];by_cases h0:x.1=0
 ·rw[if_pos h0,i1j n h.w x.2.1.1 hx,obs,tfd];by_cases k:(d0b s x.2.1.1 x.2.1.2).2=0
  ·rw[if_pos k];have hw:d0b s x.2.1.1 x.2.1.2=((d0b s x.2.1.1 x.2.1.2).1,0):=Prod.ext rfl k;obtain ⟨b1,b2,b3,b4⟩:=h.write hb hw;exact ⟨_,_,rfl,.inl ⟨h0,by first | exact k | rfl,b1,b2,b3,b4,hw⟩⟩
  ·rw[if_neg k];exact ⟨_,_,rfl,.inr ⟨fun q=>k q.2,h.mono (Nat.le_succ N),fun _ => .inl rfl⟩⟩
 rw[if_neg h0,tfd];by_cases h1:x.1=1
 ·rw[if_pos h1,r1n (n+9) h.w,obs];exact ⟨_,_,rfl,.inr ⟨fun q=>h0 q.1,(h.tick x.2.2).mono (Nat.le_succ N),fun _ => .inr ⟨_,rfl⟩⟩⟩
 rw[if_neg h1,tfd];by_cases h2:x.1=2
 ·rw[if_pos h2,p1x (n+8) h.w,obs];have e:doV s=(q0r s,(((dueV s).length:Int),0)):=by unfold doV;rw[if_pos h.ok]
  rw[e];exact ⟨_,_,rfl,.inr ⟨fun q=>h0 q.1,h.sweep.mono (Nat.le_succ N),fun q=>by omega⟩⟩
 rw[if_neg h2,tfd];by_cases h3:x.1=3
 ·rw[if_pos h3,z0b (n+9) h.w,obs];have e:d1z s=(r0f s,0):=by unfold d1z;rw[if_pos h.ok]
  rw[e];exact ⟨_,_,rfl,.inr ⟨fun q=>h0 q.1,h.clean.mono (Nat.le_succ N),fun q=>by omega⟩⟩
 rw[if_neg h3];exact ⟨_,_,rfl,.inr ⟨fun q=>h0 q.1,h.mono (Nat.le_succ N),fun _ => .inl rfl⟩⟩
theorem uint_l (n:Nat):∀(m f:Nat) (w:List Int) (v:Int),v.toNat≤m→0≤v→m<f→w.length+(uvI v).length≤140737488355328 →
  ∃w' v',d0e n f (w,v,())=some (.inl (w',(v',())))∧w'++[v']=w++uvI v∧0≤v'∧v'<128:=by
 intro m;induction m using Nat.strongRecOn with
 | _ m ih =>
  intro f w v hm h0 hf hl;obtain ⟨f,rfl⟩:=g0g hf;rw[n0s,tfd];by_cases h:v<128
  ·rw[if_neg (by omega)];exact ⟨w,v,rfl,by rw[i1r h0 h],h0,h⟩
  ·rw[e1k h0 h] at hl;simp only[List.length_cons] at hl;rw[if_pos (by omega),decide_eq_true (show (w.length+1)*1≤140737488355328 by omega),tft,or128,shr7 h0];obtain ⟨w',v',e1,e2,e3,e4⟩:=ih (v / 128).toNat (by omega) f (w++[v % 128+128]) (v / 128) (Nat.le_refl _) (by omega) (by omega) (by simp only[List.length_append,List.length_singleton];omega);exact ⟨w',v',e1,by rw[e2,e1k h0 h];simp,e3,e4⟩
theorem p1o (n:Nat) {v:Int} (h0:0≤v) (h1:v≤18446744073709551615) {w:List Int} (hl:w.length+(uvI v).length≤140737488355328):e0t (n+1) w v=some (w++uvI v):=by
 obtain ⟨w',v',e1,e2,e3,e4⟩:=uint_l n v.toNat a0b w v (Nat.le_refl _) h0 (by unfold a0b;omega) hl;have hlen:w'.length+1≤140737488355328:=by
  have:=congrArg List.length e2;simp only[List.length_append,List.length_singleton] at this;omega
 rw[q0l,e1,obs,b0d,decide_eq_true (show (w'.length+1)*1≤140737488355328 by omega),tft,y0o,Int.emod_eq_of_lt e3 (by omega),e2]
theorem m1h:∀(m:Nat) (v:Int),v.toNat≤m→0≤v→(uvI v).length≤v.toNat+1:=by
 intro m;induction m using Nat.strongRecOn with
 | _ m ih =>
  intro v hm h0;by_cases h:v<128
  ·rw[i1r h0 h];simp
  ·rw[e1k h0 h];have:=ih (v / 128).toNat (by omega) (v / 128) (Nat.le_refl _) (by omega);simp only[List.length_cons];omega
theorem w0d (a b:List UInt8):h0x (a++b)=h0x a++h0x b:=by simp[h0x]
theorem w0c (a:List UInt8):(h0x a).length=a.length:=by simp[h0x]
theorem m1g (n:Nat):uvI (n:Int)=h0x (uvB n):=by unfold uvI;rw[Int.toNat_natCast]
theorem w1f {s:List UInt8} (h:s.length≤256):(txB s).length≤1000:=by
 have:=m1h s.length (s.length:Int) (by simp) (by omega);rw[m1g,w0c] at this;unfold txB;rw[List.length_append];simp at this;omega
theorem raw_val (n:Nat) {w:List Int} {s:List UInt8} (h:w.length+s.length≤140737488355328):i0e (n+1) w s=some (w++h0x s):=by
 rw[r0x,List.length_map,decide_eq_true (show (w.length+s.length)*1≤140737488355328 by omega),tft];rfl
theorem p1s (n:Nat) {w:List Int} {s:List UInt8} (hs:s.length≤256) (h:w.length≤1000000):e0u (n+2) w s=some (w++h0x (txB s)):=by
 have h1:=m1h s.length (s.length:Int) (by simp) (by omega);have h2:((s.length:Int)).toNat=s.length:=by simp
 rw[q0m,wu64 (by omega) (by omega),p1o n (by omega) (by omega) (by omega),obs,raw_val n (by rw[List.length_append];omega),obs,List.append_assoc,m1g,←w0d];rfl
theorem out_val (n:Nat) (w:List Int):i0f (n+1) w=some (toB w,w):=by rw[r0y];rfl
theorem lab_len {l:List Lab} (h:LabOk l):∀x∈l,x.1.length≤256∧x.2.length≤256:=by
 have key:∀l:List Lab,∀x∈l,(x.1.length:Int)+x.2.length≤sumL l:=by
  intro l;induction l with
  | nil=>intro x hx;cases hx
  | cons y l ih =>
   intro x hx;rw[j1d];have:=w1q l;rcases List.mem_cons.1 hx with rfl | hx
   ·omega
   ·have:=ih x hx;omega
 intro x hx;have:=key l x hx;have:=h.t;omega
theorem bytes_l (n:Nat) {l:List Lab} (hl:LabOk l):∀(rest pre:List Lab) (f:Nat) (w:List Int) (ix len:Int),l=pre++rest→ix=pre.length→len=l.length→rest.length<f→w.length+2000*rest.length≤100000 →
  h0g (n+2) f (w,l,len,ix,())=some (.inl (w++h0x (rest.flatMap fun x=>txB x.1++txB x.2),())):=by
 intro rest;induction rest with
 | nil =>
  intro pre f w ix len ha hi hn hf hw;obtain ⟨f,rfl⟩:=g0g hf;rw[l0x,decide_eq_false (idxe ha hi hn),tff];simp[h0x]
 | cons x r ih =>
  intro pre f w ix len ha hi hn hf hw;obtain ⟨f,rfl⟩:=g0g hf;simp only[List.length_cons] at hw;obtain ⟨k1,k2⟩:=lab_len hl x (by rw[ha];simp);have t1:=w1f k1;have t2:=w1f k2;have hL:l.length≤1000000000000:=by have:=hl.n1;omega
  rw[l0x,decide_eq_true (idx ha hi hn),tft,b0r ha hi,obs,p1s n k1 (by omega),obs,p1s n k2 (by rw[List.length_append,w0c];omega),obs,idxw ha hi hL];rw[ih (pre++[x]) f _ (ix+1) len (idxl ha) (idxs hi) hn (by simp at hf;omega) (by simp only[List.length_append,w0c];omega)];simp only[List.flatMap_cons,w0d,List.append_assoc]
theorem a1k (n:Nat) (l:List Lab):n0m (n+7) l=some (if LabOk l then (labB l,0) else ([],8)):=by
 rw[c1g,g0y n l,obs,tfn,tfd];by_cases h:LabOk l
 case neg=>rw[if_neg h,if_neg h,if_neg (by decide)]
 rw[if_pos h,if_pos h,if_pos rfl];have hn:=h.n1;have h1:=m1h l.length (l.length:Int) (by simp) (by omega);have h2:((l.length:Int)).toNat=l.length:=by simp
 rw[wu64 (by omega) (by omega),p1o (n+5) (by omega) (by omega) (by simp only[List.length_nil];omega),obs,bytes_l (n+4) h l [] a0b _ 0 _ rfl rfl rfl (by unfold a0b;omega) (by simp only[List.nil_append];omega),obs,b0d,out_val (n+5),obs];rw[List.nil_append,m1g,←w0d,s1p];rfl
abbrev BkE:Type:=List (List UInt8)×List (List UInt8×(List Lab×List Ev))
def bkM (B:Bk):BkE:=(B.map fun p=>labB p.1,B.map fun p=>(labB p.1,p))
theorem bkM_nil:bkM []=([],[]):=rfl
abbrev i1g:Ty:=(.ref (.wrap (.pair (.slice (.wrap (.pair .str .str))) (.own (.wrap (.pair (.int .i64) (.pair (.int .u64) (.pair (.int .i64) .bool))))))))
theorem r1w {B:Bk} {l:List Lab} (h:l∈keysB B):∃pre es post,B=pre++(l,es)::post∧l ∉ pre.map Prod.fst:=by
 induction B with
 | nil=>cases h
 | cons p r ih =>
  obtain ⟨m,es⟩:=p;by_cases hm:m=l
  ·subst hm;exact ⟨[],es,r,rfl,by simp⟩
  ·have:l∈keysB r:=by
    rcases List.mem_cons.1 (show l∈m::keysB r from h) with k | k
    ·exact absurd k.symm hm
    ·exact k
   obtain ⟨pre,es',post,e1,e2⟩:=ih this;exact ⟨(m,es)::pre,es',post,by rw[e1];rfl,by simp only[List.map_cons,List.mem_cons,not_or];exact ⟨fun k=>hm k.symm,e2⟩⟩
theorem r1x {B:Bk} {l:List Lab} (h:l ∉ keysB B):mget .str i1g (bkM B).2 (labB l) 0=none :=
 (b2p i1g (fun a b=>g1f) (fun p:List Lab×List Ev=>p) h 0 (l,[])).1
theorem bkM_new {B:Bk} {l:List Lab} (h:l ∉ keysB B) (e:Ev):((bkM B).1++[labB l],mput .str i1g (bkM B).2 (labB l) (l,[e]))=bkM (putB B l e):=by
 have h1:mput .str i1g (bkM B).2 (labB l) (l,[e])=(bkM B).2++[(labB l,(l,[e]))]:=(b2p i1g (fun a b=>g1f) (fun p:List Lab×List Ev=>p) h 0 (l,[e])).2;have h2:putB B l e=B++[(l,[e])]:=by
  clear h1;induction B with
  | nil=>rfl
  | cons p r ih =>
   obtain ⟨m,es⟩:=p;have h':l≠m∧l ∉ keysB r:=by unfold keysB at h ⊢;simpa using h
   simp only[putB];rw[if_neg (fun k=>h'.1 k.symm),ih h'.2];rfl
 rw[h1,h2];unfold bkM;simp
theorem bkM_at {pre post:Bk} {l:List Lab} {es:List Ev} (h:l ∉ pre.map Prod.fst):mget .str i1g (bkM (pre++(l,es)::post)).2 (labB l) 0=some (pre.length,(l,es)):=by
 have:=(bk_at i1g (fun a b=>g1f) (fun p:List Lab×List Ev=>p) (v:=es) (post:=post) h 0 (l,[])).1;rw[Nat.zero_add] at this;exact this
theorem b2q {pre post:Bk} {l:List Lab} {es:List Ev} (w:List Ev):mset .str i1g (bkM (pre++(l,es)::post)).2 pre.length (l,w)=(bkM (pre++(l,w)::post)).2:=by
 have:=bk_set (key:=labB) i1g (fun p:List Lab×List Ev=>p) (pre:=pre) (post:=post) (l:=l) (v:=es) (l,w);unfold bkM;rw[this];simp
theorem bkM_keys {pre post:Bk} {l:List Lab} {es w:List Ev}:(bkM (pre++(l,es)::post)).1=(bkM (pre++(l,w)::post)).1:=by simp[bkM]
theorem putB_at {pre post:Bk} {l:List Lab} {es:List Ev} (h:l ∉ pre.map Prod.fst) (e:Ev):putB (pre++(l,es)::post) l e=pre++(l,es++[e])::post:=by
 induction pre with
 | nil=>simp[putB]
 | cons p r ih =>
  obtain ⟨m,q⟩:=p;have h':l≠m∧l ∉ r.map Prod.fst:=by simpa using h
  simp only[List.cons_append,putB];rw[if_neg (fun k=>h'.1 k.symm),ih h'.2]
theorem a2j {pre post:Bk} {l:List Lab} {es:List Ev} (h:l ∉ pre.map Prod.fst):evsB (pre++(l,es)::post) l=es:=by
 unfold evsB;induction pre with
 | nil=>simp
 | cons p r ih =>
  obtain ⟨m,q⟩:=p;have h':l≠m∧l ∉ r.map Prod.fst:=by simpa using h
  rw[List.cons_append,List.find?_cons_of_neg (by simpa using fun k=>h'.1 k.symm)];exact ih h'.2
theorem l1b {B:Bk} {l:List Lab} (h:l ∉ keysB B):evsB B l=[]:=by
 rcases r0t B l with k | k
 ·exact k.1
 ·exact absurd (List.mem_map.2 ⟨_,k,rfl⟩) h
theorem e1v {B:Bk} {p:List Lab×List Ev} (h:p∈B):p.2.length≤sumB B:=by
 unfold sumB;induction B with
 | nil=>cases h
 | cons q r ih =>
  simp only[List.map_cons,List.sum_cons];rcases List.mem_cons.1 h with rfl | h
  ·omega
  ·have:=ih h;omega
theorem lenB_le {B:Bk} (h:∀p∈B,p.2≠[]):B.length≤sumB B:=by
 unfold sumB;induction B with
 | nil=>simp
 | cons q r ih =>
  simp only[List.map_cons,List.sum_cons,List.length_cons];have:=ih fun p hp=>h p (List.mem_cons_of_mem _ hp)
  have:=List.length_pos_iff.2 (h q (by simp));omega
theorem flat_put (n:Nat) {N:Nat} {s:Sta} {B:Bk} (h:BkInv N s B) (hN:N≤1000000) {l:List Lab} {e:Ev} (hl:LabOk l) (he:EvOk e) (ha:∀a∈evsB B l,a.1<e.1):g0h (n+9) (bkM B) l e=some (0,bkM (putB B l e)):=by
 rw[x0o,g0y (n+2) l,if_pos hl,obs,tfn,tfd,if_pos rfl,e0i (n+7) (.of he),if_pos he,obs,tfn,tfd,if_pos rfl,a1k n l,if_pos hl,obs,tfn,tfd,if_pos rfl];have hBl:B.length≤1000000:=Nat.le_trans (Nat.le_trans (lenB_le fun p hp=>(h.bk p hp).2.2) h.sum) hN;by_cases hm:l∈keysB B
 case neg =>
  rw[r1x hm];have hlen:(bkM B).1.length=B.length:=by simp[bkM]
  have hn:=hl.n1;show tif (decide ((((List.length (bkM B).1)+1)*16)≤140737488355328)) _ _=_;rw[decide_eq_true (show ((bkM B).1.length+1)*16≤140737488355328 by omega),tft,a1x (n+7) l (by omega),obs,←bkM_new hm e]
 obtain ⟨pre,es,post,rfl,hp⟩:=r1w hm;have hmem:(l,es)∈pre++(l,es)::post:=by simp
 have hes:=h.bk _ hmem;have hel:es.length≤1000000:=Nat.le_trans (Nat.le_trans (e1v hmem) h.sum) hN;rw[a2j hp] at ha;obtain ⟨ys,z,hyz⟩:∃ys z,es=ys++[z]:=⟨_,_,(List.dropLast_concat_getLast hes.2.2).symm⟩;subst hyz;simp only[List.length_append,List.length_singleton] at hel;rw[bkM_at hp];simp only[r0r];have e1:IntKind.wrap .i64 ((((List.length (ys++[z])):Nat):Int)-(1:Int))=(ys.length:Int):=by
  rw[List.length_append,List.length_singleton,w64 (by omega) (by omega)];omega
 rw[e1,b0r (pre:=ys) (rest:=[]) (x:=z) rfl rfl,obs,Int.toNat_natCast,List.getElem?_concat_length,obs,k0r (n+5) (.of (hes.2.1.ok z (by simp))) (.of he),obs,decide_eq_true ⟨hes.2.1.ok z (by simp),he,ha z (by simp)⟩];simp only[Bool.not_true,tff];rw[decide_eq_true (show ((ys++[z]).length+1)*32≤140737488355328 by simp only[List.length_append,List.length_singleton];omega),tft,putB_at hp,b2q];exact congrArg some (congrArg (Prod.mk (0:Int)) (Prod.ext bkM_keys rfl))
theorem o1n (n:Nat) {N:Nat} {s:Sta} {B:Bk} (h:BkInv N s B) (hN:N≤1000000) (l:List Lab):i0b (n+9) (bkM B) l=some (evsB B l,bkM B):=by
 rw[r0s,a1k n l,obs,tfn,tfd];by_cases hl:LabOk l
 case neg =>
  rw[if_neg hl,if_neg (by decide),l1b fun hm => ?_];obtain ⟨p,hp,rfl⟩:=List.mem_map.1 hm;exact hl (h.bk p hp).1
 rw[if_pos hl,if_pos rfl];by_cases hm:l∈keysB B
 case neg=>rw[r1x hm,l1b hm];rfl
 obtain ⟨pre,es,post,rfl,hp⟩:=r1w hm;have hmem:(l,es)∈pre++(l,es)::post:=by simp
 have hel:es.length≤1000000:=Nat.le_trans (Nat.le_trans (e1v hmem) h.sum) hN;rw[bkM_at hp];simp only[r0r];rw[r1q (n+7) es hel,obs,b2q,a2j hp]
theorem w1k (n:Nat) (b:BkE) {x:Act} {v:Int} (h:¬(x.1=0∧v=0)):l0i (n+1) b x v=some (true,b):=by
 rw[s0l,tfn,tfd];by_cases h0:x.1=0
 ·rw[if_pos h0,tfn,tfd,if_neg (fun k=>h ⟨h0,k⟩)]
 ·rw[if_neg h0]
theorem s1o (n:Nat) {N:Nat} {s:Sta} {B:Bk} (h:BkInv N s B) (hN:N≤1000000) {x:Act} (h0:x.1=0) (hl:LabOk x.2.1.1) (he:EvOk x.2.1.2) (ha:∀a∈evsB B x.2.1.1,a.1<x.2.1.2.1):l0i (n+10) (bkM B) x 0=some (true,bkM (putB B x.2.1.1 x.2.1.2)):=by
 rw[s0l,tfn,tfd,if_pos h0,tfn,tfd,if_pos rfl,flat_put n h hN hl he ha];rfl
theorem act_took (n:Nat) {N:Nat} {s:Sta} {B:Bk} (h:BkInv N s B) (hb:N<1000000) (x:Act) (hx:EvW x.2.1.2):∃t v B',l0j (n+25) x s=some (t,v)∧l0i (n+25) (bkM B) x v=some (true,bkM B')∧BkInv (N+1) t B':=by
 obtain ⟨t,v,e1,e2⟩:=s1n n h hb x hx;rcases e2 with ⟨h0,hv,k1,k2,k3,k4,_⟩ | ⟨k0,k1,_⟩
 ·subst hv;exact ⟨t,0,_,e1,s1o (n+15) h (by omega) h0 k2 k3 k4,k1⟩
 ·exact ⟨t,v,B,e1,w1k (n+24) (bkM B) k0,k1⟩
end Go.Proofs.YtojobamheigpbaaGreat
namespace Go.Proofs.YtojobamheigpbaaGreat
open Go.Flat
theorem ob {α β:Type} {o:Option α} {x:α} {f:α→Option β} {r:Option β} (h:o=some x) (k:f x=r):a0a o f=r:=by rw[h];exact k
theorem tt {α:Type} {b:Bool} {x y r:α} (h:b=true) (k:x=r):tif b x y=r:=by rw[h];exact k
theorem tf {α:Type} {b:Bool} {x y r:α} (h:b=false) (k:y=r):tif b x y=r:=by rw[h];exact k
end Go.Proofs.YtojobamheigpbaaGreat
namespace Go.Proofs.YtojobamheigpbaaGreat
open Go.Flat
set_option linter.unusedVariables false
theorem v0o (n:Nat)  : o0c (n+1)  =
 a0a (y0g n ) fun r0 =>
 a0a (z1d n ) fun r1 =>
 a0a (u0x n r1) fun r2 =>
 tif ((!(decide (r2.2=(0:Int))))) (
 some false) (
 a0a (g0h n r0 ((((97:UInt8)::[]),[])::[]) ((3:Int),((1:Int),((0:Int),false)))) fun r3 =>
 a0a (b1h n r2.1 (5:Int) (41:Int)) fun r4 =>
 tif ((decide (r3.1=(0:Int)))) (
 a0a (r0c n r3.2 ((((97:UInt8)::[]),[])::[])) fun r5 =>
 tif ((decide (r5.1=(3:Int)))) (
 a0a (r0d n r5.2 ((((97:UInt8)::[]),[])::[]) (0:Int) (9:Int)) fun r6 =>
 tif ((decide (r6.1.1=(1:Int)))) (
 tif ((decide (r4.1=(1:Int)))) (
 tif ((decide (r4.2.1=(10:Int)))) (
 tif ((decide (r4.2.2.1=(40:Int)))) (
 some (decide (r4.2.2.2=(0:Int)))) (
 some false)) (
 some false)) (
 some false)) (
 some false)) (
 some false)) (
 some false)):=by kernel_rfl
theorem x0m (n:Nat):y0g (n+39)=some ([],[]):=by kernel_rfl
theorem x0l (n:Nat):z1d (n+39)=some (20,((10,(20,60)),((4,(5,6)),(3,9)))):=by kernel_rfl
theorem x0k (n:Nat):u0x (n+39) (20,((10,(20,60)),((4,(5,6)),(3,9))))=some (((20,((10,(20,60)),((4,(5,6)),(3,9)))),(0,((-1),[([],(0,((0,(0,[])),(([],([],[])),(0,(0,((0,(0,(0,false))),((0,(0,(0,false))),((0,0),(0,(0,0))))))))))),([],(0,((0,(0,[])),(([],([],[])),(0,(0,((0,(0,(0,false))),((0,(0,(0,false))),((0,0),(0,(0,0))))))))))),([],(0,((0,(0,[])),(([],([],[])),(0,(0,((0,(0,(0,false))),((0,(0,(0,false))),((0,0),(0,(0,0)))))))))))]))),0):=by kernel_rfl
theorem x0j (n:Nat):g0h (n+39) ([],[]) [([97],[])] (3,(1,(0,false)))=some (0,([[1,1,97,0]],[([1,1,97,0],([([97],[])],[(3,(1,(0,false)))]))])):=by kernel_rfl
theorem x0i (n:Nat):b1h (n+39) ((20,((10,(20,60)),((4,(5,6)),(3,9)))),(0,((-1),[([],(0,((0,(0,[])),(([],([],[])),(0,(0,((0,(0,(0,false))),((0,(0,(0,false))),((0,0),(0,(0,0))))))))))),([],(0,((0,(0,[])),(([],([],[])),(0,(0,((0,(0,(0,false))),((0,(0,(0,false))),((0,0),(0,(0,0))))))))))),([],(0,((0,(0,[])),(([],([],[])),(0,(0,((0,(0,(0,false))),((0,(0,(0,false))),((0,0),(0,(0,0)))))))))))]))) (5) (41)=some (1,(10,(40,0))):=by kernel_rfl
theorem x0h (n:Nat):r0c (n+39) ([[1,1,97,0]],[([1,1,97,0],([([97],[])],[(3,(1,(0,false)))]))]) [([97],[])]=some (3,([[1,1,97,0]],[([1,1,97,0],([([97],[])],[(3,(1,(0,false)))]))])):=by kernel_rfl
theorem x0g (n:Nat):r0d (n+39) ([[1,1,97,0]],[([1,1,97,0],([([97],[])],[(3,(1,(0,false)))]))]) [([97],[])] (0) (9)=some ((1,((3,(1,(0,false))),((3,(1,(0,false))),((0,0),(0,(0,0)))))),([[1,1,97,0]],[([1,1,97,0],([([97],[])],[(3,(1,(0,false)))]))])):=by kernel_rfl
theorem u0p (n:Nat):o0c (n+40)=some true:=by
 rw[v0o];refine ob (x0m n) ?_;refine ob (x0l n) ?_;refine ob (x0k n) ?_;refine tf (by kernel_rfl) ?_;refine ob (x0j n) ?_;refine ob (x0i n) ?_;refine tt (by kernel_rfl) ?_;refine ob (x0h n) ?_;refine tt (by kernel_rfl) ?_;refine ob (x0g n) ?_;refine tt (by kernel_rfl) ?_;refine tt (by kernel_rfl) ?_;refine tt (by kernel_rfl) ?_;refine tt (by kernel_rfl) ?_
 kernel_rfl
end Go.Proofs.YtojobamheigpbaaGreat
namespace Go.Proofs.YtojobamheigpbaaGreat
open Go.Flat Go.Plim
set_option linter.unusedVariables false
set_option linter.unusedSimpArgs false
theorem act_conf (n:Nat) {N:Nat} {s:Sta} {B:Bk} (h:BkInv N s B) (x:Act) (hx:EvW x.2.1.2) {t:Sta} {v:Int} (e:l0j (n+25) x s=some (t,v)):t.1=s.1:=by
 rw[s0m,tfd] at e;by_cases h0:x.1=0
 ·rw[if_pos h0,i1j n h.w x.2.1.1 hx,obs,tfd] at e;by_cases k:(d0b s x.2.1.1 x.2.1.2).2=0
  ·rw[if_pos k] at e;obtain ⟨_,i,y,b,z,_,_,ht,_⟩:=m0k (show d0b s x.2.1.1 x.2.1.2=((d0b s x.2.1.1 x.2.1.2).1,0) from Prod.ext rfl k);have e1:=congrArg (fun o:Option (Sta×Int)=>o.map Prod.fst) e;simp only[Option.map_some,Option.some.injEq] at e1;rw[←e1,ht];rfl
  ·rw[if_neg k] at e;have e1:=congrArg (fun o:Option (Sta×Int)=>o.map Prod.fst) e;simp only[Option.map_some,Option.some.injEq] at e1;rw[←e1]
 rw[if_neg h0,tfd] at e;by_cases h1:x.1=1
 ·rw[if_pos h1,r1n (n+9) h.w,obs] at e;have e1:=congrArg (fun o:Option (Sta×Int)=>o.map Prod.fst) e;simp only[Option.map_some,Option.some.injEq] at e1;rw[←e1];unfold s0s;split<;>rfl
 rw[if_neg h1,tfd] at e;by_cases h2:x.1=2
 ·rw[if_pos h2,p1x (n+8) h.w,obs] at e;have ed:doV s=(q0r s,(((dueV s).length:Int),0)):=by unfold doV;rw[if_pos h.ok]
  rw[ed] at e;have e2:some (q0r s,(0:Int))=some (t,v):=e;have e1:=congrArg (fun o:Option (Sta×Int)=>o.map Prod.fst) e2;simp only[Option.map_some,Option.some.injEq] at e1;rw[←e1];rfl
 rw[if_neg h2,tfd] at e;by_cases h3:x.1=3
 ·rw[if_pos h3,z0b (n+9) h.w,obs] at e;have ed:d1z s=(r0f s,0):=by unfold d1z;rw[if_pos h.ok]
  rw[ed] at e;have e2:some (r0f s,(0:Int))=some (t,v):=e;have e1:=congrArg (fun o:Option (Sta×Int)=>o.map Prod.fst) e2;simp only[Option.map_some,Option.some.injEq] at e1;rw[←e1];rfl
 rw[if_neg h3] at e;have e1:=congrArg (fun o:Option (Sta×Int)=>o.map Prod.fst) e;simp only[Option.map_some,Option.some.injEq] at e1;rw[←e1]
theorem told_l10 (n:Nat) (ls:List Lab) (a:Int) (b:Int) (c:Conf) (acts:List Act) (hL:acts.length≤40) (he:∀x∈acts,EvW x.2.1.2):∀(rest pre:List Act) (f:Nat) (s:Sta) (B:Bk) (ix len:Int),acts=pre++rest→ix=pre.length→len=acts.length→rest.length<f→BkInv pre.length s B→s.1=c →
  ∃t B',f0u (n+25) f (ls,a,b,c,s,bkM B,acts,len,ix,())=some (.inl (ls,a,b,c,t,bkM B',()))∧BkInv 40 t B'∧t.1=c:=by
 intro rest;induction rest with
 | nil =>
  intro pre f s B ix len ha hi hl hf hs hcf;obtain ⟨f,rfl⟩:=g0g hf;subst hi;subst hl;rw[List.append_nil] at ha;subst ha;rw[k0h,decide_eq_false (by omega),tff];exact ⟨s,B,rfl,hs.mono hL,hcf⟩
 | cons x r ih =>
  intro pre f s B ix len ha hi hl hf hs hcf;obtain ⟨f,rfl⟩:=g0g hf;have hlen:acts.length=pre.length+(r.length+1):=by rw[ha];simp
  subst hi;subst hl;obtain ⟨t,v,B',e1,e2,e3⟩:=act_took n hs (by omega) x (he x (by rw[ha];simp));have hat:at? acts (pre.length:Int)=some x:=by
   rw[ha];exact b0r (pre:=pre) (rest:=r) rfl rfl
  rw[k0h,decide_eq_true (by omega),tft,hat,obs,e1,obs,e2,obs,w64 (by omega) (by omega)];simp only[Bool.not_true,tff];obtain ⟨t2,B2,f1,f2⟩:=ih (pre++[x]) f t B' ((pre.length:Int)+1) (acts.length:Int) (by rw[ha];simp) (by simp) rfl (by simp at hf;omega) (by simpa using e3) (by rw[act_conf n hs x (he x (by rw[ha];simp)) e1];exact hcf);exact ⟨t2,B2,f1,f2⟩
theorem u1h {c:Conf} (h:(i0t c).2=0):(i0t c).1.1=c:=by
 unfold i0t at h ⊢;by_cases k1:OkC c
 case neg=>rw[if_neg k1] at h;cases h
 rw[if_pos k1] at h ⊢;by_cases k2:(sizR c).2=0
 case neg=>rw[if_neg k2] at h;exact absurd h k2
 rw[if_pos k2]
def oldK (now w m a:Int):Bool:=decide (IntKind.wrap .i64 (Int.tdiv a w)≤IntKind.wrap .i64 (IntKind.wrap .i64 (Int.tdiv now w)-m))
theorem f1t {now w m a:Int} (h0:0≤a∧a≤35184372088832) (h1:0≤now∧now≤35184372088832) (hw:1≤w) (hm:1≤m∧m≤4096) (h:a / w≤now / w-m):oldK now w m a=true:=by
 unfold oldK;have a1:=Int.ediv_nonneg h0.1 (show (0:Int)≤w by omega);have a2:a / w≤a:=Int.ediv_le_self _ h0.1;have b1:=Int.ediv_nonneg h1.1 (show (0:Int)≤w by omega);have b2:now / w≤now:=Int.ediv_le_self _ h1.1;rw[m0q h0.1,m0q h1.1,w64 (x:=a / w) (by omega) (by omega),w64 (x:=now / w) (by omega) (by omega),w64 (by omega) (by omega)];exact decide_eq_true h
theorem p1q (n:Nat) (a:Int) {c:Conf} (hc:OkC c) (s:Sta) (got:List Ev) (w2:Int) (lost:Bool):∃o,a0w n a0b (a,c,s,got,w2,lost,true,0,())=some (.inl (got,(w2,(lost,(o,()))))) ∧
  (oldK s.2.1 c.2.1.1 c.2.2.1.1 a=true→oldK s.2.1 c.2.1.2.1 c.2.2.1.2.1 a=true→oldK s.2.1 c.2.1.2.2 c.2.2.1.2.2 a=true→o=true):=by
 obtain ⟨f,hf⟩:∃f,a0b=f+1+1+1+1:=⟨a0b-4,by unfold a0b;omega⟩;have hr:=hc.rng;have a0:=hr.w0;have a1:=hr.w1;have a2:=hr.w2;rw[hf,q0e,tft,tfd,if_neg (by omega),tfd,if_neg (by omega)];show ∃o,a0w n (f+1+1+1) (a,c,s,got,w2,lost,oldK s.2.1 c.2.1.1 c.2.2.1.1 a,1,())=_∧_;cases h0:oldK s.2.1 c.2.1.1 c.2.2.1.1 a with
 | false =>
  rw[i0j,tff,e0x,tff,e0w];exact ⟨_,rfl,fun k=>by cases k⟩
 | true =>
  rw[i0j,tft,tfd,if_neg (by omega),tfd,if_neg (by omega)];show ∃o,a0w n (f+1+1) (a,c,s,got,w2,lost,oldK s.2.1 c.2.1.2.1 c.2.2.1.2.1 a,2,())=_∧_;cases h1:oldK s.2.1 c.2.1.2.1 c.2.2.1.2.1 a with
  | false =>
   rw[e0x,tff,e0w];exact ⟨_,rfl,fun _ k=>by cases k⟩
  | true =>
   rw[e0x,tft,tfd,if_neg (by omega),tfd,if_neg (by omega)];show ∃o,a0w n (f+1) (a,c,s,got,w2,lost,oldK s.2.1 c.2.1.2.2 c.2.2.1.2.2 a,3,())=_∧_;rw[e0w];exact ⟨_,rfl,fun _ _ k=>k⟩
theorem told_l30 (n:Nat) (a b:Int) (got l:List Ev) (hL:l.length≤1000000):∀(rest pre:List Ev) (f:Nat) (want:List Ev) (ix len:Int),l=pre++rest→ix=pre.length→len=l.length→rest.length<f→want.length≤pre.length →
  d0h n f (a,b,got,want,l,len,ix,())=some (.inl (got,(want++rest.filter (inR a b),()))):=by
 intro rest;induction rest with
 | nil =>
  intro pre f want ix len ha hi hn hf hw;obtain ⟨f,rfl⟩:=g0g hf;rw[k0g,decide_eq_false (idxe ha hi hn),tff];simp
 | cons x r ih =>
  intro pre f want ix len ha hi hn hf hw;obtain ⟨f,rfl⟩:=g0g hf;have hpl:pre.length≤l.length:=by rw[ha];simp
  have hat2:l[ix.toNat]? = some x:=by rw[ha,hi,Int.toNat_natCast,List.getElem?_append_right (Nat.le_refl _)];simp
  have next:=fun want (h:want.length≤(pre++[x]).length)=>ih (pre++[x]) f want (ix+1) len (idxl ha) (idxs hi) hn (by simp at hf;omega) h
  rw[k0g,decide_eq_true (idx ha hi hn),tft,b0r ha hi,obs,hat2,obs,idxw ha hi (by omega),tfd];by_cases h1:a≤x.1
  case neg =>
   rw[if_neg h1,List.filter_cons_of_neg (by unfold inR;simp[h1])];exact next want (by simp;omega)
  rw[if_pos h1,tfd];by_cases h2:x.1<b
  case neg =>
   rw[if_neg h2,List.filter_cons_of_neg (by unfold inR;simp[h2])];exact next want (by simp;omega)
  rw[if_pos h2,decide_eq_true (show (want.length+1)*32≤140737488355328 by omega),tft,List.filter_cons_of_pos (by unfold inR;simp[h1,h2]),next (want++[x]) (by simp;omega),List.append_assoc];rfl
theorem rng_told {s:Sta} {l:List Lab} {a b:Int} (hr:(rawV s l a b).2=11):RngP a b:=by
 unfold rawV at hr;by_cases hs:StaOk s
 case neg=>rw[if_neg hs] at hr;cases hr
 rw[if_pos hs] at hr;by_cases hl:LabOk l
 case neg=>rw[if_neg hl] at hr;cases hr
 rw[if_pos hl] at hr;by_cases rp:RngP a b
 ·exact rp
 ·rw[if_neg rp] at hr;cases hr
theorem i1u (n:Nat) (c:Conf) (acts:List Act) (l:List Lab) (a b:Int) (hc:Wf a0o c) (ha:Wf (.slice h0p) acts) (hl:Wf (.slice a0l) l):y0u (n+41) c acts l a b=some true:=by
 obtain ⟨a1,a2,a3⟩:=acts_wf ha;rw[b1q,u0p n,obs,tfn,tft];rcases fits11 (n+32) c with h | ⟨h,h0⟩
 ·rw[h];rfl
 rw[h,obs,tfn,tft];rcases s1w (n+38) acts a1 a2 with h1 | ⟨h1,h40⟩
 ·rw[h1];rfl
 rw[h1,obs,tfn,tft];rcases k1t (n+39) l hl.1 with h2 | h2
 ·rw[h2];rfl
 rw[h2,obs,show (decide ((1:Int)=0))=false from rfl,tff,z0d (n+33),obs,o1o,obs,tfn,tfd,if_pos h0];obtain ⟨s,B,e1,hs,hcf⟩:=told_l10 (n+15) l a b c acts h40 a3 acts [] a0b (i0t c).1 [] 0 _ rfl rfl rfl (by unfold a0b;omega) (.new h0) (u1h h0);rw[bkM_nil] at e1;rw[e1,obs,b0d];simp only;rw[x1q (n+24) hs.w,obs,tfn,tfd];by_cases g:(rawV s l a b).2=0
 ·rw[if_pos g,o1n (n+31) hs (by omega) l,obs];have hel:(evsB B l).length≤1000000:=by
   rcases r0t B l with k | k
   ·rw[k.1];simp
   ·exact Nat.le_trans (Nat.le_trans (e1v k) hs.sum) (by omega)
  have e2:=told_l30 (n+40) a b (rawV s l a b).1 (evsB B l) hel (evsB B l) [] a0b [] 0 ((List.length (evsB B l):Nat):Int) rfl rfl rfl (by unfold a0b;omega) (Nat.le_refl _);simp only;rw[e2,obs,b0d];simp only[List.nil_append];rw[bk_told hs (show rawV s l a b=((rawV s l a b).1,0) from Prod.ext rfl g)];rw[a1s (n+39) _ _ (Nat.le_trans (List.length_filter_le _ _) (by omega)),obs,decide_eq_true rfl]
 rw[if_neg g,rawV_err g,e1w (n+30) hs.w l,obs,tfd];have hcc:OkC c:=by rw[←hcf];exact hs.ok.whole.1
 have hnow:=hs.ok.clock.1;have old3:∀o:Bool,(oldK s.2.1 c.2.1.1 c.2.2.1.1 a=true→oldK s.2.1 c.2.1.2.1 c.2.2.1.2.1 a=true→oldK s.2.1 c.2.1.2.2 c.2.2.1.2.2 a=true→o=true)→(rawV s l a b).2=11 →
   (a / s.1.2.1.1≤s.2.1 / s.1.2.1.1-s.1.2.2.1.1∧a / s.1.2.1.2.1≤s.2.1 / s.1.2.1.2.1-s.1.2.2.1.2.1∧a / s.1.2.1.2.2≤s.2.1 / s.1.2.1.2.2-s.1.2.2.1.2.2)→o=true:=by
  intro o ho h11 h3;have rp:=rng_told h11;have hr:=hcc.rng;have w0:=hr.w0;have w1:=hr.w1;have w2:=hr.w2;have n0:=hr.n0;have n1:=hr.n1;have n2:=hr.n2;rw[hcf] at h3;have ra:0≤a∧a≤35184372088832:=⟨rp.1,by have:=rp.2;omega⟩;have rn:0≤s.2.1∧s.2.1≤35184372088832:=⟨hnow.1,by have:=hnow.2;omega⟩;exact ho (f1t ra rn w0.1 n0 h3.1) (f1t ra rn w1.1 n1 h3.2.1) (f1t ra rn w2.1 n2 h3.2.2)
 cases hf:f0d s l with
 | none =>
  rw[v0v hs.ok.whole hf,if_neg (by decide)];obtain ⟨o,e2,ho⟩:=p1q (n+40) a hcc s [] (rawV s l a b).2 false;rw[e2,obs,b0d];simp only[List.length_nil];by_cases h11:(rawV s l a b).2=11
  ·rcases (q1p h11).2 with ⟨i,x,k,_⟩ | k
   ·rw[hf] at k;cases k
   ·rw[old3 o ho h11 k,decide_eq_true h11];rfl
  ·rw[decide_eq_false h11];rfl
 | some i =>
  obtain ⟨x,hx,_,_,_⟩:=d0j.1 hf;rw[v0u hs.ok.whole hf,if_pos rfl];have hat:at? s.2.2.2 (i:Int)=some x:=c1p hx;simp only;rw[hat,obs];obtain ⟨o,e2,ho⟩:=p1q (n+40) a hcc s [] (rawV s l a b).2 (decide ((0:Int)<x.2.2.1.1));rw[e2,obs,b0d];simp only[List.length_nil];by_cases h11:(rawV s l a b).2=11
  ·rcases (q1p h11).2 with ⟨j,y,k1,k2,k3⟩ | k
   ·rw[hf] at k1;have k1:=Option.some.inj k1;subst k1;rw[hx] at k2;have k2:=Option.some.inj k2;subst k2;rw[decide_eq_true k3,decide_eq_true h11];rfl
   ·rw[old3 o ho h11 k,decide_eq_true h11];cases decide ((0:Int)<x.2.2.1.1)<;>rfl
  ·rw[decide_eq_false h11];rfl
end Go.Proofs.YtojobamheigpbaaGreat
