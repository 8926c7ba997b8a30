/-
 Plain proofs about the functions of this seat, part 3 of 3.
-/
import Derived.Test.YtojobamheigpbaaGreatDoorQ2
import Derived.Test.YtojobamheigpbaaGreatDoorFlatM3
import Derived.Test.YtojobamheigpbaaGreatDoorTr
namespace Go.Proofs.YtojobamheigpbaaGreatDoor
open Go.Flat Go.Plim
set_option linter.unusedVariables false
set_option linter.unusedSimpArgs false
theorem b2c (o:Int) (r:Int×Int) (x:Slo) (l:List Slo):j0s o r (x::l)=(if b1e o r x then x else s0)::j0s o r l:=rfl
theorem p1d (n:Nat) (o a b:Int):∀(rest pre:List Slo) (f:Nat) (ix len:Int),pre.length+rest.length≤1000000→ix=pre.length→len=(pre.length:Int)+rest.length→rest.length<f →
  b0y n f (o,a,b,pre++rest,len,ix,())=some (.inl (pre++j0s o (a,b) rest,())):=by
 intro rest;induction rest with
 | nil =>
  intro pre f ix len hL hi hn hf;obtain ⟨f,rfl⟩:∃g,f=g+1:=⟨f-1,by simp at hf;omega⟩;rw[n0p,decide_eq_false (by simp at hn;omega),tff];rfl
 | cons x rest ih =>
  intro pre f ix len hL hi hn hf;obtain ⟨f,rfl⟩:∃g,f=g+1:=⟨f-1,by simp at hf;omega⟩;simp only[List.length_cons] at hL hn hf;have go:∀v:Slo,v=(if b1e o (a,b) x then x else s0)→b0y n f (o,a,b,(pre++[v])++rest,len,ix+1,())=some (.inl (pre++j0s o (a,b) (x::rest),())):=by
   intro v hv;rw[ih (pre++[v]) f (ix+1) len (by simp;omega) (by simp;omega) (by simp;omega) (by omega),b2c,←hv];simp
  have same:(pre++[x])++rest=pre++x::rest:=by simp
  have gm:∀v:Slo,(pre++x::rest).set ix.toNat v=(pre++[v])++rest:=fun v=>set_mid hi
  rw[n0p,decide_eq_true (by omega),tft,c0l rfl hi,obs,a2o rfl hi,obs,w64 (by omega) (by omega)];simp only[tfd,obs,gm];by_cases h1:x.1<o
  ·rw[if_pos h1];by_cases h2:x.1<a
   ·rw[if_pos h2];exact go s0 (if_neg (fun k:b1e o (a,b) x=>k ⟨h1,.inl h2⟩)).symm
   ·rw[if_neg h2];by_cases h3:b≤x.1
    ·rw[if_pos h3];exact go s0 (if_neg (fun k:b1e o (a,b) x=>k ⟨h1,.inr h3⟩)).symm
    ·rw[if_neg h3,←same];exact go x (if_pos (show b1e o (a,b) x from fun k=>k.2.elim h2 h3)).symm
  ·rw[if_neg h1,←same];exact go x (if_pos (show b1e o (a,b) x from fun k=>h1 k.1)).symm
theorem r1e {t a b:Int} (ht:0≤t∧t<35184372088832) (ha:1≤a) (hb:1≤b) (hb1:b≤1099511627776) (hm:b % a=0):0≤t / b*(b / a)∧t / b*(b / a)≤t∧1≤b / a∧b / a≤1099511627776:=by
 have hp:=l0u ha hb hm;have q:=(edvm (t:=t) ha hb hm).2;have h0:0≤t / b:=Int.ediv_nonneg ht.1 (by omega);have h1:t / b*(b / a)≤t / a:=by rw[←q];exact Int.ediv_mul_le _ (by omega)
 have h2:t / a≤t:=Int.ediv_le_self _ ht.1;have h3:b / a≤b:=Int.ediv_le_self _ (by omega);exact ⟨Int.mul_nonneg h0 (by omega),by omega,by omega,by omega⟩
theorem r1f {a b:Int} (ha:1≤a) (hb:1≤b) (hb1:b≤1099511627776):IntKind.wrap .i64 (Int.tdiv b a)=b / a:=y1h ⟨by omega,by omega⟩ ha
theorem needed_0 (n:Nat) {c:Conf} (h:OkC c) {t:Int} (ht:0≤t∧t<35184372088832):d0o (n+1) c t 0=some (k0y c t):=by
 have hr:=h.rng;obtain ⟨a1,a2,a3,a4⟩:=r1e ht hr.w0.1 hr.w1.1 hr.w1.2 h.m1;rw[u0o,tfd,if_neg (nz hr.w0.1),tfd,if_neg (nz hr.w1.1),y1h ht hr.w1.1,r1f hr.w0.1 hr.w1.1 hr.w1.2,w64 (x:=t / c.2.1.2.1*(c.2.1.2.1 / c.2.1.1)) (by omega) (by omega),w64 (by omega) (by omega)];rfl
theorem needed_1 (n:Nat) {c:Conf} (h:OkC c) {t:Int} (ht:0≤t∧t<35184372088832):d0o (n+1) c t 1=some (l0o c t):=by
 have hr:=h.rng;obtain ⟨a1,a2,a3,a4⟩:=r1e ht hr.w1.1 hr.w2.1 hr.w2.2 h.m2;rw[u0n,tfd,if_neg (nz hr.w1.1),tfd,if_neg (nz hr.w2.1),y1h ht hr.w2.1,r1f hr.w1.1 hr.w2.1 hr.w2.2,w64 (x:=t / c.2.1.2.2*(c.2.1.2.2 / c.2.1.2.1)) (by omega) (by omega),w64 (by omega) (by omega)];rfl
theorem fade_0 (n:Nat) {c:Conf} (h:OkC c) (x:Ser) (ht:0≤x.2.1∧x.2.1<35184372088832) (hL:x.2.2.2.1.1.length≤1000000) (o:Int):e0o (n+2) c x 0 o=some (j0s o (k0y c x.2.1) x.2.2.2.1.1):=by
 rw[y0x,needed_0 n h ht,obs,l0z n _ hL,obs];have e:=p1d (n+1) o (k0y c x.2.1).1 (k0y c x.2.1).2 x.2.2.2.1.1 [] a0b 0 (x.2.2.2.1.1.length:Int) (by simpa using hL) rfl (by simp) (by unfold a0b;omega);rw[List.nil_append] at e;rw[e,obs,b0j];rfl
theorem fade_1 (n:Nat) {c:Conf} (h:OkC c) (x:Ser) (ht:0≤x.2.1∧x.2.1<35184372088832) (hL:x.2.2.2.1.2.1.length≤1000000) (o:Int):e0o (n+2) c x 1 o=some (j0s o (l0o c x.2.1) x.2.2.2.1.2.1):=by
 rw[y0w,needed_1 n h ht,obs,l0z n _ hL,obs];have e:=p1d (n+1) o (l0o c x.2.1).1 (l0o c x.2.1).2 x.2.2.2.1.2.1 [] a0b 0 (x.2.2.2.1.2.1.length:Int) (by simpa using hL) rfl (by simp) (by unfold a0b;omega);rw[List.nil_append] at e;rw[e,obs,b0j];rfl
theorem fade_2 (n:Nat) (c:Conf) (x:Ser) (hL:x.2.2.2.1.2.2.length≤1000000) (o:Int):e0o (n+2) c x 2 o=some (j0s o (0,0) x.2.2.2.1.2.2):=by
 rw[y0v,u0m,obs,l0z n _ hL,obs];have e:=p1d (n+1) o 0 0 x.2.2.2.1.2.2 [] a0b 0 (x.2.2.2.1.2.2.length:Int) (by simpa using hL) rfl (by simp) (by unfold a0b;omega);rw[List.nil_append] at e;rw[e,obs,b0j];rfl
theorem time_of {s:Sta} (h:StaOk s) {x:Ser} (hx:SerOk s.1 x) (h0:0≤x.2.1):0≤x.2.1∧x.2.1<35184372088832:=q1q hx (by omega)
theorem b2z (n:Nat) {s:Sta} (h:StaOk s) {x:Ser} (hx:SerOk s.1 x) (h0:0≤x.2.1) (s2:Sta) (out:List Ser) (i:Int) (L:List Int) (q1 q2:Int) (f:Nat) :
  b0s (n+14) (f+4) (s,s2,out,i,x,L,q1,q2,s.1.2.1,(0:Int),())=some (.inl (s,s2,out,i,g0n s.1 s.2.1 x,L,q1,q2,())):=by
 have hr:=h.whole.1.rng;have ht:=h.clock.1;have hc:=h.whole.1;have hT:=time_of h hx h0;have l0:=hx.fold.t0.l1;have l1:=hx.fold.t1.l1;have l2:=hx.fold.t2.l1;rw[q0d,s0a (n+10),obs,tfn,decide_eq_true (x0x ⟨ht.1,ht.2,hr.w0.1,hr.w0.2⟩ hr.n0),tft,fade_0 (n+12) hc x hT (by omega),obs];generalize e0:j0s (oldV s.2.1 s.1.2.1.1 s.1.2.2.1.1).1 (k0y s.1 x.2.1) x.2.2.2.1.1=F0;rw[q0c,s0a (n+10),obs,tfn,decide_eq_true (x0x ⟨ht.1,ht.2,hr.w1.1,hr.w1.2⟩ hr.n1),tft,
  fade_1 (n+12) hc (x.1,(x.2.1,(x.2.2.1,((F0,x.2.2.2.1.2),x.2.2.2.2)))) hT (by show x.2.2.2.1.2.1.length≤_;omega),obs]
 dsimp only;generalize e1:j0s (oldV s.2.1 s.1.2.1.2.1 s.1.2.2.1.2.1).1 (l0o s.1 x.2.1) x.2.2.2.1.2.1=F1;rw[q0b,s0a (n+10),obs,tfn,decide_eq_true (x0x ⟨ht.1,ht.2,hr.w2.1,hr.w2.2⟩ hr.n2),tft,
  fade_2 (n+12) s.1 (x.1,(x.2.1,(x.2.2.1,((F0,(F1,x.2.2.2.1.2.2)),x.2.2.2.2)))) (by show x.2.2.2.1.2.2.length≤_;omega),obs,q0a]
 subst e0 e1;rfl
noncomputable def s1j (s:Sta) (L:List Int) (out:List Ser):List Ser:=L.foldl (fun o z=>o.set z.toNat (g0n s.1 s.2.1 ((s.2.2.2[z.toNat]?).getD ser0))) out
theorem clean_l6 (n:Nat) {s:Sta} (h:StaOk s) (s2:Sta) (L:List Int) (hL:L.length≤1000000) (hm:∀z∈L,0≤z∧∃y,s.2.2.2[z.toNat]? = some y∧SerOk s.1 y∧0≤y.2.1):∀(rest pre:List Int) (f:Nat) (out:List Ser) (ix len:Int),L=pre++rest→ix=pre.length→len=L.length→rest.length<f→out.length=s.2.2.2.length →
  f0h (n+14) f (s,s2,out,L,len,ix,())=some (.inl (s,s2,s1j s rest out,())):=by
 intro rest;induction rest with
 | nil =>
  intro pre f out ix len hl hi hn hf ho;obtain ⟨f,rfl⟩:∃g,f=g+1:=⟨f-1,by simp at hf;omega⟩;rw[l0e,decide_eq_false (idxe hl hi hn),tff];rfl
 | cons z rest ih =>
  intro pre f out ix len hl hi hn hf ho;obtain ⟨f,rfl⟩:∃g,f=g+1:=⟨f-1,by simp at hf;omega⟩;obtain ⟨h0,y,hy,hs,hy0⟩:=hm z (by rw[hl];simp);have hlt:z.toNat<out.length:=by rw[ho];exact (List.getElem?_eq_some_iff.1 hy).1
  have hg:out[z.toNat]? = some out[z.toNat]:=List.getElem?_eq_getElem hlt;have e10:=b2z n h hs hy0 s2 out z L len ix (2^70-4);rw[show 2^70-4+4=a0b from by decide] at e10;rw[l0e,decide_eq_true (idx hl hi hn),tft,c0l hl hi,obs,a2o hl hi,obs,at_nn h0 hy,obs,e10,obs,b0j];dsimp only;rw[at_nn h0 hg,obs,hg,obs,idxw hl hi (show L.length≤1000000000000 by omega),ih (pre++[z]) f _ (ix+1) len (idxl hl) (idxs hi) hn (by simp at hf;omega) (by simpa using ho)];unfold s1j;rw[List.foldl_cons,hy];rfl
theorem set_fold {α:Type} (g:Int→α) (j:Nat):∀(L:List Int) (out:List α),(∀z∈L,0≤z)→(L.foldl (fun o z=>o.set z.toNat (g z)) out)[j]? = if (j:Int)∈L then (if j<out.length then some (g j) else none) else out[j]? := by
 intro L;induction L with
 | nil=>intro out _;simp
 | cons z L ih =>
  intro out hz;have h0:=hz z (by simp);rw[List.foldl_cons,ih _ (fun y hy=>hz y (by simp[hy])),List.length_set];by_cases h:(j:Int)∈L
  ·rw[if_pos h,if_pos (show (j:Int)∈z::L by simp[h])]
  ·rw[if_neg h,List.getElem?_set];by_cases e:z.toNat=j
   ·have e':z=(j:Int):=by omega
    rw[if_pos e,if_pos (show (j:Int)∈z::L by simp[e']),e,e']
   ·rw[if_neg e,if_neg (show ¬(j:Int)∈z::L by simp[h];omega)]
theorem w1b {s:Sta} (h:StaOk s):s1j s ((l0p s).map Int.ofNat) (List.replicate s.2.2.2.length ser0)=s.2.2.2.map (j0v s):=by
 apply List.ext_getElem?;intro j;unfold s1j;rw[set_fold (fun z=>g0n s.1 s.2.1 ((s.2.2.2[z.toNat]?).getD ser0)) j _ _ (fun z hz=>(o1t hz).1),List.getElem?_map,List.length_replicate];have hmem:((j:Int)∈(l0p s).map Int.ofNat)↔lvAt s j=true:=by
  constructor
  ·intro hz;obtain ⟨i,hi,e⟩:=List.mem_map.1 hz;have e:i=j:=by injection e
   rw[←e];exact (List.mem_filter.1 hi).2
  ·intro hl;exact List.mem_map.2 ⟨j,List.mem_filter.2 ⟨List.mem_range.2 (o1r hl),hl⟩,rfl⟩
 by_cases hl:lvAt s j=true
 ·obtain ⟨x,hx,hlx⟩:=f1t.1 hl;rw[if_pos (hmem.2 hl),if_pos (o1r hl),hx];simp only[Option.map_some,Int.toNat_natCast,hx,Option.getD_some];exact congrArg some (if_pos hlx).symm
 ·rw[if_neg (fun k=>hl (hmem.1 k)),List.getElem?_replicate];cases hx:s.2.2.2[j]? with
  | none=>rw[if_neg (by have:=List.getElem?_eq_none_iff.1 hx;omega)];rfl
  | some x =>
   rw[if_pos (List.getElem?_eq_some_iff.1 hx).1];have hn:¬LvX s x:=fun k=>hl (f1t.2 ⟨x,hx,k⟩)
   exact congrArg some (if_neg hn).symm
noncomputable def s1h (s:Sta):Sta×Int:=if StaOk s then (w0u s,0) else (sta0,2)
theorem o1u {s:Sta} (h:StaOk s):∀z∈(l0p s).map Int.ofNat,0≤z∧∃y,s.2.2.2[z.toNat]? = some y∧SerOk s.1 y∧0≤y.2.1:=by
 intro z hz;obtain ⟨h0,y,hy,hl⟩:=o1t hz;exact ⟨h0,y,hy,f1w h (List.mem_of_getElem? hy) hl⟩
theorem m1v (n:Nat) {s:Sta} (hw:StaW s):r0f (n+15) s=some (s1h s):=by
 rw[b1k,h0g n hw,obs,tfn];unfold s1h;by_cases h:StaOk s
 case neg=>rw[l1r h,if_neg h,if_neg h];rfl
 have hlen:=h.whole.len;have hL:((l0p s).map Int.ofNat).length≤1000000:=by have:=r1m s;simp;omega
 have e:liveR s=(l0p s).map Int.ofNat:=if_pos h.whole;have e6:=clean_l6 n h sta0 _ hL (o1u h) _ [] a0b (List.replicate s.2.2.2.length ser0) 0 _ rfl rfl rfl (by unfold a0b;omega) (by simp);rw[w1b h] at e6;rw[l1q h,if_pos h,decide_eq_true (by omega),decide_eq_true (Int.le_refl _),decide_eq_true (show (s.2.2.2.length:Int)*264≤140737488355328 by omega),Bool.and_self,Bool.and_self,tft,q1m (n+6) hw,obs,e,Int.toNat_natCast]
 change a0a (f0h (n+14) a0b (s,sta0,List.replicate s.2.2.2.length ser0,(l0p s).map Int.ofNat,(((l0p s).map Int.ofNat).length:Int),(0:Int),())) _=_
 rw[e6,obs,b0j];rfl
theorem cleanX_w {c:Conf} {now:Int} {x:Ser} (hx:SerW x∧SerM x):SerW (g0n c now x)∧SerM (g0n c now x):=by
 obtain ⟨⟨h1,h2,h3,h4⟩,m1,m2,m3,m4,m5⟩:=hx;have fw:∀(o:Int) (r:Int×Int) (l:List Slo),(∀z∈l,SloW z)→∀z∈j0s o r l,SloW z:=by
  intro o r l hl z hz;obtain ⟨y,hy,e⟩:=List.mem_map.1 hz;split at e
  ·rw[←e];exact hl y hy
  ·rw[←e];exact u0v
 refine ⟨⟨h1,h2,?_,h4⟩,m1,m2,by simpa [g0n,f0k] using m3,by simpa [g0n,f0k] using m4,by simpa [g0n,f0k] using m5⟩;obtain ⟨t1,t2,t3⟩:=h3;exact ⟨fw _ _ _ t1,fw _ _ _ t2,fw _ _ _ t3⟩
theorem s1i {s:Sta} (hw:StaW s):StaW (w0u s):=by
 refine ⟨by simpa [w0u] using hw.len,fun x hx => ?_⟩;obtain ⟨y,hy,e⟩:=List.mem_map.1 hx;unfold j0v at e;split at e
 ·rw[←e];exact cleanX_w (hw.ser y hy)
 ·rw[←e];exact ⟨ser0_w,ser0_m⟩
structure EvInv (N:Nat) (s:Sta):Prop where
 ok:StaOk s
 w:StaW s
 ser:∀x∈s.2.2.2,x=ser0∨∃y l,SerInv s.1 y l∧l≠[]∧l.length≤N∧Fad s.1 (olds s.1 s.2.1) x y
theorem EvInv.of {N:Nat} {s:Sta} (h:StaInv N s):EvInv N s:=⟨h.ok,h.w,fun x hx=>(h.ser x hx).imp id fun ⟨l,h1,h2,h3⟩=>⟨x,l,h1,h2,h3,.refl _ _ _⟩⟩
theorem EvInv.mono {N M:Nat} {s:Sta} (h:EvInv N s) (hm:N≤M):EvInv M s :=
 ⟨h.ok,h.w,fun x hx=>(h.ser x hx).imp id fun ⟨y,l,h1,h2,h3,h4⟩=>⟨y,l,h1,h2,Nat.le_trans h3 hm,h4⟩⟩
theorem k1r {s:Sta} (h:StaOk s) {now:Int} (h1:s.2.1≤now) (h2:now<35184372088832):(olds s.1 s.2.1).1≤(olds s.1 now).1∧(olds s.1 s.2.1).2.1≤(olds s.1 now).2.1∧(olds s.1 s.2.1).2.2≤(olds s.1 now).2.2:=by
 have hr:=h.whole.1.rng;have hc:=h.clock.1;have c1:=hc.1;have c2:=hc.2;exact ⟨x0y ⟨c1,c2,hr.w0.1,hr.w0.2⟩ ⟨by omega,h2,hr.w0.1,hr.w0.2⟩ h1 hr.n0,x0y ⟨c1,c2,hr.w1.1,hr.w1.2⟩ ⟨by omega,h2,hr.w1.1,hr.w1.2⟩ h1 hr.n1,x0y ⟨c1,c2,hr.w2.1,hr.w2.2⟩ ⟨by omega,h2,hr.w2.1,hr.w2.2⟩ h1 hr.n2⟩
theorem EvInv.tick {N:Nat} {s:Sta} (h:EvInv N s) (now:Int):EvInv N (u0l s now).1:=by
 unfold u0l;by_cases hm:Moves s now
 ·rw[if_pos hm];obtain ⟨m1,m2,m3⟩:=k1r h.ok (Int.le_of_lt hm.2.1) hm.2.2;exact ⟨x1f hm,x1g h.w now,fun x hx=>(h.ser x hx).imp id fun ⟨y,l,h1,h2,h3,h4⟩=>⟨y,l,h1,h2,h3,h4.mono m1 m2 m3⟩⟩
 ·rw[if_neg hm];exact h
theorem p1e {c:Conf} {o:Int×(Int×Int)} {x y x':Ser} {l:List Ev} {e:Ev} (hx:SerOk c x) (h:Fad c o x y) (hy:SerInv c y l) (hL:l.length<1000000) (hp:Go.Proofs.YtojobamheigpbaaGreatDoor.putE c x e=(x',0)):∃y',SerInv c y' (l++[e])∧Fad c o x' y':=by
 obtain ⟨_,he,hlt,_⟩:=j0m hx hp;have hf:Foll (l++[e]):=by
  refine a0v.2 ⟨hy.foll,⟨by simp[he],by simp⟩,fun a ha b hb => ?_⟩;simp at hb;subst hb;rcases hy.last with ⟨k,_⟩ | k
  ·rw[k] at ha;cases ha
  ·have:=k.le a ha;rw[h.last] at hlt;omega
 obtain ⟨y',h1,h2⟩:=n1t hy hf hL;obtain ⟨x'',h3,h4⟩:=h.putE hx (s0z hy) h1;rw[hp] at h3;injection h3 with h3 _;subst h3;exact ⟨y',h2,h4⟩
theorem EvInv.write {N:Nat} {s:Sta} (h:EvInv N s) (hb:N<1000000) (l:List Lab) (e:Ev):EvInv (N+1) (if (d0v s l e).2=0 then (d0v s l e).1 else s):=by
 by_cases h0:(d0v s l e).2=0
 case neg=>rw[if_neg h0];exact h.mono (Nat.le_succ N)
 rw[if_pos h0];have hw:d0v s l e=((d0v s l e).1,0):=Prod.ext rfl h0;have hww:=q1a h.w l e;generalize (d0v s l e).1=t at *
 refine ⟨z0b hw,hww,?_⟩;obtain ⟨hg,i,x,b,y,hp,hput,rfl,_⟩:=o0y hw;obtain ⟨p1,_⟩:=m0u hg hp;intro z hz;rcases List.mem_or_eq_of_mem_set hz with k | k
 ·exact (h.ser z k).imp id fun ⟨y,l,h1,h2,h3,h4⟩=>⟨y,l,h1,h2,by omega,h4⟩
 ·subst k;right;cases hp with
  | found hf hx hl hlv ht =>
   obtain ⟨y0,l0,h1,_,h3,h4⟩:=(h.ser x (List.mem_of_getElem? hx)).resolve_left hlv.1;obtain ⟨y',q1,q2⟩:=p1e p1 h4 h1 (by omega) hput;exact ⟨y',_,q1,by simp,by simp;omega,q2⟩
  | room hf hs hr =>
   obtain ⟨y',q1,q2⟩:=p1e (o:=olds s.1 s.2.1) p1 (.refl _ _ _) (f1q hg.st.whole.1 hg.lab) (by simp) hput;exact ⟨y',_,q1,by simp,by simp,q2⟩
theorem EvInv.sweep {N:Nat} {s:Sta} (h:EvInv N s):EvInv N (w0e s):=⟨q1i h.ok,q1k h.w,h.ser⟩
theorem EvInv.clean {N:Nat} {s:Sta} (h:EvInv N s):EvInv N (w0u s):=by
 refine ⟨s1g h.ok,s1i h.w,fun z hz => ?_⟩;obtain ⟨x,hx,e⟩:=List.mem_map.1 hz;unfold j0v at e;split at e
 ·rename_i hl;obtain ⟨y,l,h1,h2,h3,h4⟩:=(h.ser x hx).resolve_left hl.1;rw[←e];exact .inr ⟨y,l,h1,h2,h3,h4.clean⟩
 ·exact .inl e.symm
abbrev Act:Type:=Int×((List Lab×Ev)×Int)
theorem small_l4 (n:Nat) (acts:List Act) (hL:acts.length≤9223372036854775807) (hw:∀x∈acts,x.2.1.1.length≤9223372036854775807):∀(rest pre:List Act) (f:Nat) (ix len:Int),acts=pre++rest→ix=pre.length→len=acts.length→rest.length<f →
  d0w (n+1) f (acts,len,ix,())=some (.inl ())∨d0w (n+1) f (acts,len,ix,())=some (.inr false):=by
 intro rest;induction rest with
 | nil =>
  intro pre f ix len ha hi hl hf;obtain ⟨f,rfl⟩:=g0g hf;subst hi;subst hl;rw[List.append_nil] at ha;subst ha;rw[j0c,decide_eq_false (by omega),tff];exact .inl rfl
 | cons x r ih =>
  intro pre f ix len ha hi hl hf;obtain ⟨f,rfl⟩:=g0g hf;have hlen:acts.length=pre.length+(r.length+1):=by rw[ha];simp
  subst hi;subst hl;have hat:at? acts (pre.length:Int)=some x:=by
   rw[ha];exact c0l (pre:=pre) (rest:=r) rfl rfl
  rw[j0c,decide_eq_true (by omega),tft,hat,obs];rcases z1x n x.2.1.1 (hw x (by rw[ha];simp)) with h | h
  ·rw[h];exact .inr rfl
  ·rw[h,obs,show (decide ((1:Int)=0))=false from rfl,tff,w64 (by omega) (by omega)];exact ih (pre++[x]) f ((pre.length:Int)+1) (acts.length:Int) (by rw[ha];simp) (by simp) rfl (by simp at hf;omega)
theorem t1m (n:Nat) (acts:List Act) (hL:acts.length≤9223372036854775807) (hw:∀x∈acts,x.2.1.1.length≤9223372036854775807):i0l (n+2) acts=some false∨(i0l (n+2) acts=some true∧acts.length≤40):=by
 rw[w0v,tfd];by_cases h:(40:Int)<((acts.length:Nat):Int)
 ·rw[if_pos h];exact .inl rfl
 rw[if_neg h];rcases small_l4 n acts hL hw acts [] a0b 0 _ rfl rfl rfl (by unfold a0b;omega) with e | e
 ·rw[e];exact .inr ⟨rfl,by omega⟩
 ·rw[e];exact .inl rfl
theorem fits11 (n:Nat) (c:Conf):p0b (n+8) c=some false∨(p0b (n+8) c=some true∧(k0x c).2=0):=by
 rw[e1i,y0z n,obs,tfd];by_cases h:(k0x c).2=0
 case neg=>rw[if_neg h];exact .inl rfl
 rw[if_pos h];simp only[tfd];by_cases h1:((((k0x c).1.2.2.2.length:Nat):Int))≤8
 case neg=>rw[if_neg h1];exact .inl rfl
 rw[if_pos h1];by_cases h2:c.1≤60
 case neg=>rw[if_neg h2];exact .inl rfl
 rw[if_pos h2];by_cases h3:c.2.2.1.1≤40
 case neg=>rw[if_neg h3];exact .inl rfl
 rw[if_pos h3];by_cases h4:c.2.2.1.2.1≤40
 case neg=>rw[if_neg h4];exact .inl rfl
 rw[if_pos h4];by_cases h5:c.2.2.1.2.2≤40
 ·rw[decide_eq_true h5];exact .inr ⟨rfl,h⟩
 ·rw[decide_eq_false h5];exact .inl rfl
theorem acts_wf {acts:List Act} (ha:Wf (.slice f0g) acts):acts.length≤9223372036854775807∧(∀x∈acts,x.2.1.1.length≤9223372036854775807)∧∀x∈acts,EvW x.2.1.2 :=
 ⟨Nat.le_trans ha.1 (by decide),fun x hx=>Nat.le_trans (ha.2 x hx).2.1.1.1 (by decide),fun x hx=>ev_wf (ha.2 x hx).2.1.2⟩
end Go.Proofs.YtojobamheigpbaaGreatDoor

namespace Go.Plim
open Go.Flat
set_option linter.unusedVariables false
theorem z1l (e:Ty) {key:List UInt8}:∀(xs:List (El .str×El e)) (i:Nat),(∀p∈xs,p.1≠key)→mget .str e xs key i=none:=by
 intro xs;induction xs with
 | nil=>intro i _;rfl
 | cons p r ih =>
  intro i h;obtain ⟨a,v⟩:=p;have hne:(key==a)=false:=by
   have:=h (a,v) (by simp);simp only[ne_eq] at this;cases hq:(key==a) with
   | false=>rfl
   | true=>exact absurd (eq_of_beq hq).symm this
  simp only[mget,x0h];rw[hne];exact ih (i+1) fun p hp=>h p (by simp[hp])
theorem mget_at (e:Ty) {key:List UInt8} {v:El e} {post:List (El .str×El e)}:∀(pre:List (El .str×El e)) (i:Nat),(∀p∈pre,p.1≠key)→mget .str e (pre++(key,v)::post) key i=some (i+pre.length,v):=by
 intro pre;induction pre with
 | nil=>intro i _;simp[mget,x0h]
 | cons p r ih =>
  intro i h;obtain ⟨a,w⟩:=p;have hne:(key==a)=false:=by
   have:=h (a,w) (by simp);simp only[ne_eq] at this;cases hq:(key==a) with
   | false=>rfl
   | true=>exact absurd (eq_of_beq hq).symm this
  simp only[List.cons_append,mget,x0h];rw[hne,cond_false,ih (i+1) fun p hp=>h p (by simp[hp])];simp;omega
theorem mput_new (e:Ty) {key:List UInt8} {v:El e}:∀(xs:List (El .str×El e)),(∀p∈xs,p.1≠key)→mput .str e xs key v=xs++[(key,v)]:=by
 intro xs;induction xs with
 | nil=>intro _;rfl
 | cons p r ih =>
  intro h;obtain ⟨a,w⟩:=p;have hne:(key==a)=false:=by
   have:=h (a,w) (by simp);simp only[ne_eq] at this;cases hq:(key==a) with
   | false=>rfl
   | true=>exact absurd (eq_of_beq hq).symm this
  simp only[mput,x0h];rw[hne,cond_false,ih fun p hp=>h p (by simp[hp])];rfl
theorem c2j (e:Ty) {L V:Type} {key:L→List UInt8} (hk:∀a b,key a=key b→a=b) (f:L×V→El e) {B:List (L×V)} {l:L} (hl:l ∉ B.map Prod.fst) (i:Nat) (w:El e) :
  mget .str e (B.map fun p=>(key p.1,f p)) (key l) i=none∧mput .str e (B.map fun p=>(key p.1,f p)) (key l) w=(B.map fun p=>(key p.1,f p))++[(key l,w)]:=by
 have h:∀p∈B.map (fun p=>((key p.1,f p):El .str×El e)),p.1≠key l:=by
  intro p hp e2;obtain ⟨q,hq,rfl⟩:=List.mem_map.1 hp;exact hl (List.mem_map.2 ⟨q,hq,hk _ _ e2⟩)
 exact ⟨z1l e _ i h,mput_new e _ h⟩
theorem bk_at (e:Ty) {L V:Type} {key:L→List UInt8} (hk:∀a b,key a=key b→a=b) (f:L×V→El e) {pre post:List (L×V)} {l:L} {v:V} (hl:l ∉ pre.map Prod.fst) (i:Nat) (w:El e) :
  mget .str e ((pre++(l,v)::post).map fun p=>(key p.1,f p)) (key l) i=some (i+pre.length,f (l,v)) ∧
  ((pre++(l,v)::post).map fun p=>((key p.1,f p):El .str×El e)).set pre.length (key l,w)=(pre.map fun p=>(key p.1,f p))++(key l,w)::post.map fun p=>(key p.1,f p):=by
 have h:∀p∈pre.map (fun p=>((key p.1,f p):El .str×El e)),p.1≠key l:=by
  intro p hp e2;obtain ⟨q,hq,rfl⟩:=List.mem_map.1 hp;exact hl (List.mem_map.2 ⟨q,hq,hk _ _ e2⟩)
 have hg:=mget_at e (v:=f (l,v)) (post:=post.map fun p=>((key p.1,f p):El .str×El e)) (pre.map fun p=>(key p.1,f p)) i h;refine ⟨by rw[List.map_append,List.map_cons,hg,List.length_map],?_⟩;rw[List.map_append,List.map_cons,List.set_append_right _ _ (by simp)];simp
theorem bk_set (e:Ty) {L V:Type} {key:L→List UInt8} (f:L×V→El e) {pre post:List (L×V)} {l:L} {v:V} (w:El e) :
  mset .str e ((pre++(l,v)::post).map fun p=>((key p.1,f p):El .str×El e)) pre.length w=(pre.map fun p=>(key p.1,f p))++(key l,w)::post.map fun p=>(key p.1,f p):=by
 rw[z1g];have h:((pre++(l,v)::post).map fun p=>((key p.1,f p):El .str×El e))[pre.length]? = some (key l,f (l,v)):=by
  rw[List.map_append,List.map_cons,List.getElem?_append_right (by simp)];simp
 rw[h];dsimp only;rw[List.map_append,List.map_cons,List.set_append_right _ _ (by simp)];simp
def uvB (n:Nat):List UInt8:=if n<128 then [UInt8.ofNat n] else UInt8.ofNat (n % 128+128)::uvB (n / 128)
termination_by n
decreasing_by omega
theorem s0b {n:Nat} (h:n<128):uvB n=[UInt8.ofNat n]:=by unfold uvB;rw[if_pos h]
theorem x0n {n:Nat} (h:¬n<128):uvB n=UInt8.ofNat (n % 128+128)::uvB (n / 128):=by rw[uvB];rw[if_neg h]
theorem q1d {a b:Nat} (ha:a<256) (hb:b<256) (h:UInt8.ofNat a=UInt8.ofNat b):a=b:=by
 have:=congrArg UInt8.toNat h;simp at this;omega
theorem w1t:∀(a b:Nat) (x y:List UInt8),uvB a++x=uvB b++y→a=b∧x=y:=by
 intro a;induction a using Nat.strongRecOn with
 | _ a ih =>
  intro b x y h;by_cases ha:a<128
  ·rw[s0b ha] at h;by_cases hb:b<128
   ·rw[s0b hb] at h;simp only[List.cons_append,List.nil_append,List.cons.injEq] at h;exact ⟨q1d (by omega) (by omega) h.1,h.2⟩
   ·rw[x0n hb] at h;simp only[List.cons_append,List.nil_append,List.cons.injEq] at h;have:=q1d (by omega) (by omega) h.1;omega
  ·rw[x0n ha] at h;by_cases hb:b<128
   ·rw[s0b hb] at h;simp only[List.cons_append,List.nil_append,List.cons.injEq] at h;have:=q1d (by omega) (by omega) h.1;omega
   ·rw[x0n hb] at h;simp only[List.cons_append,List.cons.injEq] at h;have h1:=q1d (by omega) (by omega) h.1;obtain ⟨h2,h3⟩:=ih (a / 128) (by omega) (b / 128) x y h.2;exact ⟨by omega,h3⟩
def txB (s:List UInt8):List UInt8:=uvB s.length++s
theorem w1z {s t x y:List UInt8} (h:txB s++x=txB t++y):s=t∧x=y:=by
 unfold txB at h;rw[List.append_assoc,List.append_assoc] at h;obtain ⟨h1,h2⟩:=w1t _ _ _ _ h;exact List.append_inj h2 h1
def labB (l:List (List UInt8×List UInt8)):List UInt8:=uvB l.length++l.flatMap fun x=>txB x.1++txB x.2
theorem g1d {l m:List (List UInt8×List UInt8)} (h:labB l=labB m):l=m:=by
 unfold labB at h;obtain ⟨h1,h2⟩:=w1t _ _ _ _ h;clear h;induction l generalizing m with
 | nil =>
  cases m with
  | nil=>rfl
  | cons=>cases h1
 | cons x l ih =>
  cases m with
  | nil=>cases h1
  | cons y m =>
   simp only[List.flatMap_cons,List.append_assoc] at h2;obtain ⟨k1,k2⟩:=w1z h2;obtain ⟨k3,k4⟩:=w1z k2;rw[ih (by simpa using h1) k4];congr 1;exact Prod.ext k1 k3
end Go.Plim

namespace Go.Plim
open Go.Flat
set_option linter.unusedVariables false
theorem y1s:∀c:Fin 256,orI .u8 (c.val:Int) 128=(c.val:Int) % 128+128:=by decide +kernel
theorem or128 (v:Int):orI .u8 (IntKind.wrap .u8 v) 128=v % 128+128:=by
 rw[y0k];have h1:=Int.emod_nonneg v (show (256:Int)≠0 by decide);have h2:=Int.emod_lt_of_pos v (show (0:Int)<256 by decide);have:=y1s ⟨(v % 256).toNat,by omega⟩;simp only at this;rw[show (((v % 256).toNat:Nat):Int)=v % 256 by omega] at this;rw[this];omega
theorem shr7 {v:Int} (h:0≤v):shrI .u64 v 7=v / 128:=by
 show v.fdiv (2^(7:Int).toNat)=_;rw[Int.fdiv_eq_ediv_of_nonneg _ (by decide)];rfl
def uvI (v:Int):List Int:=h0s (uvB v.toNat)
theorem i1r {v:Int} (h0:0≤v) (h:v<128):uvI v=[v]:=by
 unfold uvI;rw[s0b (by omega)];simp[h0s];omega
theorem e1e {v:Int} (h0:0≤v) (h:¬v<128):uvI v=(v % 128+128)::uvI (v / 128):=by
 unfold uvI;rw[x0n (by omega)];have e:(v / 128).toNat=v.toNat / 128:=by omega
 rw[e];simp[h0s];omega
end Go.Plim

namespace Go.Proofs.YtojobamheigpbaaGreatDoor
open Go.Flat Go.Plim
set_option linter.unusedVariables false
set_option linter.unusedSimpArgs false
theorem w0p {u x:Sta} {l:List Lab} {e:Ev} (h:d0v u l e=(x,0)):∃i y,h0x x l=some i∧x.2.2.2[i]? = some y∧y.2.1=e.1:=by
 obtain ⟨hg,i,z,b,y,hp,hput,rfl,_⟩:=o0y h;obtain ⟨p1,p2,p3,p4⟩:=m0u hg hp;obtain ⟨q1,q2,q3,q4,q5⟩:=j0m p1 hput;have hy:(setS u i y).2.2.2[i]? = some y:=by rw[k0b,if_pos rfl,if_pos p3]
 have hne:y≠ser0:=fun k=>by
  have e1:y.1=[]:=congrArg Prod.fst k;have:=q1.lab.n0;rw[e1] at this;simp at this
 have hl:LvX (setS u i y) y:=z1d (s:=u) hg.st hne (by rw[q4];exact hg.lo) (by rw[q4];exact hg.ev.t1);refine ⟨i,y,d0k.2 ⟨y,hy,q5.trans p2,hl,fun j hj w hw hn => ?_⟩,hy,q4⟩;rw[k0b,if_neg (by omega)] at hw;cases hp with
 | found hf hx hl hlv ht =>
  obtain ⟨_,_,_,_,first⟩:=d0k.1 hf;exact first j hj w hw hn
 | room hf hs hr=>exact f0u.1 hf w (List.mem_of_getElem? hw) hn
theorem l1f (x:Sta) (now:Int) (l:List Lab):h0x (u0l x now).1 l=h0x x l:=by
 unfold u0l;split<;>rfl
theorem o1e (x:Sta) (now:Int):(u0l x now).1.2.2.2=x.2.2.2:=by
 unfold u0l;split<;>rfl
abbrev Bk:Type:=List (List Lab×List Ev)
def putB:Bk→List Lab→Ev→Bk
 | [],l,e=>[(l,[e])]
 | (m,es)::r,l,e=>if m=l then (m,es++[e])::r else (m,es)::putB r l e
def evsB (B:Bk) (l:List Lab):List Ev:=match B.find? (fun p=>decide (p.1=l)) with | some p=>p.2 | none=>[]
def keysB (B:Bk):List (List Lab):=B.map Prod.fst
def sumB (B:Bk):Nat:=(B.map fun p=>p.2.length).sum
theorem y1i (l:List Lab) (e:Ev):∀B:Bk,keysB (putB B l e)=if l∈keysB B then keysB B else keysB B++[l]:=by
 intro B;induction B with
 | nil=>rfl
 | cons p r ih =>
  obtain ⟨m,es⟩:=p;unfold keysB at *
  simp only[putB];by_cases h:m=l
  ·subst h;simp
  ·rw[if_neg h];simp only[List.map_cons,ih,List.mem_cons];by_cases k:l∈r.map Prod.fst
   ·rw[if_pos k,if_pos (.inr k)]
   ·rw[if_neg k,if_neg (by rintro (q | q);exact h q.symm;exact k q)];rfl
theorem f1j (l:List Lab) (e:Ev):∀B:Bk,sumB (putB B l e)=sumB B+1:=by
 intro B;induction B with
 | nil=>rfl
 | cons p r ih =>
  obtain ⟨m,es⟩:=p;unfold sumB at *
  simp only[putB];by_cases h:m=l
  ·rw[if_pos h];simp;omega
  ·rw[if_neg h];simp only[List.map_cons,List.sum_cons,ih];omega
theorem f1k {l:List Lab} {e:Ev}:∀ {B:Bk},(keysB B).Nodup→∀ {p:List Lab×List Ev},p∈putB B l e→(p.1≠l∧p∈B)∨(∃es,p=(l,es++[e])∧((l,es)∈B∨(es=[]∧l ∉ keysB B))):=by
 intro B;induction B with
 | nil=>intro _ p h;simp[putB] at h;exact .inr ⟨[],by simp[h],.inr ⟨rfl,by simp[keysB]⟩⟩
 | cons q r ih =>
  intro hn p h;obtain ⟨m,es⟩:=q;have hn':m ∉ keysB r∧(keysB r).Nodup:=by unfold keysB at hn ⊢;simpa using hn
  simp only[putB] at h;by_cases hm:m=l
  ·rw[if_pos hm] at h;subst hm;rcases List.mem_cons.1 h with h | h
   ·exact .inr ⟨es,h,.inl (by simp)⟩
   ·refine .inl ⟨fun k=>hn'.1 ?_,by simp[h]⟩;rw[←k];exact List.mem_map.2 ⟨p,h,rfl⟩
  ·rw[if_neg hm] at h;rcases List.mem_cons.1 h with h | h
   ·subst h;exact .inl ⟨hm,by simp⟩
   ·rcases ih hn'.2 h with ⟨k1,k2⟩ | ⟨es',k1,k2⟩
    ·exact .inl ⟨k1,by simp[k2]⟩
    ·refine .inr ⟨es',k1,?_⟩;rcases k2 with k2 | ⟨k2,k3⟩
     ·exact .inl (by simp[k2])
     ·exact .inr ⟨k2,by unfold keysB at k3 ⊢;simp only[List.map_cons,List.mem_cons,not_or];exact ⟨fun e=>hm e.symm,k3⟩⟩
theorem u1l {l:List Lab} {e:Ev}:∀ {B:Bk} {p:List Lab×List Ev},p∈B→p.1≠l→p∈putB B l e:=by
 intro B;induction B with
 | nil=>intro p h;cases h
 | cons q r ih =>
  intro p h hp;obtain ⟨m,es⟩:=q;simp only[putB];by_cases hm:m=l
  ·rw[if_pos hm];rcases List.mem_cons.1 h with h | h
   ·subst h;exact absurd hm hp
   ·simp[h]
  ·rw[if_neg hm];rcases List.mem_cons.1 h with h | h
   ·subst h;simp
   ·simp[ih h hp]
theorem q1y {l:List Lab} {e:Ev}:∀ {B:Bk} {es:List Ev},(keysB B).Nodup→(l,es)∈B→(l,es++[e])∈putB B l e:=by
 intro B;induction B with
 | nil=>intro es _ h;cases h
 | cons q r ih =>
  intro es hn h;obtain ⟨m,es'⟩:=q;have hn':m ∉ keysB r∧(keysB r).Nodup:=by unfold keysB at hn ⊢;simpa using hn
  simp only[putB];by_cases hm:m=l
  ·rw[if_pos hm];subst hm;rcases List.mem_cons.1 h with h | h
   ·simp only[Prod.mk.injEq] at h;rw[h.2];simp
   ·exact absurd (List.mem_map.2 ⟨_,h,rfl⟩) hn'.1
  ·rw[if_neg hm];rcases List.mem_cons.1 h with h | h
   ·simp only[Prod.mk.injEq] at h;exact absurd h.1.symm hm
   ·simp[ih hn'.2 h]
theorem putB_new {l:List Lab} {e:Ev}:∀ {B:Bk},l ∉ keysB B→(l,[e])∈putB B l e:=by
 intro B;induction B with
 | nil=>intro _;simp[putB]
 | cons q r ih =>
  intro h;obtain ⟨m,es⟩:=q;have h':l≠m∧l ∉ keysB r:=by unfold keysB at h ⊢;simpa using h
  simp only[putB];rw[if_neg (fun k=>h'.1 k.symm)];simp[ih h'.2]
theorem y0b {B:Bk} (hn:(keysB B).Nodup) {l:List Lab} {es:List Ev} (h:(l,es)∈B):evsB B l=es:=by
 unfold evsB;induction B with
 | nil=>cases h
 | cons q r ih =>
  obtain ⟨m,es'⟩:=q;have hn':m ∉ keysB r∧(keysB r).Nodup:=by unfold keysB at hn ⊢;simpa using hn
  by_cases hm:m=l
  ·subst hm;rcases List.mem_cons.1 h with h | h
   ·simp only[Prod.mk.injEq] at h;simp[h.2]
   ·exact absurd (List.mem_map.2 ⟨_,h,rfl⟩) hn'.1
  ·rcases List.mem_cons.1 h with h | h
   ·simp only[Prod.mk.injEq] at h;exact absurd h.1.symm hm
   ·rw[List.find?_cons_of_neg (by simpa using hm)];exact ih hn'.2 h
theorem g1r (B:Bk) (l:List Lab):(evsB B l=[]∧l ∉ keysB B)∨(l,evsB B l)∈B:=by
 unfold evsB;cases hf:B.find? (fun p=>decide (p.1=l)) with
 | none =>
  left;refine ⟨rfl,fun h => ?_⟩;obtain ⟨p,hp,e⟩:=List.mem_map.1 h;have:=List.find?_eq_none.1 hf p hp;simp[e] at this
 | some p =>
  right;have h1:=List.mem_of_find?_eq_some hf;have h2:=List.find?_some hf;simp at h2;rw[←h2];exact h1
def Gon (s:Sta) (es:List Ev):Prop:=∀e∈es,l0a s.1 e.1 s.2.1=true
theorem a1g {t u now w m:Int} (h0:0≤t) (htu:t≤u) (h:o0o u now w m=true):o0o t now w m=true:=by
 unfold o0o at *
 have h:=of_decide_eq_true h;obtain ⟨⟨h1,h2,h3,h4⟩,h5,h6⟩:=h;have:t / w≤u / w:=Int.ediv_le_ediv (by omega) htu;exact decide_eq_true ⟨⟨h0,by omega,h3,h4⟩,h5,by omega⟩
theorem b2s {c:Conf} {t u now:Int} (h0:0≤t) (htu:t≤u) (h:l0a c u now=true):l0a c t now=true:=by
 unfold l0a at *
 simp only[Bool.and_eq_true] at h ⊢;exact ⟨h.1,a1g h0 htu h.2.1,a1g h0 htu h.2.2.1,a1g h0 htu h.2.2.2⟩
theorem dead_lt {s:Sta} (hs:StaOk s) {t:Int} (h:l0a s.1 t s.2.1=true):t<mk s:=by
 unfold l0a at h;simp only[Bool.and_eq_true] at h;obtain ⟨_,h,_⟩:=h;unfold o0o at h;obtain ⟨⟨h1,h2,h3,h4⟩,h5,h6⟩:=of_decide_eq_true h;have hr:=hs.whole.1.rng;have ht:=hs.clock.1;unfold oldV at h6;rw[if_pos ⟨⟨ht.1,ht.2,h3,h4⟩,hr.n0.1,hr.n0.2⟩] at h6;have hd:=Int.ediv_nonneg h1 (show (0:Int)≤s.1.2.1.1 by omega);have hlt:t / s.1.2.1.1<s.2.1 / s.1.2.1.1:=by
  have:=hr.n0.1;simp only at h6;split at h6<;>omega
 unfold mk;exact Int.lt_of_lt_of_le (Int.lt_mul_of_ediv_lt (by omega) (show t / s.1.2.1.1<t / s.1.2.1.1+1 by omega)) (Int.mul_le_mul_of_nonneg_right (by omega) (by omega))
theorem Gon.mono {s t:Sta} {es:List Ev} (hs:StaOk s) (h:Gon s es) (hc:t.1=s.1) (h1:s.2.1≤t.2.1) (h2:o0t t.2.1):Gon t es:=fun e he=>by
 rw[hc];exact l1l hs.clock.1 h2 h1 (h e he)
structure BkInv (N:Nat) (s:Sta) (B:Bk):Prop where
 ok:StaOk s
 w:StaW s
 nd:(keysB B).Nodup
 bk:∀p∈B,LabOk p.1∧Foll p.2∧p.2≠[]
 sum:sumB B≤N
 ser:∀(i:Nat) x,s.2.2.2[i]? = some x→x=ser0∨∃y l,SerInv s.1 y l∧l≠[]∧l.length≤N∧Fad s.1 (olds s.1 s.2.1) x y∧(LvX s x→∃old,(x.1,old++l)∈B∧Gon s old)
 gone:∀p∈B,h0x s p.1=none→Gon s p.2
theorem BkInv.ev {N:Nat} {s:Sta} {B:Bk} (h:BkInv N s B):EvInv N s:=⟨h.ok,h.w,fun x hx=>by
 obtain ⟨i,hi⟩:=List.getElem?_of_mem hx
 exact (h.ser i x hi).imp id fun ⟨y,l,h1,h2,h3,h4,_⟩=>⟨y,l,h1,h2,h3,h4⟩⟩
theorem BkInv.mono {N M:Nat} {s:Sta} {B:Bk} (h:BkInv N s B) (hm:N≤M):BkInv M s B :=
 ⟨h.ok,h.w,h.nd,h.bk,Nat.le_trans h.sum hm,fun i x hx=>(h.ser i x hx).imp id fun ⟨y,l,h1,h2,h3,h4⟩=>⟨y,l,h1,h2,Nat.le_trans h3 hm,h4⟩,h.gone⟩
theorem BkInv.new {c:Conf} (h:(k0x c).2=0):BkInv 0 (k0x c).1 []:=by
 have k:=a2e h;refine ⟨k.ok,k.w,List.nodup_nil,(fun p hp=>by cases hp),Nat.le_refl _,fun i x hx => ?_,(fun p hp=>by cases hp)⟩;rcases k.ser x (List.mem_of_getElem? hx) with q | ⟨l,q1,q2,q3⟩
 ·exact .inl q
 ·exact absurd (List.length_eq_zero_iff.1 (by omega)) q2
theorem BkInv.tick {N:Nat} {s:Sta} {B:Bk} (h:BkInv N s B) (now:Int):BkInv N (u0l s now).1 B:=by
 have hf:=l1f s now;unfold u0l at hf ⊢;by_cases hm:Moves s now
 ·rw[if_pos hm] at hf ⊢;obtain ⟨m1,m2,m3⟩:=k1r h.ok (Int.le_of_lt hm.2.1) hm.2.2;have ht:o0t now:=⟨by have:=h.ok.clock.1.1;have:=hm.2.1;omega,hm.2.2⟩;have hg:∀es,Gon s es→Gon (t1f s now) es:=fun es k=>k.mono h.ok rfl (Int.le_of_lt hm.2.1) ht
  exact ⟨x1f hm,x1g h.w now,h.nd,h.bk,h.sum,fun i x hx=>(h.ser i x hx).imp id fun ⟨y,l,h1,h2,h3,h4,h5⟩=>⟨y,l,h1,h2,h3,h4.mono m1 m2 m3,fun hl=>by
   obtain ⟨old,k1,k2⟩:=h5 hl
   exact ⟨old,k1,hg _ k2⟩⟩,fun p hp hn=>hg _ (h.gone p hp (by rw[←hf];exact hn))⟩
 ·rw[if_neg hm];exact h
theorem BkInv.one {N:Nat} {s:Sta} {B:Bk} (h:BkInv N s B) {i:Nat} {x:Ser} (hx:s.2.2.2[i]? = some x) (hl:LvX s x):∃y l old,SerInv s.1 y l∧l≠[]∧l.length≤N∧Fad s.1 (olds s.1 s.2.1) x y∧(x.1,old++l)∈B∧Gon s old:=by
 obtain ⟨y,l,h1,h2,h3,h4,h5⟩:=(h.ser i x hx).resolve_left hl.1;obtain ⟨old,k1,k2⟩:=h5 hl;exact ⟨y,l,old,h1,h2,h3,h4,k1,k2⟩
theorem BkInv.same {N:Nat} {s:Sta} {B:Bk} (h:BkInv N s B) {l:List Lab} {es es':List Ev} (h1:(l,es)∈B) (h2:(l,es')∈B):es=es':=by
 rw[←y0b h.nd h1,←y0b h.nd h2]
theorem inv_le {c:Conf} {y:Ser} {l:List Ev} (h:SerInv c y l):∀e∈l,e.1≤y.2.1:=by
 intro e he;rcases h.last with ⟨k,_⟩ | k
 ·rw[k] at he;cases he
 ·exact k.le e he
theorem BkInv.sweep {N:Nat} {s:Sta} {B:Bk} (h:BkInv N s B):BkInv N (w0e s) B:=by
 refine ⟨q1i h.ok,q1k h.w,h.nd,h.bk,h.sum,fun i x hx=>(h.ser i x hx).imp id fun ⟨y,l,h1,h2,h3,h4,h5⟩=>⟨y,l,h1,h2,h3,h4,fun hl=>h5 (e1p h.ok hl)⟩,fun p hp hn => ?_⟩;cases hf:h0x s p.1 with
 | none=>exact h.gone p hp hf
 | some i =>
  obtain ⟨x,hx,hxl,hlv,_⟩:=d0k.1 hf;obtain ⟨y,l,old,h1,h2,h3,h4,h5,h6⟩:=h.one hx hlv;have hd:l0a s.1 x.2.1 s.2.1=true:=by
   cases hd:l0a s.1 x.2.1 s.2.1 with
   | true=>rfl
   | false=>exact absurd ⟨hxl,(q1j h.ok).2 ⟨hlv.1,hd⟩⟩ (f0u.1 hn x (List.mem_of_getElem? hx))
  have hp2:p.2=old++l:=h.same (l:=x.1) (by rw[hxl];exact hp) h5;rw[hp2];intro e he;rcases List.mem_append.1 he with he | he
  ·exact h6 e he
  ·exact b2s (h1.foll.ok e he).t0 (by rw[h4.last];exact inv_le h1 e he) hd
theorem BkInv.clean {N:Nat} {s:Sta} {B:Bk} (h:BkInv N s B):BkInv N (w0u s) B:=by
 refine ⟨s1g h.ok,s1i h.w,h.nd,h.bk,h.sum,fun i z hz => ?_,fun p hp hn=>h.gone p hp ?_⟩
 ·have hz:(s.2.2.2.map (j0v s))[i]? = some z:=hz;rw[List.getElem?_map] at hz;cases hx:s.2.2.2[i]? with
  | none=>rw[hx] at hz;cases hz
  | some x =>
   rw[hx] at hz;simp only[Option.map_some,Option.some.injEq] at hz;unfold j0v at hz;split at hz
   ·rename_i hl;obtain ⟨y,l,old,h1,h2,h3,h4,h5,h6⟩:=h.one hx hl;rw[←hz];exact .inr ⟨y,l,h1,h2,h3,h4.clean,fun _=>⟨old,h5,h6⟩⟩
   ·exact .inl hz.symm
 ·rw[f0u] at hn ⊢;rintro x hx ⟨k1,k2⟩;refine hn (j0v s x) (List.mem_map.2 ⟨x,hx,rfl⟩) ⟨?_,(l1o h.ok hx).2 k2⟩;unfold j0v;rw[if_pos k2];exact k1
theorem BkInv.write {N:Nat} {s t:Sta} {B:Bk} (h:BkInv N s B) (hb:N<1000000) {l:List Lab} {e:Ev} (hw:d0v s l e=(t,0)):BkInv (N+1) t (putB B l e)∧LabOk l∧EvOk e∧∀a∈evsB B l,a.1<e.1:=by
 have hww:=q1a h.w l e;rw[hw] at hww;obtain ⟨i0,y0,hfw,_,_⟩:=w0p hw;obtain ⟨hg,i,x,b,z,hp,hput,rfl,_⟩:=o0y hw;obtain ⟨p1,p2,p3,p4⟩:=m0u hg hp;obtain ⟨q1,q2,q3,q4,q5⟩:=j0m p1 hput;have hkn:(keysB (putB B l e)).Nodup:=by
  rw[y1i];by_cases k:l∈keysB B
  ·rw[if_pos k];exact h.nd
  ·rw[if_neg k,List.nodup_append];exact ⟨h.nd,by simp,fun a ha b hb2 e=>k (by simp at hb2;rw[←hb2,←e];exact ha)⟩
 have core:∃y l0 old,SerInv s.1 y l0∧l0.length≤N∧Fad s.1 (olds s.1 s.2.1) x y∧(l,(old++l0)++[e])∈putB B l e∧Gon s old∧evsB B l=old++l0∧∀a∈old++l0,a.1<e.1:=by
  cases hp with
  | found hf hx hl hlv ht =>
   obtain ⟨y,l0,old,h1,h2,h3,h4,h5,h6⟩:=h.one hx hlv;rw[hl] at h5;have hfo:=(h.bk _ h5).2.1;have hle:∀a∈l0,a.1<e.1:=fun a ha=>by have:=inv_le h1 a ha;rw[←h4.last] at this;omega
   refine ⟨y,l0,old,h1,h3,h4,q1y h.nd h5,h6,y0b h.nd h5,fun a ha => ?_⟩;rcases List.mem_append.1 ha with ha | ha
   ·obtain ⟨a0,ha0⟩:=List.exists_mem_of_ne_nil l0 h2;have:=(a0v.1 hfo).2.2 a ha a0 ha0;have:=hle a0 ha0;omega
   ·exact hle a ha
  | room hf hs hr =>
   refine ⟨_,[],evsB B l,f1q hg.st.whole.1 hg.lab,Nat.zero_le _,.refl _ _ _,?_,?_,by simp,fun a ha => ?_⟩
   ·rw[List.append_nil];rcases g1r B l with ⟨k1,k2⟩ | k
    ·rw[k1];exact putB_new k2
    ·exact q1y h.nd k
   ·rcases g1r B l with ⟨k1,k2⟩ | k
    ·rw[k1];intro a ha;cases ha
    ·exact h.gone _ k hf
   ·rw[List.append_nil] at ha;rcases g1r B l with ⟨k1,k2⟩ | k
    ·rw[k1] at ha;cases ha
    ·have:=dead_lt h.ok (h.gone _ k hf a ha);have:=hg.lo;omega
 obtain ⟨y,l0,old,c1,c2,c3,c4,c5,c6,c7⟩:=core;obtain ⟨y',r1,r2⟩:=p1e p1 c3 c1 (by omega) hput;refine ⟨⟨z0b hw,hww,hkn,fun p hp' => ?_,by rw[f1j];have:=h.sum;omega,fun j u hu => ?_,fun p hp' hn => ?_⟩,hg.lab,hg.ev,fun a ha=>c7 a (by rw[←c6];exact ha)⟩
 ·rcases f1k h.nd hp' with ⟨_,k⟩ | ⟨es,rfl,k⟩
  ·exact h.bk p k
  ·have hes:es=old++l0:=by
    rcases k with k | ⟨k1,k2⟩
    ·rw[←c6,y0b h.nd k]
    ·rw[←c6,k1];rcases g1r B l with ⟨k3,_⟩ | k3
     ·exact k3.symm
     ·exact absurd (List.mem_map.2 ⟨_,k3,rfl⟩) k2
   have hfo:Foll es:=by
    rcases k with k | ⟨k1,_⟩
    ·exact (h.bk _ k).2.1
    ·rw[k1];exact Foll.nil
   exact ⟨hg.lab,a0v.2 ⟨hfo,⟨by simp[hg.ev],by simp⟩,fun a ha b hb=>by simp at hb;subst hb;exact c7 a (hes ▸ ha)⟩,by simp⟩
 ·rw[k0b] at hu;by_cases hij:i=j
  ·rw[if_pos hij,if_pos p3] at hu;injection hu with hu;subst hu;right;refine ⟨y',l0++[e],r1,by simp,by simp;omega,r2,fun _=>⟨old,?_,c5⟩⟩;rw[q5,p2,←List.append_assoc];exact c4
  ·rw[if_neg hij] at hu;refine (h.ser j u hu).imp id fun ⟨y2,l2,h1,h2,h3,h4,h5⟩=>⟨y2,l2,h1,h2,by omega,h4,fun hl => ?_⟩
   obtain ⟨old2,k1,k2⟩:=h5 hl;refine ⟨old2,u1l k1 (fun hul => ?_),k2⟩;have hul:u.1=l:=hul;have hfu:=a1j h.ok hu hl;rw[hul] at hfu;cases hp with
   | found hf hx hl' hlv ht=>rw[hf] at hfu;injection hfu with hfu;exact hij hfu
   | room hf hs hr=>rw[hf] at hfu;cases hfu
 ·rcases f1k h.nd hp' with ⟨k1,k⟩ | ⟨es,rfl,k⟩
  ·refine h.gone p k ?_;rw[f0u] at hn ⊢;rintro u hu ⟨k2,k3⟩;obtain ⟨j,hj⟩:=List.getElem?_of_mem hu;have hij:i≠j:=by
    rintro rfl;cases hp with
    | found hf hx hl' hlv ht=>rw[hx] at hj;injection hj with hj;subst hj;exact k1 (k2.symm.trans hl')
    | room hf hs hr =>
     obtain ⟨x',hx',hx'',_⟩:=l0k.1 hr;rw[hx'] at hj;injection hj with hj;subst hj;exact hx'' k3
   refine hn u (List.mem_of_getElem? (i:=j) ?_) ⟨k2,k3⟩;rw[k0b,if_neg hij];exact hj
  ·rw[hfw] at hn;cases hn
end Go.Proofs.YtojobamheigpbaaGreatDoor

namespace Go.Plim
open Go.Flat Go.Proofs.YtojobamheigpbaaGreatDoor
set_option linter.unusedVariables false
set_option linter.unusedSimpArgs false
abbrev Cnt:=Int×(Int×(Int×(Int×(Int×(Int×(Int×Int))))))
abbrev inc1 (x:Int):Int:=IntKind.wrap .i64 (x+1)
noncomputable def cnt1 (s:Sta) (t:Cnt) (x:Ser):Cnt :=
 if x=ser0 then (t.1,(t.2.1,(inc1 t.2.2.1,t.2.2.2)))
 else if LvX s x then
  (inc1 t.1,(t.2.1,(t.2.2.1,(IntKind.wrap .i64 (t.2.2.2.1+(((List.length x.2.2.1.2.2):Nat):Int)),(IntKind.wrap .i64 (t.2.2.2.2.1+x.2.2.1.1),
   (IntKind.wrap .i64 (t.2.2.2.2.2.1+(((List.length (tall x.2.2.2.1.1)):Nat):Int)),(IntKind.wrap .i64 (t.2.2.2.2.2.2.1+(((List.length (tall x.2.2.2.1.2.1)):Nat):Int)),
    IntKind.wrap .i64 (t.2.2.2.2.2.2.2+(((List.length (tall x.2.2.2.1.2.2)):Nat):Int)))))))))
 else (t.1,(inc1 t.2.1,t.2.2))
def cnt0:Cnt:=(0,(0,(0,(0,(0,(0,(0,0)))))))
noncomputable def cntV (s:Sta):Cnt:=s.2.2.2.foldl (cnt1 s) cnt0
noncomputable def goes (s:Sta) (x:Ser):Bool:=decide (LvX s x)&&l0a s.1 x.2.1 s.2.1
noncomputable def due1 (s:Sta) (d:Int) (x:Ser):Int:=if goes s x=true then inc1 d else d
theorem cnt_num (s:Sta):∀(l:List Ser) (t:Cnt),(0≤t.1∧0≤t.2.1∧0≤t.2.2.1)→t.1+l.length≤1000000→t.2.1+l.length≤1000000→t.2.2.1+l.length≤1000000 →
  (l.foldl (cnt1 s) t).1=t.1+((l.countP fun x=>decide (LvX s x):Nat):Int)∧(l.foldl (cnt1 s) t).2.1=t.2.1+((l.countP fun x=>decide (x≠ser0∧¬LvX s x):Nat):Int) ∧
   (l.foldl (cnt1 s) t).2.2.1=t.2.2.1+((l.countP fun x=>decide (x=ser0):Nat):Int):=by
 intro l;induction l with
 | nil=>intro t _ _ _ _;simp
 | cons x l ih =>
  intro t h0 h1 h2 h3;simp only[List.length_cons] at h1 h2 h3;simp only[List.foldl_cons,List.countP_cons];have hw:∀a:Int,0≤a→a≤1000000→inc1 a=a+1:=fun a ha hb=>w64 (by omega) (by omega)
  by_cases he:x=ser0
  ·have hl:¬LvX s x:=fun k=>k.1 he
   have e:cnt1 s t x=(t.1,(t.2.1,(inc1 t.2.2.1,t.2.2.2))):=by unfold cnt1;rw[if_pos he]
   have e3:=hw t.2.2.1 h0.2.2 (by omega);obtain ⟨k1,k2,k3⟩:=ih (cnt1 s t x) (by rw[e];simp only[e3];omega) (by rw[e];simp only;omega) (by rw[e];simp only;omega) (by rw[e];simp only[e3];omega);rw[k1,k2,k3,e];simp only[e3];simp[he,show ¬LvX s ser0 from he ▸ hl];omega
  ·by_cases hl:LvX s x
   ·have e:cnt1 s t x=(inc1 t.1,(t.2.1,(t.2.2.1,(cnt1 s t x).2.2.2))):=by unfold cnt1;rw[if_neg he,if_pos hl]
    have e3:=hw t.1 h0.1 (by omega);obtain ⟨k1,k2,k3⟩:=ih (cnt1 s t x) (by rw[e];simp only[e3];omega) (by rw[e];simp only[e3];omega) (by rw[e];simp only;omega) (by rw[e];simp only;omega);rw[k1,k2,k3,e];simp only[e3];simp[he,hl];omega
   ·have e:cnt1 s t x=(t.1,(inc1 t.2.1,t.2.2)):=by unfold cnt1;rw[if_neg he,if_neg hl]
    have e3:=hw t.2.1 h0.2.1 (by omega);obtain ⟨k1,k2,k3⟩:=ih (cnt1 s t x) (by rw[e];simp only[e3];omega) (by rw[e];simp only;omega) (by rw[e];simp only[e3];omega) (by rw[e];simp only;omega);rw[k1,k2,k3,e];simp only[e3];simp[he,hl];omega
theorem due_num (s:Sta):∀(l:List Ser) (d:Int),0≤d→d+l.length≤1000000→l.foldl (due1 s) d=d+((l.countP (goes s):Nat):Int):=by
 intro l;induction l with
 | nil=>intro d _ _;simp
 | cons x l ih =>
  intro d h0 h1;simp only[List.length_cons] at h1;simp only[List.foldl_cons,List.countP_cons];unfold due1;split
  ·rename_i h;have e:inc1 d=d+1:=w64 (by omega) (by omega);have:=ih (inc1 d) (by omega) (by omega);unfold due1 at this;rw[this,e];omega
  ·have:=ih d h0 (by omega);unfold due1 at this;rw[this];simp
theorem w1a {α:Type} (p q r:α→Bool):∀(l:List α),(∀x∈l,(p x=true∨q x=true∨r x=true)∧¬(p x=true∧q x=true)∧¬(p x=true∧r x=true)∧¬(q x=true∧r x=true))→l.countP p+l.countP q+l.countP r=l.length:=by
 intro l;induction l with
 | nil=>intro _;rfl
 | cons x l ih =>
  intro h;have h1:=h x (by simp);have h2:=ih fun y hy=>h y (by simp[hy])
  simp only[List.countP_cons,List.length_cons];cases hp:p x<;>cases hq:q x<;>cases hr:r x<;>simp_all<;>omega
noncomputable def x0c (s:Sta):Nat:=s.2.2.2.countP fun x=>decide (LvX s x)
noncomputable def z1f (s:Sta):Nat:=s.2.2.2.countP fun x=>decide (x≠ser0∧¬LvX s x)
noncomputable def z1e (s:Sta):Nat:=s.2.2.2.countP fun x=>decide (x=ser0)
noncomputable def nDue (s:Sta):Nat:=s.2.2.2.countP (goes s)
theorem n_all (s:Sta):x0c s+z1f s+z1e s=s.2.2.2.length:=by
 refine w1a _ _ _ _ fun x _ => ?_
 by_cases he:x=ser0
 ·have hl:¬LvX s x:=fun k=>k.1 he
  simp[he,show ¬LvX s ser0 from he ▸ hl]
 ·by_cases hl:LvX s x<;>simp[he,hl]
end Go.Plim

namespace Go.Proofs.YtojobamheigpbaaGreatDoor
open Go.Flat Go.Plim
set_option linter.unusedVariables false
set_option linter.unusedSimpArgs false
def evN (x:Ser):Int:=x.2.2.1.1+((x.2.2.1.2.2.length:Nat):Int)
theorem evN_zero:evN ser0=0:=rfl
theorem putE_evN {c:Conf} {x z:Ser} {e:Ev} (hx:SerOk c x) (hp:putE c x e=(z,0)):evN z=evN x+1:=by
 have hroom:=hx.fold.cok.rng.raw.1;unfold putE at hp;by_cases h1:SerOk c x∧EvOk e
 case neg=>rw[if_neg h1] at hp;cases hp
 rw[if_pos h1] at hp;by_cases h2:e.1≤x.2.1
 ·rw[if_pos h2] at hp;cases hp
 rw[if_neg h2] at hp;by_cases h3:(turned c x (e.1 / c.2.1.1)).2≠0
 ·rw[if_pos h3] at hp;exact absurd (congrArg Prod.snd hp) h3
 rw[if_neg h3] at hp;by_cases h4:(g0d x.2.2.1 c.1 e).2≠0
 ·rw[if_pos h4] at hp;exact absurd (congrArg Prod.snd hp) h4
 rw[if_neg h4] at hp;by_cases h5:(mrgE (turned c x (e.1 / c.2.1.1)).1.2.2 (b0r e)).2≠0
 ·rw[if_pos h5] at hp;exact absurd (congrArg Prod.snd hp) h5
 rw[if_neg h5] at hp;have hp:=(Prod.ext_iff.1 hp).1;have hp:_=z:=hp;have hr:z.2.2.1=(g0d x.2.2.1 c.1 e).1:=by rw[←hp]
 have h4:(g0d x.2.2.1 c.1 e).2=0:=by
  rcases Int.lt_trichotomy (g0d x.2.2.1 c.1 e).2 0 with q | q | q
  ·exact absurd (Int.ne_of_lt q) h4
  ·exact q
  ·exact absurd (Int.ne_of_gt q) h4
 unfold g0d at hr h4;split at h4
 case isFalse=>cases h4
 rename_i k1;rw[if_pos k1] at hr;split at h4
 case isFalse=>cases h4
 rename_i k2;rw[if_pos k2] at hr;split at h4
 ·cases h4
 rename_i k3;rw[if_neg k3] at hr;unfold evN;rw[hr];unfold h0w;split
 ·simp;omega
 ·rename_i hlen;have hpos:1≤x.2.2.1.2.2.length:=by omega
  simp only[List.length_append,List.length_drop,List.length_cons,List.length_nil];omega
theorem sum_set:∀(l:List Ser) (i:Nat) (x z:Ser),l[i]? = some x→((l.set i z).map evN).sum=(l.map evN).sum-evN x+evN z:=by
 intro l;induction l with
 | nil=>intro i x z h;simp at h
 | cons y r ih =>
  intro i x z h;cases i with
  | zero=>simp at h;subst h;simp;omega
  | succ i =>
   have:=ih i x z (by simpa using h);simp only[List.set_cons_succ,List.map_cons,List.sum_cons,this];omega
structure CtInv (N:Nat) (s:Sta) (B:Bk):Prop where
 bk:BkInv N s B
 sw:s.2.2.1 = -1
 liv:∀p∈B,∃i,h0x s p.1=some i
 tot:(s.2.2.2.map evN).sum=((sumB B:Nat):Int)
theorem CtInv.new {c:Conf} (h:(k0x c).2=0):CtInv 0 (k0x c).1 []:=by
 have k:=BkInv.new h;have hz:∀x∈(k0x c).1.2.2.2,x=ser0:=by
  intro x hx;rcases (a2e h).ser x hx with q | ⟨l,q1,q2,q3⟩
  ·exact q
  ·exact absurd (List.length_eq_zero_iff.1 (by omega)) q2
 refine ⟨k,?_,(fun p hp=>by cases hp),?_⟩
 ·unfold k0x at h ⊢;split
  ·split
   ·rfl
   ·rename_i h1 h2;rw[if_pos h1,if_neg h2] at h;exact absurd h h2
  ·rename_i h1;rw[if_neg h1] at h;exact absurd h (by decide)
 ·have:∀l:List Ser,(∀x∈l,x=ser0)→(l.map evN).sum=0:=by
   intro l;induction l with
   | nil=>intro _;rfl
   | cons x r ih =>
    intro hl;have hx:=hl x (by simp);subst hx;simp only[List.map_cons,List.sum_cons,evN_zero,ih fun y hy=>hl y (by simp[hy])];rfl
  rw[this _ hz];rfl
theorem CtInv.mono {N M:Nat} {s:Sta} {B:Bk} (h:CtInv N s B) (hm:N≤M):CtInv M s B:=⟨h.bk.mono hm,h.sw,h.liv,h.tot⟩
theorem CtInv.tick {N:Nat} {s:Sta} {B:Bk} (h:CtInv N s B) (now:Int):CtInv N (u0l s now).1 B:=by
 refine ⟨h.bk.tick now,?_,fun p hp => ?_,?_⟩
 ·unfold u0l;split
  ·exact h.sw
  ·exact h.sw
 ·obtain ⟨i,hi⟩:=h.liv p hp;exact ⟨i,by rw[l1f];exact hi⟩
 ·rw[o1e];exact h.tot
theorem p1m {s:Sta} (h:s.2.2.1 = -1) (x:Ser):LvX s x↔x≠ser0:=⟨fun k=>k.1,fun k=>⟨k,.inl h⟩⟩
theorem CtInv.write {N:Nat} {s t:Sta} {B:Bk} (h:CtInv N s B) (hb:N<1000000) {l:List Lab} {e:Ev} (hw:d0v s l e=(t,0)):CtInv (N+1) t (putB B l e):=by
 obtain ⟨hbk,_,_,_⟩:=h.bk.write hb hw;obtain ⟨i0,y0,hfw,_,_⟩:=w0p hw;obtain ⟨hg,i,x,b,z,hp,hput,rfl,_⟩:=o0y hw;obtain ⟨p1,p2,p3,p4⟩:=m0u hg hp;obtain ⟨q1,q2,q3,q4,q5⟩:=j0m p1 hput;refine ⟨hbk,h.sw,fun p hp' => ?_,?_⟩
 ·rcases f1k h.bk.nd hp' with ⟨k1,k⟩ | ⟨es,rfl,k⟩
  ·obtain ⟨j,hj⟩:=h.liv p k;obtain ⟨u,hu,hul,hlv,_⟩:=d0k.1 hj;cases hf:h0x (setS s i z) p.1 with
   | some j'=>exact ⟨j',rfl⟩
   | none =>
    exfalso;have hij:i≠j:=by
     rintro rfl;cases hp with
     | found hf' hx hl' hlv' ht=>rw[hx] at hu;injection hu with hu;subst hu;exact k1 (hul.symm.trans hl')
     | room hf' hs hr =>
      obtain ⟨x',hx',hx'',_⟩:=l0k.1 hr;rw[hx'] at hu;injection hu with hu;subst hu;exact hx'' hlv
    refine f0u.1 hf u (List.mem_of_getElem? (i:=j) ?_) ⟨hul,hlv⟩;rw[k0b,if_neg hij];exact hu
  ·exact ⟨i0,hfw⟩
 ·rw[f1j];have key:∃x0,s.2.2.2[i]? = some x0∧evN x0=evN x:=by
   cases hp with
   | found hf hx hl hlv ht=>exact ⟨x,hx,rfl⟩
   | room hf hs hr =>
    obtain ⟨x',hx',hx'',_⟩:=l0k.1 hr;have:x'=ser0:=by
     by_cases k:x'=ser0
     ·exact k
     ·exact absurd ((p1m h.sw x').2 k) hx''
    exact ⟨x',hx',by rw[this];rfl⟩
  obtain ⟨x0,k1,k2⟩:=key;show ((s.2.2.2.set i z).map evN).sum=_;rw[sum_set _ i x0 z k1,h.tot,k2,putE_evN p1 hput];omega
theorem ct_many {N:Nat} {s:Sta} {B:Bk} (h:CtInv N s B):x0c s=B.length:=by
 have hp:((s.2.2.2.filter fun x=>decide (LvX s x)).map Prod.fst).Perm (keysB B):=by
  refine (List.perm_ext_iff_of_nodup ?_ h.bk.nd).2 fun l => ?_
  ·rw[List.nodup_iff_pairwise_ne,List.pairwise_map,List.pairwise_filter,List.pairwise_iff_getElem];intro i j hi hj hij h1 h2 e;have f1:=a1j h.bk.ok (List.getElem?_eq_getElem hi) (of_decide_eq_true h1);have f2:=a1j h.bk.ok (List.getElem?_eq_getElem hj) (of_decide_eq_true h2);rw[e,f2] at f1;injection f1 with f1;omega
  ·constructor
   ·intro hl;obtain ⟨x,hx,rfl⟩:=List.mem_map.1 hl;obtain ⟨h1,h2⟩:=List.mem_filter.1 hx;obtain ⟨i,hi⟩:=List.getElem?_of_mem h1;obtain ⟨y,l,old,_,_,_,_,h5,_⟩:=h.bk.one hi (of_decide_eq_true h2);exact List.mem_map.2 ⟨_,h5,rfl⟩
   ·intro hl;obtain ⟨p,hp,rfl⟩:=List.mem_map.1 hl;obtain ⟨i,hi⟩:=h.liv p hp;obtain ⟨x,hx,hxl,hlv,_⟩:=d0k.1 hi;exact List.mem_map.2 ⟨x,List.mem_filter.2 ⟨List.mem_of_getElem? hx,decide_eq_true hlv⟩,hxl⟩
 have:=hp.length_eq;unfold x0c;rw[List.countP_eq_length_filter]
 simpa [keysB] using this
theorem ct_none {N:Nat} {s:Sta} {B:Bk} (h:CtInv N s B):z1f s=0:=by
 unfold z1f;rw[List.countP_eq_zero];intro x hx;simp only[decide_eq_true_eq,not_and,Classical.not_not];exact fun k=>(p1m h.sw x).2 k
theorem cnt_evs {s:Sta} (hsw:s.2.2.1 = -1):∀(l:List Ser) (t:Cnt),(∀x∈l,0≤x.2.2.1.1)→0≤t.2.2.2.1→0≤t.2.2.2.2.1→t.2.2.2.1+t.2.2.2.2.1+(l.map evN).sum≤1000000 →
  0≤(l.foldl (cnt1 s) t).2.2.2.1∧0≤(l.foldl (cnt1 s) t).2.2.2.2.1∧(l.foldl (cnt1 s) t).2.2.2.1+(l.foldl (cnt1 s) t).2.2.2.2.1=t.2.2.2.1+t.2.2.2.2.1+(l.map evN).sum:=by
 intro l;induction l with
 | nil=>intro t _ h1 h2 _;exact ⟨h1,h2,by simp⟩
 | cons x r ih =>
  intro t hx h1 h2 hb;have hnn:∀l:List Ser,(∀x∈l,0≤x.2.2.1.1)→0≤(l.map evN).sum:=by
   intro l;induction l with
   | nil=>intro _;simp
   | cons y r ih =>
    intro hl;have h1:=ih fun z hz=>hl z (by simp[hz])
    have h2:=hl y (by simp);simp only[List.map_cons,List.sum_cons];have:0≤evN y:=by unfold evN;omega
    omega
  have hr:=hnn r fun z hz=>hx z (by simp[hz])
  have hx0:=hx x (by simp);simp only[List.map_cons,List.sum_cons] at hb ⊢;simp only[List.foldl_cons];by_cases hz:x=ser0
  ·have e:cnt1 s t x=(t.1,(t.2.1,(inc1 t.2.2.1,t.2.2.2))):=by unfold cnt1;rw[if_pos hz]
   have hev:evN x=0:=by rw[hz];rfl
   rw[e];have:=ih (t.1,(t.2.1,(inc1 t.2.2.1,t.2.2.2))) (fun y hy=>hx y (by simp[hy])) h1 h2 (by simp only;omega);simp only at this;rw[hev];omega
  ·have hl:=(p1m hsw x).2 hz;have hev:evN x=x.2.2.1.1+((x.2.2.1.2.2.length:Nat):Int):=rfl;have hlen:(0:Int)≤((x.2.2.1.2.2.length:Nat):Int):=by omega
   have w1:IntKind.wrap .i64 (t.2.2.2.1+(((List.length x.2.2.1.2.2):Nat):Int))=t.2.2.2.1+(((List.length x.2.2.1.2.2):Nat):Int):=w64 (by omega) (by omega);have w2:IntKind.wrap .i64 (t.2.2.2.2.1+x.2.2.1.1)=t.2.2.2.2.1+x.2.2.1.1:=w64 (by omega) (by omega);obtain ⟨c,hc,c1,c2⟩:∃c,cnt1 s t x=c∧c.2.2.2.1=t.2.2.2.1+((x.2.2.1.2.2.length:Nat):Int)∧c.2.2.2.2.1=t.2.2.2.2.1+x.2.2.1.1:=by
    refine ⟨_,rfl,?_,?_⟩
    ·unfold cnt1;rw[if_neg hz,if_pos hl];exact w1
    ·unfold cnt1;rw[if_neg hz,if_pos hl];exact w2
   rw[hc];have:=ih c (fun y hy=>hx y (by simp[hy])) (by omega) (by omega) (by omega);omega
theorem t1a (n:Nat) {N:Nat} {s:Sta} {B:Bk} (h:BkInv N s B) (hb:N<1000000) (x:Act) (hx:EvW x.2.1.2):∃t v,u0j (n+25) x s=some (t,v) ∧
  ((x.1=0∧v=0∧BkInv (N+1) t (putB B x.2.1.1 x.2.1.2)∧LabOk x.2.1.1∧EvOk x.2.1.2∧(∀a∈evsB B x.2.1.1,a.1<x.2.1.2.1)∧d0v s x.2.1.1 x.2.1.2=(t,0))∨(¬(x.1=0∧v=0)∧BkInv (N+1) t B∧(x.1≤1→t=s∨∃now,t=(u0l s now).1))):=by
 rw[e1j,tfd];by_cases h0:x.1=0
 ·rw[if_pos h0,w1p n h.w x.2.1.1 hx,obs,tfd];by_cases k:(d0v s x.2.1.1 x.2.1.2).2=0
  ·rw[if_pos k];have hw:d0v s x.2.1.1 x.2.1.2=((d0v s x.2.1.1 x.2.1.2).1,0):=Prod.ext rfl k;obtain ⟨b1,b2,b3,b4⟩:=h.write hb hw;exact ⟨_,_,rfl,.inl ⟨h0,by first | exact k | rfl,b1,b2,b3,b4,hw⟩⟩
  ·rw[if_neg k];exact ⟨_,_,rfl,.inr ⟨fun q=>k q.2,h.mono (Nat.le_succ N),fun _ => .inl rfl⟩⟩
 rw[if_neg h0,tfd];by_cases h1:x.1=1
 ·rw[if_pos h1,csc_tick (n+9) h.w,obs];exact ⟨_,_,rfl,.inr ⟨fun q=>h0 q.1,(h.tick x.2.2).mono (Nat.le_succ N),fun _ => .inr ⟨_,rfl⟩⟩⟩
 rw[if_neg h1,tfd];by_cases h2:x.1=2
 ·rw[if_pos h2,sweep_do (n+8) h.w,obs];have e:doV s=(w0e s,(((dueV s).length:Int),0)):=by unfold doV;rw[if_pos h.ok]
  rw[e];exact ⟨_,_,rfl,.inr ⟨fun q=>h0 q.1,h.sweep.mono (Nat.le_succ N),fun q=>by omega⟩⟩
 rw[if_neg h2,tfd];by_cases h3:x.1=3
 ·rw[if_pos h3,m1v (n+9) h.w,obs];have e:s1h s=(w0u s,0):=by unfold s1h;rw[if_pos h.ok]
  rw[e];exact ⟨_,_,rfl,.inr ⟨fun q=>h0 q.1,h.clean.mono (Nat.le_succ N),fun q=>by omega⟩⟩
 rw[if_neg h3];exact ⟨_,_,rfl,.inr ⟨fun q=>h0 q.1,h.mono (Nat.le_succ N),fun _ => .inl rfl⟩⟩
theorem uint_l (n:Nat):∀(m f:Nat) (w:List Int) (v:Int),v.toNat≤m→0≤v→m<f→w.length+(uvI v).length≤140737488355328 →
  ∃w' v',d0e n f (w,v,())=some (.inl (w',(v',())))∧w'++[v']=w++uvI v∧0≤v'∧v'<128:=by
 intro m;induction m using Nat.strongRecOn with
 | _ m ih =>
  intro f w v hm h0 hf hl;obtain ⟨f,rfl⟩:=g0g hf;rw[n0k,tfd];by_cases h:v<128
  ·rw[if_neg (by omega)];exact ⟨w,v,rfl,by rw[i1r h0 h],h0,h⟩
  ·rw[e1e h0 h] at hl;simp only[List.length_cons] at hl;rw[if_pos (by omega),decide_eq_true (show (w.length+1)*1≤140737488355328 by omega),tft,or128,shr7 h0];obtain ⟨w',v',e1,e2,e3,e4⟩:=ih (v / 128).toNat (by omega) f (w++[v % 128+128]) (v / 128) (Nat.le_refl _) (by omega) (by omega) (by simp only[List.length_append,List.length_singleton];omega);exact ⟨w',v',e1,by rw[e2,e1e h0 h];simp,e3,e4⟩
theorem q1c (n:Nat) {v:Int} (h0:0≤v) (h1:v≤18446744073709551615) {w:List Int} (hl:w.length+(uvI v).length≤140737488355328):e0w (n+1) w v=some (w++uvI v):=by
 obtain ⟨w',v',e1,e2,e3,e4⟩:=uint_l n v.toNat a0b w v (Nat.le_refl _) h0 (by unfold a0b;omega) hl;have hlen:w'.length+1≤140737488355328:=by
  have:=congrArg List.length e2;simp only[List.length_append,List.length_singleton] at this;omega
 rw[q0g,e1,obs,b0j,decide_eq_true (show (w'.length+1)*1≤140737488355328 by omega),tft,y0k,Int.emod_eq_of_lt e3 (by omega),e2]
theorem m1n:∀(m:Nat) (v:Int),v.toNat≤m→0≤v→(uvI v).length≤v.toNat+1:=by
 intro m;induction m using Nat.strongRecOn with
 | _ m ih =>
  intro v hm h0;by_cases h:v<128
  ·rw[i1r h0 h];simp
  ·rw[e1e h0 h];have:=ih (v / 128).toNat (by omega) (v / 128) (Nat.le_refl _) (by omega);simp only[List.length_cons];omega
theorem v0x (a b:List UInt8):h0s (a++b)=h0s a++h0s b:=by simp[h0s]
theorem v0w (a:List UInt8):(h0s a).length=a.length:=by simp[h0s]
theorem m1m (n:Nat):uvI (n:Int)=h0s (uvB n):=by unfold uvI;rw[Int.toNat_natCast]
theorem w1y {s:List UInt8} (h:s.length≤256):(txB s).length≤1000:=by
 have:=m1n s.length (s.length:Int) (by simp) (by omega);rw[m1m,v0w] at this;unfold txB;rw[List.length_append];simp at this;omega
theorem raw_val (n:Nat) {w:List Int} {s:List UInt8} (h:w.length+s.length≤140737488355328):i0a (n+1) w s=some (w++h0s s):=by
 rw[r0n,List.length_map,decide_eq_true (show (w.length+s.length)*1≤140737488355328 by omega),tft];rfl
theorem q1g (n:Nat) {w:List Int} {s:List UInt8} (hs:s.length≤256) (h:w.length≤1000000):e0x (n+2) w s=some (w++h0s (txB s)):=by
 have h1:=m1n s.length (s.length:Int) (by simp) (by omega);have h2:((s.length:Int)).toNat=s.length:=by simp
 rw[q0h,wu64 (by omega) (by omega),q1c n (by omega) (by omega) (by omega),obs,raw_val n (by rw[List.length_append];omega),obs,List.append_assoc,m1m,←v0x];rfl
theorem out_val (n:Nat) (w:List Int):i0b (n+1) w=some (toB w,w):=by rw[r0o];rfl
theorem lab_len {l:List Lab} (h:LabOk l):∀x∈l,x.1.length≤256∧x.2.length≤256:=by
 have key:∀l:List Lab,∀x∈l,(x.1.length:Int)+x.2.length≤sumL l:=by
  intro l;induction l with
  | nil=>intro x hx;cases hx
  | cons y l ih =>
   intro x hx;rw[j1e];have:=x1j l;rcases List.mem_cons.1 hx with rfl | hx
   ·omega
   ·have:=ih x hx;omega
 intro x hx;have:=key l x hx;have:=h.t;omega
theorem bytes_l (n:Nat) {l:List Lab} (hl:LabOk l):∀(rest pre:List Lab) (f:Nat) (w:List Int) (ix len:Int),l=pre++rest→ix=pre.length→len=l.length→rest.length<f→w.length+2000*rest.length≤100000 →
  h0a (n+2) f (w,l,len,ix,())=some (.inl (w++h0s (rest.flatMap fun x=>txB x.1++txB x.2),())):=by
 intro rest;induction rest with
 | nil =>
  intro pre f w ix len ha hi hn hf hw;obtain ⟨f,rfl⟩:=g0g hf;rw[l0s,decide_eq_false (idxe ha hi hn),tff];simp[h0s]
 | cons x r ih =>
  intro pre f w ix len ha hi hn hf hw;obtain ⟨f,rfl⟩:=g0g hf;simp only[List.length_cons] at hw;obtain ⟨k1,k2⟩:=lab_len hl x (by rw[ha];simp);have t1:=w1y k1;have t2:=w1y k2;have hL:l.length≤1000000000000:=by have:=hl.n1;omega
  rw[l0s,decide_eq_true (idx ha hi hn),tft,c0l ha hi,obs,q1g n k1 (by omega),obs,q1g n k2 (by rw[List.length_append,v0w];omega),obs,idxw ha hi hL];rw[ih (pre++[x]) f _ (ix+1) len (idxl ha) (idxs hi) hn (by simp at hf;omega) (by simp only[List.length_append,v0w];omega)];simp only[List.flatMap_cons,v0x,List.append_assoc]
theorem o1w (n:Nat) (l:List Lab):r0k (n+7) l=some (if LabOk l then (labB l,0) else ([],8)):=by
 rw[b1w,j0q n l,obs,tfn,tfd];by_cases h:LabOk l
 case neg=>rw[if_neg h,if_neg h,if_neg (by decide)]
 rw[if_pos h,if_pos h,if_pos rfl];have hn:=h.n1;have h1:=m1n l.length (l.length:Int) (by simp) (by omega);have h2:((l.length:Int)).toNat=l.length:=by simp
 rw[wu64 (by omega) (by omega),q1c (n+5) (by omega) (by omega) (by simp only[List.length_nil];omega),obs,bytes_l (n+4) h l [] a0b _ 0 _ rfl rfl rfl (by unfold a0b;omega) (by simp only[List.nil_append];omega),obs,b0j,out_val (n+5),obs];rw[List.nil_append,m1m,←v0x,t1c];rfl
abbrev BkE:Type:=List (List UInt8)×List (List UInt8×(List Lab×List Ev))
def bkM (B:Bk):BkE:=(B.map fun p=>labB p.1,B.map fun p=>(labB p.1,p))
theorem bkM_nil:bkM []=([],[]):=rfl
abbrev b1c:Ty:=(.ref (.wrap (.pair (.slice (.wrap (.pair .str .str))) (.own (.wrap (.pair (.int .i64) (.pair (.int .u64) (.pair (.int .i64) .bool))))))))
theorem bk_split {B:Bk} {l:List Lab} (h:l∈keysB B):∃pre es post,B=pre++(l,es)::post∧l ∉ pre.map Prod.fst:=by
 induction B with
 | nil=>cases h
 | cons p r ih =>
  obtain ⟨m,es⟩:=p;by_cases hm:m=l
  ·subst hm;exact ⟨[],es,r,rfl,by simp⟩
  ·have:l∈keysB r:=by
    rcases List.mem_cons.1 (show l∈m::keysB r from h) with k | k
    ·exact absurd k.symm hm
    ·exact k
   obtain ⟨pre,es',post,e1,e2⟩:=ih this;exact ⟨(m,es)::pre,es',post,by rw[e1];rfl,by simp only[List.map_cons,List.mem_cons,not_or];exact ⟨fun k=>hm k.symm,e2⟩⟩
theorem bkM_none {B:Bk} {l:List Lab} (h:l ∉ keysB B):mget .str b1c (bkM B).2 (labB l) 0=none :=
 (c2j b1c (fun a b=>g1d) (fun p:List Lab×List Ev=>p) h 0 (l,[])).1
theorem bkM_new {B:Bk} {l:List Lab} (h:l ∉ keysB B) (e:Ev):((bkM B).1++[labB l],mput .str b1c (bkM B).2 (labB l) (l,[e]))=bkM (putB B l e):=by
 have h1:mput .str b1c (bkM B).2 (labB l) (l,[e])=(bkM B).2++[(labB l,(l,[e]))]:=(c2j b1c (fun a b=>g1d) (fun p:List Lab×List Ev=>p) h 0 (l,[e])).2;have h2:putB B l e=B++[(l,[e])]:=by
  clear h1;induction B with
  | nil=>rfl
  | cons p r ih =>
   obtain ⟨m,es⟩:=p;have h':l≠m∧l ∉ keysB r:=by unfold keysB at h ⊢;simpa using h
   simp only[putB];rw[if_neg (fun k=>h'.1 k.symm),ih h'.2];rfl
 rw[h1,h2];unfold bkM;simp
theorem bkM_at {pre post:Bk} {l:List Lab} {es:List Ev} (h:l ∉ pre.map Prod.fst):mget .str b1c (bkM (pre++(l,es)::post)).2 (labB l) 0=some (pre.length,(l,es)):=by
 have:=(bk_at b1c (fun a b=>g1d) (fun p:List Lab×List Ev=>p) (v:=es) (post:=post) h 0 (l,[])).1;rw[Nat.zero_add] at this;exact this
theorem c2k {pre post:Bk} {l:List Lab} {es:List Ev} (w:List Ev):mset .str b1c (bkM (pre++(l,es)::post)).2 pre.length (l,w)=(bkM (pre++(l,w)::post)).2:=by
 have:=bk_set (key:=labB) b1c (fun p:List Lab×List Ev=>p) (pre:=pre) (post:=post) (l:=l) (v:=es) (l,w);unfold bkM;rw[this];simp
theorem bkM_keys {pre post:Bk} {l:List Lab} {es w:List Ev}:(bkM (pre++(l,es)::post)).1=(bkM (pre++(l,w)::post)).1:=by simp[bkM]
theorem putB_at {pre post:Bk} {l:List Lab} {es:List Ev} (h:l ∉ pre.map Prod.fst) (e:Ev):putB (pre++(l,es)::post) l e=pre++(l,es++[e])::post:=by
 induction pre with
 | nil=>simp[putB]
 | cons p r ih =>
  obtain ⟨m,q⟩:=p;have h':l≠m∧l ∉ r.map Prod.fst:=by simpa using h
  simp only[List.cons_append,putB];rw[if_neg (fun k=>h'.1 k.symm),ih h'.2]
theorem evsB_at {pre post:Bk} {l:List Lab} {es:List Ev} (h:l ∉ pre.map Prod.fst):evsB (pre++(l,es)::post) l=es:=by
 unfold evsB;induction pre with
 | nil=>simp
 | cons p r ih =>
  obtain ⟨m,q⟩:=p;have h':l≠m∧l ∉ r.map Prod.fst:=by simpa using h
  rw[List.cons_append,List.find?_cons_of_neg (by simpa using fun k=>h'.1 k.symm)];exact ih h'.2
theorem sumB_mem {B:Bk} {p:List Lab×List Ev} (h:p∈B):p.2.length≤sumB B:=by
 unfold sumB;induction B with
 | nil=>cases h
 | cons q r ih =>
  simp only[List.map_cons,List.sum_cons];rcases List.mem_cons.1 h with rfl | h
  ·omega
  ·have:=ih h;omega
theorem o1v {B:Bk} (h:∀p∈B,p.2≠[]):B.length≤sumB B:=by
 unfold sumB;induction B with
 | nil=>simp
 | cons q r ih =>
  simp only[List.map_cons,List.sum_cons,List.length_cons];have:=ih fun p hp=>h p (List.mem_cons_of_mem _ hp)
  have:=List.length_pos_iff.2 (h q (by simp));omega
theorem flat_put (n:Nat) {N:Nat} {s:Sta} {B:Bk} (h:BkInv N s B) (hN:N≤1000000) {l:List Lab} {e:Ev} (hl:LabOk l) (he:EvOk e) (ha:∀a∈evsB B l,a.1<e.1):n0g (n+9) (bkM B) l e=some (0,bkM (putB B l e)):=by
 rw[x0i,j0q (n+2) l,if_pos hl,obs,tfn,tfd,if_pos rfl,e0k (n+7) (.of he),if_pos he,obs,tfn,tfd,if_pos rfl,o1w n l,if_pos hl,obs,tfn,tfd,if_pos rfl];have hBl:B.length≤1000000:=Nat.le_trans (Nat.le_trans (o1v fun p hp=>(h.bk p hp).2.2) h.sum) hN;by_cases hm:l∈keysB B
 case neg =>
  rw[bkM_none hm];have hlen:(bkM B).1.length=B.length:=by simp[bkM]
  have hn:=hl.n1;show tif (decide ((((List.length (bkM B).1)+1)*16)≤140737488355328)) _ _=_;rw[decide_eq_true (show ((bkM B).1.length+1)*16≤140737488355328 by omega),tft,r0p (n+7) l (by omega),obs,←bkM_new hm e]
 obtain ⟨pre,es,post,rfl,hp⟩:=bk_split hm;have hmem:(l,es)∈pre++(l,es)::post:=by simp
 have hes:=h.bk _ hmem;have hel:es.length≤1000000:=Nat.le_trans (Nat.le_trans (sumB_mem hmem) h.sum) hN;rw[evsB_at hp] at ha;obtain ⟨ys,z,hyz⟩:∃ys z,es=ys++[z]:=⟨_,_,(List.dropLast_concat_getLast hes.2.2).symm⟩;subst hyz;simp only[List.length_append,List.length_singleton] at hel;rw[bkM_at hp];simp only[v0h];have e1:IntKind.wrap .i64 ((((List.length (ys++[z])):Nat):Int)-(1:Int))=(ys.length:Int):=by
  rw[List.length_append,List.length_singleton,w64 (by omega) (by omega)];omega
 rw[e1,c0l (pre:=ys) (rest:=[]) (x:=z) rfl rfl,obs,Int.toNat_natCast,List.getElem?_concat_length,obs,k0j (n+5) (.of (hes.2.1.ok z (by simp))) (.of he),obs,decide_eq_true ⟨hes.2.1.ok z (by simp),he,ha z (by simp)⟩];simp only[Bool.not_true,tff];rw[decide_eq_true (show ((ys++[z]).length+1)*32≤140737488355328 by simp only[List.length_append,List.length_singleton];omega),tft,putB_at hp,c2k];exact congrArg some (congrArg (Prod.mk (0:Int)) (Prod.ext bkM_keys rfl))
theorem v1m (n:Nat) {N:Nat} {s:Sta} {B:Bk} (h:BkInv N s B) (hN:N≤1000000):∀(rest pre:Bk) (f:Nat) (ix len:Int),B=pre++rest→ix=pre.length→len=B.length→rest.length<f →
  f0o (n+1) f (bkM B,pre.map Prod.fst,len,ix,())=some (.inl (bkM B,(B.map Prod.fst,()))):=by
 have hBl:B.length≤1000000:=Nat.le_trans (Nat.le_trans (o1v fun p hp=>(h.bk p hp).2.2) h.sum) hN;intro rest;induction rest with
 | nil =>
  intro pre f ix len ha hi hn hf;obtain ⟨f,rfl⟩:=g0g hf;rw[j0r,decide_eq_false (idxe ha hi hn),tff,ha,List.append_nil]
 | cons x r ih =>
  intro pre f ix len ha hi hn hf;obtain ⟨f,rfl⟩:=g0g hf;obtain ⟨l,es⟩:=x;have hk:=h.nd;have hp:l ∉ pre.map Prod.fst:=by
   rw[ha] at hk;unfold keysB at hk;rw[List.map_append,List.nodup_append] at hk;exact fun q=>hk.2.2 l q l (by simp) rfl
  have hat:at? (bkM B).1 ix=some (labB l):=by
   have:(bkM B).1=(pre.map fun p=>labB p.1)++labB l::(r.map fun p=>labB p.1):=by rw[ha];simp[bkM]
   exact c0l this (by simpa using hi)
  have hat2:(bkM B).1[ix.toNat]? = some (labB l):=by
   have:(bkM B).1=(pre.map fun p=>labB p.1)++labB l::(r.map fun p=>labB p.1):=by rw[ha];simp[bkM]
   rw[this,hi,Int.toNat_natCast,List.getElem?_append_right (by simp)];simp
  have hlab:=(h.bk (l,es) (by rw[ha];simp)).1;have hln:l.length≤16:=hlab.n1;have hlen:(pre.map Prod.fst).length=pre.length:=by simp
  have hpl:pre.length≤B.length:=by rw[ha];simp
  have hset:mset .str b1c (bkM B).2 pre.length (l,es)=(bkM B).2:=by rw[ha];exact c2k es
  have hget:mget .str b1c (bkM B).2 (labB l) 0=some (pre.length,(l,es)):=by rw[ha];exact bkM_at hp
  rw[j0r,decide_eq_true (idx ha hi hn),tft,hat,obs,hat2,obs,hget,obs,r0p n l (by omega),obs,decide_eq_true (show ((pre.map Prod.fst).length+1)*24≤140737488355328 by omega),tft,hset,idxw ha hi (by omega)];have:=ih (pre++[(l,es)]) f (ix+1) len (idxl ha) (idxs hi) hn (by simp at hf;omega);rw[List.map_append] at this;exact this
theorem flat_all (n:Nat) {N:Nat} {s:Sta} {B:Bk} (h:BkInv N s B) (hN:N≤1000000):e0v (n+2) (bkM B)=some (B.map Prod.fst,bkM B):=by
 have hBl:B.length≤1000000:=Nat.le_trans (Nat.le_trans (o1v fun p hp=>(h.bk p hp).2.2) h.sum) hN;have hlen:(bkM B).1.length=B.length:=by simp[bkM]
 have:=v1m n h hN B [] a0b 0 ((List.length (bkM B).1:Nat):Int) rfl rfl (by rw[hlen]) (by unfold a0b;omega);rw[x0j];exact obind_of this _
theorem x1d (n:Nat) (b:BkE) {x:Act} {v:Int} (h:¬(x.1=0∧v=0)):p0a (n+1) b x v=some (true,b):=by
 rw[s0d,tfn,tfd];by_cases h0:x.1=0
 ·rw[if_pos h0,tfn,tfd,if_neg (fun k=>h ⟨h0,k⟩)]
 ·rw[if_neg h0]
theorem t1b (n:Nat) {N:Nat} {s:Sta} {B:Bk} (h:BkInv N s B) (hN:N≤1000000) {x:Act} (h0:x.1=0) (hl:LabOk x.2.1.1) (he:EvOk x.2.1.2) (ha:∀a∈evsB B x.2.1.1,a.1<x.2.1.2.1):p0a (n+10) (bkM B) x 0=some (true,bkM (putB B x.2.1.1 x.2.1.2)):=by
 rw[s0d,tfn,tfd,if_pos h0,tfn,tfd,if_pos rfl,flat_put n h hN hl he ha];rfl
def mkS (t:Cnt) (d:Int):k0o:=(t.1,(t.2.1,(t.2.2.1,(t.2.2.2.1,(t.2.2.2.2.1,((t.2.2.2.2.2.1,(t.2.2.2.2.2.2.1,t.2.2.2.2.2.2.2)),d))))))
theorem mkS_zero:mkS cnt0 0=((0:Int),((0:Int),((0:Int),((0:Int),((0:Int),(((0:Int),((0:Int),(0:Int))),(0:Int))))))):=rfl
theorem j1i (n:Nat) {s:Sta} {x:Ser} (h:SerOk s.1 x) (hl:LvX s x) (c:Cnt) (d:Int):e1v (n+18) (mkS c d) s x=some (mkS (cnt1 s c x) (due1 s d x)):=by
 rw[n1h,x0q n h.fold.t0,obs,x0q n h.fold.t1,obs,x0q n h.fold.t2,obs,r0h (n+11),obs];have e1:cnt1 s c x=(inc1 c.1,(c.2.1,(c.2.2.1,(cnt1 s c x).2.2.2))):=by unfold cnt1;rw[if_neg hl.1,if_pos hl]
 have e2:due1 s d x=if l0a s.1 x.2.1 s.2.1=true then inc1 d else d:=by
  unfold due1 goes;rw[decide_eq_true hl,Bool.true_and]
 rw[e2];unfold cnt1;rw[if_neg hl.1,if_pos hl,m1o];split<;>rfl
theorem d1r {s:Sta} (h:StaOk s) {i:Nat} {x:Ser} (hx:s.2.2.2[i]? = some x):((((List.length x.1):Nat):Int)=0)↔x=ser0:=by
 constructor
 ·intro h0;rcases h.right i x hx with k | ⟨k,_⟩
  ·exact k
  ·exfalso;have:=k.lab.n0;omega
 ·intro e;subst e;rfl
theorem lives_at {s:Sta} (h:StaOk s) {i:Nat} {x:Ser} (hx:s.2.2.2[i]? = some x):r1l s (i:Int)=decide (LvX s x):=by
 unfold r1l lvAt;rw[Int.toNat_natCast,hx];by_cases hl:LvX s x
 ·rw[decide_eq_true hl,decide_eq_true ⟨h.whole,by omega,decide_eq_true hl⟩]
 ·rw[decide_eq_false hl];exact decide_eq_false fun k=>hl (of_decide_eq_true k.2.2)
theorem t1h (n:Nat) {s:Sta} (hw:StaW s) (h:StaOk s) (z:k0o):∀(rest pre:List Ser) (f:Nat) (c:Cnt) (d i:Int),s.2.2.2=pre++rest→i=pre.length→rest.length<f →
  i0r (n+18) f (s,(z,(mkS c d,(s.2.2.2,((((List.length s.2.2.2):Nat):Int),(i,()))))))=some (.inl (z,(mkS (rest.foldl (cnt1 s) c) (rest.foldl (due1 s) d),()))):=by
 intro rest;induction rest with
 | nil =>
  intro pre f c d i he hi hf;obtain ⟨f,rfl⟩:∃g,f=g+1:=⟨f-1,by omega⟩;rw[s0o];simp only[tfd];rw[if_neg (by rw[he];simp;omega)];rfl
 | cons x rest ih =>
  intro pre f c d i he hi hf;obtain ⟨f,rfl⟩:∃g,f=g+1:=⟨f-1,by simp at hf;omega⟩;simp only[List.length_cons] at hf;have hx:s.2.2.2[pre.length]? = some x:=by rw[he];simp
  have hlen:=hw.len;have hnext:IntKind.wrap .i64 (i+(1:Int))=((pre++[x]).length:Int):=by
   rw[he] at hlen;simp only[List.length_append,List.length_cons] at hlen ⊢;rw[w64 (by omega) (by omega)];simp;omega
  have go:=fun c d=>ih (pre++[x]) f c d (IntKind.wrap .i64 (i+(1:Int))) (by rw[he];simp) hnext (by omega)
  rw[s0o];simp only[tfd];rw[if_pos (by rw[he,hi];simp;omega),hi,i1g hx,obs];rw[hi] at go;simp only[List.foldl_cons];by_cases hz:x=ser0
  ·rw[if_pos ((d1r h hx).2 hz)];have e1:cnt1 s c x=(c.1,(c.2.1,(inc1 c.2.2.1,c.2.2.2))):=by unfold cnt1;rw[if_pos hz]
   have e2:due1 s d x=d:=by
    unfold due1 goes;rw[decide_eq_false (fun k:LvX s x=>k.1 hz),Bool.false_and];rfl
   rw[e1,e2];exact go (c.1,(c.2.1,(inc1 c.2.2.1,c.2.2.2))) d
  ·rw[if_neg (fun k=>hz ((d1r h hx).1 k)),x1k (n+10) hw,obs,lives_at h hx];by_cases hl:LvX s x
   ·rw[decide_eq_true hl,tft,j1i n (f1w h (List.mem_of_getElem? hx) hl).1 hl,obs];exact go _ _
   ·rw[decide_eq_false hl,tff];have e1:cnt1 s c x=(c.1,(inc1 c.2.1,c.2.2)):=by unfold cnt1;rw[if_neg hz,if_neg hl]
    have e2:due1 s d x=d:=by
     unfold due1 goes;rw[decide_eq_false hl,Bool.false_and];rfl
    rw[e1,e2];exact go (c.1,(inc1 c.2.1,c.2.2)) d
noncomputable def statV (s:Sta):k0o×Int:=if StaOk s then (mkS (cntV s) ((nDue s:Nat):Int),0) else (mkS cnt0 0,2)
theorem due_fold {s:Sta} (h:StaOk s):s.2.2.2.foldl (due1 s) 0=((nDue s:Nat):Int):=by
 have:=h.whole.len;rw[due_num s _ 0 (by omega) (by omega)];unfold nDue;omega
theorem stat_of (n:Nat) {s:Sta} (hw:StaW s):n0z (n+19) s=some (statV s):=by
 rw[t1i,h0g (n+4) hw,obs,tfn];unfold statV;by_cases h:StaOk s
 case neg=>rw[l1r h,if_neg h,if_neg h];rfl
 rw[l1q h,if_pos h];have:=t1h n hw h (mkS cnt0 0) s.2.2.2 [] a0b cnt0 0 0 rfl rfl (by have:=h.whole.len;unfold a0b;omega);rw[mkS_zero] at this;rw[this,obs,b0j,due_fold h];rfl
end Go.Proofs.YtojobamheigpbaaGreatDoor
namespace Go.Proofs.YtojobamheigpbaaGreatDoor
open Go.Flat
theorem ob {α β:Type} {o:Option α} {x:α} {f:α→Option β} {r:Option β} (h:o=some x) (k:f x=r):a0a o f=r:=by rw[h];exact k
theorem tt {α:Type} {b:Bool} {x y r:α} (h:b=true) (k:x=r):tif b x y=r:=by rw[h];exact k
theorem tf {α:Type} {b:Bool} {x y r:α} (h:b=false) (k:y=r):tif b x y=r:=by rw[h];exact k
end Go.Proofs.YtojobamheigpbaaGreatDoor
namespace Go.Proofs.YtojobamheigpbaaGreatDoor
open Go.Flat
set_option linter.unusedVariables false
theorem v0k (n:Nat)  : n0u (n+1)  =
 a0a (z1w n ) fun r0 =>
 a0a (u0t n r0) fun r1 =>
 tif ((!(decide (r1.2=(0:Int))))) (
 some false) (
 a0a (n0z n r1.1) fun r2 =>
 a0a (j1b n (((((97:UInt8)::[]),[])::[]),((3:Int),((7:Int),((0:Int),false))))) fun r3 =>
 tif ((decide (r2.2=(0:Int)))) (
 tif ((decide (r2.1.2.2.1=(3:Int)))) (
 tif ((r3.1==((123:UInt8)::((97:UInt8)::((61:UInt8)::((34:UInt8)::((34:UInt8)::((125:UInt8)::((32:UInt8)::((55:UInt8)::((32:UInt8)::((51:UInt8)::[])))))))))))) (
 some (decide (r3.2=(0:Int)))) (
 some false)) (
 some false)) (
 some false)):=by kernel_rfl
theorem x0g (n:Nat):z1w (n+39)=some (20,((10,(20,60)),((4,(5,6)),(3,9)))):=by kernel_rfl
theorem x0f (n:Nat):u0t (n+39) (20,((10,(20,60)),((4,(5,6)),(3,9))))=some (((20,((10,(20,60)),((4,(5,6)),(3,9)))),(0,((-1),[([],(0,((0,(0,[])),(([],([],[])),(0,(0,((0,(0,(0,false))),((0,(0,(0,false))),((0,0),(0,(0,0))))))))))),([],(0,((0,(0,[])),(([],([],[])),(0,(0,((0,(0,(0,false))),((0,(0,(0,false))),((0,0),(0,(0,0))))))))))),([],(0,((0,(0,[])),(([],([],[])),(0,(0,((0,(0,(0,false))),((0,(0,(0,false))),((0,0),(0,(0,0)))))))))))]))),0):=by kernel_rfl
theorem x0e (n:Nat):n0z (n+39) ((20,((10,(20,60)),((4,(5,6)),(3,9)))),(0,((-1),[([],(0,((0,(0,[])),(([],([],[])),(0,(0,((0,(0,(0,false))),((0,(0,(0,false))),((0,0),(0,(0,0))))))))))),([],(0,((0,(0,[])),(([],([],[])),(0,(0,((0,(0,(0,false))),((0,(0,(0,false))),((0,0),(0,(0,0))))))))))),([],(0,((0,(0,[])),(([],([],[])),(0,(0,((0,(0,(0,false))),((0,(0,(0,false))),((0,0),(0,(0,0)))))))))))])))=some ((0,(0,(3,(0,(0,((0,(0,0)),0)))))),0):=by kernel_rfl
theorem x0d (n:Nat):j1b (n+39) ([([97],[])],(3,(7,(0,false))))=some ([123,97,61,34,34,125,32,55,32,51],0):=by kernel_rfl
theorem u0h (n:Nat):n0u (n+40)=some true:=by
 rw[v0k];refine ob (x0g n) ?_;refine ob (x0f n) ?_;refine tf (by kernel_rfl) ?_;refine ob (x0e n) ?_;refine ob (x0d n) ?_;refine tt (by kernel_rfl) ?_;refine tt (by kernel_rfl) ?_;refine tt (by kernel_rfl) ?_
 kernel_rfl
end Go.Proofs.YtojobamheigpbaaGreatDoor
namespace Go.Proofs.YtojobamheigpbaaGreatDoor
open Go.Flat Go.Plim
set_option linter.unusedVariables false
set_option linter.unusedSimpArgs false
noncomputable def x0t (s:Sta):Bool:=if StaOk s then decide ((j1r s).2=7) else false
theorem f1d (n:Nat) {s:Sta} (hw:StaW s):l0f (n+15) s=some (x0t s):=by
 rw[j1j,q1l (n+4) hw,obs,h0g n hw,obs];unfold x0t;by_cases h:StaOk s
 ·rw[l1q h,if_pos h]
 ·rw[l1r h,if_neg h]
theorem j1q {s:Sta} (h:StaOk s):x0t s=decide (x0c s=s.2.2.2.length):=by
 unfold x0t j1r;rw[if_pos h,if_pos h.whole];have e:(o0d s=none)↔x0c s=s.2.2.2.length:=by
  rw[c1y];unfold x0c;rw[List.countP_eq_length];simp
 cases hr:o0d s with
 | none=>rw[decide_eq_true (e.1 hr)];rfl
 | some i=>rw[decide_eq_false (p:=x0c s=s.2.2.2.length) (fun k=>by rw[e.2 k] at hr;cases hr)];rfl
theorem t1y {s:Sta} (h:s.2.2.2.length≤65536):(cntV s).1=((x0c s:Nat):Int)∧(cntV s).2.1=((z1f s:Nat):Int)∧(cntV s).2.2.1=((z1e s:Nat):Int):=by
 obtain ⟨h1,h2,h3⟩:=cnt_num s s.2.2.2 cnt0 ⟨Int.le_refl _,Int.le_refl _,Int.le_refl _⟩ (by show (0:Int)+_≤_;omega) (by show (0:Int)+_≤_;omega) (by show (0:Int)+_≤_;omega);unfold cntV x0c z1f z1e;rw[h1,h2,h3];simp[cnt0]
theorem due_le (s:Sta):nDue s≤x0c s:=by
 unfold nDue x0c;refine List.countP_mono_left fun x _ h => ?_
 unfold goes at h;rw[Bool.and_eq_true] at h;exact h.1
theorem lost_nn {s:Sta} (h:StaOk s):∀x∈s.2.2.2,0≤x.2.2.1.1:=by
 intro x hx;obtain ⟨i,hi⟩:=List.getElem?_of_mem hx;rcases h.right i x hi with k | ⟨k,_⟩
 ·subst k;exact Int.le_refl _
 ·exact k.raw.l0
theorem b2t (n:Nat) {N:Nat} {t:Sta} {B:Bk} (h:CtInv N t B) (hN:N≤40) {m:Int} (hm:m=((sumB B:Nat):Int)) {R:Type} (no:Option R) (k:BkE→Option R) :
  (a0a (n0z (n+25) t) fun r3 =>
   tif ((!(decide (r3.2=(0:Int))))) no (
   a0a (e0v (n+25) (bkM B)) fun r4 =>
   tif ((!(decide (r3.1.1=(((List.length r4.1):Nat):Int))))) no (
   tif ((!(decide (r3.1.2.1=(0:Int))))) no (
   tif ((!(decide (r3.1.2.2.1=(IntKind.wrap .i64 ((((List.length t.2.2.2):Nat):Int)-r3.1.1)))))) no (
   tif ((!(decide ((IntKind.wrap .i64 (r3.1.2.2.2.1+r3.1.2.2.2.2.1))=m)))) no (
   tif ((decide (r3.1.1<r3.1.2.2.2.2.2.2))) no (
   a0a (l0f (n+25) t) fun r5 =>
   tif ((!(r5==(decide (r3.1.2.2.1=(0:Int)))))) no (k r4.2))))))))=k (bkM B):=by
 have hok:=h.bk.ok;have hlen:=hok.whole.len;have hsum:=h.bk.sum;rw[stat_of (n+6) h.bk.w,obs];unfold statV;rw[if_pos hok];simp only[decide_true,Bool.not_true,tff];rw[flat_all (n+23) h.bk (by omega),obs];obtain ⟨c1,c2,c3⟩:=t1y (s:=t) (by omega);have hall:=n_all t;have hnone:=ct_none h;have hmany:=ct_many h;obtain ⟨e1,e2,e3⟩:=cnt_evs h.sw t.2.2.2 cnt0 (lost_nn hok) (Int.le_refl _) (Int.le_refl _) (by rw[h.tot];show (0:Int)+0+_≤_;omega);have e3':(cntV t).2.2.2.1+(cntV t).2.2.2.2.1=((sumB B:Nat):Int):=by
  unfold cntV;rw[e3,h.tot];show (0:Int)+0+_=_;omega
 have hdue:=due_le t;unfold mkS;simp only[List.length_map];rw[decide_eq_true (show (cntV t).1=((B.length:Nat):Int) by rw[c1,hmany]),Bool.not_true,tff,
  decide_eq_true (show (cntV t).2.1=0 by rw[c2,hnone];rfl),Bool.not_true,tff,
  w64 (x:=((t.2.2.2.length:Nat):Int)-(cntV t).1) (by omega) (by omega),decide_eq_true (show (cntV t).2.2.1=((t.2.2.2.length:Nat):Int)-(cntV t).1 by omega),Bool.not_true,tff,
  w64 (x:=(cntV t).2.2.2.1+(cntV t).2.2.2.2.1) (by omega) (by omega),decide_eq_true (show (cntV t).2.2.2.1+(cntV t).2.2.2.2.1=m by omega),Bool.not_true,tff,
  decide_eq_false (show ¬((cntV t).1<((nDue t:Nat):Int)) by omega),tff,f1d (n+10) h.bk.w,obs,j1q hok]
 by_cases hf:x0c t=t.2.2.2.length
 ·rw[decide_eq_true hf,decide_eq_true (show (cntV t).2.2.1=0 by omega)];rfl
 ·rw[decide_eq_false hf,decide_eq_false (show ¬((cntV t).2.2.1=0) by omega)];rfl
theorem p1o (n:Nat) (acts:List Act) (hL:acts.length≤40) (he:∀x∈acts,EvW x.2.1.2):∀(rest pre:List Act) (f:Nat) (s:Sta) (B:Bk) (m ix len:Int),acts=pre++rest→ix=pre.length→len=acts.length→rest.length<f→CtInv pre.length s B→m=((sumB B:Nat):Int) →
  b0i (n+25) f (s,bkM B,m,acts,len,ix,())=some (.inl ()):=by
 intro rest;induction rest with
 | nil =>
  intro pre f s B m ix len ha hi hl hf hs hm;obtain ⟨f,rfl⟩:=g0g hf;subst hi;subst hl;rw[List.append_nil] at ha;subst ha;rw[h0f,decide_eq_false (by omega),tff]
 | cons x r ih =>
  intro pre f s B m ix len ha hi hl hf hs hm;obtain ⟨f,rfl⟩:=g0g hf;have hlen:acts.length=pre.length+(r.length+1):=by rw[ha];simp
  subst hi;subst hl;have hat:at? acts (pre.length:Int)=some x:=by
   rw[ha];exact c0l (pre:=pre) (rest:=r) rfl rfl
  have hx:=he x (by rw[ha];simp);have hsum:=hs.bk.sum;have hnext:=fun t B' m' (k1:CtInv (pre.length+1) t B') (k2:m'=((sumB B':Nat):Int))=>ih (pre++[x]) f t B' m' ((pre.length:Int)+1) (acts.length:Int) (by rw[ha];simp) (by simp) rfl (by simp at hf;omega) (by simpa using k1) k2
  rw[h0f,decide_eq_true (by omega),tft,hat,obs,w64 (x:=(pre.length:Int)+1) (by omega) (by omega),tfd];by_cases h1:1<x.1
  ·rw[if_pos h1];exact hnext s B m (hs.mono (Nat.le_succ _)) hm
  rw[if_neg h1];obtain ⟨t,v,e1,e2⟩:=t1a n hs.bk (by omega) x hx;rw[e1,obs];rcases e2 with ⟨h0,hv,k1,k2,k3,k4,k5⟩ | ⟨k0,k1,k2⟩
  ·subst hv;have hct:=hs.write (by omega) k5;have hm2:IntKind.wrap .i64 (m+1)=((sumB (putB B x.2.1.1 x.2.1.2):Nat):Int):=by
    rw[f1j,hm,w64 (by omega) (by omega)];omega
   rw[t1b (n+15) hs.bk (by omega) h0 k2 k3 k4,obs];simp only[Bool.not_true,tff];rw[tfd,if_pos h0,decide_true,tft];exact (b2t n hct (by omega) hm2 (some (.inr false)) (fun b=>b0i (n+25) f (t,(b,(IntKind.wrap .i64 (m+1),(acts,((acts.length:Int),((pre.length:Int)+1,())))))))).trans (hnext t _ _ hct hm2)
  ·have hct:CtInv (pre.length+1) t B:=by
    rcases k2 (by omega) with rfl | ⟨now,rfl⟩
    ·exact hs.mono (Nat.le_succ _)
    ·exact (hs.tick now).mono (Nat.le_succ _)
   have tail:=(b2t n hct (by omega) hm (some (.inr false)) (fun b=>b0i (n+25) f (t,(b,(m,(acts,((acts.length:Int),((pre.length:Int)+1,())))))))).trans (hnext t _ _ hct hm);rw[x1d (n+24) (bkM B) k0,obs];simp only[Bool.not_true,tff];rw[tfd];by_cases h0:x.1=0
   ·rw[if_pos h0,decide_eq_false (fun k=>k0 ⟨h0,k⟩),tff];exact tail
   ·rw[if_neg h0];exact tail
theorem y0r (n:Nat) (c:Conf) (acts:List Act) (hc:Wf a0o c) (ha:Wf (.slice f0g) acts):q0l (n+41) c acts=some true:=by
 obtain ⟨a1,a2,a3⟩:=acts_wf ha;rw[u0i,u0h n,obs,tfn,tft];rcases fits11 (n+32) c with h | ⟨h,h0⟩
 ·rw[h];rfl
 rw[h,obs,tfn,tft];rcases t1m (n+38) acts a1 a2 with h1 | ⟨h1,h40⟩
 ·rw[h1];rfl
 rw[h1,obs,tfn,tft,y0z (n+33),obs,p1b,obs,tfn,tfd,if_pos h0];have e1:=p1o (n+15) acts h40 a3 acts [] a0b (k0x c).1 [] 0 0 _ rfl rfl rfl (by unfold a0b;omega) (.new h0) rfl;rw[bkM_nil] at e1;rw[e1,obs,b0j]
end Go.Proofs.YtojobamheigpbaaGreatDoor
