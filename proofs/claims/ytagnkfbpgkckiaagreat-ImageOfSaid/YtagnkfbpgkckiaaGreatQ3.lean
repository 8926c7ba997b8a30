/-
 Plain proofs about the functions of this seat, part 3 of 4.
-/
import Derived.Test.YtagnkfbpgkckiaaGreatQ2
set_option linter.unusedVariables false
set_option linter.unusedSimpArgs false
open Go.IntKind (wrap)
namespace Go.Proofs.YtagnkfbpgkckiaaGreat
open Go.Flat Go.Plim
def o0t (x:Ser):List UInt8 :=
 toB (beI 2 ((labB x.1).length:Int))++(padB (labB x.1) 320++(n8B x.2.1++(n8B x.2.2.1.1++(n8B x.2.2.1.2.1++(toB (beI 2 (x.2.2.1.2.2.length:Int))++b0z x.2.2.2.2)))))
def c0h (x:Ser):List UInt8:=padB (o0t x) 512
def zsec:List UInt8:=List.replicate 512 0
noncomputable def d0p (c:Conf)(x:Ser):List (List UInt8) :=
 if x=ser0 then List.replicate (plc c).toNat zsec
 else c0h x::(cutB 16 d0g (f0i x.2.2.1 c.1)++(cutB 4 b0z x.2.2.2.1.1++(cutB 4 b0z x.2.2.2.1.2.1++cutB 4 b0z x.2.2.2.1.2.2)))
def v0u:List UInt8:=[112,108,105,109,115,111,108,108]
def z0y (s:Sta):List UInt8:=v0u++(toB (bts s.1)++(n8B s.2.1++n8B (s.2.2.1+1)))
def i0g (s:Sta):List UInt8:=padB (z0y s) 512
noncomputable def allB (s:Sta):List (List UInt8):=i0g s::s.2.2.2.flatMap (d0p s.1)
theorem h1h (x:Int):(toB (beI 2 x)).length=2:=by simp[c0p,b0n]
theorem e1k {x:Ser}(h:(labB x.1).length<=320):(o0t x).length=476:=by
 have e1:=m0z (labB x.1) 320;have e2:=d0s x.2.2.2.2;unfold o0t;simp only[q2d,h1h,f0r,e1,e2];omega
theorem x0g {x:Ser}(h:(labB x.1).length<=320):(c0h x).length=512:=by rw[c0h,m0z,e1k h];rfl
theorem n0u (c:Conf):(toB (bts c)).length=56:=by rw[c0p,g2v]
theorem d1d (s:Sta):(z0y s).length=80:=by
 unfold z0y v0u;simp only[q2d,n0u,f0r];rfl
theorem e2f (s:Sta):(i0g s).length=512:=by rw[i0g,m0z,d1d];rfl
theorem o1f (w:List Int)(h:∀x∈w,0<=x/\x<=255):c0c (toB w)=w:=by
 induction w with
 | nil=>rfl
 | cons a w ih =>
  have ha:=h a List.mem_cons_self;have e:c0c (toB (a::w))=(((UInt8.ofNat a.toNat).toNat:Nat):Int)::c0c (toB w):=rfl;rw[e,ih fun x hx=>h x (q2j _ hx)];congr 1;simp;omega
theorem hd_val (n:Nat){x:Ser}(hl:LabOk x.1)(hr:x.2.2.1.2.2.length<=4096):z0b (n+8) x=some (c0h x,0):=by
 have hlab:=y0w hl;have h2:∀v:Int,(beI 2 v).length=2:=fun v=>by simp[b0n]
 have e1:=m0z (labB x.1) 320;rw[l1y,a2c n x.1,q0z hl,obs];dsimp only;rw[wu64 (by omega) (by omega),c0g (n+6) [] 2 2 _ rfl (by omega) (by omega) (by simp),obs,q2r,
  show (320:Int)=((320:Nat):Int) from rfl,v0q (n+2) _ 320 (by omega) (by omega),obs,p1j (n+6) (by rw[h2];omega),obs,
  b1w (n+5) _ _ (by simp) (by simp[h2,j0r];omega),obs,wu64 (by omega) (by omega),c0g (n+6) _ 2 2 _ rfl (by omega) (by omega) (by simp[h2,j0r,y0t];omega),obs,
  p1d (n+1),obs,p1j (n+6) (by simp[h2,j0r,y0t,d0s];omega),obs,j1l (n+6),obs]
 dsimp only;have e:toB (beI 2 ((labB x.1).length:Int)++c0c (padB (labB x.1) 320)++List.flatMap n8I [x.2.1,x.2.2.1.1,x.2.2.1.2.1]++beI 2 (x.2.2.1.2.2.length:Int)++c0c (b0z x.2.2.2.2))=o0t x:=by
  unfold o0t n8B;simp only[u0l,w0i,q3l,List.flatMap_nil,q2x,q2g]
 rw[e,show (512:Int)=((512:Nat):Int) from rfl,v0q (n+2) _ 512 (by rw[e1k hlab];omega) (by omega),obs];rfl
theorem m2a (n:Nat){x:Ser}(h:SerM x):z0c (n+4) x=some (decide (x=ser0)):=by
 have:=y0o n x ser0 h;rw[l1z];have e:e0l (n+3) x ([],((0:Int),(((0:Int),((0:Int),[])),(([],([],[])),((0:Int),z0)))))=some (decide (x=ser0)):=this
 change a0a (e0l (n+3) x ([],((0:Int),(((0:Int),((0:Int),[])),(([],([],[])),((0:Int),z0)))))) _=_
 rw[e];rfl
theorem o1u {c:Conf}{x:Ser}(h:SerOk c x):x.2.2.2.1.1.length<=4096/\x.2.2.2.1.2.1.length<=4096/\x.2.2.2.1.2.2.length<=4096:=⟨h.fold.t0.l1,h.fold.t1.l1,h.fold.t2.l1⟩
theorem w0r {r:Rw}{room:Int}(h:RawOk r room):(f0i r room).length=room.toNat/\room.toNat<=4096:=⟨by unfold f0i;rw[d1n];simp,by have:=h.m1;omega⟩
theorem u1w (n:Nat){c:Conf}{x:Ser}(hc:OkC c)(hw:SerW x)(hm:SerM x):t0l (n+12) c x=some (if x=ser0\/SerOk c x then (d0p c x,0) else ([],2)):=by
 have hr:=hc.rng;have hp:=h0b hr;rw[m1b,x0i (n+8) hc,obs,q2a (rfl:(0:Int)=0),q2u,tff,m2a (n+7) hm,obs,tfd];by_cases h0:x=ser0
 ·rw[q0z h0,q0z (.inl h0),show (512:Int)=((512:Nat):Int) from rfl,v0q (n+6) [] 512 (by simp) (by omega),obs,x1a (n+7) hc,obs,
   show plc c=(((plc c).toNat:Nat):Int) by omega,y1b (n+8) _ (plc c).toNat (by omega) (by omega),obs]
  unfold d0p;rw[q0z h0];rfl
 rw[q0n h0,f1d n c hw,obs];by_cases hs:SerOk c x
 ·have ht:=o1u hs;have hrd:=w0r hs.raw;have hln:=hs.raw.len;have hlab:=y0w hs.lab;have hch:∀ {α:Type} (m:Nat) (f:α->List UInt8) (l:List α),1<=m->l.length<=4096->(cutB m f l).length<=4096:=fun m f l hm hl=>by
   rw[g1y];have:=n0q hm l;omega
  rw[q0z hs,q0z (.inr hs),q2a (rfl:(0:Int)=0),q2u,tff,hd_val (n+3) hs.lab (by have:=hs.raw.m1;omega),obs,q2a (rfl:(0:Int)=0),q2u,tff,i2o (n+10) hs.raw,obs,
   show (16:Int)=((16:Nat):Int) from rfl,w1m (n+5) d0g (fun y0=>o0q (n+11) y0.1) (fun e=>w1f (n+5) e) (fun e=>by rw[g0p];omega) _ _ 16 (by omega) (by omega) (by omega) (by simp),obs]
  have c1:=hch 16 d0g (f0i x.2.2.1 c.1) (by omega) (by omega);have c2:=hch 4 b0z x.2.2.2.1.1 (by omega) ht.1;have c3:=hch 4 b0z x.2.2.2.1.2.1 (by omega) ht.2.1;have c4:=hch 4 b0z x.2.2.2.1.2.2 (by omega) ht.2.2;have cv:=fun (out:List (List UInt8)) (l:List Slo) (h1:l.length<=4096) (h2:out.length<=100000)=>a2t (n+5) b0z (fun y0=>j0n (n+11) y0.1) (fun e=>p1d (n+5) e) (fun e=>by rw[d0s];omega) out l 4 (by omega) (by omega) (by omega) h2
  have hl:f0t (n+11) a0b ([c0h x]++cutB 16 d0g (f0i x.2.2.1 c.1),x.2.2.2.1,(0:Int),())=some (.inl (c0h x::(cutB 16 d0g (f0i x.2.2.1 c.1)++(cutB 4 b0z x.2.2.2.1.1++(cutB 4 b0z x.2.2.2.1.2.1++cutB 4 b0z x.2.2.2.1.2.2))),())):=by
   obtain ⟨f,hf⟩:∃f,a0b=f+4:=⟨a0b-4,by unfold a0b;omega⟩;rw[hf,g0v,tfd,q0z (by omega),tfd,q0z rfl,show (4:Int)=((4:Nat):Int) from rfl,cv _ _ ht.1 (by simp;omega),obs,show wrap .i64 ((0:Int)+1)=1 from by decide,
    g0v,tfd,q0z (by omega),tfd,q0n (by omega),tfd,q0z rfl,show (4:Int)=((4:Nat):Int) from rfl,cv _ _ ht.2.1 (by simp;omega),obs,show wrap .i64 ((1:Int)+1)=2 from by decide,
    g0v,tfd,q0z (by omega),tfd,q0n (by omega),tfd,q0n (by omega),tfd,q0z rfl,show (4:Int)=((4:Nat):Int) from rfl,cv _ _ ht.2.2 (by simp;omega),obs,show wrap .i64 ((2:Int)+1)=3 from by decide,
    g0v,tfd,q0n (by omega)]
   simp
  rw[hl,obs,a0m];unfold d0p;rw[q0n h0]
 ·rw[q0n hs,q0n (by rintro (k | k);exact h0 k;exact hs k)];rfl
theorem s1o (n:Nat){s:Sta}(hw:StaW s):t0k (n+15) s=some (if StaOk s then (i0g s,0) else ([],2)):=by
 rw[m1a,s1q n hw,obs];by_cases h:StaOk s
 ·have hc:=h.whole.1;have hb:=n0u s.1;have hk:=h.clock;rw[q0z h,q0z h,q2a (rfl:(0:Int)=0),q2u,tff,bytes_ok (n+10) hc,obs,tfd,q0z (by omega),p1j (n+13) (by simp[hb]),obs,
   b1w (n+12) _ _ (by simp) (by simp[j0r,hb]),obs,j1l (n+13),obs]
  dsimp only;have hsw:wrap .i64 (s.2.2.1+1)=s.2.2.1+1:=by
   obtain ⟨_,k,_⟩:=hk;rcases k with k | ⟨k1,k2⟩
   ·rw[k];decide
   ·exact w64 (by omega) (by omega)
  have e:toB ([]++c0c (v0u++toB (bts s.1))++List.flatMap n8I [s.2.1,wrap .i64 (s.2.2.1+1)])=z0y s:=by
   rw[hsw];unfold z0y n8B;simp only[q2r,u0l,w0i,q3l,List.flatMap_nil,q2x,q2g]
  change a0a (h0f (n+14) (toB ([]++c0c (v0u++toB (bts s.1))++List.flatMap n8I [s.2.1,wrap .i64 (s.2.2.1+1)])) 512) _=_
  rw[e,show (512:Int)=((512:Nat):Int) from rfl,v0q (n+9) _ 512 (by rw[d1d];omega) (by omega),obs];rfl
 ·rw[q0n h,q0n h];rfl
theorem n1r {c:Conf}{x:Ser}(hc:OkC c)(h:x=ser0\/SerOk c x):(d0p c x).length<=100000:=by
 have hp:=h0b hc.rng;unfold d0p;split
 ·simp;omega
 ·rename_i h0;have hs:SerOk c x:=h.resolve_left h0;have ht:=o1u hs;have hrd:=w0r hs.raw;have hch:∀ {α:Type} (m:Nat) (f:α->List UInt8) (l:List α),1<=m->l.length<=4096->(cutB m f l).length<=4096:=fun m f l hm hl=>by
   rw[g1y];have:=n0q hm l;omega
  have c1:=hch 16 d0g (f0i x.2.2.1 c.1) (by omega) (by omega);have c2:=hch 4 b0z x.2.2.2.1.1 (by omega) ht.1;have c3:=hch 4 b0z x.2.2.2.1.2.1 (by omega) ht.2.1;have c4:=hch 4 b0z x.2.2.2.1.2.2 (by omega) ht.2.2;simp;omega
theorem r0c {s:Sta}{i:Nat}{x:Ser}(h:j0s s i x):x=ser0\/SerOk s.1 x:=by
 rcases h with h | h
 ·exact .inl h
 ·exact .inr h.1
theorem all_l4 (n:Nat){s:Sta}(hw:StaW s)(hs:StaOk s):∀(rest pre:List Ser) (f:Nat) (out:List (List UInt8)) (i:Int),s.2.2.2=pre++rest->i=pre.length->out.length<=100000*pre.length+1 ->
  p0w (n+12) (f+rest.length+1) (s,(0:Int),out,i,())=some (.inl ((0:Int),out++rest.flatMap (d0p s.1),())):=by
 have hL:=hs.whole.len;intro rest;induction rest with
 | nil =>
  intro pre f out i h hi ho;have hn:¬(i<((s.2.2.2.length:Nat):Int)):=by have:=congrArg List.length h;simp at this;omega
  rw[o0r,tfd,q0z rfl,tfd,q0n hn];simp
 | cons a rest ih =>
  intro pre f out i h hi ho;have hlen:=congrArg List.length h;simp at hlen;have hia:s.2.2.2[pre.length]? = some a:=by rw[h];simp
  have hr:=r0c (hs.right pre.length a hia);obtain ⟨w1,w2⟩:=hw.at hia;have hpl:=n1r hs.whole.1 hr;rw[show f+(a::rest).length+1=(f+rest.length+1)+1 by simp;omega,o0r,tfd,q0z rfl,tfd,q0z (by omega),b0o h hi,obs,u1w n hs.whole.1 w1 w2,q0z hr,obs];dsimp only;rw[tfd,q0z (by omega),w64 (x:=i+1) (by omega) (by omega)];rw[ih (pre++[a]) f _ (i+1) (idxl h) (idxs hi) (by simp;omega)];simp
theorem b2a (n:Nat){s:Sta}(hw:StaW s):r0s (n+16) s=some (if StaOk s then (allB s,0) else ([],2)):=by
 rw[v1u,s1o n hw,obs];by_cases h:StaOk s
 ·have hL:=h.whole.len;rw[q0z h,q0z h];dsimp only;have:=all_l4 (n+3) hw h s.2.2.2 [] (a0b-s.2.2.2.length-1) [i0g s] 0 rfl rfl (by simp);rw[<-lfu (by omega)] at this;rw[this,obs,a0m];rfl
 ·rw[q0n h,q0n h];obtain ⟨f,hf⟩:∃f,a0b=f+1:=⟨a0b-1,by unfold a0b;omega⟩;dsimp only;rw[hf,o0r,tfd,q0n (by decide),obs,a0m];rfl
theorem c2w (n:Nat){x:Int}(h0:0<=x)(h1:x<=18446744073709551615):d0b (n+1) 2 x=some (toB (beI 2 x)):=g0i n 2 2 x rfl (by omega) (by omega) h0 h1
theorem g2p {α:Type}(m k:Nat)(hm:1<=m)(a:α):c0r (k*m) m (List.replicate (k*m) a)=List.replicate k (List.replicate m a):=by
 have h:=fun i=>e0b hm (k*m) (List.replicate (k*m) a) (by simp) i
 apply q3y;intro i;rw[h i,q3b,List.getElem?_replicate];by_cases hi:i<k
 ·rw[q0z (Nat.mul_lt_mul_of_pos_right hi hm),q0z hi,List.drop_replicate,List.take_replicate];congr 2;have:(i+1)*m<=k*m:=q3x m hi;rw[q3w] at this;omega
 ·rw[q0n (fun q=>hi (Nat.lt_of_mul_lt_mul_right q)),q0n hi]
theorem pad_rep:padB (List.replicate 512 0) 512=zsec:=by
 unfold padB zsec;rw[q3b,Nat.sub_self,List.replicate_zero,q2x]
theorem cutS_rep (k:Nat):cutS (List.replicate (k*512) 0)=List.replicate k zsec:=by
 unfold cutS;rw[q3b,g2p 512 k (by omega),List.map_replicate,pad_rep]
theorem cutS_one {s:List UInt8}(h:s.length=512):cutS s=[s]:=by
 unfold cutS;apply q3y;intro i;rw[q3f,e0b (by omega) _ _ (q2e _),h];cases i with
 | zero =>
  rw[q0z (by omega)];simp[padB,h,q3j]
 | succ i=>rw[q0n (by omega)];simp
theorem rplace28 (n:Nat)(x:Ser)(out:List (List UInt8))(k:Int)(l:List Slo)(hl:l.length<=4096)(hw:∀s∈l,SloW s):∀(rest pre:List Slo) (f:Nat) (t:List UInt8) (i:Int),l=pre++rest->i=pre.length->t.length<=128*pre.length ->
  e0g (n+4) (f+rest.length+1) (x,out,k,t,l,(l.length:Int),i,())=some (.inl (x,out,k,t++rest.flatMap b0z,())):=by
 intro rest;induction rest with
 | nil =>
  intro pre f t i h hi ht;rw[u0a];simp only[tfd,q0n (idxe h hi rfl)];simp
 | cons a rest ih =>
  intro pre f t i h hi ht;have hlen:=congrArg List.length h;simp at hlen;have ha:=d0s a;rw[show f+(a::rest).length+1=(f+rest.length+1)+1 by simp;omega,u0a];simp only[tfd,q0z (idx h hi rfl)];rw[b0o h hi,obs,t1b n a (hw a (by rw[h];simp)),obs,q0z (by omega),w64 (x:=i+1) (by omega) (by omega),ih (pre++[a]) f _ (i+1) (idxl h) (idxs hi) (by simp;omega)];simp
theorem i2j (n:Nat){c:Conf}{x:Ser}(hc:OkC c)(hw:SerW x)(hm:SerM x):i1r (n+12) c x=some (if x=ser0\/SerOk c x then (d0p c x,0) else ([],2)):=by
 have hr:=hc.rng;have hp:=h0b hr;rw[t1m,j0l (n+8) hc,obs,q2a (rfl:(0:Int)=0),q2u,tff,i1t (n+7) hm,obs,tfd];by_cases h0:x=ser0
 ·rw[q0z h0,q0z (.inl h0),(d2r (n+7) hc).2,obs,w64 (by omega) (by omega),u0s (n+10) _ (by omega),obs];have e:((512:Int)*plc c).toNat=(plc c).toNat*512:=by omega
  rw[e,g1n (n+8) _ (by simp;omega),obs,cutS_rep];unfold d0p;rw[q0z h0]
 rw[q0n h0,t1u (n+3) c hw,obs];by_cases hs:SerOk c x
 ·have ht:=o1u hs;have hrd:=w0r hs.raw;have hln:=hs.raw.len;have hm1:=hs.raw.m1;have hlab:=y0w hs.lab;have hch:∀ {α:Type} (m:Nat) (f:α->List UInt8) (l:List α),1<=m->l.length<=4096->(cutB m f l).length<=4096:=fun m f l hm hl=>by
   rw[g1y];have:=n0q hm l;omega
  have b2:=fun v=>h1h v
  have b8:=fun v=>f0r v
  have bs:=d0s x.2.2.2.2;have pl:=m0z (toB (beI 2 ((labB x.1).length:Int))++labB x.1) 322;have hpl:(padB (toB (beI 2 ((labB x.1).length:Int))++labB x.1) 322).length=322:=by rw[pl,q2d,b2];omega
  rw[q0z hs,q0z (.inr hs),q2a (rfl:(0:Int)=0),q2u,tff,j2j (n+3) hs.lab,obs];dsimp only;rw[wu64 (by omega) (by omega),c2w (n+10) (by omega) (by omega),obs,tfd,q0z (by rw[b2];omega),show (322:Int)=((322:Nat):Int) from rfl,w0q (n+9) _ 322 (by rw[q2d,b2];omega) (by omega),obs,
   g0n (n+9),obs,tfd,q0z (by rw[hpl,b8];omega),g0n (n+9),obs,tfd,q0z (by rw[q2d,hpl,b8,b8];omega),g0n (n+9),obs,tfd,q0z (by simp only[q2d,hpl,b8];omega),
   wu64 (by omega) (by omega),c2w (n+10) (by omega) (by omega),obs,tfd,q0z (by simp only[q2d,hpl,b8,b2];omega),t1b (n+7) _ hw.opn,obs,tfd,q0z (by simp only[q2d,hpl,b8,b2,bs];omega)]
  have ef:padB (toB (beI 2 ((labB x.1).length:Int))++labB x.1) 322++n8B x.2.1++n8B x.2.2.1.1++n8B x.2.2.1.2.1++toB (beI 2 (x.2.2.1.2.2.length:Int))++b0z x.2.2.2.2=o0t x:=by
   unfold o0t padB;rw[q2d,b2,show 322-(2+(labB x.1).length)=320-(labB x.1).length by omega];simp only[q2g]
  have fl:=x0g hlab;rw[ef,show (512:Int)=((512:Nat):Int) from rfl,w0q (n+9) _ 512 (by rw[e1k hlab];omega) (by omega),obs]
  change a0a (o0h (n+11) (c0h x)) _=_
  rw[g1n (n+8) _ (by omega),obs,cutS_one fl];have e12:=rplace12 (n+7) c x [c0h x] hs.raw hw.raw c.1.toNat 0 (a0b-c.1.toNat-1) [] (by omega) (by simp);rw[show a0b-c.1.toNat-1+c.1.toNat+1=a0b by unfold a0b;omega] at e12;have e12':k0d (n+11) a0b (c,x,[c0h x],[],(0:Int),())=some (.inl (x,[c0h x],(f0i x.2.2.1 c.1).flatMap d0g,())):=e12;have hfl:((f0i x.2.2.1 c.1).flatMap d0g).length<=200000:=by rw[p0x _ fun y _=>g0p y];omega
  have c1:=hch 16 d0g (f0i x.2.2.1 c.1) (by omega) (by omega);have c2:=hch 4 b0z x.2.2.2.1.1 (by omega) ht.1;have c3:=hch 4 b0z x.2.2.2.1.2.1 (by omega) ht.2.1;have c4:=hch 4 b0z x.2.2.2.1.2.2 (by omega) ht.2.2;rw[e12',obs,a0m];dsimp only;rw[g1n (n+8) _ (by omega),obs,d2f (m:=16) (w:=32) (by omega) (by omega) (by omega) _ (fun y _=>g0p y),tfd,q0z (by simp;omega)];have e28:=fun (out:List (List UInt8)) (k:Int) (l:List Slo) (hl:l.length<=4096) (hlw:∀s∈l,SloW s)=>rplace28 (n+7) x out k l hl hlw l [] (a0b-l.length-1) [] 0 rfl rfl (by simp)
  have e28':∀(out:List (List UInt8)) (k:Int) (l:List Slo),l.length<=4096->(∀s∈l,SloW s)->e0g (n+11) a0b (x,out,k,[],l,(l.length:Int),(0:Int),())=some (.inl (x,out,k,l.flatMap b0z,())):=fun out k l hl hlw=>by
   have:=e28 out k l hl hlw;rw[<-lfu (by omega)] at this;exact this
  have cs:∀l:List Slo,l.length<=4096->o0h (n+11) (l.flatMap b0z)=some (cutB 4 b0z l):=fun l hl=>by
   rw[g1n (n+8) _ (by rw[p0x _ fun y _=>d0s y];omega),d2f (m:=4) (w:=128) (by omega) (by omega) (by omega) _ (fun y _=>d0s y)]
  obtain ⟨tw1,tw2,tw3⟩:=hw.trs;have hl24:e0z (n+11) a0b (x,[c0h x]++cutB 16 d0g (f0i x.2.2.1 c.1),(0:Int),())=some (.inl (c0h x::(cutB 16 d0g (f0i x.2.2.1 c.1)++(cutB 4 b0z x.2.2.2.1.1++(cutB 4 b0z x.2.2.2.1.2.1++cutB 4 b0z x.2.2.2.1.2.2))),())):=by
   obtain ⟨f,hf⟩:∃f,a0b=f+4:=⟨a0b-4,by unfold a0b;omega⟩;have hE:∀(out:List (List UInt8)) (k:Int) (l:List Slo),l.length<=4096->(∀s∈l,SloW s)->e0g (n+11) (f+4) (x,out,k,[],l,(l.length:Int),(0:Int),())=some (.inl (x,out,k,l.flatMap b0z,())):=by rw[<-hf];exact e28'
   have step:∀(g:Nat) (out:List (List UInt8)) (l:List Slo) (k:Int),l.length<=4096->(∀s∈l,SloW s)->out.length<=100000 -> -10<=k->k<=10 ->
     (a0a (e0g (n+11) a0b (x,(out,(k,([],(l,((((List.length l):Nat):Int),((0:Int),())))))))) fun r0 =>
      b0g (fun y1 =>
      a0a (o0h (n+11) y1.2.2.2.1) fun r2 =>
      tif (decide ((((List.length y1.2.1)+(List.length r2))*16)<=140737488355328)) (
      e0z (n+11) g (y1.1,((y1.2.1++r2),((wrap .i64 (y1.2.2.1+(1:Int))),())))) (
      none)) (fun z3 =>
      some (.inr z3)) r0)=e0z (n+11) g (x,out++cutB 4 b0z l,k+1,()):=fun g out l k hl hlw ho k1 k2=>by
    have:=hch 4 b0z l (by omega) hl;rw[e28' out k l hl hlw,obs,a0m];dsimp only;rw[cs l hl,obs,tfd,q0z (by omega),w64 (by omega) (by omega)]
   rw[hf,i0y,tfd,q0z (by omega),tfd,q0z rfl,step (f+3) _ x.2.2.2.1.1 0 ht.1 tw1 (by simp;omega) (by omega) (by omega),
    i0y,tfd,q0z (by omega),tfd,q0n (by omega),tfd,q0z (by omega),step (f+2) _ x.2.2.2.1.2.1 (0+1) ht.2.1 tw2 (by simp;omega) (by omega) (by omega),
    i0y,tfd,q0z (by omega),tfd,q0n (by omega),tfd,q0n (by omega),tfd,q0z (by omega),step (f+1) _ x.2.2.2.1.2.2 (0+1+1) ht.2.2 tw3 (by simp;omega) (by omega) (by omega),
    i0y,tfd,q0n (by omega)]
   simp
  rw[hl24,obs,a0m];unfold d0p;rw[q0n h0]
 ·rw[q0n hs,q0n (by rintro (k | k);exact h0 k;exact hs k)];rfl
theorem e2p (n:Nat){s:Sta}(hw:StaW s):i1q (n+15) s=some (if StaOk s then (i0g s,0) else ([],2)):=by
 rw[t1l,j2a (n+5) hw,obs];by_cases h:StaOk s
 ·have hc:=h.whole.1;have hb:=n0u s.1;have hk:=h.clock;have b8:=fun v=>f0r v
  have hsw:wrap .i64 (s.2.2.1+1)=s.2.2.1+1:=by
   obtain ⟨_,k,_⟩:=hk;rcases k with k | ⟨k1,k2⟩
   ·rw[k];decide
   ·exact w64 (by omega) (by omega)
  rw[q0z h,q0z h,q2a (rfl:(0:Int)=0),q2u,tff,v0g (n+10) hc,obs,tfd,q0z (by omega),g0n (n+12),obs,tfd,q0z (by simp[hb,b8]),hsw,g0n (n+12),obs,tfd,q0z (by simp[hb,b8])]
  change a0a (s0s (n+14) (v0u++toB (bts s.1)++n8B s.2.1++n8B (s.2.2.1+1)) 512) _=_
  have e:v0u++toB (bts s.1)++n8B s.2.1++n8B (s.2.2.1+1)=z0y s:=by unfold z0y;simp only[q2g]
  rw[e,show (512:Int)=((512:Nat):Int) from rfl,w0q (n+12) _ 512 (by rw[d1d];omega) (by omega),obs];rfl
 ·rw[q0n h,q0n h];rfl
theorem rall_l6 (n:Nat){s:Sta}(hw:StaW s)(hs:StaOk s):∀(rest pre:List Ser) (f:Nat) (out:List (List UInt8)) (i:Int),s.2.2.2=pre++rest->i=pre.length->out.length<=100000*pre.length+1 ->
  w0w (n+12) (f+rest.length+1) (s,out,s.2.2.2,(s.2.2.2.length:Int),i,())=some (.inl (out++rest.flatMap (d0p s.1),())):=by
 have hL:=hs.whole.len;intro rest;induction rest with
 | nil =>
  intro pre f out i h hi ho;rw[a1x];simp only[tfd,q0n (idxe h hi rfl)];simp
 | cons a rest ih =>
  intro pre f out i h hi ho;have hlen:=congrArg List.length h;simp at hlen;have hia:s.2.2.2[pre.length]? = some a:=by rw[h];simp
  have hr:=r0c (hs.right pre.length a hia);obtain ⟨w1,w2⟩:=hw.at hia;have hpl:=n1r hs.whole.1 hr;rw[show f+(a::rest).length+1=(f+rest.length+1)+1 by simp;omega,a1x];simp only[tfd,q0z (idx h hi rfl)];rw[b0o h hi,obs,i2j n hs.whole.1 w1 w2,q0z hr,obs,q2a (rfl:(0:Int)=0),q2u,tff];dsimp only;rw[q0z (by omega),w64 (x:=i+1) (by omega) (by omega)];rw[ih (pre++[a]) f _ (i+1) (idxl h) (idxs hi) (by simp;omega)];simp
theorem rall_val (n:Nat){s:Sta}(hw:StaW s):y1k (n+16) s=some (if StaOk s then (allB s,0) else ([],2)):=by
 rw[e2x,e2p n hw,obs];by_cases h:StaOk s
 ·have hL:=h.whole.len;rw[q0z h,q0z h,q2a (rfl:(0:Int)=0),q2u,tff];have:=rall_l6 (n+3) hw h s.2.2.2 [] (a0b-s.2.2.2.length-1) [i0g s] 0 rfl rfl (by simp);rw[<-lfu (by omega)] at this;rw[this,obs,a0m];rfl
 ·rw[q0n h,q0n h];rfl
theorem rsame_l (n:Nat)(a b:List (List UInt8))(hL:a.length<=9223372036854775807):∀(ra rb pa pb:List (List UInt8)) (f:Nat) (i:Int),a=pa++ra->b=pb++rb->pa.length=pb.length->ra.length=rb.length->i=pa.length->ra.length<f ->
  s0v n f (a,b,(a.length:Int),i,())=some (if ra=rb then .inl () else .inr false):=by
 intro ra;induction ra with
 | nil =>
  intro rb pa pb f i ha hb hp hr hi hf;obtain ⟨f,rfl⟩:=l0d hf;have:rb=[]:=q2p (by simpa using hr.symm);subst this;rw[x0y,q1z (idxe ha hi rfl),tff,q0z rfl]
 | cons x ra ih =>
  intro rb pa pb f i ha hb hp hr hi hf;obtain ⟨f,rfl⟩:=l0d hf;cases rb with
  | nil=>simp at hr
  | cons y rb =>
   have hlen:=congrArg List.length ha;simp at hlen;rw[x0y,q2a (idx ha hi rfl),tft,b0o ha hi,obs,b0o hb (by omega),obs];by_cases hxy:x=y
   ·subst hxy;rw[beq_self_eq_true,q2u,tff,w64 (by omega) (by omega),ih rb (pa++[x]) (pb++[x]) f (i+1) (idxl ha) (idxl hb) (by simp;omega) (by simpa using hr) (idxs hi) (by simp at hf;omega)];simp
   ·rw[show (x==y)=false from beq_false_of_ne hxy,q3e,tft,q0n (fun h=>hxy (List.cons.inj h).1)]
theorem i2i (n:Nat)(a b:List (List UInt8))(hL:a.length<=1000000000000):p1p (n+1) a b=some (decide (a=b)):=by
 rw[y1i];by_cases h:a.length=b.length
 ·rw[q2a (show ((a.length:Nat):Int)=(b.length:Nat) by omega),q2u,tff,rsame_l n a b (by omega) a b [] [] a0b 0 rfl rfl rfl h rfl (by unfold a0b;omega),obs];by_cases he:a=b
  ·rw[q0z he,q2a he];rfl
  ·rw[q0n he,q1z he];rfl
 ·rw[q1z (show ¬((a.length:Nat):Int)=(b.length:Nat) by omega),q3e,tft,q1z (fun e=>h (by rw[e]))]
theorem f1w {α:Type}{m f:Nat}(hm:1<=m){xs:List α}(h:xs.length<=f):c0r f m xs=c0r xs.length m xs :=
 q3y fun k=>by rw[e0b hm f xs h,e0b hm _ xs (q2e _)]
theorem cutB_nil {α:Type}(m:Nat)(f:α->List UInt8):cutB m f []=[]:=rfl
theorem m2c {α:Type}{m:Nat}(hm:1<=m)(f:α->List UInt8){l:List α}(h:l≠[]):cutB m f l=padB ((l.take m).flatMap f) 512::cutB m f (l.drop m):=by
 cases l with
 | nil=>exact absurd rfl h
 | cons x t =>
  unfold cutB;show List.map _ (c0r (t.length+1) m (x::t))=_;rw[w0e,q3m,f1w hm (by simp;omega)]
theorem w1r {α:Type}{m:Nat}(hm:1<=m)(xs:List α):(c0r xs.length m xs).length=(xs.length+m-1) / m:=by
 obtain ⟨c,hc⟩:∃c,c=(c0r xs.length m xs).length:=⟨_,rfl⟩;have h1:=(n0r hm xs c);rw[hc] at h1;have h2:¬(c0r xs.length m xs).length*m<xs.length:=fun h=>Nat.lt_irrefl _ (h1.2 h)
 rw[<-hc] at h2 ⊢;symm;apply Nat.div_eq_of_lt_le
 ·cases c with
  | zero=>omega
  | succ k =>
   have h3:=(n0r hm xs k).1 (by rw[<-hc];omega);rw[q3w];omega
 ·rw[Nat.succ_mul];omega
theorem i0b {α:Type}{m:Nat}(hm:1<=m)(f:α->List UInt8)(l:List α):(cutB m f l).length=(l.length+m-1) / m:=by rw[g1y,w1r hm]
theorem w1n {α:Type}{m w:Nat}(hm:1<=m)(hmw:m*w=512){f:α->List UInt8}:∀(k:Nat) (l:List α),l.length<=k->(∀x∈l,(f x).length=w)->∃z,(cutB m f l).flatten=l.flatMap f++z:=by
 intro k;induction k with
 | zero =>
  intro l h _;have:l=[]:=q2p (by omega);subst this;exact ⟨[],rfl⟩
 | succ k ih =>
  intro l h hf;by_cases hl:l=[]
  ·subst hl;exact ⟨[],rfl⟩
  ·have hpos:=List.length_pos_iff.2 hl;rw[m2c hm f hl,List.flatten_cons];obtain ⟨z,hz⟩:=ih (l.drop m) (by rw[q2l];omega) fun x hx=>hf x (List.mem_of_mem_drop hx)
   by_cases hc:m<=l.length
   ·have hlen:((l.take m).flatMap f).length=512:=by
     rw[p0x _ fun x hx=>hf x (q3p hx),q2z,q3i hc,hmw]
    refine ⟨z,?_⟩;rw[hz];have e:padB ((l.take m).flatMap f) 512=(l.take m).flatMap f:=by unfold padB;rw[hlen];simp
    rw[e,<-q2g,<-List.flatMap_append,q3d]
   ·have e1:l.take m=l:=q3j (by omega);have e2:l.drop m=[]:=List.drop_of_length_le (by omega);rw[e1,e2,cutB_nil,List.flatten_nil,q2x];exact ⟨_,rfl⟩
theorem p0z {α:Type}{m w:Nat}(hm:1<=m)(hmw:m*w=512){f:α->List UInt8}{l:List α}(hf:∀x∈l,(f x).length=w):∀s∈cutB m f l,s.length=512:=by
 intro s hs;unfold cutB at hs;obtain ⟨p,hp,rfl⟩:=q3k.1 hs;obtain ⟨h1,h2⟩:=k1k hm hp;rw[m0z,p0x _ fun x hx=>hf x (h2 x hx)];have:p.length*w<=m*w:=q3x w h1;omega
theorem l2i {α:Type}{w:Nat}{f:α->List UInt8}{l:List α}{j:Nat}{x:α}(hf:∀y∈l,(f y).length=w)(hx:l[j]? = some x)(z:List UInt8):∃t,(l.flatMap f++z).drop (j*w)=f x++t:=by
 have hj:=(q2q.1 hx).1;have hlen:=p0x l hf;have hle:j*w<=(l.flatMap f).length:=by rw[hlen];exact q3x w (Nat.le_of_lt hj)
 rw[List.drop_append_of_le_length hle,j1z j l hf];have:l.drop j=x::l.drop (j+1):=by
  rw[q3a hj];congr 1;rw[q2b hj] at hx;injection hx
 rw[this,q3l,q2g];exact ⟨_,rfl⟩
theorem k2i {a d r:Nat}(hr:0<r)(h1:0<d)(h2:d<r):a % r≠(a+d) % r:=by
 intro h;have h3:(a+d) % r=(a % r+d) % r:=by rw[Nat.mod_add_mod]
 have h4:=Nat.mod_lt a hr;rw[h3] at h;rcases Nat.lt_or_ge (a % r+d) r with k | k
 ·rw[Nat.mod_eq_of_lt k] at h;omega
 ·rw[Nat.mod_eq_sub_mod k,Nat.mod_eq_of_lt (a:=a % r+d-r) (b:=r) (by omega)] at h;omega
theorem n1g (lost room:Nat):∀(L:List Ev) (k:Nat) (out:List Ev) (p:Nat),(∀j,j<L.length->(lost+(k+j)) % room≠p)->(t0u lost room k L out)[p]? = out[p]?
 | [],k,out,p,_=>rfl
 | e::L,k,out,p,h=>by
  have h0:=h 0 (by simp);rw[Nat.add_zero] at h0;rw[t0u,n1g lost room L (k+1) _ p fun j hj=>by have:=h (j+1) (by simp;omega);rwa [show k+(j+1)=k+1+j by omega] at this];rw[q3h h0]
theorem n1e (lost room:Nat)(hr:0<room):∀(L:List Ev) (k:Nat) (out:List Ev) (i:Nat) (x:Ev),L.length<=room->out.length=room->L[i]? = some x->(t0u lost room k L out)[(lost+(k+i)) % room]? = some x
 | [],k,out,i,x,_,_,h=>by simp at h
 | e::L,k,out,0,x,hL,ho,h=>by
  simp at h;subst h;have hlt:=Nat.mod_lt (lost+k) hr;show (t0u lost room (k+1) L (out.set ((lost+k) % room) e))[(lost+k) % room]? = some e;rw[n1g lost room L (k+1) _ _ fun j hj => ?_]
  ·rw[List.getElem?_set_self (by omega)]
  ·have:=k2i (a:=lost+k) hr (show 0<1+j by omega) (by simp at hL;omega);rw[show lost+(k+1+j)=lost+k+(1+j) by omega];exact fun q=>this q.symm
 | e::L,k,out,i+1,x,hL,ho,h=>by
  rw[t0u,show k+(i+1)=k+1+i by omega];exact n1e lost room hr L (k+1) _ i x (by simp at hL;omega) (by simpa using ho) (by simpa using h)
theorem i2p {r:Rw}{room:Int}(h:RawOk r room){i:Nat}{x:Ev}(hx:r.2.2[i]? = some x):(f0i r room)[(r.1.toNat+i) % room.toNat]? = some x:=by
 have h1:=h.m0;have h2:=h.len;have:=n1e r.1.toNat room.toNat (by omega) r.2.2 0 (List.replicate room.toNat e0) i x (by omega) (by simp) hx
 rwa [Nat.zero_add] at this
abbrev Rdr:=List UInt8×Bool
def rdI (st:Rdr):Int×Rdr:=(wrap .i64 (rd st 8).1,(rd st 8).2)
def evR (st:Rdr):Ev×Rdr :=
 let a:=rdI st
 let b:=rd a.2 8
 let c:=rdI b.2
 let d:=rd c.2 1
 ((a.1,(b.1,(c.1,decide (d.1=1)))),d.2)
def slR (st:Rdr):Slo×Rdr :=
 let a:=rdI st
 let b:=rdI a.2
 let f:=evR b.2
 let l:=evR f.2
 let h:=rd l.2 8
 let i:=rd h.2 8
 let r:=rdI i.2
 let g:=rdI r.2
 let s:=rdI g.2
 ((a.1,(b.1,(f.1,(l.1,((h.1,i.1),(r.1,(g.1,s.1))))))),s.2)
theorem s0q (n:Nat)(st:Rdr):h0e (n+4) st=some (evR st):=by
 rw[c1h,a0v n st 8 8 rfl (by omega) (by omega),obs,a0v n _ 8 8 rfl (by omega) (by omega),obs,a0v n _ 8 8 rfl (by omega) (by omega),obs,a0v n _ 1 1 rfl (by omega) (by omega),obs];rfl
theorem f1h (n:Nat)(s:List UInt8):l0o (n+5) s=some (slR (s,false)).1:=by
 rw[e1g,f0f,obs,a0v (n+1) _ 8 8 rfl (by omega) (by omega),obs,a0v (n+1) _ 8 8 rfl (by omega) (by omega),obs,s0q n,obs,s0q n,obs,
  a0v (n+1) _ 8 8 rfl (by omega) (by omega),obs,a0v (n+1) _ 8 8 rfl (by omega) (by omega),obs,a0v (n+1) _ 8 8 rfl (by omega) (by omega),obs,a0v (n+1) _ 8 8 rfl (by omega) (by omega),obs,a0v (n+1) _ 8 8 rfl (by omega) (by omega),obs]
 rfl
theorem rd_n8 (v:Int)(t:List UInt8):rd (n8B v++t,false) 8=(wrap .u64 v,(t,false)):=by
 unfold n8B n8I;rw[d1q 8];have h:=IntKind.wrap_u64 v;have:(256:Int)^8=18446744073709551616:=rfl;rw[this,Int.emod_eq_of_lt (by omega) (by omega)]
theorem i1m {v:Int}(h:I64 v)(t:List UInt8):rdI (n8B v++t,false)=(v,(t,false)):=by
 unfold rdI;rw[rd_n8];have h1:=IntKind.wrap_u64 v;have h2:=IntKind.wrap_i64 (wrap .u64 v);have h3:=h.1;have h4:=h.2;have:wrap .i64 (wrap .u64 v)=v:=by omega
 rw[this]
theorem rd_u8 {v:Int}(h0:0<=v)(h1:v<=18446744073709551615)(t:List UInt8):rd (n8B v++t,false) 8=(v,(t,false)):=by rw[rd_n8,wu64 (by omega) (by omega)]
theorem rd_b1 (b:Bool)(t:List UInt8):rd (toB [if b=true then (1:Int) else 0]++t,false) 1=((if b=true then 1 else 0),(t,false)):=by
 have:=d1q 1 (if b=true then (1:Int) else 0) t;have e:beI 1 (if b=true then (1:Int) else 0)=[if b=true then (1:Int) else 0]:=by cases b<;>rfl
 rw[e] at this;rw[this];cases b<;>rfl
theorem r1c {e:Ev}(h:EvW e)(t:List UInt8):evR (p0c e++t,false)=(e,(t,false)):=by
 have es:p0c e++t=n8B e.1++(n8B e.2.1++(n8B e.2.2.1++(toB [if e.2.2.2=true then (1:Int) else 0]++t))):=by
  unfold p0c u0r n8B;simp only[u0l,q2g]
 unfold evR;rw[es,i1m h.t];dsimp only;rw[rd_u8 h.v.1 h.v.2];dsimp only;rw[i1m h.c];dsimp only;rw[rd_b1];obtain ⟨a,b,c,d⟩:=e;cases d<;>rfl
theorem slR_good {s:Slo}(h:SloW s)(t:List UInt8):slR (toB (sloI s)++t,false)=(s,(t,false)):=by
 have es:toB (sloI s)++t=n8B s.1++(n8B s.2.1++(p0c s.2.2.1++(p0c s.2.2.2.1++(n8B s.2.2.2.2.1.1++(n8B s.2.2.2.2.1.2++(n8B s.2.2.2.2.2.1++(n8B s.2.2.2.2.2.2.1++(n8B s.2.2.2.2.2.2.2++t)))))))):=by
  unfold sloI n8B p0c;simp only[u0l,q2g]
 have hw:=h.c.w;unfold slR;rw[es,i1m h.i];dsimp only;rw[i1m h.c.n];dsimp only;rw[r1c h.c.f];dsimp only;rw[r1c h.c.l];dsimp only;rw[rd_u8 hw.1.1 hw.1.2];dsimp only;rw[rd_u8 hw.2.1 hw.2.2];dsimp only;rw[i1m h.c.r];dsimp only;rw[i1m h.c.g];dsimp only;rw[i1m h.c.s]
theorem l2o {e:Ev}(h:EvW e)(t:List UInt8):(evR (d0g e++t,false)).1=e:=by
 have:d0g e++t=p0c e++(List.replicate (32-(p0c e).length) 0++t):=by unfold d0g padB;simp
 rw[this,r1c h]
theorem b2m {s:Slo}(h:SloW s)(t:List UInt8):(slR (b0z s++t,false)).1=s:=by
 have:b0z s++t=toB (sloI s)++(List.replicate (128-(toB (sloI s)).length) 0++t):=by unfold b0z padB;simp
 rw[this,slR_good h]
theorem rd8_w (st:Rdr):0<=(rd st 8).1/\(rd st 8).1<=18446744073709551615:=by
 have:=k0a st 8;have e:(256:Int)^8=18446744073709551616:=rfl;rw[e] at this;omega
theorem i64_w (x:Int):I64 (wrap .i64 x):=by
 unfold I64;rw[IntKind.wrap_i64];omega
theorem y1c (st:Rdr):I64 (rdI st).1:=i64_w _
theorem evR_w (st:Rdr):EvW (evR st).1:=⟨y1c _,rd8_w _,y1c _⟩
theorem slR_w (st:Rdr):SloW (slR st).1:=⟨y1c _,⟨y1c _,evR_w _,evR_w _,⟨rd8_w _,rd8_w _⟩,y1c _,y1c _,y1c _⟩⟩
theorem join_l12 (n:Nat)(sep:List UInt8)(l:List (List UInt8))(hl:l.length<=1000000)(hs:∀s∈l,s.length<=1000000):∀(rest pre:List (List UInt8)) (f:Nat) (k i:Int),l=pre++rest->i=pre.length->0<=k->k<=1000000*pre.length ->
  ∃q,g0g n (f+rest.length+1) (l,sep,k,l,(l.length:Int),i,())=some (.inl (l,sep,q,()))/\0<=q/\q<=1000000000000:=by
 intro rest;induction rest with
 | nil =>
  intro pre f k i h hi h0 h1;have hlen:=congrArg List.length h;simp at hlen;rw[n0x];simp only[tfd,q0n (idxe h hi rfl)];exact ⟨_,rfl,h0,by omega⟩
 | cons a rest ih =>
  intro pre f k i h hi h0 h1;have hlen:=congrArg List.length h;simp at hlen;have ha:=hs a (by rw[h];simp);rw[show f+(a::rest).length+1=(f+rest.length+1)+1 by simp;omega,n0x];simp only[tfd,q0z (idx h hi rfl)];rw[b0o h hi,obs,w64 (x:=9223372036854775807-k) (by omega) (by omega),q0n (by omega),w64 (x:=k+((a.length:Nat):Int)) (by omega) (by omega),w64 (x:=i+1) (by omega) (by omega)];exact ih (pre++[a]) f _ (i+1) (idxl h) (idxs hi) (by omega) (by simp;omega)
theorem join_l22 (n:Nat)(l:List (List UInt8))(hl:l.length<=1000000)(hs:∀s∈l,s.length<=1000000):∀(rest pre:List (List UInt8)) (f:Nat) (b:List UInt8) (i:Int),l=pre++rest->i=pre.length->b.length<=1000000*(pre.length+1) ->
  g0f (n+1) (f+rest.length+1) ([],b,l,(l.length:Int),i,())=some (.inl (b++rest.flatten,())):=by
 intro rest;induction rest with
 | nil =>
  intro pre f b i h hi hb;rw[n0w];simp only[tfd,q0n (idxe h hi rfl)];simp
 | cons a rest ih =>
  intro pre f b i h hi hb;have hlen:=congrArg List.length h;simp at hlen;have ha:=hs a (by rw[h];simp);rw[show f+(a::rest).length+1=(f+rest.length+1)+1 by simp;omega,n0w];simp only[tfd,q0z (idx h hi rfl)];rw[b0o h hi,obs,wst n b [] (by simp;omega),obs];dsimp only;rw[q2x,wst n b a (by omega),obs];dsimp only;rw[w64 (x:=i+1) (by omega) (by omega),ih (pre++[a]) f _ (i+1) (idxl h) (idxs hi) (by simp;omega)];simp
theorem join_val (n:Nat)(l:List (List UInt8))(hl:l.length<=1000000)(hs:∀s∈l,s.length<=1000000):strings_Join (n+2) l []=some l.flatten:=by
 rw[h1y]
 match l,hl,hs with
 | [],_,_=>rfl
 | [a],_,_ =>
  rw[tfd,q0n (by simp),tfd,q0z (by simp),show at? [a] (0:Int)=some a from rfl,obs];simp
 | a::b::t,hl,hs =>
  obtain ⟨L,hL⟩:∃L,L=a::b::t:=⟨_,rfl⟩;have h2:2<=L.length:=by rw[hL];simp
  rw[<-hL] at hl hs ⊢;rw[tfd,q0n (by omega),tfd,q0n (by omega),tfd,q0n (by simp)];obtain ⟨q,h3,h4,h5⟩:=join_l12 (n+1) [] L hl hs L [] (a0b-L.length-1) 0 0 rfl rfl (by omega) (by simp);rw[<-lfu (by omega)] at h3;rw[h3,obs,a0m];dsimp only;have hg:c0f (n+1) [] q=some []:=by
   rw[j0t,v1w];rw[show (decide (([]:List UInt8).length=0)&&(decide ((0:Int)<=q)&&decide (q<=70368744177664)))=true by
    rw[q1n,q1n,q2c,q2c,q2c]
    exact ⟨rfl,by omega,by omega⟩,tft]
  have ha:=hs a (by rw[hL];simp);have hat:at? L (0:Int)=some a:=by rw[hL];rfl
  rw[hg,obs,hat,obs,wst n [] a (by simp;omega),obs,tfd,q0z (by omega)];dsimp only;have hd:List.drop 1 (List.take L.length L)=b::t:=by rw[List.take_length,hL];rfl
  have e22:=join_l22 n (b::t) (by rw[hL] at hl;simp at hl ⊢;omega) (fun s hsm=>hs s (by rw[hL];exact q2j _ hsm)) (b::t) [] (a0b-(b::t).length-1) a 0 rfl rfl (by simp;omega);rw[<-lfu (by rw[hL] at hl;simp at hl ⊢;omega)] at e22;rw[hd,q2r,e22,obs,a0m];dsimp only;rw[c0q,obs,hL];simp
def nsec (k m:Nat):Nat:=(k+m-1) / m
theorem g1j (n:Nat)(c:Conf)(left:List (List UInt8))(k m:Nat)(hm:1<=m)(hm':m<=1000)(hk:k<=100000)(hl:left.length<=1000000)(hs:∀s∈left,s.length<=1000000) :
  c0t (n+3) (c,left) (k:Int) (m:Int)=some ((left.take (nsec k m)).flatten,(c,left.drop (nsec k m))):=by
 have hq:nsec k m<=k+m:=by unfold nsec;exact q3t (Nat.div_le_self _ _) (by omega)
 have e1:wrap .i64 (Int.tdiv (wrap .i64 (wrap .i64 ((k:Int)+(m:Int))-1)) (m:Int))=((nsec k m:Nat):Int):=by
  rw[w64 (x:=(k:Int)+(m:Int)) (by omega) (by omega),w64 (x:=(k:Int)+(m:Int)-1) (by omega) (by omega),Int.tdiv_eq_ediv_of_nonneg (by omega)];have:((k:Int)+(m:Int)-1) / (m:Int)=((nsec k m:Nat):Int):=by
   unfold nsec;rw[Int.natCast_ediv];congr 1;omega
  rw[this,w64 (by omega) (by omega)]
 have e2:(if ((left.length:Nat):Int)<((nsec k m:Nat):Int) then ((left.length:Nat):Int) else ((nsec k m:Nat):Int))=((min (nsec k m) left.length:Nat):Int):=by split<;>omega
 have ht:left.take (min (nsec k m) left.length)=left.take (nsec k m):=by
  rcases Nat.le_total (nsec k m) left.length with h | h
  ·rw[q3i h]
  ·rw[Nat.min_eq_right h,q3j (q2e _),q3j h]
 have hd:left.drop (min (nsec k m) left.length)=left.drop (nsec k m):=by
  rcases Nat.le_total (nsec k m) left.length with h | h
  ·rw[q3i h]
  ·rw[Nat.min_eq_right h,List.drop_of_length_le (q2e _),List.drop_of_length_le h]
 rw[z0a];dsimp only;rw[e1,e2,tfd,q0n (by omega),q2i];have c1:(decide ((0:Int)<=((min (nsec k m) left.length:Nat):Int))&&decide (((min (nsec k m) left.length:Nat):Int)<=((left.length:Nat):Int)))=true:=by
  rw[q1n,q2c,q2c];omega
 rw[c1,tft,List.drop_zero,ht,join_val n _ (by rw[q2z];omega) (fun s hsm=>hs s (q3p hsm)),obs,tfd,q0z (by omega),tfd,q0z (by omega),List.take_length,hd]
theorem d2l:∀c:Fin 128,andI .u8 (c.val:Int) 128=0/\orI .u64 0 (shlI .u64 (wrap .u64 (o0y .u8 (c.val:Int) 128)) 0)=(c.val:Int):=by decide +kernel
def UOut (r:Rdr)(o:Option ((Rdr×Unit) ⊕ (Int×Rdr))):Prop:=o=some (.inl (r,()))\/∃v k,o=some (.inr (v,(r.1.drop k,r.2)))
theorem uout_l (r:Rdr):UOut r (some (.inl (r,()))) := .inl rfl
theorem uout_r (r:Rdr)(v:Int)(k:Nat):UOut r (some (.inr (v,(r.1.drop k,r.2)))) := .inr ⟨v,k,rfl⟩
theorem uint_l3 (n:Nat)(r:Rdr)(m:Nat)(hm:m<=10)(hr:m<=r.1.length):∀(d f:Nat) (v i:Int),0<=i->i+d=m->UOut r (e0e n (f+d+1) (r,v,(m:Int),i,())):=by
 intro d;induction d with
 | zero =>
  intro f v i h0 hi;rw[d0d,tfd,q0n (by omega)];exact .inl rfl
 | succ d ih =>
  intro f v i h0 hi;rw[show f+(d+1)+1=(f+d+1)+1 by omega,d0d,tfd,q0z (by omega)];have hk:i.toNat<r.1.length:=by omega
  have hat:at? r.1 i=some r.1[i.toNat]:=by
   have:=r0x (l:=r.1) (i:=i.toNat) (x:=r.1[i.toNat]) (q2b hk)
   rwa [show ((i.toNat:Nat):Int)=i by omega] at this
  have c1:(0:Int)<=i+1:=by omega
  have c2:(i+1).toNat<=r.1.length:=by omega
  have c3:¬(7*i<0):=by omega
  rw[hat,obs];simp only[tfd,tfn,w64 (x:=7*i) (by omega) (by omega),w64 (x:=i+1) (by omega) (by omega),q0z c1,q0z c2,q0n c3,List.take_length];have hrec:=fun v=>ih f v (i+1) c1 (by omega)
  repeat' split
  all_goals try (with_reducible exact hrec _)
  all_goals try (with_reducible exact uout_l r)
  all_goals exact uout_r r _ _
theorem x1l (k:Nat):(if (10:Int)<((k:Nat):Int) then (10:Int) else ((k:Nat):Int))=((min 10 k:Nat):Int):=by split<;>omega
theorem m1n (n:Nat)(r:Rdr):∃v t,d0n (n+2) r=some (v,t)/\t.1.length<=r.1.length:=by
 rw[i0n,x1l];have h:=uint_l3 (n+1) r (min 10 r.1.length) (by omega) (by omega) (min 10 r.1.length) (a0b-min 10 r.1.length-1) 0 0 (by omega) (by omega);rw[<-lfu (by omega)] at h;rcases h with h | ⟨v,k,h⟩
 ·rw[h,obs,a0m];dsimp only;rw[d0f,obs];exact ⟨_,_,rfl,by simp⟩
 ·rw[h,obs,j0z];exact ⟨_,_,rfl,by simp⟩
theorem uint_one (n:Nat){v:Nat}(h:v<128)(t:List UInt8):d0n (n+2) (UInt8.ofNat v::t,false)=some ((v:Int),(t,false)):=by
 obtain ⟨f,hf⟩:∃f,a0b=f+1:=⟨a0b-1,by unfold a0b;omega⟩;have hv:(UInt8.ofNat v).toNat=v:=by simp;omega
 obtain ⟨b1,b2⟩:=d2l ⟨v,h⟩;dsimp only at b1 b2;rw[i0n,x1l,hf,d0d,tfd,q0z (by simp;omega),show at? (UInt8.ofNat v::t) (0:Int)=some (UInt8.ofNat v) from rfl,obs];simp only[hv,b1];rw[show wrap .i64 ((7:Int)*0)=0 by decide,show wrap .i64 ((0:Int)+1)=1 by decide];simp only[b2];simp only[tfd,tfn];rw[q0n (by omega),q0n (by omega),q0z trivial]
 have e:(if (v:Int)=0 then (if (0:Int)<0 then (some (.inl ((UInt8.ofNat v::t,false),())):Option ((Rdr×Unit) ⊕ (Int×Rdr))) else some (.inr ((v:Int),(t,false)))) else some (.inr ((v:Int),(t,false))))=some (.inr ((v:Int),(t,false))):=by
  rw[q0n (show ¬(0:Int)<0 by omega)];split<;>rfl
 have c2:(1:Int).toNat<=(UInt8.ofNat v::t).length:=by simp
 simp only[q0z (show (0:Int)<=1 by omega),q0z c2,List.take_length]
 change a0a (if (v:Int)=0 then (if (0:Int)<0 then (some (.inl ((UInt8.ofNat v::t,false),())):Option ((Rdr×Unit) ⊕ (Int×Rdr))) else some (.inr ((v:Int),(t,false)))) else some (.inr ((v:Int),(t,false)))) _=_
 rw[e];rfl
theorem uint_128 (n:Nat)(t:List UInt8):d0n (n+2) (128::1::t,false)=some (128,(t,false)):=by
 obtain ⟨f,hf⟩:∃f,a0b=f+1+1:=⟨a0b-2,by unfold a0b;omega⟩;rw[i0n,x1l,hf,d0d,tfd,q0z (by simp;omega),show at? ((128:UInt8)::1::t) (0:Int)=some (128:UInt8) from rfl,obs];rw[show wrap .i64 ((7:Int)*0)=0 by decide,show wrap .i64 ((0:Int)+1)=1 by decide];rw[tfd,q0n (by omega),tfd,q0n (by omega),tfn,tfd,q0n (by decide),d0d,tfd,q0z (by simp;omega),show at? ((128:UInt8)::1::t) (1:Int)=some (1:UInt8) from rfl,obs]
 rw[show wrap .i64 ((7:Int)*1)=7 by decide,show wrap .i64 ((1:Int)+1)=2 by decide];rw[tfd,q0n (by omega),tfd,q0n (by omega),tfn,tfd,q0z (by decide),tfd,q0n (by decide),tfd,q0z (by omega),tfd,q0z (by simp)];rw[show orI .u64 (orI .u64 0 (shlI .u64 (wrap .u64 (o0y .u8 (((128:UInt8).toNat:Nat):Int) 128)) 0)) (shlI .u64 (wrap .u64 (o0y .u8 (((1:UInt8).toNat:Nat):Int) 128)) 7)=128 by decide +kernel,List.take_length,obs,j0z];rfl
theorem s1e (n:Nat){v:Nat}(h:v<=128)(t:List UInt8):d0n (n+2) (uvB v++t,false)=some ((v:Int),(t,false)):=by
 rcases Nat.lt_or_ge v 128 with k | k
 ·rw[i0p k];exact uint_one n k t
 ·obtain rfl:v=128:=by omega
  have e:uvB 128=[128,1]:=by rw[w0h (by omega),i0p (by omega)];rfl
  rw[e];exact uint_128 n t
theorem p1l (n:Nat)(s t:List UInt8){k:Int}(h:k=s.length):e0a (n+1) (s++t,false) k=some (s,(t,false)):=by
 subst h;have e:(s.length:Int).toNat=s.length:=by omega
 rw[j0f,tff,tfd,q0n (by omega),tfd,q0n (by simp;omega)];rw[show (decide ((0:Int)<=(s.length:Int))&&decide ((s.length:Int)<=(((s++t).length:Nat):Int)))=true by rw[q1n,q2c,q2c];simp;omega,tft,tfd,q0z (by omega),tfd,q0z (by simp),List.take_length,e,List.drop_left];simp
theorem i2w (n:Nat)(r:Rdr)(k:Int):∃s t,e0a (n+2) r k=some (s,t)/\t.1.length<=r.1.length/\s.length<=r.1.length/\(t.2=true->s=[])/\(t.2=false->(s.length:Int)=k):=by
 obtain ⟨l,b⟩:=r;rw[j0f];cases b with
 | true=>rw[tft,d0f,obs];exact ⟨_,_,rfl,by simp,by simp,fun _=>rfl,by simp⟩
 | false =>
  rw[tff,tfd];by_cases h0:k<0
  ·rw[q0z h0,d0f,obs];exact ⟨_,_,rfl,by simp,by simp,fun _=>rfl,by simp⟩
  rw[q0n h0,tfd];by_cases h1:(((l,false):Rdr).1.length:Int)<k
  ·rw[q0z h1,d0f,obs];exact ⟨_,_,rfl,by simp,by simp,fun _=>rfl,by simp⟩
  dsimp only at h1 ⊢;rw[q0n h1,show (decide ((0:Int)<=k)&&decide (k<=((l.length:Nat):Int)))=true by rw[q1n,q2c,q2c];omega,tft,tfd,q0z (by omega),tfd,q0z (by omega)];refine ⟨_,_,rfl,by simp,by simp;omega,by simp,fun _ => ?_⟩;simp;omega
theorem m1q (n:Nat)(r:Rdr)(long:Int):∃s t,f0u (n+3) r long=some (s,t)/\t.1.length<=r.1.length/\s.length<=r.1.length:=by
 rw[m0u];obtain ⟨v,t,h,hl⟩:=m1n n r;rw[h,obs];simp only[tfd,d0f,obs];split
 ·exact ⟨_,_,rfl,by simp,by simp⟩
 split
 ·exact ⟨_,_,rfl,by simp,by simp⟩
 split
 ·exact ⟨_,_,rfl,by simp,by simp⟩
 obtain ⟨s,q,h1,h2,h3,_⟩:=i2w n t (wrap .i64 v);rw[h1,obs];exact ⟨_,_,rfl,by omega,by omega⟩
theorem s1l (n:Nat){s:List UInt8}{long:Int}(h:(s.length:Int)<=long)(hl:long<=128)(t:List UInt8)(ht:t.length<=1000000):f0u (n+3) (txB s++t,false) long=some (s,(t,false)):=by
 rw[m0u];unfold txB;rw[q2g,s1e n (by omega),obs];dsimp only;have e:(((s++t).length:Nat):Int)=(s.length:Int)+(t.length:Int):=by simp
 rw[tfd,q0n (by omega),wu64 (x:=long) (by omega) (by omega),tfd,q0n (by omega),e,wu64 (x:=(s.length:Int)+(t.length:Int)) (by omega) (by omega),tfd,q0n (by omega),w64 (by omega) (by omega),p1l (n+1) s t rfl];rfl
def x0n (x:Lab):List UInt8:=txB x.1++txB x.2
theorem e1e (n:Nat):∀(d f:Nat) (r:Rdr) (out:List Lab) (v:Int),out.length+d=17->r.1.length<=1000000->(∀x∈out,x.1.length<=1000000/\x.2.length<=1000000) ->
  ∃q l,o0k (n+4) (f+d+1) (r,out,v,())=some (.inl (q,(l,())))/\l.length<=17:=by
 intro d;induction d with
 | zero =>
  intro f r out v ho hr hx;rw[l0l,d0o,obs];simp only[tfd,tfn];rw[q0n (show ¬(((out.length:Nat):Int)<=16) by omega)];have:∀b:Bool,tif b (some (Sum.inl (r,out,()):(Rdr×List Lab×Unit) ⊕ (List Lab×Int))) (some (.inl (r,out,())))=some (.inl (r,out,())):=fun b=>by cases b<;>rfl
  rw[this];split<;>exact ⟨_,_,rfl,by omega⟩
 | succ d ih =>
  intro f r out v ho hr hx;rw[show f+(d+1)+1=(f+d+1)+1 by omega,l0l,d0o,obs,tfd];by_cases hv:0<v
  case neg=>rw[q0n hv];exact ⟨_,_,rfl,by omega⟩
  rw[q0z hv,tfn];obtain ⟨l,b⟩:=r;cases b with
  | true=>exact ⟨_,_,rfl,by omega⟩
  | false =>
   obtain ⟨s1,t1,h1,h2,h3⟩:=m1q (n+1) (l,false) 64;obtain ⟨s2,t2,k1,k2,k3⟩:=m1q (n+1) t1 128;dsimp only at hr h2 h3 ⊢;rw[tff,tfd,q0z (by omega),h1,obs];dsimp only;rw[k1,obs,tfd,q0z (by omega)];dsimp only;exact ih f t2 (out++[(s1,s2)]) _ (by simp;omega) (by omega) (fun x hxm=>by
    rcases q2o.1 hxm with q | q
    ·exact hx x q
    ·rw[List.mem_singleton] at q;subst q;exact ⟨by dsimp only;omega,by dsimp only;omega⟩)
theorem l1p (n:Nat)(s:List UInt8)(h:s.length<=1000000):∃l e,c1f (n+8) s=some (l,e)/\l.length<=17:=by
 rw[j1s,f0f,obs];obtain ⟨v,t,h1,h2⟩:=m1n (n+5) (s,false);dsimp only at h2;rw[h1,obs];dsimp only;obtain ⟨q,l,h3,h4⟩:=e1e (n+3) 17 (a0b-18) t [] v rfl (by omega) (by simp);rw[show a0b-18+17+1=a0b by unfold a0b;omega] at h3;rw[h3,obs,a0m,d0o,obs];dsimp only;cases q.2 with
 | true=>exact ⟨_,_,rfl,by simp⟩
 | false =>
  rw[tff,i0o,obs,tfd];split
  ·exact ⟨_,_,rfl,by simp⟩
  rw[t0i (n+1) l,obs,tfn,tfd];split
  ·exact ⟨_,_,rfl,h4⟩
  ·exact ⟨_,_,rfl,by simp⟩
theorem of_l4 (n:Nat){l:List Lab}(hl:∀x∈l,x.1.length<=64/\x.2.length<=128):∀(rest pre:List Lab) (f:Nat),l=pre++rest->l.length<=16 ->
  o0k (n+4) (f+rest.length+1) ((rest.flatMap x0n,false),pre,(rest.length:Int),())=some (.inl (([],false),(l,()))):=by
 intro rest;induction rest with
 | nil =>
  intro pre f h hn;rw[l0l,tfd,q0n (by simp)];rw[h,q2x];rfl
 | cons a rest ih =>
  intro pre f h hn;have hlen:=congrArg List.length h;simp at hlen;obtain ⟨a1,a2⟩:=hl a (by rw[h];simp);have hr:∀r:List Lab,(∀x∈r,x.1.length<=64/\x.2.length<=128)->(r.flatMap x0n).length<=200*r.length:=by
   intro r;induction r with
   | nil=>intro _;simp
   | cons y r ihr =>
    intro hy;obtain ⟨b1,b2⟩:=hy y List.mem_cons_self;have:=ihr fun x hx=>hy x (q2j _ hx)
    have e1:=q0e (n:=y.1.length) (by omega);have e2:=y0k (n:=y.2.length) (by omega);rw[q3l,q2d,q2k];have e3:(x0n y).length<=200:=by unfold x0n txB;simp only[q2d];omega
    omega
  have hq:=hr rest fun x hx=>hl x (by rw[h];simp[hx])
  have t2:(txB a.2).length<=1000:=by
   have:=y0k (n:=a.2.length) (by omega);unfold txB;rw[q2d];omega
  rw[show f+(a::rest).length+1=(f+rest.length+1)+1 by simp;omega,l0l,tfd,q0z (by simp),d0o,obs,tfn,tff,tfd,q0z (by omega)];have e:(a::rest).flatMap x0n=txB a.1++(txB a.2++rest.flatMap x0n):=by rw[q3l,x0n,q2g]
  rw[e,s1l (n+1) (by omega) (by omega) _ (by rw[q2d];omega),obs];dsimp only;rw[s1l (n+1) (by omega) (by omega) _ (by omega),obs,tfd,q0z (by omega)];dsimp only;rw[show (((a::rest).length:Nat):Int)-1=((rest.length:Nat):Int) by simp,wu64 (by omega) (by omega),ih (pre++[(a.1,a.2)]) f (by rw[h];simp) hn]
theorem c1d (n:Nat){l:List Lab}(h:LabOk l):c1f (n+8) (labB l)=some (l,0):=by
 have hn:=h.n1;have e:labB l=uvB l.length++l.flatMap x0n:=rfl;rw[j1s,f0f,obs,e,s1e (n+5) (by omega),obs];dsimp only;have h3:=of_l4 (n+3) (c1u l none h.c) l [] (a0b-l.length-1) rfl hn;rw[<-lfu (by omega)] at h3;rw[h3,obs,a0m,d0o,obs];dsimp only;rw[tff,i0o,obs,tfd,q0n (by simp),t0i (n+1) l,q0z h,obs];rfl
def Secs (L:List (List UInt8)):Prop:=∀s∈L,s.length=512
theorem b2q:∀ {L:List (List UInt8)},Secs L->L.flatten.length=512*L.length
 | [],_=>rfl
 | s::L,h=>by
  have:=b2q (L:=L) fun x hx=>h x (q2j _ hx)
  rw[List.flatten_cons,q2d,this,h s List.mem_cons_self,q2k];omega
theorem Secs.take {L:List (List UInt8)}(h:Secs L)(k:Nat):Secs (L.take k):=fun s hs=>h s (q3p hs)
theorem Secs.drop {L:List (List UInt8)}(h:Secs L)(k:Nat):Secs (L.drop k):=fun s hs=>h s (List.mem_of_mem_drop hs)
theorem Secs.le {L:List (List UInt8)}(h:Secs L):∀s∈L,s.length<=1000000:=fun s hs=>by have:=h s hs;omega
def l0c (k m:Nat)(left:List (List UInt8)):List UInt8:=(left.take (nsec k m)).flatten
theorem p0r (k:Nat){m:Nat}(hm:1<=m):k<=m*nsec k m:=by
 have h1:=Nat.div_add_mod (k+m-1) m;have h2:=Nat.mod_lt (k+m-1) hm;unfold nsec;omega
theorem l0z {k m:Nat}{left:List (List UInt8)}(h:Secs left)(hl:nsec k m<=left.length):(l0c k m left).length=512*nsec k m:=by
 unfold l0c;rw[b2q (h.take _),q2z,q3i hl]
abbrev Plc:=Conf×List (List UInt8)
def evAt (all:List UInt8)(lost room i:Nat):Ev:=(evR (all.drop (32*((lost % room+i) % room)),false)).1
theorem raw_l6 (n:Nat)(p:Plc)(z:Rw)(all:List UInt8)(lost room many:Nat)(mark:Int)(hr:1<=room)(hr':room<=4096)(hm:many<=room)(hall:32*room<=all.length):∀(d f:Nat) (L:List Ev) (k:Nat),k+d=many->L.length=k ->
  f0c (n+5) (f+d+1) (p,((lost:Int),(mark,L)),z,all,(room:Int),(many:Int),(k:Int),())=some (.inl (p,(((lost:Int),(mark,L++(List.range' k d).map (evAt all lost room))),(z,())))):=by
 intro d;induction d with
 | zero =>
  intro f L k hk hL;rw[m0b,tfd,q0n (by omega)];simp
 | succ d ih =>
  intro f L k hk hL;have hq:(lost % room+k) % room<room:=Nat.mod_lt _ hr;have hq0:lost % room<room:=Nat.mod_lt _ hr;have e1:Int.tmod (lost:Int) (room:Int)=((lost % room:Nat):Int):=by rw[q3o (by omega),Int.natCast_emod]
  have e2:wrap .i64 (((lost % room:Nat):Int)+(k:Int))=((lost % room+k:Nat):Int):=by rw[w64 (by omega) (by omega)];omega
  have e3:Int.tmod ((lost % room+k:Nat):Int) (room:Int)=(((lost % room+k) % room:Nat):Int):=by rw[q3o (by omega),Int.natCast_emod]
  have e4:wrap .i64 ((32:Int)*(((lost % room+k) % room:Nat):Int))=((32*((lost % room+k) % room):Nat):Int):=by rw[w64 (by omega) (by omega)];omega
  have e5:wrap .i64 ((k:Int)+1)=((k+1:Nat):Int):=by rw[w64 (by omega) (by omega)];omega
  rw[show f+(d+1)+1=(f+d+1)+1 by omega,m0b,tfd,q0z (by omega),tfd,q0n (by omega),tfd,q0n (by omega)];simp only[e1,e2,e3,e4,e5];rw[tfd,q0z (by omega),tfd,q2i,q0z (by omega),f0f,obs,List.take_length,s0q (n+1),obs,tfd,q0z (by omega)];rw[ih f _ (k+1) (by omega) (by simp[hL]),List.range'_succ,q3m,q2g];rfl
def d1s (c:Conf)(lost mark many:Int)(all:List UInt8):Rw :=
 if lost<0 then (lost,(mark,[])) else if c.1<many then (lost,(mark,[])) else (lost,(mark,(List.range many.toNat).map (evAt all lost.toNat c.1.toNat)))
theorem j2q (n:Nat){c:Conf}(h1:1<=c.1)(h2:c.1<=4096){left:List (List UInt8)}(hs:Secs left)(hl:nsec c.1.toNat 16<=left.length)(hl':left.length<=1000000)(lost mark many:Int)(hm:0<=many) :
  o0n (n+6) (c,left) (lost,(mark,[])) many=some (d1s c lost mark many (l0c c.1.toNat 16 left),(c,left.drop (nsec c.1.toNat 16))):=by
 have hc:c.1=((c.1.toNat:Nat):Int):=by omega
 have ht:=g1j (n+2) c left c.1.toNat 16 (by omega) (by omega) (by omega) hl' hs.le;rw[<-hc] at ht;rw[c1i]
 change a0a (c0t (n+5) (c,left) c.1 ((16:Nat):Int)) _=_
 rw[ht,obs];dsimp only;unfold d1s;rw[tfd];by_cases k1:lost<0
 ·rw[q0z k1,q0z k1]
 rw[q0n k1,q0n k1,tfd];by_cases k2:c.1<many
 ·rw[q0z k2,q0z k2]
 rw[q0n k2,q0n k2];have hj:=l0z hs hl;have hn:=p0r c.1.toNat (m:=16) (by omega);have:=raw_l6 n (c,left.drop (nsec c.1.toNat 16)) ((0:Int),((0:Int),[])) (l0c c.1.toNat 16 left) lost.toNat c.1.toNat many.toNat mark (by omega) (by omega) (by omega) (by omega) many.toNat (a0b-many.toNat-1) [] 0 (by omega) rfl;rw[<-lfu (by omega),<-hc,show ((lost.toNat:Nat):Int)=lost by omega,show ((many.toNat:Nat):Int)=many by omega] at this
 change a0a (f0c (n+5) a0b ((c,left.drop (nsec c.1.toNat 16)),(lost,(mark,[])),((0:Int),((0:Int),[])),l0c c.1.toNat 16 left,c.1,many,((0:Nat):Int),())) _=_
 rw[this,obs,a0m,q2r,List.range_eq_range']
def slAt (all:List UInt8)(i:Nat):Slo:=(slR (all.drop (128*i),false)).1
theorem tier_l4 (n:Nat)(p:Plc)(all:List UInt8)(N:Nat)(hN:N<=4096)(hall:128*N<=all.length):∀(d f:Nat) (pre:List Slo),pre.length+d=N ->
  e0n (n+5) (f+d+1) (p,all,pre++List.replicate d s0,(N:Int),(pre.length:Int),())=some (.inl (p,(pre++(List.range' pre.length d).map (slAt all),()))):=by
 intro d;induction d with
 | zero =>
  intro f pre hk;rw[k0s,tfd,q0n (by omega)];simp
 | succ d ih =>
  intro f pre hk;have e4:wrap .i64 ((128:Int)*(pre.length:Int))=((128*pre.length:Nat):Int):=by rw[w64 (by omega) (by omega)];omega
  have e5:wrap .i64 ((pre.length:Int)+1)=((pre.length+1:Nat):Int):=by rw[w64 (by omega) (by omega)];omega
  have hg:(pre++List.replicate (d+1) s0)[pre.length]? = some s0:=by rw[List.replicate_succ];simp
  rw[show f+(d+1)+1=(f+d+1)+1 by omega,k0s,tfd,q0z (by omega)];simp only[e4,e5];rw[tfd,q0z (by omega),tfd,q2i,q0z (by omega),List.take_length,f1h n,obs,r0x hg,obs,q2i,hg,obs];have hset:(pre++List.replicate (d+1) s0).set pre.length (slR (all.drop (128*pre.length),false)).1=(pre++[slAt all pre.length])++List.replicate d s0:=by
   rw[List.replicate_succ];simp[slAt]
  rw[hset];have:=ih f (pre++[slAt all pre.length]) (by simp;omega);rw[show (pre++[slAt all pre.length]).length=pre.length+1 by simp] at this;rw[this,List.range'_succ,q3m,q2g];rfl
theorem d1w (n:Nat)(c:Conf){left:List (List UInt8)}(hs:Secs left)(hl':left.length<=1000000){N:Int}(h0:0<=N)(h1:N<=4096)(hl:nsec N.toNat 4<=left.length) :
  g0l (n+6) (c,left) N=some ((List.range N.toNat).map (slAt (l0c N.toNat 4 left)),(c,left.drop (nsec N.toNat 4))):=by
 obtain ⟨k,rfl⟩:∃k:Nat,N=k:=⟨N.toNat,by omega⟩;rw[q2i] at hl ⊢;have ht:=g1j (n+2) c left k 4 (by omega) (by omega) (by omega) hl' hs.le;rw[y0z]
 change a0a (c0t (n+5) (c,left) (k:Int) ((4:Nat):Int)) _=_
 rw[ht,obs];dsimp only;have hj:=l0z hs hl;have hn:=p0r k (m:=4) (by omega);have:=tier_l4 n (c,left.drop (nsec k 4)) (l0c k 4 left) k (by omega) (by omega) k (a0b-k-1) [] (by simp);rw[<-lfu (by omega),q2r,q2r] at this;rw[show (decide ((0:Int)<=(k:Int))&&(decide ((k:Int)<=(k:Int))&&decide ((k:Int)*120<=(140737488355328:Int))))=true by
  rw[q1n,q1n,q2c,q2c,q2c];omega,tft,q2i,q3b]
 change a0a (e0n (n+5) a0b ((c,left.drop (nsec k 4)),l0c k 4 left,List.replicate k s0,(k:Int),(([]:List Slo).length:Int),())) _=_
 rw[this,obs,a0m,List.range_eq_range'];rfl
def q0v (N:Int)(left:List (List UInt8)):List Slo:=(List.range N.toNat).map (slAt (l0c N.toNat 4 left))
theorem e2n (n:Nat){c:Conf}(hc:Rng c)(z:Ser){left:List (List UInt8)}(hs:Secs left)(hl':left.length<=1000000)
  (hl:nsec c.2.2.1.1.toNat 4+nsec c.2.2.1.2.1.toNat 4+nsec c.2.2.1.2.2.toNat 4<=left.length) (a:List Lab) (b:Int) (r:Rw) (o:Slo) :
  ∃q,a0x (n+6) a0b ((c,left),z,(a,(b,(r,(([],([],[])),o)))),c.2.2.1,(0:Int),()) =
   some (.inl (q,(z,((a,(b,(r,((q0v c.2.2.1.1 left,(q0v c.2.2.1.2.1 (left.drop (nsec c.2.2.1.1.toNat 4)),q0v c.2.2.1.2.2 ((left.drop (nsec c.2.2.1.1.toNat 4)).drop (nsec c.2.2.1.2.1.toNat 4)))),o)))),())))):=by
 obtain ⟨f,hf⟩:∃f,a0b=f+1+1+1+1:=⟨a0b-4,by unfold a0b;omega⟩;have h0:=hc.n0;have h1:=hc.n1;have h2:=hc.n2;have t0:=d1w n c hs hl' (N:=c.2.2.1.1) (by omega) (by omega) (by omega);have t1:=d1w n c (hs.drop (nsec c.2.2.1.1.toNat 4)) (by rw[q2l];omega) (N:=c.2.2.1.2.1) (by omega) (by omega) (by rw[q2l];omega);have t2:=d1w n c ((hs.drop (nsec c.2.2.1.1.toNat 4)).drop (nsec c.2.2.1.2.1.toNat 4)) (by rw[q2l,q2l];omega) (N:=c.2.2.1.2.2) (by omega) (by omega) (by rw[q2l,q2l];omega)
 have e1:wrap .i64 ((0:Int)+1)=1:=by decide
 have e2:wrap .i64 ((1:Int)+1)=2:=by decide
 have e3:wrap .i64 ((2:Int)+1)=3:=by decide
 rw[hf,d0r,tfd,q0z (by omega),tfd,q0z rfl,t0,obs,tfd,q0z rfl,e1];dsimp only;rw[d0r,tfd,q0z (by omega),tfd,q0n (by omega),tfd,q0z rfl,t1,obs,tfd,q0n (by omega),tfd,q0z rfl,e2];dsimp only;rw[d0r,tfd,q0z (by omega),tfd,q0n (by omega),tfd,q0n (by omega),tfd,q0z rfl,t2,obs,tfd,q0n (by omega),tfd,q0n (by omega),tfd,q0z rfl,e3];dsimp only;rw[d0r,tfd,q0n (by omega)];exact ⟨_,rfl⟩
def v2 (l:List UInt8):Int:=valI (c0c (l.take 2))
def v8 (l:List UInt8):Int:=valI (c0c (l.take 8))
theorem rd2 {l:List UInt8}(h:2<=l.length):rd (l,false) 2=(v2 l,(l.drop 2,false)):=by
 unfold rd;rw[q0n (by rintro (k | k);cases k;exact absurd h (by dsimp only at k;omega))];rfl
theorem rd8 {l:List UInt8}(h:8<=l.length):rd (l,false) 8=(v8 l,(l.drop 8,false)):=by
 unfold rd;rw[q0n (by rintro (k | k);cases k;exact absurd h (by dsimp only at k;omega))];rfl
theorem z0r {l:List UInt8}(h:2<=l.length):0<=v2 l/\v2 l<=65535:=by
 have:=k0a (l,false) 2;rw[rd2 h] at this;have e:(256:Int)^2=65536:=rfl;rw[e] at this;exact ⟨this.1,by have:=this.2;dsimp only at this;omega⟩
theorem v2_of {v:Int}(h0:0<=v)(h1:v<=65535)(t:List UInt8):v2 (toB (beI 2 v)++t)=v:=by
 have:=d1q 2 v t;rw[rd2 (by simp[c0p,b0n])] at this;have e:(256:Int)^2=65536:=rfl;rw[e] at this;have:=congrArg Prod.fst this;dsimp only at this;rw[this,Int.emod_eq_of_lt h0 (by omega)]
theorem x1f (v:Int)(t:List UInt8):v8 (n8B v++t)=wrap .u64 v:=by
 have:=rd_n8 v t;rw[rd8 (by simp[f0r])] at this;exact congrArg Prod.fst this
theorem z0d {v:Int}(h:I64 v):wrap .i64 (wrap .u64 v)=v:=by
 have h1:=IntKind.wrap_u64 v;have h2:=IntKind.wrap_i64 (wrap .u64 v);have h3:=h.1;have h4:=h.2;omega
def serV (c:Conf)(ls:List Lab)(h:List UInt8)(t:List (List UInt8)):Ser :=
 (ls,(wrap .i64 (v8 (h.drop 322)),(d1s c (wrap .i64 (v8 (h.drop 330))) (wrap .i64 (v8 (h.drop 338))) (v2 (h.drop 346)) (l0c c.1.toNat 16 t),
  ((q0v c.2.2.1.1 (t.drop (nsec c.1.toNat 16)),(q0v c.2.2.1.2.1 ((t.drop (nsec c.1.toNat 16)).drop (nsec c.2.2.1.1.toNat 4)),q0v c.2.2.1.2.2 (((t.drop (nsec c.1.toNat 16)).drop (nsec c.2.2.1.1.toNat 4)).drop (nsec c.2.2.1.2.1.toNat 4)))),
   (slR ((h.drop 348).take 128,false)).1))))
def need (c:Conf):Nat:=nsec c.1.toNat 16+(nsec c.2.2.1.1.toNat 4+nsec c.2.2.1.2.1.toNat 4+nsec c.2.2.1.2.2.toNat 4)
theorem i1i (n:Nat)(c:Conf){h:List UInt8}{t:List (List UInt8)}(hh:h.length=512)(ht:Secs t)(hl:t.length<=100000)(hv:v2 h=0\/320<v2 h) :
  d0z (n+9) (c,h::t)=some (ser0,(c,t)):=by
 have hr:=z0r (l:=h) (by omega);have hS:∀s∈h::t,s.length<=1000000:=fun s hs=>by
  rcases q2m.1 hs with rfl | hs
  ·omega
  ·exact ht.le s hs
 have htk:=g1j (n+5) c (h::t) 1 1 (by omega) (by omega) (by omega) (by simp;omega) hS;rw[show nsec 1 1=1 from rfl] at htk;rw[m0a]
 change a0a (c0t (n+8) (c,h::t) ((1:Nat):Int) ((1:Nat):Int)) _=_
 rw[htk,obs,f0f,obs];dsimp only;rw[show (List.take 1 (h::t)).flatten=h by simp,a0v (n+5) _ 2 2 rfl (by omega) (by omega),rd2 (by omega),obs];dsimp only;rw[w64 (by omega) (by omega),tfd];by_cases k:v2 h=0
 ·rw[q0z k];rfl
 ·rw[q0n k,tfd,q0z (by omega)];rfl
theorem d1o (n:Nat){c:Conf}(hc:Rng c){h:List UInt8}{t:List (List UInt8)}(hh:h.length=512)(ht:Secs t)(hl:t.length<=100000)(hN:need c<=t.length)(h0:0<v2 h)(h1:v2 h<=320)
  {ls:List Lab} {e:Int} (hlab:c1f (n+8) ((h.drop 2).take (v2 h).toNat)=some (ls,e)) :
  ∃q,d0z (n+9) (c,h::t)=some (serV c ls h t,q):=by
 unfold need at hN;have hS:∀s∈h::t,s.length<=1000000:=fun s hs=>by
  rcases q2m.1 hs with rfl | hs
  ·omega
  ·exact ht.le s hs
 have htk:=g1j (n+5) c (h::t) 1 1 (by omega) (by omega) (by omega) (by simp;omega) hS;rw[show nsec 1 1=1 from rfl] at htk;rw[m0a]
 change ∃q,a0a (c0t (n+8) (c,h::t) ((1:Nat):Int) ((1:Nat):Int)) _=_
 rw[htk,obs,f0f,obs];dsimp only;rw[show (List.take 1 (h::t)).flatten=h by simp,a0v (n+5) _ 2 2 rfl (by omega) (by omega),rd2 (by omega),obs];dsimp only;rw[w64 (by omega) (by omega),tfd,q0n (by omega),tfd,q0n (by omega)];have e1:h.drop 2=(h.drop 2).take 320++h.drop 322:=by
  have:=(q3d 320 (h.drop 2)).symm
  rwa [q3g,show 2+320=322 from rfl] at this
 have l1:((h.drop 2).take 320).length=320:=by rw[q2z,q2l];omega
 have hraw:=p1l (n+7) ((h.drop 2).take 320) (h.drop 322) (k:=320) (by omega);rw[<-e1] at hraw;rw[hraw,obs];dsimp only;rw[show (decide ((0:Int)<=v2 h)&&decide (v2 h<=((((h.drop 2).take 320).length:Nat):Int)))=true by rw[q1n,q2c,q2c];omega,tft];rw[List.take_take,q3i (by omega),List.drop_zero,hlab,obs];dsimp only;rw[a0v (n+5) _ 8 8 rfl (by omega) (by omega),rd8 (by rw[q2l];omega),obs];dsimp only
 rw[q3g,show 322+8=330 from rfl,a0v (n+5) _ 8 8 rfl (by omega) (by omega),rd8 (by rw[q2l];omega),obs];dsimp only;rw[q3g,show 330+8=338 from rfl,a0v (n+5) _ 8 8 rfl (by omega) (by omega),rd8 (by rw[q2l];omega),obs];dsimp only;rw[q3g,show 338+8=346 from rfl,a0v (n+5) _ 2 2 rfl (by omega) (by omega),rd2 (by rw[q2l];omega),obs];dsimp only;have hr2:=z0r (l:=h.drop 346) (by rw[q2l];omega);have e2:h.drop 348=(h.drop 348).take 128++h.drop 476:=by
  have:=(q3d 128 (h.drop 348)).symm
  rwa [q3g,show 348+128=476 from rfl] at this
 have hraw2:=p1l (n+7) ((h.drop 348).take 128) (h.drop 476) (k:=128) (by rw[q2z,q2l];omega);rw[<-e2] at hraw2;rw[q3g,show 346+2=348 from rfl,hraw2,obs];dsimp only;rw[f1h (n+3),obs,w64 (x:=v2 (h.drop 346)) (by omega) (by omega)];have hraw:=hc.raw;rw[show (List.drop 1 (h::t))=t from rfl,j2q (n+2) (by omega) (by omega) ht (by omega) (by omega) _ _ _ hr2.1,obs];dsimp only
 obtain ⟨q,hq⟩:=e2n (n+2) hc ser0 (ht.drop (nsec c.1.toNat 16)) (by rw[q2l];omega) (by rw[q2l];omega) ls (wrap .i64 (v8 (h.drop 322))) (d1s c (wrap .i64 (v8 (h.drop 330))) (wrap .i64 (v8 (h.drop 338))) (v2 (h.drop 346)) (l0c c.1.toNat 16 t)) (slR ((h.drop 348).take 128,false)).1;refine ⟨q,?_⟩
 change a0a (a0x (n+2+6) a0b ((c,t.drop (nsec c.1.toNat 16)),ser0,(ls,(wrap .i64 (v8 (h.drop 322)),(d1s c (wrap .i64 (v8 (h.drop 330))) (wrap .i64 (v8 (h.drop 338))) (v2 (h.drop 346)) (l0c c.1.toNat 16 t),(([],([],[])),(slR ((h.drop 348).take 128,false)).1)))),c.2.2.1,(0:Int),())) _=_
 rw[hq,obs,a0m];rfl
def b2b (c:Conf)(s:Trs)(o:Slo)(l:List Ev):Prop :=
 (l=[]/\o=s0/\∀t,FInv c s [] t)\/∃t,EndsAt l t/\FInv c s l t/\o=(t / c.2.1.1,cellOf (win c.2.1.1 l (t / c.2.1.1)))
theorem b2b.fold {c:Conf}{s:Trs}{o:Slo}{l:List Ev}(h:b2b c s o l):FoldOk c s:=by
 rcases h with ⟨_,_,h⟩ | ⟨t,_,h,_⟩
 ·exact (h 0).ok
 ·exact h.ok
def Turn (o:Slo)(i:Int):Prop:=0<o.2.1/\o.1≠i
def rawOf (room:Int)(l:List Ev):Rw :=
 (if (l.length:Int)<=room then 0 else (l.length:Int)-room,(if (l.length:Int)<=room then 0 else ((l[l.length-room.toNat-1]?).getD e0).1,l.drop (l.length-room.toNat)))
structure SerInv (c:Conf)(s:Ser)(l:List Ev):Prop where
 lab:LabOk s.1
 len:l.length<=1000000
 raw:s.2.2.1=rawOf c.1 l
 opn:b2b c s.2.2.2.1 s.2.2.2.2 l
 last:(l=[]/\s.2.1 = -1)\/EndsAt l s.2.1
theorem SerInv.foll {c:Conf}{s:Ser}{l:List Ev}(h:SerInv c s l):Foll l:=by
 rcases h.last with ⟨rfl,_⟩ | h
 ·exact Foll.nil
 ·exact h.foll
theorem f1t {l:List Ev}{t:Int}(h:EndsAt l t):∃e,l.getLast? = some e/\e.1=t:=by
 obtain ⟨x,hx,hxt⟩:=h.last;rcases List.eq_nil_or_concat l with rfl | ⟨p,y,rfl⟩
 ·cases hx
 rw[List.concat_eq_append] at *
 have h1:=h.le y (by simp);refine ⟨y,by simp,?_⟩;rcases q2o.1 hx with q | q
 ·have:=(t0m.1 h.foll).2.2 x q y (by simp);omega
 ·simp at q;rw[<-q];exact hxt
theorem l2z {l:List Ev}{t u:Int}(h:EndsAt l t)(k:EndsAt l u):t=u:=by
 obtain ⟨e,h1,h2⟩:=f1t h;obtain ⟨e',k1,k2⟩:=f1t k;rw[h1] at k1;simp at k1;rw[<-h2,<-k2,k1]
theorem SerInv.at_ {c:Conf}{s:Ser}{l:List Ev}(h:SerInv c s l)(hl:l≠[]):EndsAt l s.2.1/\FInv c s.2.2.2.1 l s.2.1/\s.2.2.2.2=(s.2.1 / c.2.1.1,cellOf (win c.2.1.1 l (s.2.1 / c.2.1.1))):=by
 have he:=h.last.resolve_left fun k=>hl k.1
 rcases h.opn with k | ⟨t,k1,k2,k3⟩
 ·exact absurd k.1 hl
 ·have:=l2z he k1;subst this;exact ⟨he,k2,k3⟩
theorem el_get {l:List Ser}{k:Nat}(h:k<l.length):∃y,l[k]? = some y:=⟨l[k],q2b h⟩
theorem l2w (n:Nat)(a b:List Ser)(hL:a.length<=9223372036854775807)(eq:Ser×(Ser×Unit)->Option Bool)(he:∀x∈a,∀y,eq (x,(y,()))=some (decide (x=y))):∀(ra rb pa pb:List Ser) (f:Nat) (ix len:Int),a=pa++ra->b=pb++rb->pa.length=pb.length->ra.length=rb.length->ix=pa.length->len=a.length->ra.length<f ->
  b0m n f (b,eq,a,len,ix,())=some (if ra=rb then .inl () else .inr false):=by
 intro ra;induction ra with
 | nil =>
  intro rb pa pb f ix len ha hb hp hr hi hn hf;obtain ⟨f,rfl⟩:=FSu hf;have:rb=[]:=List.length_eq_zero_iff.1 (by simpa using hr.symm);subst this;rw[c0w,q1z (idxe ha hi hn),tff,q0z rfl]
 | cons x ra ih =>
  intro rb pa pb f ix len ha hb hp hr hi hn hf;obtain ⟨f,rfl⟩:=FSu hf;cases rb with
  | nil=>simp at hr
  | cons y rb =>
   have hlen:=congrArg List.length ha;simp at hlen;rw[c0w,q2a (idx ha hi hn),tft,b0o ha hi,obs,b0o hb (by rw[hi,hp]),obs,he x (by rw[ha];simp) y,obs,tfn,tfd,w64 (by omega) (by omega)];by_cases h:x=y
   ·subst h;rw[q0z rfl,ih rb (pa++[x]) (pb++[x]) f (ix+1) len (idxl ha) (idxl hb) (by simp[hp]) (by simpa using hr) (idxs hi) hn (by simp at hf;omega)];by_cases h2:ra=rb
    ·rw[q0z h2,q0z (by rw[h2])]
    ·rw[q0n h2,q0n (by intro k;injection k with _ k;exact h2 k)]
   ·rw[q0n h,q0n (by intro k;injection k with k _;exact h k)]
theorem stt_same (n:Nat){a:Sta}(ha:StaW a)(b:Sta):p1b (n+5) a b=some (decide (a=b)):=by
 have he:∀x∈a.2.2.2,∀y,(fun y0:Ser×(Ser×Unit)=>e0l (n+4) y0.1 y0.2.1) (x,(y,()))=some (decide (x=y)):=fun x hx y=>y0o (n+1) x y (ha.ser x hx).2
 rw[x1q,confEq,tfd,tfd,tfd,g0h,tfn,tfd];obtain ⟨a1,a2,a3,a4⟩:=a;obtain ⟨b1,b2,b3,b4⟩:=b;simp only at ha he ⊢;by_cases h1:a1=b1
 case neg=>rw[q0n h1,q1z (fun k=>h1 (congrArg Prod.fst k))]
 rw[q0z h1];by_cases h2:a2=b2
 case neg=>rw[q0n h2,q1z (fun k=>h2 (congrArg (fun z=>z.2.1) k))]
 rw[q0z h2];by_cases h3:a3=b3
 case neg=>rw[q0n h3,q1z (fun k=>h3 (congrArg (fun z=>z.2.2.1) k))]
 rw[q0z h3];by_cases h4:(a4.length:Int)=b4.length
 case neg=>rw[q0n h4,obs,q1z (fun k=>h4 (congrArg (fun z=>((z.2.2.2.length:Nat):Int)) k))]
 rw[q0z h4,l2w (n+3) a4 b4 ha.len (fun y0:Ser×(Ser×Unit)=>e0l (n+4) y0.1 y0.2.1) he a4 b4 [] [] a0b 0 _ rfl rfl rfl (by omega) rfl rfl (by have:=ha.len;simp only at this;unfold a0b;omega)];by_cases h5:a4=b4
 ·rw[q0z h5,q2a (by rw[h1,h2,h3,h5])];rfl
 ·rw[q0n h5,q1z (fun k=>h5 (congrArg (fun z=>z.2.2.2) k))];rfl
theorem t1p (n:Nat){s t:Sta}(hw:StaW s)(hl:s.2.2.2.length=t.2.2.2.length):∀(d i f:Nat),i+d=s.2.2.2.length->d<f->o0i (n+3) f (s,t,(s.2.2.2.length:Int),(i:Int),())=some (if s.2.2.2.drop i=t.2.2.2.drop i then .inl () else .inr false):=by
 have hL:=hw.len;intro d;induction d with
 | zero =>
  intro i f hi hf;obtain ⟨f,rfl⟩:∃g,f=g+1:=⟨f-1,by omega⟩;rw[y0a,q1z (by omega),tff,q0z];rw[List.drop_eq_nil_of_le (by omega),List.drop_eq_nil_of_le (by omega)]
 | succ d ih =>
  intro i f hi hf;obtain ⟨f,rfl⟩:∃g,f=g+1:=⟨f-1,by omega⟩;obtain ⟨x,hx⟩:=el_get (l:=s.2.2.2) (k:=i) (by omega);obtain ⟨y,hy⟩:=el_get (l:=t.2.2.2) (k:=i) (by omega);have ex:s.2.2.2.drop i=x::s.2.2.2.drop (i+1):=by
   obtain ⟨h1,h2⟩:=q2q.1 hx;rw[q3a h1,h2]
  have ey:t.2.2.2.drop i=y::t.2.2.2.drop (i+1):=by
   obtain ⟨h1,h2⟩:=q2q.1 hy;rw[q3a h1,h2]
  rw[y0a,q2a (by omega),tft,r0x hx,obs,r0x hy,obs,b2u n x y (hw.at hx).2,obs,tfn,tfd,w64 (by omega) (by omega),show ((i:Int)+1)=((i+1:Nat):Int) by omega,ih (i+1) f (by omega) (by omega),ex,ey];by_cases h:x=y
  ·subst h;rw[q0z rfl];by_cases h2:s.2.2.2.drop (i+1)=t.2.2.2.drop (i+1)
   ·rw[q0z h2,q0z (by rw[h2])]
   ·rw[q0n h2,q0n (by intro k;injection k with _ k;exact h2 k)]
  ·rw[q0n h,q0n (by intro k;injection k with k _;exact h k)]
theorem r17_same (n:Nat){a:Sta}(ha:StaW a)(b:Sta):w0x (n+4) a b=some (decide (a=b)):=by
 rw[y1m,confEq,tfn,tfd,tfn,tfd,tfn,tfd,tfn,tfd];by_cases h1:a.1=b.1
 case neg=>rw[q0n h1,q1z (fun k=>h1 (congrArg Prod.fst k))]
 rw[q0z h1];by_cases h2:a.2.1=b.2.1
 case neg=>rw[q0n h2,q1z (fun k=>h2 (congrArg (fun z:Sta=>z.2.1) k))]
 rw[q0z h2];by_cases h3:a.2.2.1=b.2.2.1
 case neg=>rw[q0n h3,q1z (fun k=>h3 (congrArg (fun z:Sta=>z.2.2.1) k))]
 rw[q0z h3];by_cases h4:(a.2.2.2.length:Int)=b.2.2.2.length
 case neg=>rw[q0n h4,q1z (fun k=>h4 (congrArg (fun z:Sta=>((z.2.2.2.length:Nat):Int)) k))]
 have e:o0i (n+3) a0b (a,b,(a.2.2.2.length:Int),(0:Int),())=_:=t1p n ha (by omega) a.2.2.2.length 0 a0b (by omega) (by have:=ha.len;unfold a0b;omega);rw[q0z h4,e,List.drop_zero,List.drop_zero];by_cases h5:a.2.2.2=b.2.2.2
 ·rw[q0z h5,q2a (Prod.ext h1 (Prod.ext h2 (Prod.ext h3 h5)))];rfl
 ·rw[q0n h5,q1z (fun k=>h5 (congrArg (fun z:Sta=>z.2.2.2) k))];rfl
theorem sta0_w:StaW sta0:=⟨by simp[sta0],by simp[sta0]⟩
theorem b2o:SerW ser0:=by
 refine ⟨?_,?_,⟨?_,?_,?_⟩,x1u⟩
 ·unfold I64;simp[ser0]
 ·intro e he;simp[ser0,r0w] at he
 ·intro x hx;simp[ser0] at hx
 ·intro x hx;simp[ser0] at hx
 ·intro x hx;simp[ser0] at hx
theorem rawV_w (c:Conf)(h2:c.1<=4096)(a b m:Int)(all:List UInt8):RawW (d1s c a b m all)/\(d1s c a b m all).2.2.length<=4096:=by
 unfold d1s;split
 ·exact ⟨fun e he=>by simp at he,by simp⟩
 split
 ·exact ⟨fun e he=>by simp at he,by simp⟩
 ·refine ⟨fun e he => ?_,by simp;omega⟩;dsimp only at he;obtain ⟨i,_,rfl⟩:=q3k.1 he;exact evR_w _
theorem x1h (N:Int)(left:List (List UInt8)):∀s∈q0v N left,SloW s:=fun s hs=>by
 obtain ⟨i,_,rfl⟩:=q3k.1 hs;exact slR_w _
theorem h1q (N:Int)(left:List (List UInt8)):(q0v N left).length=N.toNat:=by simp[q0v]
theorem i2g {c:Conf}(hc:Rng c){ls:List Lab}(hl:ls.length<=17)(h:List UInt8)(t:List (List UInt8)):SerW (serV c ls h t)/\SerM (serV c ls h t):=by
 have hr:=hc.raw;have h0:=hc.n0;have h1:=hc.n1;have h2:=hc.n2;have k:=rawV_w c (by omega) (wrap .i64 (v8 (h.drop 330))) (wrap .i64 (v8 (h.drop 338))) (v2 (h.drop 346)) (l0c c.1.toNat 16 t);refine ⟨⟨i64_w _,k.1,⟨x1h _ _,x1h _ _,x1h _ _⟩,slR_w _⟩,⟨?_,?_,?_,?_,?_⟩⟩
 ·unfold serV;dsimp only;omega
 ·unfold serV;dsimp only;have:=k.2;omega
 ·unfold serV;dsimp only;rw[h1q];omega
 ·unfold serV;dsimp only;rw[h1q];omega
 ·unfold serV;dsimp only;rw[h1q];omega
theorem s1x (n:Nat){c:Conf}(hc:Rng c){p:List (List UInt8)}(hp:Secs p)(hl:p.length<=100000)(hN:need c+1<=p.length):∃x q,d0z (n+9) (c,p)=some (x,q)/\SerW x/\SerM x:=by
 obtain ⟨h,t,rfl⟩:∃h t,p=h::t:=by
  cases p with
  | nil=>simp at hN
  | cons h t=>exact ⟨h,t,rfl⟩
 have hh:h.length=512:=hp h List.mem_cons_self;have ht:Secs t:=fun s hs=>hp s (q2j _ hs)
 simp only[q2k] at hl hN;have hv:=z0r (l:=h) (by omega);by_cases hz:v2 h=0\/320<v2 h
 ·exact ⟨_,_,i1i n c hh ht (by omega) hz,b2o,b2p⟩
 ·obtain ⟨ls,e,h1,h2⟩:=l1p n ((h.drop 2).take (v2 h).toNat) (by rw[q2z,q2l];omega);obtain ⟨q,h3⟩:=d1o n hc hh ht (by omega) (by omega) (by omega) (by omega) h1;exact ⟨_,_,h3,i2g hc h2 h t⟩
theorem q1q {α:Type}{m:Nat}(hm:1<=m)(f:α->List UInt8)(l:List α)(rest:List (List UInt8)):l0c l.length m (cutB m f l++rest)=(cutB m f l).flatten/\(cutB m f l++rest).drop (nsec l.length m)=rest:=by
 have h:(cutB m f l).length=nsec l.length m:=i0b hm f l;exact ⟨by unfold l0c;rw[List.take_left' h],List.drop_left' h⟩
theorem i2x {c:Conf}{r:Rw}(h:RawOk r c.1)(hw:RawW r)(rest:List (List UInt8)) :
  d1s c r.1 r.2.1 (r.2.2.length:Int) (l0c c.1.toNat 16 (cutB 16 d0g (f0i r c.1)++rest))=r:=by
 have h0:=h.l0;have h1:=h.len;have h2:=h.m0;have hrl:=(w0r h).1;have hj:=(q1q (m:=16) (by omega) d0g (f0i r c.1) rest).1;rw[hrl] at hj;obtain ⟨z,hz⟩:=w1n (m:=16) (w:=32) (by omega) (by omega) (f:=d0g) _ (f0i r c.1) (q2e _) (fun x _=>g0p x);unfold d1s;rw[q0n (by omega),q0n (by omega),q2i,hj,hz];obtain ⟨a,b,L⟩:=r;dsimp only at *
 congr 2;apply q3y;intro i;rw[q3f];rcases Nat.lt_or_ge i L.length with k | k
 ·have hi:L[i]? = some L[i]:=q2b k;rw[List.getElem?_range k,hi];have hg:=i2p h (i:=i) hi;dsimp only at hg;obtain ⟨t,ht⟩:=l2i (w:=32) (f:=d0g) (l:=f0i (a,b,L) c.1) (fun y _=>g0p y) hg z;have e:32*((a.toNat % c.1.toNat+i) % c.1.toNat)=(a.toNat+i) % c.1.toNat*32:=by rw[Nat.mod_add_mod,Nat.mul_comm]
  show some (evAt _ _ _ _)=_;unfold evAt;rw[e,ht,l2o (hw _ (List.getElem_mem k))]
 ·rw[q2f (by simpa using k),q2f k];rfl
theorem d1b {l:List Slo}{N:Int}(hN:(l.length:Int)=N)(hw:∀s∈l,SloW s)(rest:List (List UInt8)):q0v N (cutB 4 b0z l++rest)=l/\(cutB 4 b0z l++rest).drop (nsec N.toNat 4)=rest:=by
 subst hN;rw[q2i];obtain ⟨hj,hd⟩:=q1q (m:=4) (by omega) b0z l rest;refine ⟨?_,hd⟩;obtain ⟨z,hz⟩:=w1n (m:=4) (w:=128) (by omega) (by omega) (f:=b0z) _ l (q2e _) (fun x _=>d0s x);unfold q0v;rw[q2i,hj,hz];apply q3y;intro i;rw[q3f];rcases Nat.lt_or_ge i l.length with k | k
 ·have hi:l[i]? = some l[i]:=q2b k;rw[List.getElem?_range k,hi];obtain ⟨t,ht⟩:=l2i (w:=128) (f:=b0z) (l:=l) (fun y _=>d0s y) hi z;show some (slAt _ _)=_;unfold slAt;rw[Nat.mul_comm,ht,b2m (hw _ (List.getElem_mem k))]
 ·rw[q2f (by simpa using k),q2f k];rfl
theorem k1a {x:Ser}(hl:(labB x.1).length<=320):∃z,
  c0h x=toB (beI 2 ((labB x.1).length:Int))++(padB (labB x.1) 320++(n8B x.2.1++(n8B x.2.2.1.1++(n8B x.2.2.1.2.1++(toB (beI 2 (x.2.2.1.2.2.length:Int))++(b0z x.2.2.2.2++z))))))
  /\ (c0h x).drop 2=padB (labB x.1) 320++(n8B x.2.1++(n8B x.2.2.1.1++(n8B x.2.2.1.2.1++(toB (beI 2 (x.2.2.1.2.2.length:Int))++(b0z x.2.2.2.2++z)))))
  /\ (c0h x).drop 322=n8B x.2.1++(n8B x.2.2.1.1++(n8B x.2.2.1.2.1++(toB (beI 2 (x.2.2.1.2.2.length:Int))++(b0z x.2.2.2.2++z))))
  /\ (c0h x).drop 330=n8B x.2.2.1.1++(n8B x.2.2.1.2.1++(toB (beI 2 (x.2.2.1.2.2.length:Int))++(b0z x.2.2.2.2++z)))
  /\ (c0h x).drop 338=n8B x.2.2.1.2.1++(toB (beI 2 (x.2.2.1.2.2.length:Int))++(b0z x.2.2.2.2++z))
  /\ (c0h x).drop 346=toB (beI 2 (x.2.2.1.2.2.length:Int))++(b0z x.2.2.2.2++z)
  /\ (c0h x).drop 348=b0z x.2.2.2.2++z:=by
 have e0:c0h x=toB (beI 2 ((labB x.1).length:Int))++(padB (labB x.1) 320++(n8B x.2.1++(n8B x.2.2.1.1++(n8B x.2.2.1.2.1++(toB (beI 2 (x.2.2.1.2.2.length:Int))++(b0z x.2.2.2.2++List.replicate (512-(o0t x).length) 0)))))):=by
  rw[c0h,padB]
  conv=>lhs;arg 1;unfold o0t
  simp only[q2g]
 have p1:(padB (labB x.1) 320).length=320:=by rw[m0z];omega
 refine ⟨_,e0,?_⟩;have d2:=List.drop_left' (l₂:=padB (labB x.1) 320++(n8B x.2.1++(n8B x.2.2.1.1++(n8B x.2.2.1.2.1++(toB (beI 2 (x.2.2.1.2.2.length:Int))++(b0z x.2.2.2.2++List.replicate (512-(o0t x).length) 0)))))) (h1h ((labB x.1).length:Int));rw[<-e0] at d2;have d322:(c0h x).drop (2+320)=n8B x.2.1++(n8B x.2.2.1.1++(n8B x.2.2.1.2.1++(toB (beI 2 (x.2.2.1.2.2.length:Int))++(b0z x.2.2.2.2++List.replicate (512-(o0t x).length) 0)))):=by rw[<-q3g,d2];exact List.drop_left' p1
 have d330:(c0h x).drop (2+320+8)=n8B x.2.2.1.1++(n8B x.2.2.1.2.1++(toB (beI 2 (x.2.2.1.2.2.length:Int))++(b0z x.2.2.2.2++List.replicate (512-(o0t x).length) 0))):=by rw[<-q3g,d322];exact List.drop_left' (f0r _)
 have d338:(c0h x).drop (2+320+8+8)=n8B x.2.2.1.2.1++(toB (beI 2 (x.2.2.1.2.2.length:Int))++(b0z x.2.2.2.2++List.replicate (512-(o0t x).length) 0)):=by rw[<-q3g,d330];exact List.drop_left' (f0r _)
 have d346:(c0h x).drop (2+320+8+8+8)=toB (beI 2 (x.2.2.1.2.2.length:Int))++(b0z x.2.2.2.2++List.replicate (512-(o0t x).length) 0):=by rw[<-q3g,d338];exact List.drop_left' (f0r _)
 have d348:(c0h x).drop (2+320+8+8+8+2)=b0z x.2.2.2.2++List.replicate (512-(o0t x).length) 0:=by rw[<-q3g,d346];exact List.drop_left' (h1h _)
 exact ⟨d2,d322,d330,d338,d346,d348⟩
theorem z0n:zsec.length=512:=q3b ..
theorem prt16 {x:Int}(h:0<=x):prt x 16=((nsec x.toNat 16:Nat):Int):=by unfold prt nsec;omega
theorem prt4 {x:Int}(h:0<=x):prt x 4=((nsec x.toNat 4:Nat):Int):=by unfold prt nsec;omega
theorem b1z {c:Conf}(hc:Rng c):(plc c).toNat=need c+1:=by
 have hr:=hc.raw;have h0:=hc.n0;have h1:=hc.n1;have h2:=hc.n2;unfold plc need;rw[prt16 (by omega),prt4 (by omega),prt4 (by omega),prt4 (by omega)];omega
theorem f1c (n:Nat){c:Conf}{x:Ser}(hc:OkC c)(hw:SerW x)(h:x=ser0\/SerOk c x):∃q,d0z (n+9) (c,d0p c x)=some (x,q):=by
 have hp:=h0b hc.rng;have hn:=b1z hc.rng;by_cases h0:x=ser0
 ·unfold d0p;rw[q0z h0,hn,List.replicate_succ,h0];have hz:v2 zsec=0:=by decide +kernel
  exact ⟨_,i1i n c z0n (fun s hs=>by rw[(List.mem_replicate.1 hs).2,z0n]) (by rw[q3b];omega) (.inl hz)⟩
 have hs:SerOk c x:=h.resolve_left h0;have hlab:=y0w hs.lab;have hln:=hs.raw.len;have hm:=hs.raw.m1;have hrd:=w0r hs.raw;obtain ⟨z,e0,d2,d322,d330,d338,d346,d348⟩:=k1a hlab;have hlen:1<=(labB x.1).length:=by
  unfold labB;rw[q2d,q0e (by have:=hs.lab.n1;omega)];omega
 have hv:v2 (c0h x)=((labB x.1).length:Int):=by rw[e0];exact v2_of (by omega) (by omega) _
 have hlbl:((c0h x).drop 2).take (v2 (c0h x)).toNat=labB x.1:=by
  rw[d2,hv,q2i,padB,q2g,List.take_left]
 unfold d0p;rw[q0n h0];have c1:=i0b (m:=16) (by omega) d0g (f0i x.2.2.1 c.1);have c2:=i0b (m:=4) (by omega) b0z x.2.2.2.1.1;have c3:=i0b (m:=4) (by omega) b0z x.2.2.2.1.2.1;have c4:=i0b (m:=4) (by omega) b0z x.2.2.2.1.2.2;have f0:=hs.fold.n0;have f1:=hs.fold.n1;have f2:=hs.fold.n2;have ht:=o1u hs;have hT:Secs (cutB 16 d0g (f0i x.2.2.1 c.1)++(cutB 4 b0z x.2.2.2.1.1++(cutB 4 b0z x.2.2.2.1.2.1++cutB 4 b0z x.2.2.2.1.2.2))):=by
  intro s hs;rcases q2o.1 hs with q | hs
  ·exact p0z (m:=16) (w:=32) (by omega) (by omega) (fun y _=>g0p y) s q
  rcases q2o.1 hs with q | hs
  ·exact p0z (m:=4) (w:=128) (by omega) (by omega) (fun y _=>d0s y) s q
  rcases q2o.1 hs with q | q
  ·exact p0z (m:=4) (w:=128) (by omega) (by omega) (fun y _=>d0s y) s q
  ·exact p0z (m:=4) (w:=128) (by omega) (by omega) (fun y _=>d0s y) s q
 have hL:(cutB 16 d0g (f0i x.2.2.1 c.1)++(cutB 4 b0z x.2.2.2.1.1++(cutB 4 b0z x.2.2.2.1.2.1++cutB 4 b0z x.2.2.2.1.2.2))).length=need c:=by
  simp only[q2d,c1,c2,c3,c4,hrd.1];unfold need nsec;rw[<-f0,<-f1,<-f2];simp only[q2i];omega
 obtain ⟨q,hq⟩:=d1o n hc.rng (x0g hlab) hT (by omega) (by omega) (by omega) (by omega) (ls:=x.1) (e:=0) (by rw[hlbl];exact c1d n hs.lab);refine ⟨q,?_⟩;rw[hq];have t1:=i2x hs.raw hw.raw (cutB 4 b0z x.2.2.2.1.1++(cutB 4 b0z x.2.2.2.1.2.1++cutB 4 b0z x.2.2.2.1.2.2));have j1:=(q1q (m:=16) (by omega) d0g (f0i x.2.2.1 c.1) (cutB 4 b0z x.2.2.2.1.1++(cutB 4 b0z x.2.2.2.1.2.1++cutB 4 b0z x.2.2.2.1.2.2))).2;rw[hrd.1] at j1;have t2:=d1b f0 hw.trs.a (cutB 4 b0z x.2.2.2.1.2.1++cutB 4 b0z x.2.2.2.1.2.2)
 have t3:=d1b f1 hw.trs.b (cutB 4 b0z x.2.2.2.1.2.2);have t4:=d1b f2 hw.trs.c [];rw[q2x] at t4;have k0:I64 x.2.2.1.1:=by have:=hs.raw.l0;have:=hs.raw.l1;unfold I64;omega
 have k1:I64 x.2.2.1.2.1:=by
  by_cases hz:x.2.2.1.1=0
  ·rw[hs.raw.z hz];unfold I64;omega
  ·obtain ⟨p1,p2,p3⟩:=hs.raw.p hz;have m0:=hs.raw.m0;cases hL:x.2.2.1.2.2 with
   | nil=>rw[hL] at p1;simp at p1;omega
   | cons e L =>
    have:=p3 e (by rw[hL];rfl);have he:=(hw.raw e (by rw[hL];simp)).t;unfold I64 at he ⊢;omega
 have o:=b2m hw.opn [];rw[q2x] at o;unfold serV;rw[d322,d330,d338,d346,d348,x1f,x1f,x1f,v2_of (by omega) (by omega),z0d hw.last,z0d k0,z0d k1,t1,j1,t2.1,t2.2,t3.1,t3.2,t4.1,List.take_left' (d0s _),o]
theorem t0a {c:Conf}{x:Ser}(hc:Rng c)(h:x=ser0\/SerOk c x):Secs (d0p c x)/\(d0p c x).length=(plc c).toNat:=by
 have hn:=b1z hc;unfold d0p;by_cases h0:x=ser0
 ·rw[q0z h0];exact ⟨fun s hs=>by rw[(List.mem_replicate.1 hs).2,z0n],q3b ..⟩
 have hs:SerOk c x:=h.resolve_left h0;rw[q0n h0];have c1:=i0b (m:=16) (by omega) d0g (f0i x.2.2.1 c.1);have c2:=i0b (m:=4) (by omega) b0z x.2.2.2.1.1;have c3:=i0b (m:=4) (by omega) b0z x.2.2.2.1.2.1;have c4:=i0b (m:=4) (by omega) b0z x.2.2.2.1.2.2;have f0:=hs.fold.n0;have f1:=hs.fold.n1;have f2:=hs.fold.n2;have hrd:=w0r hs.raw;constructor
 ·intro s hs';rcases q2m.1 hs' with q | hs'
  ·rw[q];exact x0g (y0w hs.lab)
  rcases q2o.1 hs' with q | hs'
  ·exact p0z (m:=16) (w:=32) (by omega) (by omega) (fun y _=>g0p y) s q
  rcases q2o.1 hs' with q | hs'
  ·exact p0z (m:=4) (w:=128) (by omega) (by omega) (fun y _=>d0s y) s q
  rcases q2o.1 hs' with q | q
  ·exact p0z (m:=4) (w:=128) (by omega) (by omega) (fun y _=>d0s y) s q
  ·exact p0z (m:=4) (w:=128) (by omega) (by omega) (fun y _=>d0s y) s q
 ·rw[hn,q2k];simp only[q2d,c1,c2,c3,c4,hrd.1];unfold need nsec;rw[<-f0,<-f1,<-f2];simp only[q2i];omega
theorem whole_l (n:Nat){g:(List UInt8×Unit)->Option Bool}(hg:∀s,g (s,())=some (!(decide ((s.length:Int)=512))))(l:List (List UInt8))(hl:l.length<=1000000):∀(rest pre:List (List UInt8)) (f:Nat) (i:Int),l=pre++rest->i=pre.length->rest.length<f ->
  (Secs rest/\d0i n f (l,g,(l.length:Int),i,())=some (.inl ()))\/(¬Secs rest/\∃k,0<=k/\d0i n f (l,g,(l.length:Int),i,())=some (.inr k)):=by
 intro rest;induction rest with
 | nil =>
  intro pre f i h hi hf;obtain ⟨f,rfl⟩:=l0d hf;rw[i0s,tfd,q0n (idxe h hi rfl)];exact .inl ⟨fun s hs=>by simp at hs,rfl⟩
 | cons a rest ih =>
  intro pre f i h hi hf;obtain ⟨f,rfl⟩:=l0d hf;have hlen:=congrArg List.length h;simp at hlen hf;rw[i0s,tfd,q0z (idx h hi rfl),b0o h hi,obs,hg,obs,tfn,tfd];by_cases ha:(a.length:Int)=512
  ·rw[q0z ha,w64 (by omega) (by omega)];rcases ih (pre++[a]) f (i+1) (idxl h) (idxs hi) (by omega) with ⟨q1,q2⟩ | ⟨q1,k,q2,q3⟩
   ·refine .inl ⟨fun s hs => ?_,q2⟩;rcases q2m.1 hs with rfl | hs
    ·omega
    ·exact q1 s hs
   ·exact .inr ⟨fun q=>q1 fun s hs=>q s (q2j _ hs),k,q2,q3⟩
  ·rw[q0n ha];exact .inr ⟨fun q=>ha (by have:=q a List.mem_cons_self;omega),i,by omega,rfl⟩
theorem h2h (n:Nat)(l:List (List UInt8))(hl:l.length<=1000000):y0x (n+4) l=some (!(decide (l=[])) && @decide (Secs l) (Classical.propDecidable _)):=by
 rw[l1v,tfd];by_cases h0:l=[]
 ·subst h0;rfl
 have hp:0<(l.length:Int):=by
  cases l with
  | nil=>exact absurd rfl h0
  | cons a t=>simp
 rw[q0z hp,q0m,u0h,q1z h0];have hg:∀s:List UInt8,(fun y0:List UInt8×Unit=>n0e (n+3) y0.1) (s,())=some (!(decide ((s.length:Int)=512))):=fun s=>g1f _ s
 rcases whole_l (n+1) (g:=fun y0=>n0e (n+3) y0.1) hg l hl l [] a0b 0 rfl rfl (by unfold a0b;omega) with ⟨q1,q2⟩ | ⟨q1,k,q2,q3⟩
 ·rw[q2,@decide_eq_true _ (Classical.propDecidable _) q1];rfl
 ·rw[q3,@decide_eq_false _ (Classical.propDecidable _) q1,obs,j0z,obs,obs,q2a q2];rfl
theorem strs_l (n:Nat)(a b:List (List UInt8))(hL:a.length<=1000000000000):∀(ra rb pa pb:List (List UInt8)) (f:Nat) (i:Int),a=pa++ra->b=pb++rb->pa.length=pb.length->ra.length=rb.length->i=pa.length->ra.length<f ->
  g0s n f (a,b,(a.length:Int),i,())=some (if ra=rb then .inl () else .inr false):=by
 intro ra;induction ra with
 | nil =>
  intro rb pa pb f ix ha hb hp hr hi hf;obtain ⟨f,rfl⟩:=l0d hf;have e:rb=[]:=List.length_eq_zero_iff.1 (by simpa using hr.symm);subst e;rw[l0u,q1z (idxe ha hi rfl),tff,q0z rfl]
 | cons x ra ih =>
  intro rb pa pb f ix ha hb hp hr hi hf;obtain ⟨f,rfl⟩:=l0d hf;cases rb with
  | nil=>simp at hr
  | cons y rb =>
   have hlen:=congrArg List.length ha;simp at hlen hf;rw[l0u,q2a (idx ha hi rfl),tft,b0o ha hi,b0o hb (by omega)];simp only[obs];rw[w64 (x:=ix+1) (by omega) (by omega),tfn];by_cases h:x=y
   ·subst h;rw[beq_self_eq_true,tft,ih rb (pa++[x]) (pb++[x]) f (ix+1) (idxl ha) (idxl hb) (by simp;omega) (by simpa using hr) (idxs hi) (by omega)];simp
   ·rw[q0n (by simp[h]),beq_eq_false_iff_ne.2 h,tff]
theorem b2i (n:Nat)(a b:List (List UInt8))(hL:a.length<=1000000000000):j0w (n+1) a b=some (decide (a=b)):=by
 rw[a1m,tfn,tfd];by_cases h:a.length=b.length
 ·rw[q0z (by omega),strs_l n a b hL a b [] [] a0b 0 rfl rfl rfl h rfl (by unfold a0b;omega),obs];by_cases k:a=b
  ·rw[q0z k,q2a k];rfl
  ·rw[q0n k,q1z k];rfl
 ·rw[q0n (by omega),q1z (fun k=>h (by rw[k]))]
theorem k1i {α β:Type}{m:Nat}(hm:1<=m)(g:α->List β):∀l:List α,(∀x∈l,(g x).length=m)->c0r (l.flatMap g).length m (l.flatMap g)=l.map g
 | [],_=>rfl
 | x::l,h=>by
  have hx:=h x List.mem_cons_self;have ih:=k1i hm g l fun y hy=>h y (q2j _ hy)
  rw[q3l,q3m,<-ih];cases hg:g x with
  | nil=>rw[hg] at hx;simp at hx;omega
  | cons y t =>
   rw[hg] at hx;have e:(y::t++l.flatMap g).length=(t++l.flatMap g).length+1:=rfl;rw[e,q3z,w0e,<-q3z,List.take_left' hx,List.drop_left' hx,f1w hm (by simp)]
theorem t1a (n:Nat){c:Conf}(hc:OkC c)(l:List (List UInt8))(z:Sta):∀(xs:List Ser) (s:Sta),(∀x∈xs,SerW x/\(x=ser0\/SerOk c x))->s.2.2.2.length+xs.length<=10000000 ->
  h0g (n+9) ((xs.map (d0p c)).map fun p=>(p,())) (l,z,c,s,())=some (l,z,c,(s.1,(s.2.1,(s.2.2.1,s.2.2.2++xs))),())
 | [],s,_,_=>by rw[q2x];exact u0f _ _
 | x::xs,s,h,hl=>by
  obtain ⟨h1,h2⟩:=h x List.mem_cons_self;obtain ⟨q,hq⟩:=f1c n hc h1 h2;simp only[q2k] at hl;rw[q3m,q3m,r0r,hq,obs,tfd,q0z (by omega),obs];rw[t1a n hc l z xs _ (fun y hy=>h y (q2j _ hy)) (by simp;omega)];simp
theorem s1z (n:Nat){c:Conf}(hc:Rng c)(l:List (List UInt8))(z:Sta):∀(P:List (List (List UInt8))) (s:Sta),(∀p∈P,Secs p/\p.length=(plc c).toNat)->s.2.2.2.length+P.length<=10000000->(∀x∈s.2.2.2,SerW x/\SerM x) ->
  ∃L,h0g (n+9) (P.map fun p=>(p,())) (l,z,c,s,())=some (l,z,c,(s.1,(s.2.1,(s.2.2.1,L))),())/\L.length=s.2.2.2.length+P.length/\∀x∈L,SerW x/\SerM x
 | [],s,_,_,hs=>⟨s.2.2.2,u0f _ _,rfl,hs⟩
 | p::P,s,h,hl,hs=>by
  obtain ⟨h1,h2⟩:=h p List.mem_cons_self;have hn:=b1z hc;have hp:=h0b hc;obtain ⟨x,q,hq,w1,w2⟩:=s1x n hc h1 (by omega) (by omega);simp only[q2k] at hl;obtain ⟨L,k1,k2,k3⟩:=s1z n hc l z P (s.1,(s.2.1,(s.2.2.1,s.2.2.2++[x]))) (fun y hy=>h y (q2j _ hy)) (by simp;omega) (fun y hy=>by
   rcases q2o.1 hy with q | q
   ·exact hs y q
   ·rw[List.mem_singleton] at q;subst q;exact ⟨w1,w2⟩)
  refine ⟨L,?_,by rw[k2];simp;omega,k3⟩;rw[q3m,r0r,hq,obs,tfd,q0z (by omega),obs];exact k1
theorem o1c {α β:Type}{m:Nat}{g:α->List β}:∀l:List α,(∀x∈l,(g x).length=m)->(l.flatMap g).length=l.length*m
 | [],_=>by simp
 | x::l,h=>by
  rw[q3l,q2d,h x List.mem_cons_self,o1c l fun y hy=>h y (q2j _ hy),q2k,q3w];omega
theorem h1w (s:Sta):∃z,i0g s=(v0u++toB (bts s.1))++(n8B s.2.1++(n8B (s.2.2.1+1)++z)):=by
 refine ⟨List.replicate (512-(z0y s).length) 0,?_⟩;unfold i0g padB
 conv=>lhs;arg 1;unfold z0y
 simp only[q2g]
theorem w0f {s:Sta}(hs:StaOk s):Secs (allB s)/\(allB s).length=1+s.2.2.2.length*(plc s.1).toNat/\∀x∈s.2.2.2,(d0p s.1 x).length=(plc s.1).toNat:=by
 have hr:∀x∈s.2.2.2,x=ser0\/SerOk s.1 x:=fun x hx=>by
  obtain ⟨i,hi⟩:=List.getElem?_of_mem hx;exact r0c (hs.right i x hi)
 have hp:∀x∈s.2.2.2,(d0p s.1 x).length=(plc s.1).toNat:=fun x hx=>(t0a hs.whole.1.rng (hr x hx)).2
 refine ⟨fun y hy => ?_,?_,hp⟩
 ·rcases q2m.1 hy with rfl | hy
  ·exact e2f s
  ·obtain ⟨x,hx,hxy⟩:=List.mem_flatMap.1 hy;exact (t0a hs.whole.1.rng (hr x hx)).1 y hxy
 ·unfold allB;rw[q2k,o1c _ hp];omega
open Classical in
theorem c1k (n:Nat){l:List (List UInt8)}(hl:l.length<=1000000):j0b (n+17) l =
  if h:∃a t,l=a::t/\Secs l then
   (let a:=h.choose
    let S:=(a.take 64).drop 8
    @ite _ (OkC (cfg S)/\Full S/\(l.length:Int)-1=(cfg S).2.2.2.1*plc (cfg S)) (Classical.propDecidable _)
     (a0a (h0g (n+16) ((c0r (l.length-1) (plc (cfg S)).toNat (l.drop 1)).map fun p=>(p,())) (l,sta0,cfg S,(cfg S,(wrap .i64 (v8 (a.drop 64)),(wrap .i64 (wrap .i64 (v8 (a.drop 72))-1),[]))),())) fun r10 =>
      a0a (r0s (n+16) r10.2.2.2.1) fun r11=>tif (!(decide (r11.2=(0:Int)))) (some (sta0,4)) (a0a (j0w (n+16) r10.1 r11.1) fun r12=>tif (!r12) (some (sta0,4)) (some (r10.2.2.2.1,0))))
     (some (sta0,4)))
  else some (sta0,4):=by
 rw[a2e,h2h (n+12) l hl,obs,tfn];by_cases h:∃a t,l=a::t/\Secs l
 case neg =>
  rw[dif_neg h];have:(!(decide (l=[])) && @decide (Secs l) (Classical.propDecidable _))=false:=by
   cases l with
   | nil=>rfl
   | cons a t=>rw[@decide_eq_false _ (Classical.propDecidable _) (fun q=>h ⟨a,t,rfl,q⟩),Bool.and_false]
  rw[this,tff];rfl
 rw[dif_pos h];obtain ⟨t,hlt,hS⟩:=h.choose_spec;generalize h.choose=a at hlt ⊢;have hne:l≠[]:=by rw[hlt];simp
 have ha:a.length=512:=hS a (by rw[hlt];simp);have hat:at? l (0:Int)=some a:=by rw[hlt];rfl
 have hlen:1<=l.length:=by rw[hlt];simp
 rw[q1z hne,@decide_eq_true _ (Classical.propDecidable _) hS,q3e,Bool.and_self,tft,hat,obs,
  show (true&&decide ((64:Int)<=((a.length:Nat):Int)))=true by rw[Bool.true_and,q2c];omega,tft]
 dsimp only;by_cases hr:OkC (cfg ((a.take 64).drop 8))/\Full ((a.take 64).drop 8)
 case neg =>
  rw[i2u (n+12) hr,obs,q0n (fun q=>hr ⟨q.1,q.2.1⟩)];rfl
 rw[b2s (n+12) hr.1 hr.2,obs];dsimp only;have hp:=h0b hr.1.rng;have hcap:=hr.1.rng.cap;have m0:0<=(cfg ((a.take 64).drop 8)).2.2.2.1*plc (cfg ((a.take 64).drop 8)):=Int.mul_nonneg (by omega) (by omega);have m1:(cfg ((a.take 64).drop 8)).2.2.2.1*plc (cfg ((a.take 64).drop 8))<=65536*20000:=Int.mul_le_mul hcap.2 hp.2 (by omega) (by omega);rw[q2a (rfl:(0:Int)=0),q2u,tff,x1a (n+12) hr.1,obs,w64 (x:=((l.length:Nat):Int)-1) (by omega) (by omega),w64 (x:=(cfg ((a.take 64).drop 8)).2.2.2.1*plc (cfg ((a.take 64).drop 8))) (by omega) (by omega),tfn,tfd]
 by_cases hc:(l.length:Int)-1=(cfg ((a.take 64).drop 8)).2.2.2.1*plc (cfg ((a.take 64).drop 8))
 case neg=>rw[q0n hc,q0n (fun q=>hc q.2.2)];rfl
 rw[q0z hc,q0z ⟨hr.1,hr.2,hc⟩,obs,tfd,q0z (by omega),List.take_length,f0f,obs,a0v (n+13) _ 8 8 rfl (by omega) (by omega),rd8 (by rw[q2l];omega),obs];dsimp only;rw[q3g,show 64+8=72 from rfl,a0v (n+13) _ 8 8 rfl (by omega) (by omega),rd8 (by rw[q2l];omega),obs,tfd,q0z hlen,obs,List.take_length,a1n];have hpl:plc (cfg ((a.take 64).drop 8))=(((plc (cfg ((a.take 64).drop 8))).toNat:Nat):Int):=by omega
 have hch:=k1j (l.drop 1) (plc (cfg ((a.take 64).drop 8))).toNat (by omega) (by rw[q2l];omega);rw[<-hpl,q2l] at hch;rw[hch,obs];rfl
theorem q0r (n:Nat){s:Sta}(hw:StaW s)(hs:StaOk s)(hl:(allB s).length<=1000000):j0b (n+17) (allB s)=some (s,0):=by
 obtain ⟨h1,h2,h3⟩:=w0f hs;have hc:=hs.whole.1;have hcl:=hs.whole.2;have hp:=h0b hc.rng;have hk:=hs.clock;have hex:∃a t,allB s=a::t/\Secs (allB s):=⟨_,_,rfl,h1⟩;rw[c1k n hl,dif_pos hex];have hch:hex.choose=i0g s:=by
  obtain ⟨t,ht,_⟩:=hex.choose_spec;unfold allB at ht;injection ht with q;exact q.symm
 rw[hch];obtain ⟨z,hz⟩:=h1w s;have l8:v0u.length=8:=rfl;have l56:=n0u s.1;have l64:(v0u++toB (bts s.1)).length=64:=by rw[q2d,l8,l56]
 have e1:((i0g s).take 64).drop 8=toB (bts s.1):=by rw[hz,List.take_left' l64,List.drop_left' l8]
 have e2:(i0g s).drop 64=n8B s.2.1++(n8B (s.2.2.1+1)++z):=by rw[hz,List.drop_left' l64]
 have e3:(i0g s).drop 72=n8B (s.2.2.1+1)++z:=by
  rw[show 72=64+8 from rfl,<-q3g,e2,List.drop_left' (f0r _)]
 obtain ⟨c1,c2⟩:=k1m hc.rng;dsimp only
 rw [e1, c1, q0z ⟨hc, c2, by rw [h2, <- hcl]; have : plc s.1 = (((plc s.1).toNat : Nat) : Int) :=(by omega);rw[Int.natCast_add,Int.natCast_mul,<-this];omega⟩,e2,e3,x1f,x1f]
 have i1:wrap .i64 (wrap .u64 s.2.1)=s.2.1:=by
  obtain ⟨k1,_⟩:=hk;exact z0d (by unfold t0r at k1;unfold I64;omega)
 have i2:wrap .i64 (wrap .i64 (wrap .u64 (s.2.2.1+1))-1)=s.2.2.1:=by
  obtain ⟨_,k,_⟩:=hk;rcases k with k | ⟨k1,k2⟩
  ·rw[k];decide
  ·rw[z0d (by unfold I64;omega),w64 (by omega) (by omega)];omega
 rw[i1,i2];have hd:(allB s).drop 1=s.2.2.2.flatMap (d0p s.1):=rfl;have hdl:(allB s).length-1=(s.2.2.2.flatMap (d0p s.1)).length:=rfl;rw[hd,hdl,k1i (by omega) (d0p s.1) s.2.2.2 h3];have h11:=t1a (n+7) hc (allB s) sta0 s.2.2.2 (s.1,(s.2.1,(s.2.2.1,[]))) (fun x hx=>by
  obtain ⟨i,hi⟩:=List.getElem?_of_mem hx
  exact ⟨(hw.ser x hx).1,r0c (hs.right i x hi)⟩) (by have:=hs.whole.len;dsimp only;rw[List.length_nil];omega)
 rw[h11,obs];dsimp only;rw[q2r]
 change a0a (r0s (n+16) s) _=_
 rw[b2a n hw,q0z hs,obs];dsimp only;rw[q2a (rfl:(0:Int)=0),q2u,tff,b2i (n+15) _ _ (by omega),q2a rfl,obs];rfl
theorem c1j (n:Nat){l:List (List UInt8)}(hl:l.length<=1000000)(h:¬ ∃s,StaW s/\StaOk s/\allB s=l):j0b (n+17) l=some (sta0,4):=by
 rw[c1k n hl];split
 case isFalse=>rfl
 rename_i hex;obtain ⟨t,ht,hS⟩:=hex.choose_spec;generalize hex.choose=a at ht ⊢;dsimp only;split
 case isFalse=>rfl
 rename_i hr;obtain ⟨hc,hf,hn⟩:=hr;have hp:=h0b hc.rng;have hcap:=hc.rng.cap;obtain ⟨k,hk⟩:∃k:Nat,(cfg ((a.take 64).drop 8)).2.2.2.1=k:=⟨_,(Int.toNat_of_nonneg (by omega)).symm⟩;have hpl:plc (cfg ((a.take 64).drop 8))=(((plc (cfg ((a.take 64).drop 8))).toNat:Nat):Int):=by omega
 generalize hm:(plc (cfg ((a.take 64).drop 8))).toNat=m at hpl;have hlk:(l.drop 1).length=k*m:=by
  rw[hk,hpl,<-Int.natCast_mul] at hn;rw[q2l];omega
 have hP:∀p∈c0r (l.drop 1).length m (l.drop 1),Secs p/\p.length=(plc (cfg ((a.take 64).drop 8))).toNat:=fun p hpm=>by
  obtain ⟨i,hi⟩:=List.getElem?_of_mem hpm;rw[e0b (by omega) _ _ (q2e _),hlk] at hi;by_cases hb:i*m<k*m
  ·rw[q0z hb] at hi;injection hi with hi;subst hi;have hik:i<k:=Nat.lt_of_mul_lt_mul_right hb;have hle:(i+1)*m<=k*m:=q3x m hik;rw[q3w] at hle;exact ⟨((hS.drop 1).drop _).take _,by rw[hm,q2z,q2l,hlk];omega⟩
  ·rw[q0n hb] at hi;cases hi
 have hPl:(c0r (l.drop 1).length m (l.drop 1)).length<=1000000:=by
  have q1:=n0q (m:=m) (by omega) (l.drop 1);have q2:(l.drop 1).length=l.length-1:=q2l ..;omega
 obtain ⟨L,h1,h2,h3⟩:=s1z (n+7) hc.rng l sta0 (c0r (l.drop 1).length m (l.drop 1)) (cfg ((a.take 64).drop 8),(wrap .i64 (v8 (a.drop 64)),(wrap .i64 (wrap .i64 (v8 (a.drop 72))-1),[]))) hP (by dsimp only;rw[List.length_nil];omega) (fun x hx=>by simp at hx);have hdl:l.length-1=(l.drop 1).length:=by rw[q2l]
 rw[hdl,h1,obs];dsimp only at h2 ⊢;have hw:StaW (cfg ((a.take 64).drop 8),(wrap .i64 (v8 (a.drop 64)),(wrap .i64 (wrap .i64 (v8 (a.drop 72))-1),L))):=⟨by dsimp only;rw[h2,List.length_nil];omega,h3⟩;rw[b2a n hw];by_cases hs:StaOk (cfg ((a.take 64).drop 8),(wrap .i64 (v8 (a.drop 64)),(wrap .i64 (wrap .i64 (v8 (a.drop 72))-1),L)))
 ·rw[q0z hs,obs];dsimp only;rw[q2a (rfl:(0:Int)=0),q2u,tff,b2i (n+15) _ _ (by omega),q1z (fun q=>h ⟨_,hw,hs,q.symm⟩),obs];rfl
 ·rw[q0n hs,obs];rfl
noncomputable def ofV (l:List (List UInt8)):Sta×Int:=open Classical in if h:∃s,StaW s/\StaOk s/\allB s=l then (h.choose,0) else (sta0,4)
theorem f1o (n:Nat){l:List (List UInt8)}(hl:l.length<=1000000):j0b (n+17) l=some (ofV l):=by
 unfold ofV;by_cases h:∃s,StaW s/\StaOk s/\allB s=l
 ·rw[dif_pos h];obtain ⟨h1,h2,h3⟩:=h.choose_spec;have:=q0r n h1 h2 (by rw[h3];exact hl)
  rwa [h3] at this
 ·rw[dif_neg h];exact c1j n hl h
theorem l1n (n:Nat)  : g0k (n+1)  =
 a0a (k2u n ) fun r0 =>
 a0a (h2u n r0) fun r1 =>
 tif (!(decide (r1.2=(0:Int)))) (
 some false) (
 a0a (r1x n r1.1 ((((97:UInt8)::[]),[])::[]) ((3:Int),((258:Int),((0:Int),false)))) fun r2 =>
 tif (!(decide (r2.2=(0:Int)))) (
 some false) (
 tif (!(decide ((((List.length r2.1.2.2.2):Nat):Int)=(3:Int)))) (
 some false) (
 a0a (r0s n r2.1) fun r3 =>
 a0a (t0k n r2.1) fun r4 =>
 a0a (j0b n r3.1) fun r5 =>
 a0a (at? r2.1.2.2.2 (0:Int)) fun r6 =>
 a0a (t0l n r2.1.1 r6) fun r7 =>
 a0a (j0b n []) fun r8 =>
 a0a (o0q n ((3:Int),((258:Int),((0:Int),true)))) fun r9 =>
 tif (!(decide (r3.2=(0:Int)))) (
 some false) (
 tif (!(decide ((((List.length r3.1):Nat):Int)=(25:Int)))) (
 some false) (
 tif (!(decide (r7.2=(0:Int)))) (
 some false) (
 tif (!(decide ((((List.length r7.1):Nat):Int)=(8:Int)))) (
 some false) (
 tif (!(decide ((((List.length r9):Nat):Int)=(32:Int)))) (
 some false) (
 a0a (at? r7.1 (0:Int)) fun r10 =>
 a0a ((r7.1)[0]?) fun r11 =>
 tif (!(decide ((((List.length r11):Nat):Int)=(512:Int)))) (
 some false) (
 a0a (at? r3.1 (0:Int)) fun r12 =>
 a0a ((r3.1)[0]?) fun r13 =>
 a0a (i0a n r3.1 (r13::(((120:UInt8)::[])::[])) (7:Int)) fun r14 =>
 a0a (at? r3.1 (0:Int)) fun r15 =>
 a0a ((r3.1)[0]?) fun r16 =>
 tif (r4.1==r16) (
 tif (decide (r4.2=(0:Int))) (
 a0a (p1b n r5.1 r2.1) fun r17 =>
 tif (r17) (
 tif (decide (r5.2=(0:Int))) (
 a0a (at? r7.1 (0:Int)) fun r18 =>
 a0a ((r7.1)[0]?) fun r19 =>
 a0a (at? r3.1 (1:Int)) fun r20 =>
 a0a ((r3.1)[1]?) fun r21 =>
 tif (r19==r21) (
 tif (decide (r8.2=(4:Int))) (
 a0a (at? r9 (7:Int)) fun r22 =>
 tif (decide ((((UInt8.toNat r22):Nat):Int)=(3:Int))) (
 a0a (at? r9 (14:Int)) fun r23 =>
 tif (decide ((((UInt8.toNat r23):Nat):Int)=(1:Int))) (
 a0a (at? r9 (15:Int)) fun r24 =>
 tif (decide ((((UInt8.toNat r24):Nat):Int)=(2:Int))) (
 a0a (at? r9 (24:Int)) fun r25 =>
 tif (decide ((((UInt8.toNat r25):Nat):Int)=(1:Int))) (
 a0a (j0n n ((0:Int),((0:Int),(((0:Int),((0:Int),((0:Int),false))),(((0:Int),((0:Int),((0:Int),false))),(((0:Int),(0:Int)),((0:Int),((0:Int),(0:Int))))))))) fun r26 =>
 tif (decide ((((List.length r26):Nat):Int)=(128:Int))) (
 a0a (at? r7.1 (0:Int)) fun r27 =>
 a0a ((r7.1)[0]?) fun r28 =>
 tif (true&&(decide ((7:Int)<=(((List.length r28):Nat):Int)))) (
 tif ((List.drop 0 (List.take 7 r28))==((0:UInt8)::((4:UInt8)::((1:UInt8)::((1:UInt8)::((97:UInt8)::((0:UInt8)::((0:UInt8)::[])))))))) (
 tif (decide ((((List.length r14):Nat):Int)=(1:Int))) (
 a0a (at? r14 (0:Int)) fun r29 =>
 some ((decide (r29.1=(8:Int)))&&(r29.2==((120:UInt8)::[])))) (
 some false)) (
 some false)) (
 none)) (
 some false)) (
 some false)) (
 some false)) (
 some false)) (
 some false)) (
 some false)) (
 some false)) (
 some false)) (
 some false)) (
 some false)) (
 some false)))))))))):=by kernel_rfl
def x0o:Conf:=(20,((10,(20,60)),((4,(5,6)),(3,9))))
def x24:Ser:=([([97],[])],(3,((0,(0,[(3,(258,(0,false)))])),((List.replicate 4 s0,(List.replicate 5 s0,List.replicate 6 s0)),(0,(1,((3,(258,(0,false))),((3,(258,(0,false))),((0,0),(0,(0,0)))))))))))
def S24:Sta:=(x0o,(0,((-1),[x24,ser0,ser0])))
theorem lvl24_0 (n:Nat):k2u (n+39)=some x0o:=by kernel_rfl
theorem lvl24_1 (n:Nat):h2u (n+39) x0o=some ((x0o,(0,((-1),[ser0,ser0,ser0]))),0):=by kernel_rfl
theorem lvl24_2 (n:Nat):r1x (n+39) (x0o,(0,((-1),[ser0,ser0,ser0]))) [([97],[])] (3,(258,(0,false)))=some (S24,0):=by kernel_rfl
theorem lvl24_3 (n:Nat):a1c (n+14) S24=some 0:=by kernel_rfl
theorem lvl24_4 (n:Nat):j0b (n+39) []=some (sta0,4):=c1j (n+22) (by simp) (by rintro ⟨s,_,_,h⟩;cases h)
theorem x24_w:SerW x24/\SerM x24:=by
 have r:∀k,∀s∈List.replicate k s0,SloW s:=fun k s hs=>by rw[(List.mem_replicate.1 hs).2];exact x1u
 have e:EvW (3,(258,(0,false))):=⟨by unfold I64;decide,by decide,by unfold I64;decide⟩;refine ⟨⟨by unfold I64;decide,fun y hy => ?_,⟨r 4,r 5,r 6⟩,⟨by unfold I64;decide,⟨by unfold I64;decide,e,e,?_,by unfold I64;decide,by unfold I64;decide,by unfold I64;decide⟩⟩⟩,⟨by decide,by decide,by decide,by decide,by decide⟩⟩
 ·rw[List.mem_singleton.1 hy];exact e
 ·exact ⟨by decide,by decide⟩
theorem n2i:StaW S24:=⟨by decide,fun x hx=>by
 rcases q2m.1 hx with rfl | hx
 ·exact x24_w
 rcases q2m.1 hx with rfl | hx
 ·exact ⟨b2o,b2p⟩
 rw[List.mem_singleton.1 hx];exact ⟨b2o,b2p⟩⟩
theorem o1j:StaOk S24:=by
 have h:=lvl24_3 0;rw[s1q 0 n2i] at h;by_cases k:StaOk S24
 ·exact k
 ·rw[q0n k] at h;cases h
theorem x24_ne:x24≠ser0:=fun h=>by have:=congrArg Prod.fst h;cases this
theorem h2c:SerOk x0o x24:=(r0c (o1j.right 0 x24 rfl)).resolve_left x24_ne
theorem plc24:plc x0o=8:=by decide
theorem j2t:∃R,d0p x0o x24=c0h x24::R:=⟨_,by unfold d0p;rw[q0n x24_ne]⟩
theorem all24:∃R,allB S24=i0g S24::c0h x24::R:=by
 obtain ⟨R,h⟩:=j2t;refine ⟨R++[ser0,ser0].flatMap (d0p x0o),?_⟩;show i0g S24::(x24::[ser0,ser0]).flatMap (d0p x0o)=_;rw[q3l,h,q3z]
theorem diff24 (n:Nat)(a b:List UInt8)(R:List (List UInt8))(hb:b≠[120]):i0a (n+1) (a::b::R) [a,[120]] 7=some [(8,[120])]:=by
 obtain ⟨f,hf⟩:∃f,a0b=f+1+1+1:=⟨a0b-3,by unfold a0b;omega⟩;have e0:wrap .i64 ((0:Int)+1)=1:=by decide
 have e1:wrap .i64 ((1:Int)+1)=2:=by decide
 have e2:wrap .i64 ((7:Int)+1)=8:=by decide
 have a0:at? [a,[120]] (0:Int)=some a:=rfl;have a1:at? [a,[120]] (1:Int)=some [120]:=rfl;have b0:at? (a::b::R) (0:Int)=some a:=rfl;have b1:at? (a::b::R) (1:Int)=some b:=rfl;rw[c1m,hf,g0m,tfd,q0z (by simp),a0,obs,tfd,q0n (by simp;omega),b0,obs,beq_self_eq_true,q2u,tff,e0,
  g0m,tfd,q0z (by simp),a1,obs,tfd,q0n (by simp;omega),b1,obs,beq_eq_false_iff_ne.2 hb,q3e,tft,tfd,q0z (by simp),e1,e2,
  g0m,tfd,q0n (by simp),obs,a0m]
 rfl
theorem y0f (n:Nat):g0k (n+40)=some true:=by
 obtain ⟨R,hR⟩:=all24;obtain ⟨Q,hQ⟩:=j2t;obtain ⟨h1,h2,h3⟩:=w0f o1j;have hc:OkC x0o:=o1j.whole.1;have hlen:(allB S24).length=25:=by rw[h2];show 1+3*(plc x0o).toNat=25;rw[plc24];rfl
 have hpl:(d0p x0o x24).length=8:=by rw[(t0a hc.rng (.inr h2c)).2,plc24];rfl
 have hfb:(c0h x24).length=512:=x0g (y0w h2c.lab);have hne:c0h x24≠[120]:=fun h=>by rw[h] at hfb;cases hfb
 have hev:=g0p (3,(258,(0,true)));have e7:at? (d0g (3,(258,(0,true)))) 7=some 3:=by decide +kernel
 have e14:at? (d0g (3,(258,(0,true)))) 14=some 1:=by decide +kernel
 have e15:at? (d0g (3,(258,(0,true)))) 15=some 2:=by decide +kernel
 have e24:at? (d0g (3,(258,(0,true)))) 24=some 1:=by decide +kernel
 have t7:List.drop 0 (List.take 7 (c0h x24))=[0,4,1,1,97,0,0]:=by decide +kernel
 have a0:at? S24.2.2.2 (0:Int)=some x24:=rfl;rw[l1n,lvl24_0,obs,lvl24_1,obs,q2a rfl,q2u,tff,lvl24_2,obs,q2a rfl,q2u,tff,q2a (show ((S24.2.2.2.length:Nat):Int)=3 from rfl),q2u,tff];dsimp only;rw[b2a (n+23) n2i,q0z o1j,obs,s1o (n+24) n2i,q0z o1j,obs];dsimp only;rw[q0r (n+22) n2i o1j (by rw[hlen];omega),obs,a0,obs,show S24.1=x0o from rfl,u1w (n+27) hc x24_w.1 x24_w.2,q0z (.inr h2c),obs,lvl24_4,obs,w1f (n+33),obs];dsimp only
 have p0:at? (d0p x0o x24) (0:Int)=some (c0h x24):=by rw[hQ];rfl
 have p0':(d0p x0o x24)[0]? = some (c0h x24):=by rw[hQ];rfl
 have q0:at? (allB S24) (0:Int)=some (i0g S24):=by rw[hR];rfl
 have q0':(allB S24)[0]? = some (i0g S24):=by rw[hR];rfl
 have q1:at? (allB S24) (1:Int)=some (c0h x24):=by rw[hR];rfl
 have q1':(allB S24)[1]? = some (c0h x24):=by rw[hR];rfl
 have hd:i0a (n+39) (allB S24) [i0g S24,[120]] 7=some [(8,[120])]:=by rw[hR];exact diff24 (n+38) _ _ _ hne
 rw[q2a rfl,q2u,tff,hlen,hpl,hev];simp only[p0,p0',q0,q0',q1,q1',obs,hd,hfb,beq_self_eq_true,tft,tff,tfd];rw[stt_same (n+34) n2i,q2a rfl,obs];simp only[e7,e14,e15,e24,obs,tft,p1d (n+33),t7];have hsl:=d0s (0,(0,((0,(0,(0,false))),((0,(0,(0,false))),((0,0),(0,(0,0)))))));rw[hsl];rfl
theorem small24 (n:Nat)(c:Conf):∃b,j1t (n+1) c=some b/\(b=true->c.2.2.2.1<=8/\c.1<=64/\c.2.2.1.1<=40/\c.2.2.1.2.1<=40/\c.2.2.1.2.2<=40):=by
 rw[v1o];simp only[tfd];by_cases h1:c.2.2.2.1<=8
 case neg=>rw[q0n h1];exact ⟨_,rfl,by simp⟩
 by_cases h2:c.1<=64
 case neg=>rw[q0z h1,q0n h2];exact ⟨_,rfl,by simp⟩
 by_cases h3:c.2.2.1.1<=40
 case neg=>rw[q0z h1,q0z h2,q0n h3];exact ⟨_,rfl,by simp⟩
 by_cases h4:c.2.2.1.2.1<=40
 case neg=>rw[q0z h1,q0z h2,q0z h3,q0n h4];exact ⟨_,rfl,by simp⟩
 rw[q0z h1,q0z h2,q0z h3,q0z h4];exact ⟨_,rfl,fun k=>⟨h1,h2,h3,h4,of_decide_eq_true k⟩⟩
theorem p1w:∀(k n:Nat) (v:Int),k<=100->0<=v->v<=18446744073709551615->v.toNat<128^(k+1)->∃b,j0a (n+(k+1)) v=some b/\b.length<=k+1:=by
 intro k;induction k with
 | zero =>
  intro n v hk h0 h1 h2;have h2:v.toNat<128:=by simpa using h2
  rw[s0z,tfd,q0z (by omega)];exact ⟨_,rfl,by simp⟩
 | succ k ih =>
  intro n v hk h0 h1 h2;rw[show n+(k+1+1)=(n+(k+1))+1 by omega,s0z,tfd];by_cases h:v<128
  ·rw[q0z h];exact ⟨_,rfl,by simp⟩
  ·have hd:Int.tdiv v 128=((v.toNat / 128:Nat):Int):=by
    rw[Int.tdiv_eq_ediv_of_nonneg h0];omega
   have hp:v.toNat / 128<128^(k+1):=by
    rw[Nat.div_lt_iff_lt_mul (by omega)];rw[Nat.pow_succ] at h2;exact h2
   rw[q0n h,hd,wu64 (by omega) (by omega)];obtain ⟨b,hb,hl⟩:=ih n ((v.toNat / 128:Nat):Int) (by omega) (by omega) (by omega) (by rw[q2i];exact hp);rw[hb,obs,tfd,q0z (by omega)];exact ⟨_,rfl,by simp;omega⟩
theorem f2d (n:Nat)(V:Int):∃b,j0a (n+10) (wrap .u64 V)=some b:=by
 have h:=IntKind.wrap_u64 V;have hp:(128:Nat)^10=1180591620717411303424:=by decide
 obtain ⟨b,hb,_⟩:=p1w 9 n (wrap .u64 V) (by omega) (by omega) (by omega) (by rw[hp];omega);exact ⟨b,hb⟩
def ROut (r:Rdr)(o:Option ((Rdr×Unit) ⊕ (Rdr×Int))):Prop:=o=some (.inl (([],false),()))\/∃v k,o=some (.inr ((r.1.drop k,false),v))
theorem i2n (r:Rdr):ROut r (some (.inl (([],false),()))) := .inl rfl
theorem i2m (r:Rdr)(v:Int)(k:Nat):ROut r (some (.inr ((r.1.drop k,false),v))) := .inr ⟨v,k,rfl⟩
theorem z1g (n:Nat)(r:Rdr):∀(d f:Nat) (v i:Int),0<=i->i+d=10->ROut r (f0b (n+10) (f+d+1) (r,([],false),v,i,())):=by
 intro d;induction d with
 | zero =>
  intro f v i h0 hi;rw[d0v,tfd];by_cases hl:i<((r.1.length:Nat):Int)
  ·rw[q0z hl,tfd,q0n (by omega)];exact .inl rfl
  ·rw[q0n hl];exact .inl rfl
 | succ d ih =>
  intro f v i h0 hi;rw[show f+(d+1)+1=(f+d+1)+1 by omega,d0v,tfd];by_cases hl:i<((r.1.length:Nat):Int)
  case neg=>rw[q0n hl];exact .inl rfl
  have hk:i.toNat<r.1.length:=by omega
  have hat:at? r.1 i=some r.1[i.toNat]:=by
   have:=r0x (l:=r.1) (i:=i.toNat) (x:=r.1[i.toNat]) (q2b hk)
   rwa [show ((i.toNat:Nat):Int)=i by omega] at this
  have c1:(0:Int)<=i+1:=by omega
  have c2:(i+1).toNat<=r.1.length:=by omega
  have c3:¬(7*i<0):=by omega
  have c4:(decide ((0:Int)<=i+1)&&decide (i+1<=((r.1.length:Nat):Int)))=true:=by rw[q1n,q2c,q2c];omega
  rw[q0z hl,tfd,q0z (by omega),hat,obs];generalize wrap .u64 (((r.1[i.toNat]).toNat:Nat):Int)=c;simp only[w64 (x:=7*i) (by omega) (by omega),w64 (x:=i+1) (by omega) (by omega)];obtain ⟨b,hb⟩:=f2d n (v+shlI .u64 (Int.tmod c 128) (7*i));simp only[hb,obs,c4,tft];simp only[tfd,tfn,q0z c1,q0z c2,q0n c3,List.take_length];have hrec:=fun v=>ih f v (i+1) c1 (by omega)
  have hbb:∀(q:Bool) (A B:Option ((Rdr×Unit) ⊕ (Rdr×Int))),ROut r A->ROut r B->ROut r (tif q A B):=fun q A B hA hB=>by cases q<;>assumption
  repeat' split
  all_goals first
   | (with_reducible exact hrec _)
   | (with_reducible exact i2n r)
   | (with_reducible exact i2m r _ _)
   | exact hbb _ _ _ (i2m r _ _) (i2n r)
   | exact hbb _ _ _ (i2n r) (i2m r _ _)
theorem l0x (n:Nat)(r:Rdr):∃v t,e0m (n+11) r=some (t,v)/\t.1.length<=r.1.length:=by
 rw[k0g];obtain ⟨l,b⟩:=r;cases b with
 | true=>exact ⟨_,_,rfl,q2e _⟩
 | false =>
  have h:=z1g n (l,false) 10 (a0b-11) 0 0 (by omega) (by omega);rw[show a0b-11+10+1=a0b by unfold a0b;omega] at h;rw[tff];rcases h with h | ⟨v,k,h⟩
  ·rw[h,obs,a0m];exact ⟨_,_,rfl,by simp⟩
  ·rw[h,obs,j0z];exact ⟨_,_,rfl,by simp⟩
theorem l1k (n:Nat){v:Nat}(h:v<128):j0a (n+1) (v:Int)=some [UInt8.ofNat v]:=by
 have:=n1o 0 n (v:Int) (by omega) (by omega) (by simpa using h);rw[q2i,i0p h] at this;exact this
theorem u1o (n:Nat){v:Nat}(h:v<128)(t:List UInt8):e0m (n+2) (UInt8.ofNat v::t,false)=some ((t,false),(v:Int)):=by
 obtain ⟨f,hf⟩:∃f,a0b=f+1:=⟨a0b-1,by unfold a0b;omega⟩;have hv:(UInt8.ofNat v).toNat=v:=by simp;omega
 have e1:wrap .u64 ((v:Nat):Int)=(v:Int):=wu64 (by omega) (by omega);have e2:Int.tmod (v:Int) 128=(v:Int):=by rw[q3o (by omega)];omega
 have e3:shlI .u64 (v:Int) 0=(v:Int):=by
  have:=(d2l ⟨v,h⟩);unfold shlI;simp;omega
 rw[k0g,tff,hf,d0v,tfd,q0z (by simp),tfd,q0z (by omega),show at? (UInt8.ofNat v::t) (0:Int)=some (UInt8.ofNat v) from rfl,obs];simp only[hv,e1,e2];rw[tfd,q0n (by omega)];rw[show wrap .i64 ((7:Int)*0)=0 by decide,show wrap .i64 ((0:Int)+1)=1 by decide,tfd,q0n (by omega),tfd,q0n (by omega),e3,Int.zero_add,e1,l1k n h,obs];rw[show (decide ((0:Int)<=1)&&decide ((1:Int)<=(((UInt8.ofNat v::t).length:Nat):Int)))=true by simp;omega,tft];simp
theorem u1p (n:Nat)(t:List UInt8):e0m (n+3) (128::1::t,false)=some ((t,false),128):=by
 obtain ⟨f,hf⟩:∃f,a0b=f+1+1:=⟨a0b-2,by unfold a0b;omega⟩;have e:uvB 128=[128,1]:=by rw[w0h (by omega),i0p (by omega)];rfl
 have hu:j0a (n+2) 128=some [128,1]:=by
  have:=j1d n (k:=128) (by omega)
  rwa [e] at this
 rw[k0g,tff,hf,d0v,tfd,q0z (by simp;omega),tfd,q0z (by omega),show at? ((128:UInt8)::1::t) (0:Int)=some (128:UInt8) from rfl,obs];rw[tfd,q0n (by omega),show wrap .i64 ((7:Int)*0)=0 by decide,show wrap .i64 ((0:Int)+1)=1 by decide,tfd,q0n (by omega),tfd,q0z (by decide)];rw[show wrap .u64 ((0:Int)+shlI .u64 (Int.tmod (wrap .u64 (((128:UInt8).toNat:Nat):Int)) 128) 0)=0 by decide +kernel]
 rw[d0v,tfd,q0z (by simp;omega),tfd,q0z (by omega),show at? ((128:UInt8)::1::t) (1:Int)=some (1:UInt8) from rfl,obs];rw[tfd,q0n (by omega),show wrap .i64 ((7:Int)*1)=7 by decide,show wrap .i64 ((1:Int)+1)=2 by decide,tfd,q0n (by omega),tfd,q0n (by decide)];rw[show wrap .u64 ((0:Int)+shlI .u64 (Int.tmod (wrap .u64 (((1:UInt8).toNat:Nat):Int)) 128) 7)=128 by decide +kernel,hu,obs];rw[show (decide ((0:Int)<=2)&&decide ((2:Int)<=((((128:UInt8)::1::t).length:Nat):Int)))=true by simp;omega,tft];simp
theorem b1o (n:Nat){v:Nat}(h:v<=128)(t:List UInt8):e0m (n+3) (uvB v++t,false)=some ((t,false),(v:Int)):=by
 rcases Nat.lt_or_ge v 128 with k | k
 ·rw[i0p k];exact u1o (n+1) k t
 ·obtain rfl:v=128:=by omega
  have e:uvB 128=[128,1]:=by rw[w0h (by omega),i0p (by omega)];rfl
  rw[e];exact u1p n t
theorem u1q (n:Nat)(s t:List UInt8){k:Int}(h:k=s.length):i0t (n+1) (s++t,false) k=some ((t,false),s):=by
 subst h;have e:(s.length:Int).toNat=s.length:=by omega
 rw[l0a,tff,tfd,q0n (by omega),tfd,q0n (by simp;omega),tfd,q0z (by omega),tfd,q0z (by simp)];rw[show (decide ((0:Int)<=(s.length:Int))&&decide ((s.length:Int)<=(((s++t).length:Nat):Int)))=true by rw[q1n,q2c,q2c];simp;omega,tft,List.take_length,e,List.drop_left];simp
theorem p1y (n:Nat)(r:Rdr)(k:Int):∃s t,i0t (n+1) r k=some (t,s)/\t.1.length<=r.1.length/\s.length<=r.1.length:=by
 obtain ⟨l,b⟩:=r;rw[l0a];cases b with
 | true=>exact ⟨_,_,rfl,by simp,by simp⟩
 | false =>
  rw[tff,tfd];by_cases h0:k<0
  ·rw[q0z h0];exact ⟨_,_,rfl,by simp,by simp⟩
  rw[q0n h0,tfd];by_cases h1:(((l,false):Rdr).1.length:Int)<k
  ·rw[q0z h1];exact ⟨_,_,rfl,by simp,by simp⟩
  dsimp only at h1 ⊢;rw[q0n h1,tfd,q0z (by omega),tfd,q0z (by omega),show (decide ((0:Int)<=k)&&decide (k<=((l.length:Nat):Int)))=true by rw[q1n,q2c,q2c];omega,tft];exact ⟨_,_,rfl,by simp,by simp;omega⟩
theorem y0e (n:Nat)(r:Rdr)(long:Int):∃s t,h0a (n+12) r long=some (t,s)/\t.1.length<=r.1.length/\s.length<=r.1.length:=by
 rw[p0p];obtain ⟨v,t,h,hl⟩:=l0x n r;rw[h,obs];simp only[tfd];obtain ⟨s,q,h1,h2,h3⟩:=p1y (n+10) t (wrap .i64 v);rw[h1,obs];cases t.2 with
 | true=>exact ⟨_,_,rfl,by simp,by simp⟩
 | false =>
  rw[tff];split
  ·exact ⟨_,_,rfl,by simp,by simp⟩
  split
  ·exact ⟨_,_,rfl,by simp,by simp⟩
  split
  ·exact ⟨_,_,rfl,by simp,by simp⟩
  ·exact ⟨_,_,rfl,by omega,by omega⟩
theorem b1p (n:Nat){s:List UInt8}{long:Int}(h:(s.length:Int)<=long)(hl:long<=128)(t:List UInt8)(ht:t.length<=1000000):h0a (n+4) (txB s++t,false) long=some ((t,false),s):=by
 rw[p0p];unfold txB;rw[q2g,b1o n (by omega),obs];dsimp only;have e:(((s++t).length:Nat):Int)=(s.length:Int)+(t.length:Int):=by simp
 rw[tff,e,wu64 (x:=(s.length:Int)+(t.length:Int)) (by omega) (by omega),tfd,q0n (by omega),tfd,q0n (by omega),wu64 (x:=long) (by omega) (by omega),tfd,q0n (by omega),w64 (by omega) (by omega),u1q (n+2) s t rfl];rfl
theorem j1b (n:Nat):∀(d f:Nat) (r:Rdr) (out:List Lab) (v i:Int),0<=i->v-i<=d->out.length+d<=17->v<=16 ->
  ∃q l,v0k (n+12) (f+d+1) (r,v,out,i,())=some (.inl (q,(l,())))/\l.length<=17:=by
 intro d;induction d with
 | zero =>
  intro f r out v i h0 h1 h2 h3;rw[p0n,tfd,q0n (by omega)];exact ⟨_,_,rfl,by omega⟩
 | succ d ih =>
  intro f r out v i h0 h1 h2 h3;rw[show f+(d+1)+1=(f+d+1)+1 by omega,p0n,tfd];by_cases hv:i<v
  case neg=>rw[q0n hv];exact ⟨_,_,rfl,by omega⟩
  obtain ⟨s1,t1,e1,_⟩:=y0e n r 64;obtain ⟨s2,t2,e2,_⟩:=y0e n t1 128;rw[q0z hv,e1,obs];dsimp only;rw[e2,obs,tfd,q0z (by omega),wu64 (by omega) (by omega)];dsimp only;exact ih f t2 _ v (i+1) (by omega) (by omega) (by simp;omega) h3
theorem f1l (n:Nat)(s:List UInt8):∃l e,u1l (n+13) s=some (l,e)/\l.length<=17:=by
 rw[u1k];obtain ⟨v,t,h1,_⟩:=l0x (n+1) (s,false);rw[h1,obs];dsimp only;cases t.2 with
 | true=>exact ⟨_,_,rfl,by simp⟩
 | false =>
  rw[tff,tfd];by_cases hv:16<v
  ·rw[q0z hv];exact ⟨_,_,rfl,by simp⟩
  rw[q0n hv];obtain ⟨q,l,h3,h4⟩:=j1b n 16 (a0b-17) t [] v 0 (by omega) (by omega) (by simp) (by omega);rw[show a0b-17+16+1=a0b by unfold a0b;omega] at h3;rw[h3,obs,a0m];dsimp only;cases q.2 with
  | true=>exact ⟨_,_,rfl,by simp⟩
  | false =>
   rw[tff];cases (!(q.1==[])) with
   | true=>exact ⟨_,_,rfl,by simp⟩
   | false =>
    rw[tff,b1n (n+10) l,obs,tfn,tfd];split
    ·exact ⟨_,_,rfl,h4⟩
    ·exact ⟨_,_,rfl,by simp⟩
theorem u1j (n:Nat){l:List Lab}(hl:∀x∈l,x.1.length<=64/\x.2.length<=128)(hn:l.length<=16):∀(rest pre:List Lab) (f:Nat) (i:Int),l=pre++rest->i=pre.length ->
  v0k (n+4) (f+rest.length+1) ((rest.flatMap x0n,false),(l.length:Int),pre,i,())=some (.inl (([],false),(l,()))):=by
 intro rest;induction rest with
 | nil =>
  intro pre f i h hi;rw[p0n,tfd,q0n (idxe h hi rfl)];rw[h,q2x];rfl
 | cons a rest ih =>
  intro pre f i h hi;have hlen:=congrArg List.length h;simp at hlen;obtain ⟨a1,a2⟩:=hl a (by rw[h];simp);have hr:∀r:List Lab,(∀x∈r,x.1.length<=64/\x.2.length<=128)->(r.flatMap x0n).length<=200*r.length:=by
   intro r;induction r with
   | nil=>intro _;simp
   | cons y r ihr =>
    intro hy;obtain ⟨b1,b2⟩:=hy y List.mem_cons_self;have:=ihr fun x hx=>hy x (q2j _ hx)
    have e1:=q0e (n:=y.1.length) (by omega);have e2:=y0k (n:=y.2.length) (by omega);rw[q3l,q2d,q2k];have e3:(x0n y).length<=200:=by unfold x0n txB;simp only[q2d];omega
    omega
  have hq:=hr rest fun x hx=>hl x (by rw[h];simp[hx])
  have t2:(txB a.2).length<=1000:=by
   have:=y0k (n:=a.2.length) (by omega);unfold txB;rw[q2d];omega
  have e:(a::rest).flatMap x0n=txB a.1++(txB a.2++rest.flatMap x0n):=by rw[q3l,x0n,q2g]
  rw[show f+(a::rest).length+1=(f+rest.length+1)+1 by simp;omega,p0n,tfd,q0z (idx h hi rfl),e,b1p n (by omega) (by omega) _ (by rw[q2d];omega),obs];dsimp only;rw[b1p n (by omega) (by omega) _ (by omega),obs,tfd,q0z (by omega),wu64 (by omega) (by omega)];dsimp only;exact ih (pre++[(a.1,a.2)]) f (i+1) (by rw[h];simp) (idxs hi)
theorem z1b (n:Nat){l:List Lab}(h:LabOk l):u1l (n+6) (labB l)=some (l,0):=by
 have hn:=h.n1;have e:labB l=uvB l.length++l.flatMap x0n:=rfl;rw[u1k,e,b1o (n+2) (by omega),obs];dsimp only;have h3:=u1j (n+1) (c1u l none h.c) hn l [] (a0b-l.length-1) 0 rfl rfl;rw[<-lfu (by omega)] at h3;rw[tff,tfd,q0n (by omega),h3,obs,a0m];dsimp only;rw[tff,b1n (n+3) l,q0z h];rfl
theorem rd1 {l:List UInt8}{b:UInt8}(h:l[0]? = some b):rd (l,false) 1=((b.toNat:Int),(l.drop 1,false)):=by
 cases l with
 | nil=>cases h
 | cons a l =>
  have e:a=b:=Option.some.inj h;subst e;unfold rd;rw[q0n (by rintro (k | k);cases k;simp at k)];simp[valI,c0c]
theorem v2_at {l:List UInt8}{a b:UInt8}(h0:l[0]? = some a)(h1:l[1]? = some b):v2 l=(a.toNat:Int)*256+(b.toNat:Int):=by
 cases l with
 | nil=>cases h0
 | cons x l =>
  cases l with
  | nil=>cases h1
  | cons y l =>
   have e:x=a:=Option.some.inj h0;have e2:y=b:=Option.some.inj h1;subst e;subst e2;unfold v2;simp[valI,c0c]
theorem o1p {l:List UInt8}(h:8<=l.length):0<=v8 l/\v8 l<=18446744073709551615:=by
 have:=rd8_w (l,false);rw[rd8 h] at this;exact this
theorem wu_wi {x:Int}(h0:0<=x)(h1:x<=18446744073709551615):wrap .u64 (wrap .i64 x)=x:=by
 have h2:=IntKind.wrap_i64 x;have h3:=IntKind.wrap_u64 (wrap .i64 x);omega
def evX (l:List UInt8):Ev:=(wrap .i64 (v8 l),(v8 (l.drop 8),(wrap .i64 (v8 (l.drop 16)),decide (((((l.drop 24).headD 0).toNat:Nat):Int)=1))))
def slX (l:List UInt8):Slo:=(wrap .i64 (v8 l),(wrap .i64 (v8 (l.drop 8)),(evX (l.drop 16),(evX (l.drop 41),((v8 (l.drop 66),v8 (l.drop 74)),(wrap .i64 (v8 (l.drop 82)),(wrap .i64 (v8 (l.drop 90)),wrap .i64 (v8 (l.drop 98)))))))))
theorem hd_at {l:List UInt8}{p:Nat}(h:p<l.length):l[p]? = some ((l.drop p).headD 0):=by
 rw[q3a h,q2b h];rfl
theorem evR_x {l:List UInt8}(h:25<=l.length):evR (l,false)=(evX l,(l.drop 25,false)):=by
 have hb:(l.drop 24)[0]? = some ((l.drop 24).headD 0):=by
  have:=hd_at (l:=l.drop 24) (p:=0) (by simp;omega)
  rwa [List.drop_zero] at this
 unfold evR rdI evX;simp only[rd8 (l:=l) (by omega),rd8 (l:=l.drop 8) (by simp;omega),q3g,rd8 (l:=l.drop 16) (by simp;omega),rd1 hb]
theorem slR_x {l:List UInt8}(h:106<=l.length):(slR (l,false)).1=slX l:=by
 unfold slR rdI slX;simp only[rd8 (l:=l) (by omega),rd8 (l:=l.drop 8) (by simp;omega),q3g,evR_x (l:=l.drop 16) (by simp;omega),evR_x (l:=l.drop 41) (by simp;omega),rd8 (l:=l.drop 66) (by simp;omega),rd8 (l:=l.drop 74) (by simp;omega),rd8 (l:=l.drop 82) (by simp;omega),rd8 (l:=l.drop 90) (by simp;omega),rd8 (l:=l.drop 98) (by simp;omega)]
theorem q0d {l:List UInt8}{k m:Nat}(h:k+8<=m):v8 ((l.take m).drop k)=v8 (l.drop k):=by
 unfold v8;rw[List.drop_take,List.take_take,q3i (by omega)]
theorem c2z {l:List UInt8}{k m:Nat}(h:k+25<=m):evX ((l.take m).drop k)=evX (l.drop k):=by
 unfold evX;have e:((l.take m).drop (k+24)).headD 0=(l.drop (k+24)).headD 0:=by
  rw[List.drop_take];cases hd:l.drop (k+24) with
  | nil=>simp
  | cons a r=>rw[show m-(k+24)=(m-(k+24)-1)+1 by omega,List.take_succ_cons];rfl
 simp only[q3g,q0d (l:=l) (k:=k) (m:=m) (by omega),q0d (l:=l) (k:=k+8) (m:=m) (by omega),q0d (l:=l) (k:=k+16) (m:=m) (by omega),e]
theorem slX_take (l:List UInt8){m:Nat}(h:106<=m):slX (l.take m)=slX l:=by
 have e0:=q0d (l:=l) (k:=0) (m:=m) (by omega);rw[List.drop_zero,List.drop_zero] at e0;unfold slX;simp only[e0,q0d (l:=l) (k:=8) (m:=m) (by omega),c2z (l:=l) (k:=16) (m:=m) (by omega),c2z (l:=l) (k:=41) (m:=m) (by omega),q0d (l:=l) (k:=66) (m:=m) (by omega),q0d (l:=l) (k:=74) (m:=m) (by omega),q0d (l:=l) (k:=82) (m:=m) (by omega),q0d (l:=l) (k:=90) (m:=m) (by omega),q0d (l:=l) (k:=98) (m:=m) (by omega)]
theorem b0p (n:Nat)(s:List UInt8){p:Nat}(h:p+8<=s.length):c0y (n+3) s (p:Int)=some (wrap .i64 (v8 (s.drop p))):=by
 rw[p1o,tfd,q0z (by omega),tfd,q2i,q0z (by omega),List.take_length,c0i n _ 8 8 rfl (by omega) (by omega),obs,rd8 (by simp;omega)]
theorem s0t (n:Nat)(s:List UInt8){p:Nat}(h:p+25<=s.length)(hp:p<=2000000000000):u0v (n+4) s (p:Int)=some (evX (s.drop p)):=by
 have hr:=o1p (l:=s.drop (p+8)) (by simp;omega);rw[t1j,b0p n s (by omega),obs,w64 (x:=(p:Int)+8) (by omega) (by omega),show (p:Int)+8=((p+8:Nat):Int) by omega,b0p n s (by omega),obs,w64 (x:=(p:Int)+16) (by omega) (by omega),show (p:Int)+16=((p+16:Nat):Int) by omega,b0p n s (by omega),obs,w64 (x:=(p:Int)+24) (by omega) (by omega),show (p:Int)+24=((p+24:Nat):Int) by omega,r0x (hd_at (l:=s) (p:=p+24) (by omega)),obs,wu_wi hr.1 hr.2];unfold evX;simp only[q3g]
theorem p0h (n:Nat)(s:List UInt8){p:Nat}(h:p+106<=s.length)(hp:p<=1000000000000):w0s (n+5) s (p:Int)=some (slX (s.drop p)):=by
 have hr:=o1p (l:=s.drop (p+66)) (by simp;omega);have hr2:=o1p (l:=s.drop (p+74)) (by simp;omega);have e:∀k:Nat,k<=200->wrap .i64 ((p:Int)+(k:Int))=((p+k:Nat):Int):=fun k hk=>by rw[w64 (by omega) (by omega)];omega
 have e8:=e 8 (by omega);have e16:=e 16 (by omega);have e41:=e 41 (by omega);have e66:=e 66 (by omega);have e74:=e 74 (by omega);have e82:=e 82 (by omega);have e90:=e 90 (by omega);have e98:=e 98 (by omega);simp only[show ((8:Nat):Int)=8 from rfl,show ((16:Nat):Int)=16 from rfl,show ((41:Nat):Int)=41 from rfl,show ((66:Nat):Int)=66 from rfl,show ((74:Nat):Int)=74 from rfl,show ((82:Nat):Int)=82 from rfl,show ((90:Nat):Int)=90 from rfl,show ((98:Nat):Int)=98 from rfl] at e8 e16 e41 e66 e74 e82 e90 e98
 rw[y1g,e8,e16,e41,e66,e74,e82,e90,e98,b0p (n+1) s (p:=p+8) (by omega),obs,s0t n s (p:=p+16) (by omega) (by omega),obs,s0t n s (p:=p+41) (by omega) (by omega),obs,b0p (n+1) s (p:=p+66) (by omega),obs,b0p (n+1) s (p:=p+74) (by omega),obs,b0p (n+1) s (p:=p+82) (by omega),obs,b0p (n+1) s (p:=p+90) (by omega),obs,b0p (n+1) s (p:=p+98) (by omega),obs,b0p (n+1) s (p:=p) (by omega),obs,wu_wi hr.1 hr.2,wu_wi hr2.1 hr2.2];unfold slX;simp only[q3g]
def evQ (all:List UInt8)(lost room i:Nat):Ev:=evX (all.drop (32*((lost+i) % room)))
def slQ (all:List UInt8)(i:Nat):Slo:=slX (all.drop (128*i))
def e2t (c:Conf)(lost mark many:Int)(all:List UInt8):Rw :=
 if 0<=lost/\lost<=1152921504606846976/\many<=c.1 then (lost,(mark,(List.range many.toNat).map (evQ all lost.toNat c.1.toNat))) else (lost,(mark,[]))
def u0n (N:Int)(left:List (List UInt8)):List Slo:=(List.range N.toNat).map (slQ (l0c N.toNat 4 left))
def serQ (c:Conf)(ls:List Lab)(h:List UInt8)(t:List (List UInt8)):Ser :=
 (ls,(wrap .i64 (v8 (h.drop 322)),(e2t c (wrap .i64 (v8 (h.drop 330))) (wrap .i64 (v8 (h.drop 338))) (v2 (h.drop 346)) (l0c c.1.toNat 16 t),
  ((u0n c.2.2.1.1 (t.drop (nsec c.1.toNat 16)),(u0n c.2.2.1.2.1 ((t.drop (nsec c.1.toNat 16)).drop (nsec c.2.2.1.1.toNat 4)),u0n c.2.2.1.2.2 (((t.drop (nsec c.1.toNat 16)).drop (nsec c.2.2.1.1.toNat 4)).drop (nsec c.2.2.1.2.1.toNat 4)))),
   slX (h.drop 348)))))
theorem evAt_q {all:List UInt8}{room:Nat}(hr:1<=room)(hall:32*room<=all.length)(lost i:Nat):evAt all lost room i=evQ all lost room i:=by
 unfold evAt evQ;have hq:(lost+i) % room<room:=Nat.mod_lt _ hr;rw[Nat.mod_add_mod,evR_x (by rw[q2l];omega)]
theorem slAt_q {all:List UInt8}{i N:Nat}(hi:i<N)(hall:128*N<=all.length):slAt all i=slQ all i:=by
 unfold slAt slQ;rw[slR_x (by rw[q2l];omega)]
theorem r0i (n:Nat){k:Int}{m:Nat}(h0:0<=k)(h1:k<=4096)(hm:1<=m)(hm':m<=1000):c0x (n+1) k (m:Int)=some ((nsec k.toNat m:Nat):Int):=by
 rw[t1i,tfd,q0n (by omega),w64 (x:=k+(m:Int)) (by omega) (by omega),w64 (x:=k+(m:Int)-1) (by omega) (by omega),Int.tdiv_eq_ediv_of_nonneg (by omega)];have hq:(k+(m:Int)-1) / (m:Int)=((nsec k.toNat m:Nat):Int):=by
  unfold nsec;rw[show k+(m:Int)-1=((k.toNat+m-1:Nat):Int) by omega,<-Int.natCast_ediv]
 have hb:nsec k.toNat m<=1000000:=by
  unfold nsec;exact q3t (Nat.div_le_self _ _) (by omega)
 rw[hq,w64 (by omega) (by omega)]
theorem j2s (n:Nat)(l:List (List UInt8))(c:Conf)(s4 x:Ser)(many:Int){S:List (List UInt8)}(hS:Secs S)(hL:S.length<=100000):∀(rest pre:List (List UInt8)) (f:Nat) (raw:List UInt8) (i len:Int),S=pre++rest->i=pre.length->len=S.length->rest.length<f->raw.length=512*pre.length ->
  k0b n f (l,c,s4,x,many,raw,S,len,i,())=some (.inl (l,(c,(s4,(x,(many,(raw++rest.flatten,()))))))):=by
 intro rest;induction rest with
 | nil =>
  intro pre f raw i len h hi hn hf hr;obtain ⟨f,rfl⟩:=FSu hf;rw[t0z,q1z (idxe h hi hn),tff];simp
 | cons a rest ih =>
  intro pre f raw i len h hi hn hf hr;obtain ⟨f,rfl⟩:=FSu hf;have hlen:=congrArg List.length h;simp only[q2d,q2k] at hlen;have ha:a.length=512:=hS a (by rw[h];simp);rw[t0z,q2a (idx h hi hn),tft,b0o h hi,obs,tfd,q0z (by omega),idxw h hi (by omega)];have:=ih (pre++[a]) f (raw++a) (i+1) len (idxl h) (idxs hi) hn (by simp at hf;omega) (by simp;omega);rw[this,List.flatten_cons,q2g]
theorem j1f (n:Nat)(l:List (List UInt8))(c:Conf)(s4 x:Ser)(at_ k:Int){S:List (List UInt8)}(hS:Secs S)(hL:S.length<=100000):∀(rest pre:List (List UInt8)) (f:Nat) (raw:List UInt8) (i len:Int),S=pre++rest->i=pre.length->len=S.length->rest.length<f->raw.length=512*pre.length ->
  h0w n f (l,c,s4,x,at_,k,raw,S,len,i,())=some (.inl (l,(c,(s4,(x,(at_,(k,(raw++rest.flatten,())))))))):=by
 intro rest;induction rest with
 | nil =>
  intro pre f raw i len h hi hn hf hr;obtain ⟨f,rfl⟩:=FSu hf;rw[t0x,q1z (idxe h hi hn),tff];simp
 | cons a rest ih =>
  intro pre f raw i len h hi hn hf hr;obtain ⟨f,rfl⟩:=FSu hf;have hlen:=congrArg List.length h;simp only[q2d,q2k] at hlen;have ha:a.length=512:=hS a (by rw[h];simp);rw[t0x,q2a (idx h hi hn),tft,b0o h hi,obs,tfd,q0z (by omega),idxw h hi (by omega)];have:=ih (pre++[a]) f (raw++a) (i+1) len (idxl h) (idxs hi) hn (by simp at hf;omega) (by simp;omega);rw[this,List.flatten_cons,q2g]
theorem j2r (n:Nat)(l:List (List UInt8))(c:Conf)(s4:Ser)(a:List Lab)(b:Int)(lost room many:Nat)(mark:Int)(w:Trs×Slo)(raw:List UInt8)(hroom:c.1=(room:Int))(hr:1<=room)(hr':room<=4096)(hm:many<=room)(hlost:lost<=1152921504606846976)(hall:32*room<=raw.length):∀(d f:Nat) (L:List Ev) (k:Nat),k+d=many->L.length=k->d<f ->
  m0x (n+4) f (l,c,s4,(a,(b,(((lost:Int),(mark,L)),w))),(many:Int),raw,(k:Int),())=some (.inl (l,(c,(s4,((a,(b,(((lost:Int),(mark,L++(List.range' k d).map (evQ raw lost room))),w))),()))))):=by
 intro d;induction d with
 | zero =>
  intro f L k hk hL hf;obtain ⟨f,rfl⟩:∃g,f=g+1:=⟨f-1,by omega⟩;rw[t0y,tfd,q0n (by omega)];simp
 | succ d ih =>
  intro f L k hk hL hf;obtain ⟨f,rfl⟩:∃g,f=g+1:=⟨f-1,by omega⟩;have hq:(lost+k) % room<room:=Nat.mod_lt _ hr;have e2:wrap .i64 ((lost:Int)+(k:Int))=((lost+k:Nat):Int):=by rw[w64 (by omega) (by omega)];omega
  have e3:Int.tmod ((lost+k:Nat):Int) (room:Int)=(((lost+k) % room:Nat):Int):=by rw[q3o (by omega),Int.natCast_emod]
  have e4:wrap .i64 ((32:Int)*(((lost+k) % room:Nat):Int))=((32*((lost+k) % room):Nat):Int):=by rw[w64 (by omega) (by omega)];omega
  have e5:wrap .i64 ((k:Int)+1)=((k+1:Nat):Int):=by rw[w64 (by omega) (by omega)];omega
  rw[t0y,tfd,q0z (by omega),hroom,tfd,q0n (by omega)];dsimp only;rw[e2,e3,e4,e5,s0t n raw (by omega) (by omega),obs,tfd,q0z (by omega)];rw[ih f _ (k+1) (by omega) (by simp[hL]) (by omega),List.range'_succ,q3m,q2g];rfl
theorem z1o (n:Nat)(l:List (List UInt8))(c:Conf)(s4:Ser)(a:List Lab)(b:Int)(r:Rw)(T1 T2:List Slo)(o:Slo)(at_:Int)(t:List UInt8)(N:Nat)(hN:c.2.2.1.1=(N:Int))(hN':N<=4096)(hall:128*N<=t.length):∀(d f:Nat) (L:List Slo) (i:Nat),i+d=N->L.length=i->d<f ->
  c0s (n+5) f (l,c,s4,(a,(b,(r,((L,(T1,T2)),o)))),at_,(0:Int),t,(i:Int),())=some (.inl (l,(c,(s4,((a,(b,(r,((L++(List.range' i d).map (slQ t),(T1,T2)),o)))),(at_,((0:Int),()))))))):=by
 intro d;induction d with
 | zero =>
  intro f L i hk hL hf;obtain ⟨f,rfl⟩:∃g,f=g+1:=⟨f-1,by omega⟩;rw[p0k,tfd,q0n (by omega)];simp
 | succ d ih =>
  intro f L i hk hL hf;obtain ⟨f,rfl⟩:∃g,f=g+1:=⟨f-1,by omega⟩;have e4:wrap .i64 ((128:Int)*(i:Int))=((128*i:Nat):Int):=by rw[w64 (by omega) (by omega)];omega
  have e5:wrap .i64 ((i:Int)+1)=((i+1:Nat):Int):=by rw[w64 (by omega) (by omega)];omega
  rw[p0k,tfd,q0z (by omega),e4,e5,p0h n t (by omega) (by omega),obs];dsimp only;rw[tfd,q0z (by omega)];rw[ih f _ (i+1) (by omega) (by simp[hL]) (by omega),List.range'_succ,q3m,q2g];rfl
theorem z1m (n:Nat)(l:List (List UInt8))(c:Conf)(s4:Ser)(a:List Lab)(b:Int)(r:Rw)(T0 T2:List Slo)(o:Slo)(at_:Int)(t:List UInt8)(N:Nat)(hN:c.2.2.1.2.1=(N:Int))(hN':N<=4096)(hall:128*N<=t.length):∀(d f:Nat) (L:List Slo) (i:Nat),i+d=N->L.length=i->d<f ->
  c0s (n+5) f (l,c,s4,(a,(b,(r,((T0,(L,T2)),o)))),at_,(1:Int),t,(i:Int),())=some (.inl (l,(c,(s4,((a,(b,(r,((T0,(L++(List.range' i d).map (slQ t),T2)),o)))),(at_,((1:Int),()))))))):=by
 intro d;induction d with
 | zero =>
  intro f L i hk hL hf;obtain ⟨f,rfl⟩:∃g,f=g+1:=⟨f-1,by omega⟩;rw[p0j,tfd,q0n (by omega)];simp
 | succ d ih =>
  intro f L i hk hL hf;obtain ⟨f,rfl⟩:∃g,f=g+1:=⟨f-1,by omega⟩;have e4:wrap .i64 ((128:Int)*(i:Int))=((128*i:Nat):Int):=by rw[w64 (by omega) (by omega)];omega
  have e5:wrap .i64 ((i:Int)+1)=((i+1:Nat):Int):=by rw[w64 (by omega) (by omega)];omega
  rw[p0j,tfd,q0z (by omega),e4,e5,p0h n t (by omega) (by omega),obs];dsimp only;rw[tfd,q0z (by omega)];rw[ih f _ (i+1) (by omega) (by simp[hL]) (by omega),List.range'_succ,q3m,q2g];rfl
theorem z1l (n:Nat)(l:List (List UInt8))(c:Conf)(s4:Ser)(a:List Lab)(b:Int)(r:Rw)(T0 T1:List Slo)(o:Slo)(at_:Int)(t:List UInt8)(N:Nat)(hN:c.2.2.1.2.2=(N:Int))(hN':N<=4096)(hall:128*N<=t.length):∀(d f:Nat) (L:List Slo) (i:Nat),i+d=N->L.length=i->d<f ->
  c0s (n+5) f (l,c,s4,(a,(b,(r,((T0,(T1,L)),o)))),at_,(2:Int),t,(i:Int),())=some (.inl (l,(c,(s4,((a,(b,(r,((T0,(T1,L++(List.range' i d).map (slQ t))),o)))),(at_,((2:Int),()))))))):=by
 intro d;induction d with
 | zero =>
  intro f L i hk hL hf;obtain ⟨f,rfl⟩:∃g,f=g+1:=⟨f-1,by omega⟩;rw[p0i,tfd,q0n (by omega)];simp
 | succ d ih =>
  intro f L i hk hL hf;obtain ⟨f,rfl⟩:∃g,f=g+1:=⟨f-1,by omega⟩;have e4:wrap .i64 ((128:Int)*(i:Int))=((128*i:Nat):Int):=by rw[w64 (by omega) (by omega)];omega
  have e5:wrap .i64 ((i:Int)+1)=((i+1:Nat):Int):=by rw[w64 (by omega) (by omega)];omega
  rw[p0i,tfd,q0z (by omega),e4,e5,p0h n t (by omega) (by omega),obs];dsimp only;rw[tfd,q0z (by omega)];rw[ih f _ (i+1) (by omega) (by simp[hL]) (by omega),List.range'_succ,q3m,q2g];rfl
theorem z1r (n f:Nat){l:List (List UInt8)}(hl:Secs l)(hL:l.length<=100000)(c:Conf)(s4:Ser)(a:List Lab)(b:Int)(r:Rw)(T1 T2:List Slo)(o:Slo)(p:Nat)(h0:1<=c.2.2.1.1)(h1:c.2.2.1.1<=4096)(hp:p+nsec c.2.2.1.1.toNat 4<=l.length) :
  b0a (n+6) (f+1) (l,c,s4,(a,(b,(r,(([],(T1,T2)),o)))),(p:Int),(0:Int),())=b0a (n+6) f (l,c,s4,(a,(b,(r,((u0n c.2.2.1.1 (l.drop p),(T1,T2)),o)))),((p+nsec c.2.2.1.1.toNat 4:Nat):Int),(1:Int),()):=by
 have hS:List.drop p (List.take (p+nsec c.2.2.1.1.toNat 4) l)=(l.drop p).take (nsec c.2.2.1.1.toNat 4):=by rw[List.drop_take,show p+nsec c.2.2.1.1.toNat 4-p=nsec c.2.2.1.1.toNat 4 by omega]
 have hSl:((l.drop p).take (nsec c.2.2.1.1.toNat 4)).length=nsec c.2.2.1.1.toNat 4:=by rw[q2z,q2l];omega
 have hSS:Secs ((l.drop p).take (nsec c.2.2.1.1.toNat 4)):=(hl.drop p).take _;have hpar:=r0i (n+5) (k:=c.2.2.1.1) (m:=4) (by omega) h1 (by omega) (by omega);rw[show ((4:Nat):Int)=4 from rfl] at hpar;have hfl:((l.drop p).take (nsec c.2.2.1.1.toNat 4)).flatten=l0c c.2.2.1.1.toNat 4 (l.drop p):=rfl;have hjl:=l0z (k:=c.2.2.1.1.toNat) (m:=4) (hl.drop p) (by rw[q2l];omega);have hnm:=p0r c.2.2.1.1.toNat (m:=4) (by omega)
 have h28:=j1f (n+6) l c s4 (a,(b,(r,(([],(T1,T2)),o)))) (p:Int) (0:Int) hSS (by omega) ((l.drop p).take (nsec c.2.2.1.1.toNat 4)) [] a0b [] 0 _ rfl rfl rfl (by unfold a0b;omega) rfl;rw[q2r,hfl] at h28;have h33:=z1o (n+1) l c s4 a b r T1 T2 o (p:Int) (l0c c.2.2.1.1.toNat 4 (l.drop p)) c.2.2.1.1.toNat (by omega) (by omega) (by omega) c.2.2.1.1.toNat a0b [] 0 (by omega) rfl (by unfold a0b;omega);simp only[show ((0:Nat):Int)=0 from rfl] at h33
 rw[a1u,hpar,obs,tfd,q0z (by omega),w64 (by omega) (by omega),show (p:Int)+((nsec c.2.2.1.1.toNat 4:Nat):Int)=((p+nsec c.2.2.1.1.toNat 4:Nat):Int) by omega,q2i,q2i,
  show (decide ((p:Int)<=((p+nsec c.2.2.1.1.toNat 4:Nat):Int))&&decide (((p+nsec c.2.2.1.1.toNat 4:Nat):Int)<=((l.length:Nat):Int)))=true by rw[q1n,q2c,q2c];omega,tft,hS,h28,obs,a0m]
 dsimp only;rw[h33,obs,a0m];dsimp only;rw[tfd,q0z (by decide),hpar,obs,w64 (x:=(p:Int)+((nsec c.2.2.1.1.toNat 4:Nat):Int)) (by omega) (by omega),show (p:Int)+((nsec c.2.2.1.1.toNat 4:Nat):Int)=((p+nsec c.2.2.1.1.toNat 4:Nat):Int) by omega,q2r,<-List.range_eq_range'];rfl
theorem z1q (n f:Nat){l:List (List UInt8)}(hl:Secs l)(hL:l.length<=100000)(c:Conf)(s4:Ser)(a:List Lab)(b:Int)(r:Rw)(T0 T2:List Slo)(o:Slo)(p:Nat)(h0:1<=c.2.2.1.2.1)(h1:c.2.2.1.2.1<=4096)(hp:p+nsec c.2.2.1.2.1.toNat 4<=l.length) :
  b0a (n+6) (f+1) (l,c,s4,(a,(b,(r,((T0,([],T2)),o)))),(p:Int),(1:Int),())=b0a (n+6) f (l,c,s4,(a,(b,(r,((T0,(u0n c.2.2.1.2.1 (l.drop p),T2)),o)))),((p+nsec c.2.2.1.2.1.toNat 4:Nat):Int),(2:Int),()):=by
 have hS:List.drop p (List.take (p+nsec c.2.2.1.2.1.toNat 4) l)=(l.drop p).take (nsec c.2.2.1.2.1.toNat 4):=by rw[List.drop_take,show p+nsec c.2.2.1.2.1.toNat 4-p=nsec c.2.2.1.2.1.toNat 4 by omega]
 have hSl:((l.drop p).take (nsec c.2.2.1.2.1.toNat 4)).length=nsec c.2.2.1.2.1.toNat 4:=by rw[q2z,q2l];omega
 have hSS:Secs ((l.drop p).take (nsec c.2.2.1.2.1.toNat 4)):=(hl.drop p).take _;have hpar:=r0i (n+5) (k:=c.2.2.1.2.1) (m:=4) (by omega) h1 (by omega) (by omega);rw[show ((4:Nat):Int)=4 from rfl] at hpar;have hfl:((l.drop p).take (nsec c.2.2.1.2.1.toNat 4)).flatten=l0c c.2.2.1.2.1.toNat 4 (l.drop p):=rfl;have hjl:=l0z (k:=c.2.2.1.2.1.toNat) (m:=4) (hl.drop p) (by rw[q2l];omega);have hnm:=p0r c.2.2.1.2.1.toNat (m:=4) (by omega)
 have h28:=j1f (n+6) l c s4 (a,(b,(r,((T0,([],T2)),o)))) (p:Int) (1:Int) hSS (by omega) ((l.drop p).take (nsec c.2.2.1.2.1.toNat 4)) [] a0b [] 0 _ rfl rfl rfl (by unfold a0b;omega) rfl;rw[q2r,hfl] at h28;have h33:=z1m (n+1) l c s4 a b r T0 T2 o (p:Int) (l0c c.2.2.1.2.1.toNat 4 (l.drop p)) c.2.2.1.2.1.toNat (by omega) (by omega) (by omega) c.2.2.1.2.1.toNat a0b [] 0 (by omega) rfl (by unfold a0b;omega);simp only[show ((0:Nat):Int)=0 from rfl] at h33
 rw[a1t,hpar,obs,tfd,q0z (by omega),w64 (by omega) (by omega),show (p:Int)+((nsec c.2.2.1.2.1.toNat 4:Nat):Int)=((p+nsec c.2.2.1.2.1.toNat 4:Nat):Int) by omega,q2i,q2i,
  show (decide ((p:Int)<=((p+nsec c.2.2.1.2.1.toNat 4:Nat):Int))&&decide (((p+nsec c.2.2.1.2.1.toNat 4:Nat):Int)<=((l.length:Nat):Int)))=true by rw[q1n,q2c,q2c];omega,tft,hS,h28,obs,a0m]
 dsimp only;rw[h33,obs,a0m];dsimp only;rw[tfd,q0n (by decide),tfd,q0z (by decide),hpar,obs,w64 (x:=(p:Int)+((nsec c.2.2.1.2.1.toNat 4:Nat):Int)) (by omega) (by omega),show (p:Int)+((nsec c.2.2.1.2.1.toNat 4:Nat):Int)=((p+nsec c.2.2.1.2.1.toNat 4:Nat):Int) by omega,q2r,<-List.range_eq_range'];rfl
theorem z1p (n f:Nat){l:List (List UInt8)}(hl:Secs l)(hL:l.length<=100000)(c:Conf)(s4:Ser)(a:List Lab)(b:Int)(r:Rw)(T0 T1:List Slo)(o:Slo)(p:Nat)(h0:1<=c.2.2.1.2.2)(h1:c.2.2.1.2.2<=4096)(hp:p+nsec c.2.2.1.2.2.toNat 4<=l.length) :
  b0a (n+6) (f+1) (l,c,s4,(a,(b,(r,((T0,(T1,[])),o)))),(p:Int),(2:Int),())=b0a (n+6) f (l,c,s4,(a,(b,(r,((T0,(T1,u0n c.2.2.1.2.2 (l.drop p))),o)))),((p+nsec c.2.2.1.2.2.toNat 4:Nat):Int),(3:Int),()):=by
 have hS:List.drop p (List.take (p+nsec c.2.2.1.2.2.toNat 4) l)=(l.drop p).take (nsec c.2.2.1.2.2.toNat 4):=by rw[List.drop_take,show p+nsec c.2.2.1.2.2.toNat 4-p=nsec c.2.2.1.2.2.toNat 4 by omega]
 have hSl:((l.drop p).take (nsec c.2.2.1.2.2.toNat 4)).length=nsec c.2.2.1.2.2.toNat 4:=by rw[q2z,q2l];omega
 have hSS:Secs ((l.drop p).take (nsec c.2.2.1.2.2.toNat 4)):=(hl.drop p).take _;have hpar:=r0i (n+5) (k:=c.2.2.1.2.2) (m:=4) (by omega) h1 (by omega) (by omega);rw[show ((4:Nat):Int)=4 from rfl] at hpar;have hfl:((l.drop p).take (nsec c.2.2.1.2.2.toNat 4)).flatten=l0c c.2.2.1.2.2.toNat 4 (l.drop p):=rfl;have hjl:=l0z (k:=c.2.2.1.2.2.toNat) (m:=4) (hl.drop p) (by rw[q2l];omega);have hnm:=p0r c.2.2.1.2.2.toNat (m:=4) (by omega)
 have h28:=j1f (n+6) l c s4 (a,(b,(r,((T0,(T1,[])),o)))) (p:Int) (2:Int) hSS (by omega) ((l.drop p).take (nsec c.2.2.1.2.2.toNat 4)) [] a0b [] 0 _ rfl rfl rfl (by unfold a0b;omega) rfl;rw[q2r,hfl] at h28;have h33:=z1l (n+1) l c s4 a b r T0 T1 o (p:Int) (l0c c.2.2.1.2.2.toNat 4 (l.drop p)) c.2.2.1.2.2.toNat (by omega) (by omega) (by omega) c.2.2.1.2.2.toNat a0b [] 0 (by omega) rfl (by unfold a0b;omega);simp only[show ((0:Nat):Int)=0 from rfl] at h33
 rw[a1s,hpar,obs,tfd,q0z (by omega),w64 (by omega) (by omega),show (p:Int)+((nsec c.2.2.1.2.2.toNat 4:Nat):Int)=((p+nsec c.2.2.1.2.2.toNat 4:Nat):Int) by omega,q2i,q2i,
  show (decide ((p:Int)<=((p+nsec c.2.2.1.2.2.toNat 4:Nat):Int))&&decide (((p+nsec c.2.2.1.2.2.toNat 4:Nat):Int)<=((l.length:Nat):Int)))=true by rw[q1n,q2c,q2c];omega,tft,hS,h28,obs,a0m]
 dsimp only;rw[h33,obs,a0m];dsimp only;rw[tfd,q0n (by decide),tfd,q0n (by decide),tfd,q0z (by decide),hpar,obs,w64 (x:=(p:Int)+((nsec c.2.2.1.2.2.toNat 4:Nat):Int)) (by omega) (by omega),show (p:Int)+((nsec c.2.2.1.2.2.toNat 4:Nat):Int)=((p+nsec c.2.2.1.2.2.toNat 4:Nat):Int) by omega,q2r,<-List.range_eq_range'];rfl
theorem f2g (n:Nat){h:List UInt8}{t:List (List UInt8)}(hl:Secs (h::t))(hL:(h::t).length<=100000){c:Conf}(hc:Rng c)(s4:Ser)(a:List Lab)(b:Int)(r:Rw)(o:Slo)(hN:need c<=t.length) :
  (a0a (c0x (n+6) c.1 (16:Int)) fun r15=>a0a (b0a (n+6) a0b (h::t,(c,(s4,((a,(b,(r,(([],([],[])),o)))),((wrap .i64 ((1:Int)+r15)),((0:Int),()))))))) fun r16=>b0g (fun y17=>some y17.2.1) (fun z18=>some z18) r16) =
   some (a,(b,(r,((u0n c.2.2.1.1 (t.drop (nsec c.1.toNat 16)),(u0n c.2.2.1.2.1 ((t.drop (nsec c.1.toNat 16)).drop (nsec c.2.2.1.1.toNat 4)),u0n c.2.2.1.2.2 (((t.drop (nsec c.1.toNat 16)).drop (nsec c.2.2.1.1.toNat 4)).drop (nsec c.2.2.1.2.1.toNat 4)))),o)))):=by
 unfold need at hN;obtain ⟨f,hf⟩:∃f,a0b=f+1+1+1+1:=⟨a0b-4,by unfold a0b;omega⟩;have hr:=hc.raw;have n0:=hc.n0;have n1:=hc.n1;have n2:=hc.n2;have hpar:=r0i (n+5) (k:=c.1) (m:=16) (by omega) hr.2 (by omega) (by omega);rw[show ((16:Nat):Int)=16 from rfl] at hpar;have hlen:(h::t).length=t.length+1:=rfl;rw[hpar,obs,hf,w64 (by omega) (by omega),show (1:Int)+((nsec c.1.toNat 16:Nat):Int)=((nsec c.1.toNat 16+1:Nat):Int) by omega];rw[z1r n _ hl hL c s4 a b r [] [] o (nsec c.1.toNat 16+1) n0.1 n0.2 (by omega)]
 rw[z1q n _ hl hL c s4 a b r _ [] o _ n1.1 n1.2 (by omega)];rw[z1p n _ hl hL c s4 a b r _ _ o _ n2.1 n2.2 (by omega)];rw[a1r,obs,a0m];rw[show nsec c.1.toNat 16+1+nsec c.2.2.1.1.toNat 4=(nsec c.1.toNat 16+nsec c.2.2.1.1.toNat 4)+1 by omega,show (nsec c.1.toNat 16+nsec c.2.2.1.1.toNat 4)+1+nsec c.2.2.1.2.1.toNat 4=(nsec c.1.toNat 16+nsec c.2.2.1.1.toNat 4+nsec c.2.2.1.2.1.toNat 4)+1 by omega,List.drop_succ_cons,List.drop_succ_cons,List.drop_succ_cons,q3g,q3g]
theorem s0r (n:Nat){c:Conf}(hc:Rng c){h:List UInt8}{t:List (List UInt8)}(hh:h.length=512)(ht:Secs t)(hl:t.length<=90000)(hN:need c<=t.length){ls:List Lab}{e:Int}
  (hlab:v2 h<=320->u1l (n+13) ((h.drop 2).take (v2 h).toNat)=some (ls,e)):r0d (n+14) c (h::t)=some (if v2 h=0\/320<v2 h then ser0 else serQ c ls h t):=by
 have hr:=z0r (l:=h) (by omega);have hr2:=z0r (l:=h.drop 346) (by rw[q2l];omega);obtain ⟨a,ha⟩:∃a,h[0]? = some a:=⟨h[0],q2b (by omega)⟩;obtain ⟨b,hb⟩:∃b,h[1]? = some b:=⟨h[1],q2b (by omega)⟩;obtain ⟨m,hm⟩:∃m,h[346]? = some m:=⟨h[346],q2b (by omega)⟩;obtain ⟨k,hk⟩:∃k,h[347]? = some k:=⟨h[347],q2b (by omega)⟩;have hv:=v2_at ha hb;have hv2:=v2_at (l:=h.drop 346) (a:=m) (b:=k) (by rw[q3n];exact hm) (by rw[q3n];exact hk);have ea:at? h (0:Int)=some a:=r0x ha
 have eb:at? h (1:Int)=some b:=r0x hb;have em:at? h (346:Int)=some m:=r0x hm;have ek:at? h (347:Int)=some k:=r0x hk;have hw:∀x y:UInt8,wrap .i64 ((wrap .i64 ((wrap .i64 (((UInt8.toNat x):Nat):Int))*(256:Int)))+(wrap .i64 (((UInt8.toNat y):Nat):Int)))=(x.toNat:Int)*256+(y.toNat:Int):=fun x y=>by
  have h1:=x.toNat_lt;have h2:=y.toNat_lt;rw[w64 (x:=((UInt8.toNat x:Nat):Int)) (by omega) (by omega),w64 (x:=((UInt8.toNat y:Nat):Int)) (by omega) (by omega),w64 (x:=((UInt8.toNat x:Nat):Int)*256) (by omega) (by omega),w64 (by omega) (by omega)]
 rw[t1h,show at? (h::t) (0:Int)=some h from rfl,obs,ea,obs,eb,obs];simp only[hw,<-hv];rw[tfd];by_cases h0:v2 h=0
 ·rw[q0z h0,q0z (.inl h0)];rfl
 rw[q0n h0,tfd];by_cases h1:320<v2 h
 ·rw[q0z h1,q0z (.inr h1)];rfl
 rw[q0n h1,q0n (by omega)];have e2:(2+v2 h).toNat=2+(v2 h).toNat:=by omega
 rw[w64 (x:=2+v2 h) (by omega) (by omega),show (decide ((2:Int)<=2+v2 h)&&decide (2+v2 h<=((h.length:Nat):Int)))=true by rw[q1n,q2c,q2c];omega,tft,e2,List.drop_take,show 2+(v2 h).toNat-2=(v2 h).toNat by omega,hlab (by omega),obs];have q322:=b0p (n+10) h (p:=322) (by omega);have q330:=b0p (n+10) h (p:=330) (by omega);have q338:=b0p (n+10) h (p:=338) (by omega);have q348:=p0h (n+8) h (p:=348) (by omega) (by omega)
 simp only[show ((322:Nat):Int)=322 from rfl,show ((330:Nat):Int)=330 from rfl,show ((338:Nat):Int)=338 from rfl,show ((348:Nat):Int)=348 from rfl] at q322 q330 q338 q348;have hraw:=hc.raw;have hpar:=r0i (n+12) (k:=c.1) (m:=16) (by omega) hraw.2 (by omega) (by omega);rw[show ((16:Nat):Int)=16 from rfl] at hpar;have hN2:=hN;unfold need at hN2;have hlen:(h::t).length=t.length+1:=rfl;rw[q322,obs,q330,obs,q338,obs,em,obs,ek,obs,q348,obs,hpar,obs];simp only[hw,<-hv2]
 rw[w64 (x:=(1:Int)+((nsec c.1.toNat 16:Nat):Int)) (by omega) (by omega),show (1:Int)+((nsec c.1.toNat 16:Nat):Int)=((1+nsec c.1.toNat 16:Nat):Int) by omega,q2i,
  show (decide ((1:Int)<=((1+nsec c.1.toNat 16:Nat):Int))&&decide (((1+nsec c.1.toNat 16:Nat):Int)<=(((h::t).length:Nat):Int)))=true by rw[q1n,q2c,q2c];omega,tft]
 have hS:List.drop 1 (List.take (1+nsec c.1.toNat 16) (h::t))=t.take (nsec c.1.toNat 16):=by rw[Nat.add_comm,List.take_succ_cons];rfl
 have hsec:Secs (h::t):=fun s hs=>by
  rcases q2m.1 hs with rfl | hs
  ·exact hh
  ·exact ht s hs
 have hTl:(t.take (nsec c.1.toNat 16)).length=nsec c.1.toNat 16:=by rw[q2z];omega
 have h12:=fun x many=>j2s (n+13) (h::t) c ser0 x many (ht.take (nsec c.1.toNat 16)) (by omega) (t.take (nsec c.1.toNat 16)) [] a0b [] 0 _ rfl rfl rfl (by unfold a0b;omega) rfl
 have hfl:(t.take (nsec c.1.toNat 16)).flatten=l0c c.1.toNat 16 t:=rfl;have hjl:=l0z (k:=c.1.toNat) (m:=16) ht (by omega);have hnm:=p0r c.1.toNat (m:=16) (by omega);rw[hS]
 change a0a (k0b (n+13) a0b (h::t,(c,(ser0,((ls,(wrap .i64 (v8 (h.drop 322)),((wrap .i64 (v8 (h.drop 330)),(wrap .i64 (v8 (h.drop 338)),[])),(([],([],[])),slX (h.drop 348))))),(v2 (h.drop 346),([],(t.take (nsec c.1.toNat 16),(((t.take (nsec c.1.toNat 16)).length:Nat),((0:Int),())))))))))) _=_
 rw[h12,obs,a0m,q2r,hfl];dsimp only;have tail:=fun r=>f2g (n+7) hsec (by omega) hc ser0 ls (wrap .i64 (v8 (h.drop 322))) r (slX (h.drop 348)) hN
 unfold serQ e2t;generalize wrap .i64 (v8 (h.drop 330))=lost;rw[tfd];by_cases c1:0<=lost
 case neg=>rw[q0n c1,q0n (fun k=>c1 k.1)];exact tail _
 rw[q0z c1,tfd];by_cases c2:lost<=1152921504606846976
 case neg=>rw[q0n c2,q0n (fun k=>c2 k.2.1)];exact tail _
 rw[q0z c2,tfd];by_cases c3:v2 (h.drop 346)<=c.1
 case neg=>rw[q0n c3,q0n (fun k=>c3 k.2.2)];exact tail _
 rw[q0z c3,q0z ⟨c1,c2,c3⟩];have h18:=j2r (n+9) (h::t) c ser0 ls (wrap .i64 (v8 (h.drop 322))) lost.toNat c.1.toNat (v2 (h.drop 346)).toNat (wrap .i64 (v8 (h.drop 338))) (([],([],[])),slX (h.drop 348)) (l0c c.1.toNat 16 t) (by omega) (by omega) (by omega) (by omega) (by omega) (by omega) (v2 (h.drop 346)).toNat a0b [] 0 (by omega) rfl (by unfold a0b;omega);rw[show ((lost.toNat:Nat):Int)=lost by omega,show (((v2 (h.drop 346)).toNat:Nat):Int)=v2 (h.drop 346) by omega,show ((0:Nat):Int)=0 from rfl] at h18
 rw[h18,obs,a0m,q2r,<-List.range_eq_range'];exact tail _
theorem x1i {N:Int}{left:List (List UInt8)}(hs:Secs left)(h0:0<=N)(hl:nsec N.toNat 4<=left.length):u0n N left=q0v N left:=by
 unfold u0n q0v;refine List.map_congr_left fun i hi => ?_
 have:=List.mem_range.1 hi;have h1:=l0z (k:=N.toNat) (m:=4) hs hl;have h2:=p0r N.toNat (m:=4) (by omega);exact (slAt_q this (by omega)).symm
theorem rawQ_p {c:Conf}{lost mark many:Int}{all:List UInt8}(h1:1<=c.1)(h:lost<=1152921504606846976)(hall:32*c.1.toNat<=all.length):e2t c lost mark many all=d1s c lost mark many all:=by
 unfold e2t d1s;by_cases c1:lost<0
 ·rw[q0z c1,q0n (fun k=>by have:=k.1;omega)]
 rw[q0n c1];by_cases c3:c.1<many
 ·rw[q0z c3,q0n (fun k=>by have:=k.2.2;omega)]
 rw[q0n c3,q0z ⟨by omega,h,by omega⟩];refine congrArg (fun z=>(lost,(mark,z))) (List.map_congr_left fun i hi => ?_);exact (evAt_q (by omega) hall _ _).symm
theorem n1h {c:Conf}(hc:Rng c)(ls:List Lab){h:List UInt8}{t:List (List UInt8)}(hh:h.length=512)(ht:Secs t)(hN:need c<=t.length) :
  serQ c ls h t=((serV c ls h t).1,((serV c ls h t).2.1,(e2t c (wrap .i64 (v8 (h.drop 330))) (wrap .i64 (v8 (h.drop 338))) (v2 (h.drop 346)) (l0c c.1.toNat 16 t),(serV c ls h t).2.2.2))):=by
 unfold need at hN;have n0:=hc.n0;have n1:=hc.n1;have n2:=hc.n2;unfold serQ serV;dsimp only;rw[x1i (ht.drop _) (by omega) (by rw[q2l];omega),x1i ((ht.drop _).drop _) (by omega) (by rw[q2l,q2l];omega),x1i (((ht.drop _).drop _).drop _) (by omega) (by rw[q2l,q2l,q2l];omega),
  slR_x (by rw[q2z,q2l];omega),slX_take _ (by omega)]
theorem serQ_p {c:Conf}(hc:Rng c)(ls:List Lab){h:List UInt8}{t:List (List UInt8)}(hh:h.length=512)(ht:Secs t)(hN:need c<=t.length)(hl:wrap .i64 (v8 (h.drop 330))<=1152921504606846976):serQ c ls h t=serV c ls h t:=by
 rw[n1h hc ls hh ht hN];unfold need at hN;have hr:=hc.raw;have h1:=l0z (k:=c.1.toNat) (m:=16) ht (by omega);have h2:=p0r c.1.toNat (m:=16) (by omega);rw[rawQ_p hr.1 hl (by omega)];rfl
theorem serQ_w {c:Conf}(hc:Rng c){ls:List Lab}(hls:ls.length<=17){h:List UInt8}{t:List (List UInt8)}(hh:h.length=512)(ht:Secs t)(hN:need c<=t.length):SerW (serQ c ls h t)/\SerM (serQ c ls h t):=by
 by_cases hl:wrap .i64 (v8 (h.drop 330))<=1152921504606846976
 ·rw[serQ_p hc ls hh ht hN hl];exact i2g hc hls h t
 ·obtain ⟨⟨w1,w2,w3,w4⟩,⟨m1,m2,m3,m4,m5⟩⟩:=i2g hc hls h t;rw[n1h hc ls hh ht hN];unfold e2t;rw[q0n (fun k=>hl k.2.1)];exact ⟨⟨w1,(fun e he=>by cases he),w3,w4⟩,⟨m1,by simp,m3,m4,m5⟩⟩
theorem i1o (n:Nat){c:Conf}(hc:Rng c){p:List (List UInt8)}(hp:Secs p)(hl:p.length<=90000)(hN:need c+1<=p.length):∃x,r0d (n+14) c p=some x/\SerW x/\SerM x:=by
 obtain ⟨h,t,rfl⟩:∃h t,p=h::t:=by
  cases p with
  | nil=>simp at hN
  | cons h t=>exact ⟨h,t,rfl⟩
 have hh:h.length=512:=hp h List.mem_cons_self;have ht:Secs t:=fun s hs=>hp s (q2j _ hs)
 obtain ⟨ls,e,h1,h2⟩:=f1l n ((h.drop 2).take (v2 h).toNat);rw[q2k] at hl hN;rw[s0r n hc hh ht (by omega) (by omega) (fun _=>h1)];refine ⟨_,rfl,?_⟩;split
 ·exact ⟨b2o,b2p⟩
 ·exact serQ_w hc h2 hh ht (by omega)
theorem i1p (n:Nat){c:Conf}{x:Ser}(hc:OkC c)(hw:SerW x)(h:x=ser0\/SerOk c x):r0d (n+14) c (d0p c x)=some x:=by
 have hp:=h0b hc.rng;have hn:=b1z hc.rng;obtain ⟨hsec,hpl⟩:=t0a hc.rng h;by_cases h0:x=ser0
 ·have hz:v2 zsec=0:=by decide +kernel
  have e:d0p c x=zsec::List.replicate (need c) zsec:=by unfold d0p;rw[q0z h0,hn,List.replicate_succ]
  obtain ⟨ls,e',h1,h2⟩:=f1l n ((zsec.drop 2).take (v2 zsec).toNat);rw[e,s0r n hc.rng z0n (fun s hs=>by rw[(List.mem_replicate.1 hs).2,z0n]) (by rw[q3b];omega) (by rw[q3b];omega) (fun _=>h1),q0z (.inl hz),h0]
 have hs:SerOk c x:=h.resolve_left h0;have hlab:=y0w hs.lab;obtain ⟨z,e0,d2,d322,d330,d338,d346,d348⟩:=k1a hlab;have hlen:1<=(labB x.1).length:=by
  unfold labB;rw[q2d,q0e (by have:=hs.lab.n1;omega)];omega
 have hv:v2 (c0h x)=((labB x.1).length:Int):=by rw[e0];exact v2_of (by omega) (by omega) _
 have hlbl:((c0h x).drop 2).take (v2 (c0h x)).toNat=labB x.1:=by
  rw[d2,hv,q2i,padB,q2g,List.take_left]
 obtain ⟨t,ht⟩:∃t,d0p c x=c0h x::t:=⟨_,by unfold d0p;rw[q0n h0]⟩;rw[ht] at hsec hpl;have hT:Secs t:=fun s hs=>hsec s (q2j _ hs)
 have hF:(c0h x).length=512:=hsec _ List.mem_cons_self;rw[q2k] at hpl;obtain ⟨q1,g1⟩:=f1c 0 hc hw h;rw[ht] at g1;obtain ⟨q2,g2⟩:=d1o 0 hc.rng hF hT (by omega) (by omega) (by omega) (by omega) (ls:=x.1) (e:=0) (by rw[hlbl];exact c1d 0 hs.lab);rw[g1] at g2;have hx:x=serV c x.1 (c0h x) t:=congrArg Prod.fst (Option.some.inj g2);rw[ht,s0r n hc.rng hF hT (by omega) (by omega) (ls:=x.1) (e:=0) (fun _=>by rw[hlbl];exact z1b (n+7) hs.lab),q0n (by rintro (k | k)<;>omega)]
 have hlost:wrap .i64 (v8 ((c0h x).drop 330))=x.2.2.1.1:=by
  have e1:(serV c x.1 (c0h x) t).2.2.1.1=wrap .i64 (v8 ((c0h x).drop 330)):=by
   unfold serV d1s;dsimp only;split
   ·rfl
   split
   ·rfl
   ·rfl
  rw[<-e1,<-hx]
 have hl1:=hs.raw.l1;rw[serQ_p hc.rng x.1 hF hT (by omega) (by rw[hlost];omega),<-hx]
abbrev Chg:=Int×List UInt8
def w0b (a:List (List UInt8))(from_:Int):Nat->List (List UInt8)->List Chg
 | _,[]=>[]
 | i,x::r=>if a[i]? = some x then w0b a from_ (i+1) r else (from_+(i:Int),x)::w0b a from_ (i+1) r
theorem d2d (a:List (List UInt8))(from_:Int):∀(r:List (List UInt8)) (i:Nat),(w0b a from_ i r).length<=r.length
 | [],_=>by simp[w0b]
 | x::r,i=>by
  have:=d2d a from_ r (i+1);unfold w0b;split
  ·rw[q2k];omega
  ·rw[q2k,q2k];omega
theorem diff_l3 (n:Nat)(a b:List (List UInt8))(from_:Int)(hf0:0<=from_)(hf1:from_<=2000000000000)(hb:b.length<=10000000):∀(rest pre:List (List UInt8)) (f:Nat) (out:List Chg) (i:Int),b=pre++rest->i=pre.length->out.length<=pre.length ->
  h0y n (f+rest.length+1) (a,from_,out,b,(b.length:Int),i,())=some (.inl (out++w0b a from_ pre.length rest,())):=by
 intro rest;induction rest with
 | nil =>
  intro pre f out i h hi ho;rw[g0m,tfd,q0n (idxe h hi rfl)];simp[w0b]
 | cons x rest ih =>
  intro pre f out i h hi ho;have hlen:=congrArg List.length h;simp at hlen;subst hi;have hadd:(out++[(from_+(pre.length:Int),x)]).length<=(pre++[x]).length:=by simp;omega
  have i1:=ih (pre++[x]) f (out++[(from_+(pre.length:Int),x)]) ((pre.length:Int)+1) (idxl h) (idxs rfl) hadd;have i2:=ih (pre++[x]) f out ((pre.length:Int)+1) (idxl h) (idxs rfl) (by simp;omega);rw[show (pre++[x]).length=pre.length+1 by simp] at i1 i2;rw[show f+(x::rest).length+1=(f+rest.length+1)+1 by simp;omega,g0m,tfd,q0z (idx h rfl rfl),b0o h rfl,obs,tfd,w64 (x:=from_+(pre.length:Int)) (by omega) (by omega),w64 (x:=(pre.length:Int)+1) (by omega) (by omega)];by_cases hk:(a.length:Int)<=(pre.length:Int)
  ·rw[q0z hk,tfd,q0z (by omega),i1,w0b,q0n (by rw[q2f (by omega)];simp),q2g];rfl
  ·have hlt:pre.length<a.length:=by omega
   have hg:a[pre.length]? = some a[pre.length]:=q2b hlt;rw[q0n hk,r0x hg,obs,tfn,w0b,hg];by_cases he:a[pre.length]=x
   ·rw[he,beq_self_eq_true,tft,i2,q0z rfl]
   ·rw[beq_eq_false_iff_ne.2 he,tff,tfd,q0z (by omega),i1,q0n (by simpa using he),q2g];rfl
theorem diff_val (n:Nat)(a b:List (List UInt8))(from_:Int)(hf0:0<=from_)(hf1:from_<=2000000000000)(hb:b.length<=10000000):i0a (n+1) a b from_=some (w0b a from_ 0 b):=by
 rw[c1m];have:=diff_l3 n a b from_ hf0 hf1 hb b [] (a0b-b.length-1) [] 0 rfl rfl (by simp);rw[<-lfu (by omega)] at this;rw[this,obs,a0m];rfl
end Go.Proofs.YtagnkfbpgkckiaaGreat
