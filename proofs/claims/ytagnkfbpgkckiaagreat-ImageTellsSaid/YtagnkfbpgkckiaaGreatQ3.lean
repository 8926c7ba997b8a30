/-
 Plain proofs about the functions of this seat, part 3 of 3.
-/
import Derived.Test.YtagnkfbpgkckiaaGreatQ2
namespace Go.Proofs.YtagnkfbpgkckiaaGreat
open Go.Flat Go.Plim
set_option linter.unusedVariables false
set_option linter.unusedSimpArgs false
def n0p (x:Ser):List UInt8 :=
 toB (beI 2 ((labB x.1).length:Int))++(padB (labB x.1) 320++(n8B x.2.1++(n8B x.2.2.1.1++(n8B x.2.2.1.2.1++(toB (beI 2 (x.2.2.1.2.2.length:Int))++b0w x.2.2.2.2)))))
def c0x (x:Ser):List UInt8:=padB (n0p x) 512
def zsec:List UInt8:=List.replicate 512 0
noncomputable def e0g (c:Conf) (x:Ser):List (List UInt8) :=
 if x=ser0 then List.replicate (plc c).toNat zsec
 else c0x x::(cutB 16 c0y (e0x x.2.2.1 c.1)++(cutB 4 b0w x.2.2.2.1.1++(cutB 4 b0w x.2.2.2.1.2.1++cutB 4 b0w x.2.2.2.1.2.2)))
def z0a:List UInt8:=[112,108,105,109,115,111,108,108]
def x0e (s:Sta):List UInt8:=z0a++(toB (bts s.1)++(n8B s.2.1++n8B (s.2.2.1+1)))
def i0u (s:Sta):List UInt8:=padB (x0e s) 512
noncomputable def allB (s:Sta):List (List UInt8):=i0u s::s.2.2.2.flatMap (e0g s.1)
theorem d1v (x:Int):(toB (beI 2 x)).length=2:=by simp[c0i,b0l]
theorem b1c {x:Ser} (h:(labB x.1).length≤320):(n0p x).length=476:=by
 have e1:=l0v (labB x.1) 320;have e2:=d0j x.2.2.2.2;unfold n0p;simp only[List.length_append,d1v,f0r,e1,e2];omega
theorem u0w {x:Ser} (h:(labB x.1).length≤320):(c0x x).length=512:=by rw[c0x,l0v,b1c h];rfl
theorem q0k (c:Conf):(toB (bts c)).length=56:=by rw[c0i,c2t]
theorem z0w (s:Sta):(x0e s).length=80:=by
 unfold x0e z0a;simp only[List.length_append,q0k,f0r];rfl
theorem a2d (s:Sta):(i0u s).length=512:=by rw[i0u,l0v,z0w];rfl
theorem l1a (w:List Int) (h:∀x∈w,0≤x∧x≤255):d0a (toB w)=w:=by
 induction w with
 | nil=>rfl
 | cons a w ih =>
  have ha:=h a List.mem_cons_self;have e:d0a (toB (a::w))=(((UInt8.ofNat a.toNat).toNat:Nat):Int)::d0a (toB w):=rfl;rw[e,ih fun x hx=>h x (List.mem_cons_of_mem _ hx)];congr 1;simp;omega
theorem hd_val (n:Nat) {x:Ser} (hl:LabOk x.1) (hr:x.2.2.1.2.2.length≤4096):w0l (n+8) x=some (c0x x,0):=by
 have hlab:=a1w hl;have h2:∀v:Int,(beI 2 v).length=2:=fun v=>by simp[b0l]
 have e1:=l0v (labB x.1) 320;rw[i1x,w1k n x.1,if_pos hl,obs];dsimp only;rw[wu64 (by omega) (by omega),c0c (n+6) [] 2 2 _ rfl (by omega) (by omega) (by simp),obs,List.nil_append,
  show ((320:Int))=((320:Nat):Int) from rfl,t0k (n+2) _ 320 (by omega) (by omega),obs,m1e (n+6) (by rw[h2];omega),obs,
  y0v (n+5) _ _ (by simp) (by simp[h2,i0s];omega),obs,wu64 (by omega) (by omega),c0c (n+6) _ 2 2 _ rfl (by omega) (by omega) (by simp[h2,i0s,w0f];omega),obs,
  d1e (n+1),obs,m1e (n+6) (by simp[h2,i0s,w0f,d0j];omega),obs,f1u (n+6),obs]
 dsimp only;have e:toB (beI 2 ((labB x.1).length:Int)++d0a (padB (labB x.1) 320)++List.flatMap n8I [x.2.1,x.2.2.1.1,x.2.2.1.2.1]++beI 2 (x.2.2.1.2.2.length:Int)++d0a (b0w x.2.2.2.2))=n0p x:=by
  unfold n0p n8B;simp only[s0n,u0d,List.flatMap_cons,List.flatMap_nil,List.append_nil,List.append_assoc]
 rw[e,show ((512:Int))=((512:Nat):Int) from rfl,t0k (n+2) _ 512 (by rw[b1c hlab];omega) (by omega),obs];rfl
theorem i2d (n:Nat) {x:Ser} (h:SerM x):w0m (n+4) x=some (decide (x=ser0)):=by
 have:=v0z n x ser0 h;rw[i1y];have e:e0b (n+3) x ([],((0:Int),(((0:Int),((0:Int),[])),(([],([],[])),((0:Int),z0)))))=some (decide (x=ser0)):=this
 change a0a (e0b (n+3) x ([],((0:Int),(((0:Int),((0:Int),[])),(([],([],[])),((0:Int),z0)))))) _=_
 rw[e];rfl
theorem l1q {c:Conf} {x:Ser} (h:SerOk c x):x.2.2.2.1.1.length≤4096∧x.2.2.2.1.2.1.length≤4096∧x.2.2.2.1.2.2.length≤4096:=⟨h.fold.t0.l1,h.fold.t1.l1,h.fold.t2.l1⟩
theorem u0m {r:Rw} {room:Int} (h:RawOk r room):(e0x r room).length=room.toNat∧room.toNat≤4096:=⟨by unfold e0x;rw[a1g];simp,by have:=h.m1;omega⟩
theorem f1o (n:Nat) {c:Conf} {x:Ser} (hc:OkC c) (hw:SerW x) (hm:SerM x):i0h (n+12) c x=some (if x=ser0∨SerOk c x then (e0g c x,0) else ([],2)):=by
 have hr:=hc.rng;have hp:=j0g hr;rw[v0s,z0q (n+8) hc,obs,decide_eq_true (rfl:(0:Int)=0),Bool.not_true,tff,i2d (n+7) hm,obs,tfd];by_cases h0:x=ser0
 ·rw[if_pos h0,if_pos (.inl h0),show ((512:Int))=((512:Nat):Int) from rfl,t0k (n+6) [] 512 (by simp) (by omega),obs,(o1v (n+7) hc).1,obs,
   show plc c=(((plc c).toNat:Nat):Int) by omega,u1x (n+8) _ (plc c).toNat (by omega) (by omega),obs]
  unfold e0g;rw[if_pos h0];rfl
 rw[if_neg h0,b1u n c hw,obs];by_cases hs:SerOk c x
 ·have ht:=l1q hs;have hrd:=u0m hs.raw;have hln:=hs.raw.len;have hlab:=a1w hs.lab;have hch:∀ {α:Type} (m:Nat) (f:α→List UInt8) (l:List α),1≤m→l.length≤4096→(cutB m f l).length≤4096:=fun m f l hm hl=>by
   rw[d1p];have:=m0h hm l;omega
  rw[if_pos hs,if_pos (.inr hs),decide_eq_true (rfl:(0:Int)=0),Bool.not_true,tff,hd_val (n+3) hs.lab (by have:=hs.raw.m1;omega),obs,decide_eq_true (rfl:(0:Int)=0),Bool.not_true,tff,e2l (n+10) hs.raw,obs,
   show ((16:Int))=((16:Nat):Int) from rfl,t1i (n+5) c0y (fun y0=>j0z (n+11) y0.1) (fun e=>g1m (n+5) e) (fun e=>by rw[g0a];omega) _ _ 16 (by omega) (by omega) (by omega) (by simp),obs]
  have c1:=hch 16 c0y (e0x x.2.2.1 c.1) (by omega) (by omega);have c2:=hch 4 b0w x.2.2.2.1.1 (by omega) ht.1;have c3:=hch 4 b0w x.2.2.2.1.2.1 (by omega) ht.2.1;have c4:=hch 4 b0w x.2.2.2.1.2.2 (by omega) ht.2.2;have cv:=fun (out:List (List UInt8)) (l:List Slo) (h1:l.length≤4096) (h2:out.length≤100000)=>x1d (n+5) b0w (fun y0=>g0z (n+11) y0.1) (fun e=>d1e (n+5) e) (fun e=>by rw[d0j];omega) out l 4 (by omega) (by omega) (by omega) h2
  have hl:f0f (n+11) a0b ([c0x x]++cutB 16 c0y (e0x x.2.2.1 c.1),x.2.2.2.1,(0:Int),())=some (.inl (c0x x::(cutB 16 c0y (e0x x.2.2.1 c.1)++(cutB 4 b0w x.2.2.2.1.1++(cutB 4 b0w x.2.2.2.1.2.1++cutB 4 b0w x.2.2.2.1.2.2))),())):=by
   obtain ⟨f,hf⟩:∃f,a0b=f+4:=⟨a0b-4,by unfold a0b;omega⟩;rw[hf,g0g,tfd,if_pos (by omega),tfd,if_pos rfl,show ((4:Int))=((4:Nat):Int) from rfl,cv _ _ ht.1 (by simp;omega),obs,show IntKind.wrap .i64 ((0:Int)+1)=1 from by decide,
    g0g,tfd,if_pos (by omega),tfd,if_neg (by omega),tfd,if_pos rfl,show ((4:Int))=((4:Nat):Int) from rfl,cv _ _ ht.2.1 (by simp;omega),obs,show IntKind.wrap .i64 ((1:Int)+1)=2 from by decide,
    g0g,tfd,if_pos (by omega),tfd,if_neg (by omega),tfd,if_neg (by omega),tfd,if_pos rfl,show ((4:Int))=((4:Nat):Int) from rfl,cv _ _ ht.2.2 (by simp;omega),obs,show IntKind.wrap .i64 ((2:Int)+1)=3 from by decide,
    g0g,tfd,if_neg (by omega)]
   simp
  rw[hl,obs,a0r];unfold e0g;rw[if_neg h0]
 ·rw[if_neg hs,if_neg (by rintro (k | k);exact h0 k;exact hs k)];rfl
theorem f2l (n:Nat) {c:Conf} (x:Ser) (hc:¬OkC c):i0h (n+12) c x=some ([],2):=by
 rw[v0s,o1n (n+8) hc,obs];rfl
theorem e1i (n:Nat) {s:Sta} (hw:StaW s):n0k (n+15) s=some (if StaOk s then (i0u s,0) else ([],2)):=by
 rw[i1z,p1p n hw,obs];by_cases h:StaOk s
 ·have hc:=h.whole.1;have hb:=q0k s.1;have hk:=h.clock;rw[if_pos h,if_pos h,decide_eq_true (rfl:(0:Int)=0),Bool.not_true,tff,bytes_ok (n+10) hc,obs,tfd,if_pos (by omega),m1e (n+13) (by simp[hb]),obs,
   y0v (n+12) _ _ (by simp) (by simp[i0s,hb]),obs,f1u (n+13),obs]
  dsimp only;have hsw:IntKind.wrap .i64 (s.2.2.1+1)=s.2.2.1+1:=by
   obtain ⟨_,k,_⟩:=hk;rcases k with k | ⟨k1,k2⟩
   ·rw[k];decide
   ·exact w64 (by omega) (by omega)
  have e:toB ([]++d0a (z0a++toB (bts s.1))++List.flatMap n8I [s.2.1,IntKind.wrap .i64 (s.2.2.1+1)])=x0e s:=by
   rw[hsw];unfold x0e n8B;simp only[List.nil_append,s0n,u0d,List.flatMap_cons,List.flatMap_nil,List.append_nil,List.append_assoc]
  change a0a (g0o (n+14) (toB ([]++d0a (z0a++toB (bts s.1))++List.flatMap n8I [s.2.1,IntKind.wrap .i64 (s.2.2.1+1)])) 512) _=_
  rw[e,show ((512:Int))=((512:Nat):Int) from rfl,t0k (n+9) _ 512 (by rw[z0w];omega) (by omega),obs];rfl
 ·rw[if_neg h,if_neg h];rfl
theorem a1n {c:Conf} {x:Ser} (hc:OkC c) (h:x=ser0∨SerOk c x):(e0g c x).length≤100000:=by
 have hp:=j0g hc.rng;unfold e0g;split
 ·simp;omega
 ·rename_i h0;have hs:SerOk c x:=h.resolve_left h0;have ht:=l1q hs;have hrd:=u0m hs.raw;have hch:∀ {α:Type} (m:Nat) (f:α→List UInt8) (l:List α),1≤m→l.length≤4096→(cutB m f l).length≤4096:=fun m f l hm hl=>by
   rw[d1p];have:=m0h hm l;omega
  have c1:=hch 16 c0y (e0x x.2.2.1 c.1) (by omega) (by omega);have c2:=hch 4 b0w x.2.2.2.1.1 (by omega) ht.1;have c3:=hch 4 b0w x.2.2.2.1.2.1 (by omega) ht.2.1;have c4:=hch 4 b0w x.2.2.2.1.2.2 (by omega) ht.2.2;simp;omega
theorem s0t {s:Sta} {i:Nat} {x:Ser} (h:i0t s i x):x=ser0∨SerOk s.1 x:=by
 rcases h with h | h
 ·exact .inl h
 ·exact .inr h.1
theorem all_l4 (n:Nat) {s:Sta} (hw:StaW s) (hs:StaOk s):∀(rest pre:List Ser) (f:Nat) (out:List (List UInt8)) (i:Int),s.2.2.2=pre++rest→i=pre.length→out.length≤100000*pre.length+1 →
  o0l (n+12) (f+rest.length+1) (s,(0:Int),out,i,())=some (.inl ((0:Int),out++rest.flatMap (e0g s.1),())):=by
 have hL:=hs.whole.len;intro rest;induction rest with
 | nil =>
  intro pre f out i h hi ho;have hn:¬(i<((s.2.2.2.length:Nat):Int)):=by have:=congrArg List.length h;simp at this;omega
  rw[n0l,tfd,if_pos rfl,tfd,if_neg hn];simp
 | cons a rest ih =>
  intro pre f out i h hi ho;have hlen:=congrArg List.length h;simp at hlen;have hia:s.2.2.2[pre.length]? = some a:=by rw[h];simp
  have hr:=s0t (hs.right pre.length a hia);obtain ⟨w1,w2⟩:=hw.at hia;have hpl:=a1n hs.whole.1 hr;rw[show f+(a::rest).length+1=(f+rest.length+1)+1 by simp;omega,n0l,tfd,if_pos rfl,tfd,if_pos (by omega),b0s h hi,obs,f1o n hs.whole.1 w1 w2,if_pos hr,obs];dsimp only;rw[tfd,if_pos (by omega),w64 (x:=i+1) (by omega) (by omega)];rw[ih (pre++[a]) f _ (i+1) (idxl h) (idxs hi) (by simp;omega)];simp
theorem o1u (n:Nat) {s:Sta} (hw:StaW s):n0m (n+16) s=some (if StaOk s then (allB s,0) else ([],2)):=by
 rw[s1r,e1i n hw,obs];by_cases h:StaOk s
 ·have hL:=h.whole.len;rw[if_pos h,if_pos h];dsimp only;have:=all_l4 (n+3) hw h s.2.2.2 [] (a0b-s.2.2.2.length-1) [i0u s] 0 rfl rfl (by simp);rw[←lfu (by omega)] at this;rw[this,obs,a0r];rfl
 ·rw[if_neg h,if_neg h];obtain ⟨f,hf⟩:∃f,a0b=f+1:=⟨a0b-1,by unfold a0b;omega⟩;dsimp only;rw[hf,n0l,tfd,if_neg (by decide),obs,a0r];rfl
theorem z1a (n:Nat) {x:Int} (h0:0≤x) (h1:x≤18446744073709551615):c0r (n+1) 2 x=some (toB (beI 2 x)):=f0v n 2 2 x rfl (by omega) (by omega) h0 h1
theorem c2l {α:Type} (m k:Nat) (hm:1≤m) (a:α):c0k (k*m) m (List.replicate (k*m) a)=List.replicate k (List.replicate m a):=by
 have h:=fun i=>d0r hm (k*m) (List.replicate (k*m) a) (by simp) i
 apply List.ext_getElem?;intro i;rw[h i,List.length_replicate,List.getElem?_replicate];by_cases hi:i<k
 ·rw[if_pos (Nat.mul_lt_mul_of_pos_right hi hm),if_pos hi,List.drop_replicate,List.take_replicate];congr 2;have:(i+1)*m≤k*m:=Nat.mul_le_mul_right m hi;rw[Nat.add_mul] at this;omega
 ·rw[if_neg (fun q=>hi (Nat.lt_of_mul_lt_mul_right q)),if_neg hi]
theorem pad_rep:padB (List.replicate 512 0) 512=zsec:=by
 unfold padB zsec;rw[List.length_replicate,Nat.sub_self,List.replicate_zero,List.append_nil]
theorem cutS_rep (k:Nat):cutS (List.replicate (k*512) 0)=List.replicate k zsec:=by
 unfold cutS;rw[List.length_replicate,c2l 512 k (by omega),List.map_replicate,pad_rep]
theorem cutS_one {s:List UInt8} (h:s.length=512):cutS s=[s]:=by
 unfold cutS;apply List.ext_getElem?;intro i;rw[List.getElem?_map,d0r (by omega) _ _ (Nat.le_refl _),h];cases i with
 | zero =>
  rw[if_pos (by omega)];simp[padB,h,List.take_of_length_le]
 | succ i=>rw[if_neg (by omega)];simp
theorem rplace28 (n:Nat) (x:Ser) (out:List (List UInt8)) (k:Int) (l:List Slo) (hl:l.length≤4096) (hw:∀s∈l,SloW s):∀(rest pre:List Slo) (f:Nat) (t:List UInt8) (i:Int),l=pre++rest→i=pre.length→t.length≤128*pre.length →
  d0w (n+4) (f+rest.length+1) (x,out,k,t,l,(l.length:Int),i,())=some (.inl (x,out,k,t++rest.flatMap b0w,())):=by
 intro rest;induction rest with
 | nil =>
  intro pre f t i h hi ht;rw[s0a];simp only[tfd,if_neg (idxe h hi rfl)];simp
 | cons a rest ih =>
  intro pre f t i h hi ht;have hlen:=congrArg List.length h;simp at hlen;have ha:=d0j a;rw[show f+(a::rest).length+1=(f+rest.length+1)+1 by simp;omega,s0a];simp only[tfd,if_pos (idx h hi rfl)];rw[b0s h hi,obs,e1u n a (hw a (by rw[h];simp)),obs,if_pos (by omega),w64 (x:=i+1) (by omega) (by omega),ih (pre++[a]) f _ (i+1) (idxl h) (idxs hi) (by simp;omega)];simp
theorem q1c (n:Nat) {c:Conf} {x:Ser} (hc:OkC c) (hw:SerW x) (hm:SerM x):p0m (n+12) c x=some (if x=ser0∨SerOk c x then (e0g c x,0) else ([],2)):=by
 have hr:=hc.rng;have hp:=j0g hr;rw[b1z,o0e (n+8) hc,obs,decide_eq_true (rfl:(0:Int)=0),Bool.not_true,tff,e1z (n+7) hm,obs,tfd];by_cases h0:x=ser0
 ·rw[if_pos h0,if_pos (.inl h0),(o1v (n+7) hc).2,obs,w64 (by omega) (by omega),w0e (n+10) _ (by omega),obs];have e:((512:Int)*plc c).toNat=(plc c).toNat*512:=by omega
  rw[e,d1f (n+8) _ (by simp;omega),obs,cutS_rep];unfold e0g;rw[if_pos h0]
 rw[if_neg h0,q1p (n+3) c hw,obs];by_cases hs:SerOk c x
 ·have ht:=l1q hs;have hrd:=u0m hs.raw;have hln:=hs.raw.len;have hm1:=hs.raw.m1;have hlab:=a1w hs.lab;have hch:∀ {α:Type} (m:Nat) (f:α→List UInt8) (l:List α),1≤m→l.length≤4096→(cutB m f l).length≤4096:=fun m f l hm hl=>by
   rw[d1p];have:=m0h hm l;omega
  have b2:=fun v=>d1v v
  have b8:=fun v=>f0r v
  have bs:=d0j x.2.2.2.2;have pl:=l0v (toB (beI 2 ((labB x.1).length:Int))++labB x.1) 322;have hpl:(padB (toB (beI 2 ((labB x.1).length:Int))++labB x.1) 322).length=322:=by rw[pl,List.length_append,b2];omega
  rw[if_pos hs,if_pos (.inr hs),decide_eq_true (rfl:(0:Int)=0),Bool.not_true,tff,f2d (n+3) hs.lab,obs];dsimp only;rw[wu64 (by omega) (by omega),z1a (n+10) (by omega) (by omega),obs,tfd,if_pos (by rw[b2];omega),show ((322:Int))=((322:Nat):Int) from rfl,u0l (n+9) _ 322 (by rw[List.length_append,b2];omega) (by omega),obs,
   f0y (n+9),obs,tfd,if_pos (by rw[hpl,b8];omega),f0y (n+9),obs,tfd,if_pos (by rw[List.length_append,hpl,b8,b8];omega),f0y (n+9),obs,tfd,if_pos (by simp only[List.length_append,hpl,b8];omega),
   wu64 (by omega) (by omega),z1a (n+10) (by omega) (by omega),obs,tfd,if_pos (by simp only[List.length_append,hpl,b8,b2];omega),e1u (n+7) _ hw.opn,obs,tfd,if_pos (by simp only[List.length_append,hpl,b8,b2,bs];omega)]
  have ef:padB (toB (beI 2 ((labB x.1).length:Int))++labB x.1) 322++n8B x.2.1++n8B x.2.2.1.1++n8B x.2.2.1.2.1++toB (beI 2 (x.2.2.1.2.2.length:Int))++b0w x.2.2.2.2=n0p x:=by
   unfold n0p padB;rw[List.length_append,b2,show 322-(2+(labB x.1).length)=320-(labB x.1).length by omega];simp only[List.append_assoc]
  have fl:=u0w hlab;rw[ef,show ((512:Int))=((512:Nat):Int) from rfl,u0l (n+9) _ 512 (by rw[b1c hlab];omega) (by omega),obs]
  change a0a (m0x (n+11) (c0x x)) _=_
  rw[d1f (n+8) _ (by omega),obs,cutS_one fl];have e12:=rplace12 (n+7) c x [c0x x] hs.raw hw.raw c.1.toNat 0 (a0b-c.1.toNat-1) [] (by omega) (by simp);rw[show a0b-c.1.toNat-1+c.1.toNat+1=a0b by unfold a0b;omega] at e12;have e12':j0c (n+11) a0b (c,x,[c0x x],[],(0:Int),())=some (.inl (x,[c0x x],(e0x x.2.2.1 c.1).flatMap c0y,())):=e12;have hfl:((e0x x.2.2.1 c.1).flatMap c0y).length≤200000:=by rw[o0m _ fun y _=>g0a y];omega
  have c1:=hch 16 c0y (e0x x.2.2.1 c.1) (by omega) (by omega);have c2:=hch 4 b0w x.2.2.2.1.1 (by omega) ht.1;have c3:=hch 4 b0w x.2.2.2.1.2.1 (by omega) ht.2.1;have c4:=hch 4 b0w x.2.2.2.1.2.2 (by omega) ht.2.2;rw[e12',obs,a0r];dsimp only;rw[d1f (n+8) _ (by omega),obs,z1g (m:=16) (w:=32) (by omega) (by omega) (by omega) _ (fun y _=>g0a y),tfd,if_pos (by simp;omega)];have e28:=fun (out:List (List UInt8)) (k:Int) (l:List Slo) (hl:l.length≤4096) (hlw:∀s∈l,SloW s)=>rplace28 (n+7) x out k l hl hlw l [] (a0b-l.length-1) [] 0 rfl rfl (by simp)
  have e28':∀(out:List (List UInt8)) (k:Int) (l:List Slo),l.length≤4096→(∀s∈l,SloW s)→d0w (n+11) a0b (x,out,k,[],l,(l.length:Int),(0:Int),())=some (.inl (x,out,k,l.flatMap b0w,())):=fun out k l hl hlw=>by
   have:=e28 out k l hl hlw;rw[←lfu (by omega)] at this;exact this
  have cs:∀l:List Slo,l.length≤4096→m0x (n+11) (l.flatMap b0w)=some (cutB 4 b0w l):=fun l hl=>by
   rw[d1f (n+8) _ (by rw[o0m _ fun y _=>d0j y];omega),z1g (m:=4) (w:=128) (by omega) (by omega) (by omega) _ (fun y _=>d0j y)]
  obtain ⟨tw1,tw2,tw3⟩:=hw.trs;have hl24:e0p (n+11) a0b (x,[c0x x]++cutB 16 c0y (e0x x.2.2.1 c.1),(0:Int),())=some (.inl (c0x x::(cutB 16 c0y (e0x x.2.2.1 c.1)++(cutB 4 b0w x.2.2.2.1.1++(cutB 4 b0w x.2.2.2.1.2.1++cutB 4 b0w x.2.2.2.1.2.2))),())):=by
   obtain ⟨f,hf⟩:∃f,a0b=f+4:=⟨a0b-4,by unfold a0b;omega⟩;have hE:∀(out:List (List UInt8)) (k:Int) (l:List Slo),l.length≤4096→(∀s∈l,SloW s)→d0w (n+11) (f+4) (x,out,k,[],l,(l.length:Int),(0:Int),())=some (.inl (x,out,k,l.flatMap b0w,())):=by rw[←hf];exact e28'
   have step:∀(g:Nat) (out:List (List UInt8)) (l:List Slo) (k:Int),l.length≤4096→(∀s∈l,SloW s)→out.length≤100000 → -10≤k→k≤10 →
     (a0a (d0w (n+11) a0b (x,(out,(k,([],(l,((((List.length l):Nat):Int),((0:Int),())))))))) fun r0 =>
      b0m (fun y1 =>
      a0a (m0x (n+11) y1.2.2.2.1) fun r2 =>
      tif ((decide ((((List.length y1.2.1)+(List.length r2))*16)≤140737488355328))) (
      e0p (n+11) g (y1.1,((y1.2.1++r2),((IntKind.wrap .i64 (y1.2.2.1+(1:Int))),())))) (
      none)) (fun z3 =>
      some (.inr z3)) r0)=e0p (n+11) g (x,out++cutB 4 b0w l,k+1,()):=fun g out l k hl hlw ho k1 k2=>by
    have:=hch 4 b0w l (by omega) hl;rw[e28' out k l hl hlw,obs,a0r];dsimp only;rw[cs l hl,obs,tfd,if_pos (by omega),w64 (by omega) (by omega)]
   rw[hf,i0c,tfd,if_pos (by omega),tfd,if_pos rfl,step (f+3) _ x.2.2.2.1.1 0 ht.1 tw1 (by simp;omega) (by omega) (by omega),
    i0c,tfd,if_pos (by omega),tfd,if_neg (by omega),tfd,if_pos (by omega),step (f+2) _ x.2.2.2.1.2.1 (0+1) ht.2.1 tw2 (by simp;omega) (by omega) (by omega),
    i0c,tfd,if_pos (by omega),tfd,if_neg (by omega),tfd,if_neg (by omega),tfd,if_pos (by omega),step (f+1) _ x.2.2.2.1.2.2 (0+1+1) ht.2.2 tw3 (by simp;omega) (by omega) (by omega),
    i0c,tfd,if_neg (by omega)]
   simp
  rw[hl24,obs,a0r];unfold e0g;rw[if_neg h0]
 ·rw[if_neg hs,if_neg (by rintro (k | k);exact h0 k;exact hs k)];rfl
theorem e2i (n:Nat) {c:Conf} (x:Ser) (hc:¬OkC c):p0m (n+12) c x=some ([],2):=by
 rw[b1z,c1b (n+8) hc,obs];rfl
theorem k1g (n:Nat) {s:Sta} (hw:StaW s):x0x (n+15) s=some (if StaOk s then (i0u s,0) else ([],2)):=by
 rw[q1i,e2u (n+5) hw,obs];by_cases h:StaOk s
 ·have hc:=h.whole.1;have hb:=q0k s.1;have hk:=h.clock;have b8:=fun v=>f0r v
  have hsw:IntKind.wrap .i64 (s.2.2.1+1)=s.2.2.1+1:=by
   obtain ⟨_,k,_⟩:=hk;rcases k with k | ⟨k1,k2⟩
   ·rw[k];decide
   ·exact w64 (by omega) (by omega)
  rw[if_pos h,if_pos h,decide_eq_true (rfl:(0:Int)=0),Bool.not_true,tff,q1w (n+10) hc,obs,tfd,if_pos (by omega),f0y (n+12),obs,tfd,if_pos (by simp[hb,b8]),hsw,f0y (n+12),obs,tfd,if_pos (by simp[hb,b8])]
  change a0a (q0y (n+14) (z0a++toB (bts s.1)++n8B s.2.1++n8B (s.2.2.1+1)) 512) _=_
  have e:z0a++toB (bts s.1)++n8B s.2.1++n8B (s.2.2.1+1)=x0e s:=by unfold x0e;simp only[List.append_assoc]
  rw[e,show ((512:Int))=((512:Nat):Int) from rfl,u0l (n+12) _ 512 (by rw[z0w];omega) (by omega),obs];rfl
 ·rw[if_neg h,if_neg h];rfl
theorem rall_l6 (n:Nat) {s:Sta} (hw:StaW s) (hs:StaOk s):∀(rest pre:List Ser) (f:Nat) (out:List (List UInt8)) (i:Int),s.2.2.2=pre++rest→i=pre.length→out.length≤100000*pre.length+1 →
  u0o (n+12) (f+rest.length+1) (s,out,s.2.2.2,(s.2.2.2.length:Int),i,())=some (.inl (out++rest.flatMap (e0g s.1),())):=by
 have hL:=hs.whole.len;intro rest;induction rest with
 | nil =>
  intro pre f out i h hi ho;rw[y0a];simp only[tfd,if_neg (idxe h hi rfl)];simp
 | cons a rest ih =>
  intro pre f out i h hi ho;have hlen:=congrArg List.length h;simp at hlen;have hia:s.2.2.2[pre.length]? = some a:=by rw[h];simp
  have hr:=s0t (hs.right pre.length a hia);obtain ⟨w1,w2⟩:=hw.at hia;have hpl:=a1n hs.whole.1 hr;rw[show f+(a::rest).length+1=(f+rest.length+1)+1 by simp;omega,y0a];simp only[tfd,if_pos (idx h hi rfl)];rw[b0s h hi,obs,q1c n hs.whole.1 w1 w2,if_pos hr,obs,decide_eq_true (rfl:(0:Int)=0),Bool.not_true,tff];dsimp only;rw[if_pos (by omega),w64 (x:=i+1) (by omega) (by omega)];rw[ih (pre++[a]) f _ (i+1) (idxl h) (idxs hi) (by simp;omega)];simp
theorem rall_val (n:Nat) {s:Sta} (hw:StaW s):v1e (n+16) s=some (if StaOk s then (allB s,0) else ([],2)):=by
 rw[a2w,k1g n hw,obs];by_cases h:StaOk s
 ·have hL:=h.whole.len;rw[if_pos h,if_pos h,decide_eq_true (rfl:(0:Int)=0),Bool.not_true,tff];have:=rall_l6 (n+3) hw h s.2.2.2 [] (a0b-s.2.2.2.length-1) [i0u s] 0 rfl rfl (by simp);rw[←lfu (by omega)] at this;rw[this,obs,a0r];rfl
 ·rw[if_neg h,if_neg h];rfl
theorem rsame_l (n:Nat) (a b:List (List UInt8)) (hL:a.length≤9223372036854775807):∀(ra rb pa pb:List (List UInt8)) (f:Nat) (i:Int),a=pa++ra→b=pb++rb→pa.length=pb.length→ra.length=rb.length→i=pa.length→ra.length<f →
  r0b n f (a,b,(a.length:Int),i,())=some (if ra=rb then .inl () else .inr false):=by
 intro ra;induction ra with
 | nil =>
  intro rb pa pb f i ha hb hp hr hi hf;obtain ⟨f,rfl⟩:=n0o hf;have:rb=[]:=List.eq_nil_of_length_eq_zero (by simpa using hr.symm);subst this;rw[v0n,decide_eq_false (idxe ha hi rfl),tff,if_pos rfl]
 | cons x ra ih =>
  intro rb pa pb f i ha hb hp hr hi hf;obtain ⟨f,rfl⟩:=n0o hf;cases rb with
  | nil=>simp at hr
  | cons y rb =>
   have hlen:=congrArg List.length ha;simp at hlen;rw[v0n,decide_eq_true (idx ha hi rfl),tft,b0s ha hi,obs,b0s hb (by omega),obs];by_cases hxy:x=y
   ·subst hxy;rw[beq_self_eq_true,Bool.not_true,tff,w64 (by omega) (by omega),ih rb (pa++[x]) (pb++[x]) f (i+1) (idxl ha) (idxl hb) (by simp;omega) (by simpa using hr) (idxs hi) (by simp at hf;omega)];simp
   ·rw[show (x==y)=false from beq_false_of_ne hxy,Bool.not_false,tft,if_neg (fun h=>hxy (List.cons.inj h).1)]
theorem q1b (n:Nat) (a b:List (List UInt8)) (hL:a.length≤1000000000000):d1g (n+1) a b=some (decide (a=b)):=by
 rw[v1d];by_cases h:a.length=b.length
 ·rw[decide_eq_true (show ((a.length:Nat):Int)=(b.length:Nat) by omega),Bool.not_true,tff,rsame_l n a b (by omega) a b [] [] a0b 0 rfl rfl rfl h rfl (by unfold a0b;omega),obs];by_cases he:a=b
  ·rw[if_pos he,decide_eq_true he];rfl
  ·rw[if_neg he,decide_eq_false he];rfl
 ·rw[decide_eq_false (show ¬((a.length:Nat):Int)=(b.length:Nat) by omega),Bool.not_false,tft,decide_eq_false (fun e=>h (by rw[e]))]
theorem c1m {α:Type} {m f:Nat} (hm:1≤m) {xs:List α} (h:xs.length≤f):c0k f m xs=c0k xs.length m xs :=
 List.ext_getElem? fun k=>by rw[d0r hm f xs h,d0r hm _ xs (Nat.le_refl _)]
theorem cutB_nil {α:Type} (m:Nat) (f:α→List UInt8):cutB m f []=[]:=rfl
theorem i2f {α:Type} {m:Nat} (hm:1≤m) (f:α→List UInt8) {l:List α} (h:l≠[]):cutB m f l=padB ((l.take m).flatMap f) 512::cutB m f (l.drop m):=by
 cases l with
 | nil=>exact absurd rfl h
 | cons x t =>
  unfold cutB;show List.map _ (c0k (t.length+1) m (x::t))=_;rw[u0a,List.map_cons,c1m hm (by simp;omega)]
theorem t1n {α:Type} {m:Nat} (hm:1≤m) (xs:List α):(c0k xs.length m xs).length=(xs.length+m-1) / m:=by
 obtain ⟨c,hc⟩:∃c,c=(c0k xs.length m xs).length:=⟨_,rfl⟩;have h1:=(m0i hm xs c);rw[hc] at h1;have h2:¬(c0k xs.length m xs).length*m<xs.length:=fun h=>Nat.lt_irrefl _ (h1.2 h)
 rw[←hc] at h2 ⊢;symm;apply Nat.div_eq_of_lt_le
 ·cases c with
  | zero=>omega
  | succ k =>
   have h3:=(m0i hm xs k).1 (by rw[←hc];omega);rw[Nat.add_mul];omega
 ·rw[Nat.succ_mul];omega
theorem h0a {α:Type} {m:Nat} (hm:1≤m) (f:α→List UInt8) (l:List α):(cutB m f l).length=(l.length+m-1) / m:=by rw[d1p,t1n hm]
theorem t1j {α:Type} {m w:Nat} (hm:1≤m) (hmw:m*w=512) {f:α→List UInt8}:∀(k:Nat) (l:List α),l.length≤k→(∀x∈l,(f x).length=w)→∃z,(cutB m f l).flatten=l.flatMap f++z:=by
 intro k;induction k with
 | zero =>
  intro l h _;have:l=[]:=List.eq_nil_of_length_eq_zero (by omega);subst this;exact ⟨[],rfl⟩
 | succ k ih =>
  intro l h hf;by_cases hl:l=[]
  ·subst hl;exact ⟨[],rfl⟩
  ·have hpos:=List.length_pos_iff.2 hl;rw[i2f hm f hl,List.flatten_cons];obtain ⟨z,hz⟩:=ih (l.drop m) (by rw[List.length_drop];omega) fun x hx=>hf x (List.mem_of_mem_drop hx)
   by_cases hc:m≤l.length
   ·have hlen:((l.take m).flatMap f).length=512:=by
     rw[o0m _ fun x hx=>hf x (List.mem_of_mem_take hx),List.length_take,Nat.min_eq_left hc,hmw]
    refine ⟨z,?_⟩;rw[hz];have e:padB ((l.take m).flatMap f) 512=(l.take m).flatMap f:=by unfold padB;rw[hlen];simp
    rw[e,←List.append_assoc,←List.flatMap_append,List.take_append_drop]
   ·have e1:l.take m=l:=List.take_of_length_le (by omega);have e2:l.drop m=[]:=List.drop_of_length_le (by omega);rw[e1,e2,cutB_nil,List.flatten_nil,List.append_nil];exact ⟨_,rfl⟩
theorem o0o {α:Type} {m w:Nat} (hm:1≤m) (hmw:m*w=512) {f:α→List UInt8} {l:List α} (hf:∀x∈l,(f x).length=w):∀s∈cutB m f l,s.length=512:=by
 intro s hs;unfold cutB at hs;obtain ⟨p,hp,rfl⟩:=List.mem_map.1 hs;obtain ⟨h1,h2⟩:=g1x hm hp;rw[l0v,o0m _ fun x hx=>hf x (h2 x hx)];have:p.length*w≤m*w:=Nat.mul_le_mul_right w h1;omega
theorem h2h {α:Type} {w:Nat} {f:α→List UInt8} {l:List α} {j:Nat} {x:α} (hf:∀y∈l,(f y).length=w) (hx:l[j]? = some x) (z:List UInt8):∃t,(l.flatMap f++z).drop (j*w)=f x++t:=by
 have hj:=(List.getElem?_eq_some_iff.1 hx).1;have hlen:=o0m l hf;have hle:j*w≤(l.flatMap f).length:=by rw[hlen];exact Nat.mul_le_mul_right w (Nat.le_of_lt hj)
 rw[List.drop_append_of_le_length hle,g1l j l hf];have:l.drop j=x::l.drop (j+1):=by
  rw[List.drop_eq_getElem_cons hj];congr 1;rw[List.getElem?_eq_getElem hj] at hx;injection hx
 rw[this,List.flatMap_cons,List.append_assoc];exact ⟨_,rfl⟩
theorem g2c {a d r:Nat} (hr:0<r) (h1:0<d) (h2:d<r):a % r≠(a+d) % r:=by
 intro h;have h3:(a+d) % r=(a % r+d) % r:=by rw[Nat.mod_add_mod]
 have h4:=Nat.mod_lt a hr;rw[h3] at h;rcases Nat.lt_or_ge (a % r+d) r with k | k
 ·rw[Nat.mod_eq_of_lt k] at h;omega
 ·rw[Nat.mod_eq_sub_mod k,Nat.mod_eq_of_lt (a:=a % r+d-r) (b:=r) (by omega)] at h;omega
theorem k1d (lost room:Nat):∀(L:List Ev) (k:Nat) (out:List Ev) (p:Nat),(∀j,j<L.length→(lost+(k+j)) % room≠p)→(r0x lost room k L out)[p]? = out[p]?
 | [],k,out,p,_=>rfl
 | e::L,k,out,p,h=>by
  have h0:=h 0 (by simp);rw[Nat.add_zero] at h0;rw[r0x,k1d lost room L (k+1) _ p fun j hj=>by have:=h (j+1) (by simp;omega);rwa [show k+(j+1)=k+1+j by omega] at this];rw[List.getElem?_set_ne h0]
theorem k1c (lost room:Nat) (hr:0<room):∀(L:List Ev) (k:Nat) (out:List Ev) (i:Nat) (x:Ev),L.length≤room→out.length=room→L[i]? = some x→(r0x lost room k L out)[(lost+(k+i)) % room]? = some x
 | [],k,out,i,x,_,_,h=>by simp at h
 | e::L,k,out,0,x,hL,ho,h=>by
  simp at h;subst h;have hlt:=Nat.mod_lt (lost+k) hr;show (r0x lost room (k+1) L (out.set ((lost+k) % room) e))[(lost+k) % room]? = some e;rw[k1d lost room L (k+1) _ _ fun j hj => ?_]
  ·rw[List.getElem?_set_self (by omega)]
  ·have:=g2c (a:=lost+k) hr (show 0<1+j by omega) (by simp at hL;omega);rw[show lost+(k+1+j)=lost+k+(1+j) by omega];exact fun q=>this q.symm
 | e::L,k,out,i+1,x,hL,ho,h=>by
  rw[r0x,show k+(i+1)=k+1+i by omega];exact k1c lost room hr L (k+1) _ i x (by simp at hL;omega) (by simpa using ho) (by simpa using h)
theorem e2m {r:Rw} {room:Int} (h:RawOk r room) {i:Nat} {x:Ev} (hx:r.2.2[i]? = some x):(e0x r room)[(r.1.toNat+i) % room.toNat]? = some x:=by
 have h1:=h.m0;have h2:=h.len;have:=k1c r.1.toNat room.toNat (by omega) r.2.2 0 (List.replicate room.toNat e0) i x (by omega) (by simp) hx
 rwa [Nat.zero_add] at this
abbrev Rdr:=List UInt8×Bool
def rdI (st:Rdr):Int×Rdr:=(IntKind.wrap .i64 (rd st 8).1,(rd st 8).2)
def evR (st:Rdr):Ev×Rdr :=
 let a:=rdI st
 let b:=rd a.2 8
 let c:=rdI b.2
 let d:=rd c.2 1
 ((a.1,(b.1,(c.1,decide (d.1=1)))),d.2)
def slR (st:Rdr):Slo×Rdr :=
 let a:=rdI st
 let b:=rdI a.2
 let f:=evR b.2
 let l:=evR f.2
 let h:=rd l.2 8
 let i:=rd h.2 8
 let r:=rdI i.2
 let g:=rdI r.2
 let s:=rdI g.2
 ((a.1,(b.1,(f.1,(l.1,((h.1,i.1),(r.1,(g.1,s.1))))))),s.2)
theorem q0x (n:Nat) (st:Rdr):g0n (n+4) st=some (evR st):=by
 rw[z0h,a0t n st 8 8 rfl (by omega) (by omega),obs,a0t n _ 8 8 rfl (by omega) (by omega),obs,a0t n _ 8 8 rfl (by omega) (by omega),obs,a0t n _ 1 1 rfl (by omega) (by omega),obs];rfl
theorem b1y (n:Nat) (s:List UInt8):k0l (n+5) s=some (slR (s,false)).1:=by
 rw[a1y,e0u,obs,a0t (n+1) _ 8 8 rfl (by omega) (by omega),obs,a0t (n+1) _ 8 8 rfl (by omega) (by omega),obs,q0x n,obs,q0x n,obs,
  a0t (n+1) _ 8 8 rfl (by omega) (by omega),obs,a0t (n+1) _ 8 8 rfl (by omega) (by omega),obs,a0t (n+1) _ 8 8 rfl (by omega) (by omega),obs,a0t (n+1) _ 8 8 rfl (by omega) (by omega),obs,a0t (n+1) _ 8 8 rfl (by omega) (by omega),obs]
 rfl
theorem rd_n8 (v:Int) (t:List UInt8):rd (n8B v++t,false) 8=(IntKind.wrap .u64 v,(t,false)):=by
 unfold n8B n8I;rw[a1i 8];have h:=IntKind.wrap_u64 v;have:(256:Int)^8=18446744073709551616:=rfl;rw[this,Int.emod_eq_of_lt (by omega) (by omega)]
theorem e1x {v:Int} (h:I64 v) (t:List UInt8):rdI (n8B v++t,false)=(v,(t,false)):=by
 unfold rdI;rw[rd_n8];have h1:=IntKind.wrap_u64 v;have h2:=IntKind.wrap_i64 (IntKind.wrap .u64 v);have h3:=h.1;have h4:=h.2;have:IntKind.wrap .i64 (IntKind.wrap .u64 v)=v:=by omega
 rw[this]
theorem rd_u8 {v:Int} (h0:0≤v) (h1:v≤18446744073709551615) (t:List UInt8):rd (n8B v++t,false) 8=(v,(t,false)):=by rw[rd_n8,wu64 (by omega) (by omega)]
theorem rd_b1 (b:Bool) (t:List UInt8):rd (toB [if b=true then (1:Int) else 0]++t,false) 1=((if b=true then 1 else 0),(t,false)):=by
 have:=a1i 1 (if b=true then (1:Int) else 0) t;have e:beI 1 (if b=true then (1:Int) else 0)=[if b=true then (1:Int) else 0]:=by cases b<;>rfl
 rw[e] at this;rw[this];cases b<;>rfl
theorem n1y {e:Ev} (h:EvW e) (t:List UInt8):evR (n0x e++t,false)=(e,(t,false)):=by
 have es:n0x e++t=n8B e.1++(n8B e.2.1++(n8B e.2.2.1++(toB [if e.2.2.2=true then (1:Int) else 0]++t))):=by
  unfold n0x s0s n8B;simp only[s0n,List.append_assoc]
 unfold evR;rw[es,e1x h.t];dsimp only;rw[rd_u8 h.v.1 h.v.2];dsimp only;rw[e1x h.c];dsimp only;rw[rd_b1];obtain ⟨a,b,c,d⟩:=e;cases d<;>rfl
theorem slR_good {s:Slo} (h:SloW s) (t:List UInt8):slR (toB (sloI s)++t,false)=(s,(t,false)):=by
 have es:toB (sloI s)++t=n8B s.1++(n8B s.2.1++(n0x s.2.2.1++(n0x s.2.2.2.1++(n8B s.2.2.2.2.1.1++(n8B s.2.2.2.2.1.2++(n8B s.2.2.2.2.2.1++(n8B s.2.2.2.2.2.2.1++(n8B s.2.2.2.2.2.2.2++t)))))))):=by
  unfold sloI n8B n0x;simp only[s0n,List.append_assoc]
 have hw:=h.c.w;unfold slR;rw[es,e1x h.i];dsimp only;rw[e1x h.c.n];dsimp only;rw[n1y h.c.f];dsimp only;rw[n1y h.c.l];dsimp only;rw[rd_u8 hw.1.1 hw.1.2];dsimp only;rw[rd_u8 hw.2.1 hw.2.2];dsimp only;rw[e1x h.c.r];dsimp only;rw[e1x h.c.g];dsimp only;rw[e1x h.c.s]
theorem h2o {e:Ev} (h:EvW e) (t:List UInt8):(evR (c0y e++t,false)).1=e:=by
 have:c0y e++t=n0x e++(List.replicate (32-(n0x e).length) 0++t):=by unfold c0y padB;simp
 rw[this,n1y h]
theorem x1v {s:Slo} (h:SloW s) (t:List UInt8):(slR (b0w s++t,false)).1=s:=by
 have:b0w s++t=toB (sloI s)++(List.replicate (128-(toB (sloI s)).length) 0++t):=by unfold b0w padB;simp
 rw[this,slR_good h]
theorem rd8_w (st:Rdr):0≤(rd st 8).1∧(rd st 8).1≤18446744073709551615:=by
 have:=x1z st 8;have e:(256:Int)^8=18446744073709551616:=rfl;rw[e] at this;omega
theorem i64_w (x:Int):I64 (IntKind.wrap .i64 x):=by
 unfold I64;rw[IntKind.wrap_i64];omega
theorem u1y (st:Rdr):I64 (rdI st).1:=i64_w _
theorem evR_w (st:Rdr):EvW (evR st).1:=⟨u1y _,rd8_w _,u1y _⟩
theorem slR_w (st:Rdr):SloW (slR st).1:=⟨u1y _,⟨u1y _,evR_w _,evR_w _,⟨rd8_w _,rd8_w _⟩,u1y _,u1y _,u1y _⟩⟩
theorem join_l12 (n:Nat) (sep:List UInt8) (l:List (List UInt8)) (hl:l.length≤1000000) (hs:∀s∈l,s.length≤1000000):∀(rest pre:List (List UInt8)) (f:Nat) (k i:Int),l=pre++rest→i=pre.length→0≤k→k≤1000000*pre.length →
  ∃q,f0t n (f+rest.length+1) (l,sep,k,l,(l.length:Int),i,())=some (.inl (l,sep,q,()))∧0≤q∧q≤1000000000000:=by
 intro rest;induction rest with
 | nil =>
  intro pre f k i h hi h0 h1;have hlen:=congrArg List.length h;simp at hlen;rw[m0n];simp only[tfd,if_neg (idxe h hi rfl)];exact ⟨_,rfl,h0,by omega⟩
 | cons a rest ih =>
  intro pre f k i h hi h0 h1;have hlen:=congrArg List.length h;simp at hlen;have ha:=hs a (by rw[h];simp);rw[show f+(a::rest).length+1=(f+rest.length+1)+1 by simp;omega,m0n];simp only[tfd,if_pos (idx h hi rfl)];rw[b0s h hi,obs,w64 (x:=9223372036854775807-k) (by omega) (by omega),if_neg (by omega),w64 (x:=k+((a.length:Nat):Int)) (by omega) (by omega),w64 (x:=i+1) (by omega) (by omega)];exact ih (pre++[a]) f _ (i+1) (idxl h) (idxs hi) (by omega) (by simp;omega)
theorem join_l22 (n:Nat) (l:List (List UInt8)) (hl:l.length≤1000000) (hs:∀s∈l,s.length≤1000000):∀(rest pre:List (List UInt8)) (f:Nat) (b:List UInt8) (i:Int),l=pre++rest→i=pre.length→b.length≤1000000*(pre.length+1) →
  f0s (n+1) (f+rest.length+1) ([],b,l,(l.length:Int),i,())=some (.inl (b++rest.flatten,())):=by
 intro rest;induction rest with
 | nil =>
  intro pre f b i h hi hb;rw[m0m];simp only[tfd,if_neg (idxe h hi rfl)];simp
 | cons a rest ih =>
  intro pre f b i h hi hb;have hlen:=congrArg List.length h;simp at hlen;have ha:=hs a (by rw[h];simp);rw[show f+(a::rest).length+1=(f+rest.length+1)+1 by simp;omega,m0m];simp only[tfd,if_pos (idx h hi rfl)];rw[b0s h hi,obs,wst n b [] (by simp;omega),obs];dsimp only;rw[List.append_nil,wst n b a (by omega),obs];dsimp only;rw[w64 (x:=i+1) (by omega) (by omega),ih (pre++[a]) f _ (i+1) (idxl h) (idxs hi) (by simp;omega)];simp
theorem join_val (n:Nat) (l:List (List UInt8)) (hl:l.length≤1000000) (hs:∀s∈l,s.length≤1000000):strings_Join (n+2) l []=some l.flatten:=by
 rw[e1j]
 match l,hl,hs with
 | [],_,_=>rfl
 | [a],_,_ =>
  rw[tfd,if_neg (by simp),tfd,if_pos (by simp),show at? [a] (0:Int)=some a from rfl,obs];simp
 | a::b::t,hl,hs =>
  obtain ⟨L,hL⟩:∃L,L=a::b::t:=⟨_,rfl⟩;have h2:2≤L.length:=by rw[hL];simp
  rw[←hL] at hl hs ⊢;rw[tfd,if_neg (by omega),tfd,if_neg (by omega),tfd,if_neg (by simp)];obtain ⟨q,h3,h4,h5⟩:=join_l12 (n+1) [] L hl hs L [] (a0b-L.length-1) 0 0 rfl rfl (by omega) (by simp);rw[←lfu (by omega)] at h3;rw[h3,obs,a0r];dsimp only;have hg:b0z (n+1) [] q=some []:=by
   rw[i0v,s1s];rw[show (decide (([]:List UInt8).length=0)&&(decide ((0:Int)≤q)&&decide (q≤70368744177664)))=true by
    rw[Bool.and_eq_true,Bool.and_eq_true,decide_eq_true_eq,decide_eq_true_eq,decide_eq_true_eq]
    exact ⟨rfl,by omega,by omega⟩,tft]
  have ha:=hs a (by rw[hL];simp);have hat:at? L (0:Int)=some a:=by rw[hL];rfl
  rw[hg,obs,hat,obs,wst n [] a (by simp;omega),obs,tfd,if_pos (by omega)];dsimp only;have hd:List.drop 1 (List.take L.length L)=b::t:=by rw[List.take_length,hL];rfl
  have e22:=join_l22 n (b::t) (by rw[hL] at hl;simp at hl ⊢;omega) (fun s hsm=>hs s (by rw[hL];exact List.mem_cons_of_mem _ hsm)) (b::t) [] (a0b-(b::t).length-1) a 0 rfl rfl (by simp;omega);rw[←lfu (by rw[hL] at hl;simp at hl ⊢;omega)] at e22;rw[hd,List.nil_append,e22,obs,a0r];dsimp only;rw[c0j,obs,hL];simp
def nsec (k m:Nat):Nat:=(k+m-1) / m
theorem d1b (n:Nat) (c:Conf) (left:List (List UInt8)) (k m:Nat) (hm:1≤m) (hm':m≤1000) (hk:k≤100000) (hl:left.length≤1000000) (hs:∀s∈left,s.length≤1000000) :
  c0l (n+3) (c,left) (k:Int) (m:Int)=some ((left.take (nsec k m)).flatten,(c,left.drop (nsec k m))):=by
 have hq:nsec k m≤k+m:=by unfold nsec;exact Nat.le_trans (Nat.div_le_self _ _) (by omega)
 have e1:IntKind.wrap .i64 (Int.tdiv (IntKind.wrap .i64 (IntKind.wrap .i64 ((k:Int)+(m:Int))-1)) (m:Int))=((nsec k m:Nat):Int):=by
  rw[w64 (x:=(k:Int)+(m:Int)) (by omega) (by omega),w64 (x:=(k:Int)+(m:Int)-1) (by omega) (by omega),Int.tdiv_eq_ediv_of_nonneg (by omega)];have:((k:Int)+(m:Int)-1) / (m:Int)=((nsec k m:Nat):Int):=by
   unfold nsec;rw[Int.natCast_ediv];congr 1;omega
  rw[this,w64 (by omega) (by omega)]
 have e2:(if ((left.length:Nat):Int)<((nsec k m:Nat):Int) then ((left.length:Nat):Int) else ((nsec k m:Nat):Int))=((min (nsec k m) left.length:Nat):Int):=by split<;>omega
 have ht:left.take (min (nsec k m) left.length)=left.take (nsec k m):=by
  rcases Nat.le_total (nsec k m) left.length with h | h
  ·rw[Nat.min_eq_left h]
  ·rw[Nat.min_eq_right h,List.take_of_length_le (Nat.le_refl _),List.take_of_length_le h]
 have hd:left.drop (min (nsec k m) left.length)=left.drop (nsec k m):=by
  rcases Nat.le_total (nsec k m) left.length with h | h
  ·rw[Nat.min_eq_left h]
  ·rw[Nat.min_eq_right h,List.drop_of_length_le (Nat.le_refl _),List.drop_of_length_le h]
 rw[w0k];dsimp only;rw[e1,e2,tfd,if_neg (by omega),Int.toNat_natCast];have c1:(decide ((0:Int)≤((min (nsec k m) left.length:Nat):Int))&&decide (((min (nsec k m) left.length:Nat):Int)≤((left.length:Nat):Int)))=true:=by
  rw[Bool.and_eq_true,decide_eq_true_eq,decide_eq_true_eq];omega
 rw[c1,tft,List.drop_zero,ht,join_val n _ (by rw[List.length_take];omega) (fun s hsm=>hs s (List.mem_of_mem_take hsm)),obs,tfd,if_pos (by omega),tfd,if_pos (by omega),List.take_length,hd]
theorem byte_one:∀c:Fin 128,andI .u8 (c.val:Int) 128=0∧orI .u64 0 (shlI .u64 (IntKind.wrap .u64 (n0t .u8 (c.val:Int) 128)) 0)=(c.val:Int):=by decide +kernel
def UOut (r:Rdr) (o:Option ((Rdr×Unit) ⊕ (Int×Rdr))):Prop:=o=some (.inl (r,()))∨∃v k,o=some (.inr (v,(r.1.drop k,r.2)))
theorem uout_l (r:Rdr):UOut r (some (.inl (r,()))) := .inl rfl
theorem uout_r (r:Rdr) (v:Int) (k:Nat):UOut r (some (.inr (v,(r.1.drop k,r.2)))) := .inr ⟨v,k,rfl⟩
theorem uint_l3 (n:Nat) (r:Rdr) (m:Nat) (hm:m≤10) (hr:m≤r.1.length):∀(d f:Nat) (v i:Int),0≤i→i+d=m→UOut r (d0u n (f+d+1) (r,v,(m:Int),i,())):=by
 intro d;induction d with
 | zero =>
  intro f v i h0 hi;rw[c0t,tfd,if_neg (by omega)];exact .inl rfl
 | succ d ih =>
  intro f v i h0 hi;rw[show f+(d+1)+1=(f+d+1)+1 by omega,c0t,tfd,if_pos (by omega)];have hk:i.toNat<r.1.length:=by omega
  have hat:at? r.1 i=some r.1[i.toNat]:=by
   have:=j1j (l:=r.1) (i:=i.toNat) (x:=r.1[i.toNat]) (List.getElem?_eq_getElem hk)
   rwa [show ((i.toNat:Nat):Int)=i by omega] at this
  have c1:(0:Int)≤i+1:=by omega
  have c2:(i+1).toNat≤r.1.length:=by omega
  have c3:¬(7*i<0):=by omega
  rw[hat,obs];simp only[tfd,tfn,w64 (x:=7*i) (by omega) (by omega),w64 (x:=i+1) (by omega) (by omega),if_pos c1,if_pos c2,if_neg c3,List.take_length];have hrec:=fun v=>ih f v (i+1) c1 (by omega)
  repeat' split
  all_goals try (with_reducible exact hrec _)
  all_goals try (with_reducible exact uout_l r)
  all_goals exact uout_r r _ _
theorem u1e (k:Nat):(if (10:Int)<((k:Nat):Int) then (10:Int) else ((k:Nat):Int))=((min 10 k:Nat):Int):=by split<;>omega
theorem j1m (n:Nat) (r:Rdr):∃v t,d0f (n+2) r=some (v,t)∧t.1.length≤r.1.length:=by
 rw[h0s,u1e];have h:=uint_l3 (n+1) r (min 10 r.1.length) (by omega) (by omega) (min 10 r.1.length) (a0b-min 10 r.1.length-1) 0 0 (by omega) (by omega);rw[←lfu (by omega)] at h;rcases h with h | ⟨v,k,h⟩
 ·rw[h,obs,a0r];dsimp only;rw[c0w,obs];exact ⟨_,_,rfl,by simp⟩
 ·rw[h,obs,m0t];exact ⟨_,_,rfl,by simp⟩
theorem uint_one (n:Nat) {v:Nat} (h:v<128) (t:List UInt8):d0f (n+2) (UInt8.ofNat v::t,false)=some ((v:Int),(t,false)):=by
 obtain ⟨f,hf⟩:∃f,a0b=f+1:=⟨a0b-1,by unfold a0b;omega⟩;have hv:(UInt8.ofNat v).toNat=v:=by simp;omega
 obtain ⟨b1,b2⟩:=byte_one ⟨v,h⟩;dsimp only at b1 b2;rw[h0s,u1e,hf,c0t,tfd,if_pos (by simp;omega),show at? (UInt8.ofNat v::t) (0:Int)=some (UInt8.ofNat v) from rfl,obs];simp only[hv,b1];rw[show IntKind.wrap .i64 ((7:Int)*0)=0 by decide,show IntKind.wrap .i64 ((0:Int)+1)=1 by decide];simp only[b2];simp only[tfd,tfn];rw[if_neg (by omega),if_neg (by omega),if_pos trivial]
 have e:(if (v:Int)=0 then (if (0:Int)<0 then (some (.inl ((UInt8.ofNat v::t,false),())):Option ((Rdr×Unit) ⊕ (Int×Rdr))) else some (.inr ((v:Int),(t,false)))) else some (.inr ((v:Int),(t,false))))=some (.inr ((v:Int),(t,false))):=by
  rw[if_neg (show ¬(0:Int)<0 by omega)];split<;>rfl
 have c2:(1:Int).toNat≤(UInt8.ofNat v::t).length:=by simp
 simp only[if_pos (show (0:Int)≤1 by omega),if_pos c2,List.take_length]
 change a0a (if (v:Int)=0 then (if (0:Int)<0 then (some (.inl ((UInt8.ofNat v::t,false),())):Option ((Rdr×Unit) ⊕ (Int×Rdr))) else some (.inr ((v:Int),(t,false)))) else some (.inr ((v:Int),(t,false)))) _=_
 rw[e];rfl
theorem uint_128 (n:Nat) (t:List UInt8):d0f (n+2) (128::1::t,false)=some (128,(t,false)):=by
 obtain ⟨f,hf⟩:∃f,a0b=f+1+1:=⟨a0b-2,by unfold a0b;omega⟩;rw[h0s,u1e,hf,c0t,tfd,if_pos (by simp;omega),show at? ((128:UInt8)::1::t) (0:Int)=some (128:UInt8) from rfl,obs];rw[show IntKind.wrap .i64 ((7:Int)*0)=0 by decide,show IntKind.wrap .i64 ((0:Int)+1)=1 by decide];rw[tfd,if_neg (by omega),tfd,if_neg (by omega),tfn,tfd,if_neg (by decide),c0t,tfd,if_pos (by simp;omega),show at? ((128:UInt8)::1::t) (1:Int)=some (1:UInt8) from rfl,obs]
 rw[show IntKind.wrap .i64 ((7:Int)*1)=7 by decide,show IntKind.wrap .i64 ((1:Int)+1)=2 by decide];rw[tfd,if_neg (by omega),tfd,if_neg (by omega),tfn,tfd,if_pos (by decide),tfd,if_neg (by decide),tfd,if_pos (by omega),tfd,if_pos (by simp)];rw[show orI .u64 (orI .u64 0 (shlI .u64 (IntKind.wrap .u64 (n0t .u8 (((128:UInt8).toNat:Nat):Int) 128)) 0)) (shlI .u64 (IntKind.wrap .u64 (n0t .u8 (((1:UInt8).toNat:Nat):Int) 128)) 7)=128 by decide +kernel,List.take_length,obs,m0t];rfl
theorem p1e (n:Nat) {v:Nat} (h:v≤128) (t:List UInt8):d0f (n+2) (uvB v++t,false)=some ((v:Int),(t,false)):=by
 rcases Nat.lt_or_ge v 128 with k | k
 ·rw[p0e k];exact uint_one n k t
 ·obtain rfl:v=128:=by omega
  have e:uvB 128=[128,1]:=by rw[c1z (by omega),p0e (by omega)];rfl
  rw[e];exact uint_128 n t
theorem m1g (n:Nat) (s t:List UInt8) {k:Int} (h:k=s.length):d0q (n+1) (s++t,false) k=some (s,(t,false)):=by
 subst h;have e:(s.length:Int).toNat=s.length:=by omega
 rw[i0i,tff,tfd,if_neg (by omega),tfd,if_neg (by simp;omega)];rw[show (decide ((0:Int)≤(s.length:Int))&&decide ((s.length:Int)≤(((s++t).length:Nat):Int)))=true by rw[Bool.and_eq_true,decide_eq_true_eq,decide_eq_true_eq];simp;omega,tft,tfd,if_pos (by omega),tfd,if_pos (by simp),List.take_length,e,List.drop_left];simp
theorem e2r (n:Nat) (r:Rdr) (k:Int):∃s t,d0q (n+2) r k=some (s,t)∧t.1.length≤r.1.length∧s.length≤r.1.length∧(t.2=true→s=[])∧(t.2=false→(s.length:Int)=k):=by
 obtain ⟨l,b⟩:=r;rw[i0i];cases b with
 | true=>rw[tft,c0w,obs];exact ⟨_,_,rfl,by simp,by simp,fun _=>rfl,by simp⟩
 | false =>
  rw[tff,tfd];by_cases h0:k<0
  ·rw[if_pos h0,c0w,obs];exact ⟨_,_,rfl,by simp,by simp,fun _=>rfl,by simp⟩
  rw[if_neg h0,tfd];by_cases h1:(((l,false):Rdr).1.length:Int)<k
  ·rw[if_pos h1,c0w,obs];exact ⟨_,_,rfl,by simp,by simp,fun _=>rfl,by simp⟩
  dsimp only at h1 ⊢;rw[if_neg h1,show (decide ((0:Int)≤k)&&decide (k≤((l.length:Nat):Int)))=true by rw[Bool.and_eq_true,decide_eq_true_eq,decide_eq_true_eq];omega,tft,tfd,if_pos (by omega),tfd,if_pos (by omega)];refine ⟨_,_,rfl,by simp,by simp;omega,by simp,fun _ => ?_⟩;simp;omega
theorem j1q (n:Nat) (r:Rdr) (long:Int):∃s t,f0g (n+3) r long=some (s,t)∧t.1.length≤r.1.length∧s.length≤r.1.length:=by
 rw[l0r];obtain ⟨v,t,h,hl⟩:=j1m n r;rw[h,obs];simp only[tfd,c0w,obs];split
 ·exact ⟨_,_,rfl,by simp,by simp⟩
 split
 ·exact ⟨_,_,rfl,by simp,by simp⟩
 split
 ·exact ⟨_,_,rfl,by simp,by simp⟩
 obtain ⟨s,q,h1,h2,h3,_⟩:=e2r n t (IntKind.wrap .i64 v);rw[h1,obs];exact ⟨_,_,rfl,by omega,by omega⟩
theorem p1l (n:Nat) {s:List UInt8} {long:Int} (h:(s.length:Int)≤long) (hl:long≤128) (t:List UInt8) (ht:t.length≤1000000):f0g (n+3) (txB s++t,false) long=some (s,(t,false)):=by
 rw[l0r];unfold txB;rw[List.append_assoc,p1e n (by omega),obs];dsimp only;have e:(((s++t).length:Nat):Int)=(s.length:Int)+(t.length:Int):=by simp
 rw[tfd,if_neg (by omega),wu64 (x:=long) (by omega) (by omega),tfd,if_neg (by omega),e,wu64 (x:=(s.length:Int)+(t.length:Int)) (by omega) (by omega),tfd,if_neg (by omega),w64 (by omega) (by omega),m1g (n+1) s t rfl];rfl
def r1t (x:Lab):List UInt8:=txB x.1++txB x.2
theorem of_total (n:Nat):∀(d f:Nat) (r:Rdr) (out:List Lab) (v:Int),out.length+d=17→r.1.length≤1000000→(∀x∈out,x.1.length≤1000000∧x.2.length≤1000000) →
  ∃q l,n0e (n+4) (f+d+1) (r,out,v,())=some (.inl (q,(l,())))∧l.length≤17:=by
 intro d;induction d with
 | zero =>
  intro f r out v ho hr hx;rw[k0i,d0g,obs];simp only[tfd,tfn];rw[if_neg (show ¬((((out.length:Nat)):Int)≤16) by omega)];have:∀b:Bool,tif b (some (Sum.inl (r,out,()):(Rdr×List Lab×Unit) ⊕ (List Lab×Int))) (some (.inl (r,out,())))=some (.inl (r,out,())):=fun b=>by cases b<;>rfl
  rw[this];split<;>exact ⟨_,_,rfl,by omega⟩
 | succ d ih =>
  intro f r out v ho hr hx;rw[show f+(d+1)+1=(f+d+1)+1 by omega,k0i,d0g,obs,tfd];by_cases hv:0<v
  case neg=>rw[if_neg hv];exact ⟨_,_,rfl,by omega⟩
  rw[if_pos hv,tfn];obtain ⟨l,b⟩:=r;cases b with
  | true=>exact ⟨_,_,rfl,by omega⟩
  | false =>
   obtain ⟨s1,t1,h1,h2,h3⟩:=j1q (n+1) (l,false) 64;obtain ⟨s2,t2,k1,k2,k3⟩:=j1q (n+1) t1 128;dsimp only at hr h2 h3 ⊢;rw[tff,tfd,if_pos (by omega),h1,obs];dsimp only;rw[k1,obs,tfd,if_pos (by omega)];dsimp only;exact ih f t2 (out++[(s1,s2)]) _ (by simp;omega) (by omega) (fun x hxm=>by
    rcases List.mem_append.1 hxm with q | q
    ·exact hx x q
    ·rw[List.mem_singleton] at q;subst q;exact ⟨by dsimp only;omega,by dsimp only;omega⟩)
theorem i1o (n:Nat) (s:List UInt8) (h:s.length≤1000000):∃l e,z0c (n+8) s=some (l,e)∧l.length≤17:=by
 rw[g1b,e0u,obs];obtain ⟨v,t,h1,h2⟩:=j1m (n+5) (s,false);dsimp only at h2;rw[h1,obs];dsimp only;obtain ⟨q,l,h3,h4⟩:=of_total (n+3) 17 (a0b-18) t [] v rfl (by omega) (by simp);rw[show a0b-18+17+1=a0b by unfold a0b;omega] at h3;rw[h3,obs,a0r,d0g,obs];dsimp only;cases q.2 with
 | true=>exact ⟨_,_,rfl,by simp⟩
 | false =>
  rw[tff,h0u,obs,tfd];split
  ·exact ⟨_,_,rfl,by simp⟩
  rw[r0l (n+1) l,obs,tfn,tfd];split
  ·exact ⟨_,_,rfl,h4⟩
  ·exact ⟨_,_,rfl,by simp⟩
theorem of_l4 (n:Nat) {l:List Lab} (hl:∀x∈l,x.1.length≤64∧x.2.length≤128):∀(rest pre:List Lab) (f:Nat),l=pre++rest→l.length≤16 →
  n0e (n+4) (f+rest.length+1) ((rest.flatMap r1t,false),pre,(rest.length:Int),())=some (.inl (([],false),(l,()))):=by
 intro rest;induction rest with
 | nil =>
  intro pre f h hn;rw[k0i,tfd,if_neg (by simp)];rw[h,List.append_nil];rfl
 | cons a rest ih =>
  intro pre f h hn;have hlen:=congrArg List.length h;simp at hlen;obtain ⟨a1,a2⟩:=hl a (by rw[h];simp);have hr:∀r:List Lab,(∀x∈r,x.1.length≤64∧x.2.length≤128)→(r.flatMap r1t).length≤200*r.length:=by
   intro r;induction r with
   | nil=>intro _;simp
   | cons y r ihr =>
    intro hy;obtain ⟨b1,b2⟩:=hy y List.mem_cons_self;have:=ihr fun x hx=>hy x (List.mem_cons_of_mem _ hx)
    have e1:=s0m (n:=y.1.length) (by omega);have e2:=e1c (n:=y.2.length) (by omega);rw[List.flatMap_cons,List.length_append,List.length_cons];have e3:(r1t y).length≤200:=by unfold r1t txB;simp only[List.length_append];omega
    omega
  have hq:=hr rest fun x hx=>hl x (by rw[h];simp[hx])
  have t2:(txB a.2).length≤1000:=by
   have:=e1c (n:=a.2.length) (by omega);unfold txB;rw[List.length_append];omega
  rw[show f+(a::rest).length+1=(f+rest.length+1)+1 by simp;omega,k0i,tfd,if_pos (by simp),d0g,obs,tfn,tff,tfd,if_pos (by omega)];have e:(a::rest).flatMap r1t=txB a.1++(txB a.2++rest.flatMap r1t):=by rw[List.flatMap_cons,r1t,List.append_assoc]
  rw[e,p1l (n+1) (by omega) (by omega) _ (by rw[List.length_append];omega),obs];dsimp only;rw[p1l (n+1) (by omega) (by omega) _ (by omega),obs,tfd,if_pos (by omega)];dsimp only;rw[show (((a::rest).length:Nat):Int)-1=((rest.length:Nat):Int) by simp,wu64 (by omega) (by omega),ih (pre++[(a.1,a.2)]) f (by rw[h];simp) hn]
theorem n1i (n:Nat) {l:List Lab} (h:LabOk l):z0c (n+8) (labB l)=some (l,0):=by
 have hn:=h.n1;have e:labB l=uvB l.length++l.flatMap r1t:=rfl;rw[g1b,e0u,obs,e,p1e (n+5) (by omega),obs];dsimp only;have h3:=of_l4 (n+3) (d1q l none h.c) l [] (a0b-l.length-1) rfl hn;rw[←lfu (by omega)] at h3;rw[h3,obs,a0r,d0g,obs];dsimp only;rw[tff,h0u,obs,tfd,if_neg (by simp),r0l (n+1) l,if_pos h,obs];rfl
def Secs (L:List (List UInt8)):Prop:=∀s∈L,s.length=512
theorem x1x:∀ {L:List (List UInt8)},Secs L→L.flatten.length=512*L.length
 | [],_=>rfl
 | s::L,h=>by
  have:=x1x (L:=L) fun x hx=>h x (List.mem_cons_of_mem _ hx)
  rw[List.flatten_cons,List.length_append,this,h s List.mem_cons_self,List.length_cons];omega
theorem Secs.take {L:List (List UInt8)} (h:Secs L) (k:Nat):Secs (L.take k):=fun s hs=>h s (List.mem_of_mem_take hs)
theorem Secs.drop {L:List (List UInt8)} (h:Secs L) (k:Nat):Secs (L.drop k):=fun s hs=>h s (List.mem_of_mem_drop hs)
theorem Secs.le {L:List (List UInt8)} (h:Secs L):∀s∈L,s.length≤1000000:=fun s hs=>by have:=h s hs;omega
def v0c (k m:Nat) (left:List (List UInt8)):List UInt8:=(left.take (nsec k m)).flatten
theorem y1o (k:Nat) {m:Nat} (hm:1≤m):k≤m*nsec k m:=by
 have h1:=Nat.div_add_mod (k+m-1) m;have h2:=Nat.mod_lt (k+m-1) hm;unfold nsec;omega
theorem s1m {k m:Nat} {left:List (List UInt8)} (h:Secs left) (hl:nsec k m≤left.length):(v0c k m left).length=512*nsec k m:=by
 unfold v0c;rw[x1x (h.take _),List.length_take,Nat.min_eq_left hl]
abbrev Plc:=Conf×List (List UInt8)
def evAt (all:List UInt8) (lost room i:Nat):Ev:=(evR (all.drop (32*((lost % room+i) % room)),false)).1
theorem raw_l6 (n:Nat) (p:Plc) (z:Rw) (all:List UInt8) (lost room many:Nat) (mark:Int) (hr:1≤room) (hr':room≤4096) (hm:many≤room) (hall:32*room≤all.length):∀(d f:Nat) (L:List Ev) (k:Nat),k+d=many→L.length=k →
  e0r (n+5) (f+d+1) (p,((lost:Int),(mark,L)),z,all,(room:Int),(many:Int),(k:Int),())=some (.inl (p,(((lost:Int),(mark,L++(List.range' k d).map (evAt all lost room))),(z,())))):=by
 intro d;induction d with
 | zero =>
  intro f L k hk hL;rw[k0y,tfd,if_neg (by omega)];simp
 | succ d ih =>
  intro f L k hk hL;have hq:(lost % room+k) % room<room:=Nat.mod_lt _ hr;have hq0:lost % room<room:=Nat.mod_lt _ hr;have e1:Int.tmod (lost:Int) (room:Int)=((lost % room:Nat):Int):=by rw[Int.tmod_eq_emod_of_nonneg (by omega),Int.natCast_emod]
  have e2:IntKind.wrap .i64 (((lost % room:Nat):Int)+(k:Int))=((lost % room+k:Nat):Int):=by rw[w64 (by omega) (by omega)];omega
  have e3:Int.tmod ((lost % room+k:Nat):Int) (room:Int)=(((lost % room+k) % room:Nat):Int):=by rw[Int.tmod_eq_emod_of_nonneg (by omega),Int.natCast_emod]
  have e4:IntKind.wrap .i64 ((32:Int)*(((lost % room+k) % room:Nat):Int))=((32*((lost % room+k) % room):Nat):Int):=by rw[w64 (by omega) (by omega)];omega
  have e5:IntKind.wrap .i64 ((k:Int)+1)=((k+1:Nat):Int):=by rw[w64 (by omega) (by omega)];omega
  rw[show f+(d+1)+1=(f+d+1)+1 by omega,k0y,tfd,if_pos (by omega),tfd,if_neg (by omega),tfd,if_neg (by omega)];simp only[e1,e2,e3,e4,e5];rw[tfd,if_pos (by omega),tfd,Int.toNat_natCast,if_pos (by omega),e0u,obs,List.take_length,q0x (n+1),obs,tfd,if_pos (by omega)];rw[ih f _ (k+1) (by omega) (by simp[hL]),List.range'_succ,List.map_cons,List.append_assoc];rfl
def rawV (c:Conf) (lost mark many:Int) (all:List UInt8):Rw :=
 if lost<0 then (lost,(mark,[])) else if c.1<many then (lost,(mark,[])) else (lost,(mark,(List.range many.toNat).map (evAt all lost.toNat c.1.toNat)))
theorem f2k (n:Nat) {c:Conf} (h1:1≤c.1) (h2:c.1≤4096) {left:List (List UInt8)} (hs:Secs left) (hl:nsec c.1.toNat 16≤left.length) (hl':left.length≤1000000) (lost mark many:Int) (hm:0≤many) :
  n0h (n+6) (c,left) (lost,(mark,[])) many=some (rawV c lost mark many (v0c c.1.toNat 16 left),(c,left.drop (nsec c.1.toNat 16))):=by
 have hc:c.1=((c.1.toNat:Nat):Int):=by omega
 have ht:=d1b (n+2) c left c.1.toNat 16 (by omega) (by omega) (by omega) hl' hs.le;rw[←hc] at ht;rw[z0i]
 change a0a (c0l (n+5) (c,left) c.1 ((16:Nat):Int)) _=_
 rw[ht,obs];dsimp only;unfold rawV;rw[tfd];by_cases k1:lost<0
 ·rw[if_pos k1,if_pos k1]
 rw[if_neg k1,if_neg k1,tfd];by_cases k2:c.1<many
 ·rw[if_pos k2,if_pos k2]
 rw[if_neg k2,if_neg k2];have hj:=s1m hs hl;have hn:=y1o c.1.toNat (m:=16) (by omega);have:=raw_l6 n (c,left.drop (nsec c.1.toNat 16)) ((0:Int),((0:Int),[])) (v0c c.1.toNat 16 left) lost.toNat c.1.toNat many.toNat mark (by omega) (by omega) (by omega) (by omega) many.toNat (a0b-many.toNat-1) [] 0 (by omega) rfl;rw[←lfu (by omega),←hc,show ((lost.toNat:Nat):Int)=lost by omega,show ((many.toNat:Nat):Int)=many by omega] at this
 change a0a (e0r (n+5) a0b ((c,left.drop (nsec c.1.toNat 16)),(lost,(mark,[])),((0:Int),((0:Int),[])),v0c c.1.toNat 16 left,c.1,many,((0:Nat):Int),())) _=_
 rw[this,obs,a0r,List.nil_append,List.range_eq_range']
def slAt (all:List UInt8) (i:Nat):Slo:=(slR (all.drop (128*i),false)).1
theorem tier_l4 (n:Nat) (p:Plc) (all:List UInt8) (N:Nat) (hN:N≤4096) (hall:128*N≤all.length):∀(d f:Nat) (pre:List Slo),pre.length+d=N →
  e0c (n+5) (f+d+1) (p,all,pre++List.replicate d s0,(N:Int),(pre.length:Int),())=some (.inl (p,(pre++(List.range' pre.length d).map (slAt all),()))):=by
 intro d;induction d with
 | zero =>
  intro f pre hk;rw[j0r,tfd,if_neg (by omega)];simp
 | succ d ih =>
  intro f pre hk;have e4:IntKind.wrap .i64 ((128:Int)*(pre.length:Int))=((128*pre.length:Nat):Int):=by rw[w64 (by omega) (by omega)];omega
  have e5:IntKind.wrap .i64 ((pre.length:Int)+1)=((pre.length+1:Nat):Int):=by rw[w64 (by omega) (by omega)];omega
  have hg:(pre++List.replicate (d+1) s0)[pre.length]? = some s0:=by rw[List.replicate_succ];simp
  rw[show f+(d+1)+1=(f+d+1)+1 by omega,j0r,tfd,if_pos (by omega)];simp only[e4,e5];rw[tfd,if_pos (by omega),tfd,Int.toNat_natCast,if_pos (by omega),List.take_length,b1y n,obs,j1j hg,obs,Int.toNat_natCast,hg,obs];have hset:(pre++List.replicate (d+1) s0).set pre.length (slR (all.drop (128*pre.length),false)).1=(pre++[slAt all pre.length])++List.replicate d s0:=by
   rw[List.replicate_succ];simp[slAt]
  rw[hset];have:=ih f (pre++[slAt all pre.length]) (by simp;omega);rw[show (pre++[slAt all pre.length]).length=pre.length+1 by simp] at this;rw[this,List.range'_succ,List.map_cons,List.append_assoc];rfl
theorem a1m (n:Nat) (c:Conf) {left:List (List UInt8)} (hs:Secs left) (hl':left.length≤1000000) {N:Int} (h0:0≤N) (h1:N≤4096) (hl:nsec N.toNat 4≤left.length) :
  f0x (n+6) (c,left) N=some ((List.range N.toNat).map (slAt (v0c N.toNat 4 left)),(c,left.drop (nsec N.toNat 4))):=by
 obtain ⟨k,rfl⟩:∃k:Nat,N=k:=⟨N.toNat,by omega⟩;rw[Int.toNat_natCast] at hl ⊢;have ht:=d1b (n+2) c left k 4 (by omega) (by omega) (by omega) hl' hs.le;rw[w0j]
 change a0a (c0l (n+5) (c,left) (k:Int) ((4:Nat):Int)) _=_
 rw[ht,obs];dsimp only;have hj:=s1m hs hl;have hn:=y1o k (m:=4) (by omega);have:=tier_l4 n (c,left.drop (nsec k 4)) (v0c k 4 left) k (by omega) (by omega) k (a0b-k-1) [] (by simp);rw[←lfu (by omega),List.nil_append,List.nil_append] at this;rw[show (decide ((0:Int)≤(k:Int))&&(decide ((k:Int)≤(k:Int))&&decide ((k:Int)*120≤(140737488355328:Int))))=true by
  rw[Bool.and_eq_true,Bool.and_eq_true,decide_eq_true_eq,decide_eq_true_eq,decide_eq_true_eq];omega,tft,Int.toNat_natCast,List.length_replicate]
 change a0a (e0c (n+5) a0b ((c,left.drop (nsec k 4)),v0c k 4 left,List.replicate k s0,(k:Int),(([]:List Slo).length:Int),())) _=_
 rw[this,obs,a0r,List.range_eq_range'];rfl
def e1f (N:Int) (left:List (List UInt8)):List Slo:=(List.range N.toNat).map (slAt (v0c N.toNat 4 left))
theorem a2q (n:Nat) {c:Conf} (hc:Rng c) (z:Ser) {left:List (List UInt8)} (hs:Secs left) (hl':left.length≤1000000)
  (hl:nsec c.2.2.1.1.toNat 4+nsec c.2.2.1.2.1.toNat 4+nsec c.2.2.1.2.2.toNat 4≤left.length) (a:List Lab) (b:Int) (r:Rw) (o:Slo) :
  ∃q,a0v (n+6) a0b ((c,left),z,(a,(b,(r,(([],([],[])),o)))),c.2.2.1,(0:Int),()) =
   some (.inl (q,(z,((a,(b,(r,((e1f c.2.2.1.1 left,(e1f c.2.2.1.2.1 (left.drop (nsec c.2.2.1.1.toNat 4)),e1f c.2.2.1.2.2 ((left.drop (nsec c.2.2.1.1.toNat 4)).drop (nsec c.2.2.1.2.1.toNat 4)))),o)))),())))):=by
 obtain ⟨f,hf⟩:∃f,a0b=f+1+1+1+1:=⟨a0b-4,by unfold a0b;omega⟩;have h0:=hc.n0;have h1:=hc.n1;have h2:=hc.n2;have t0:=a1m n c hs hl' (N:=c.2.2.1.1) (by omega) (by omega) (by omega);have t1:=a1m n c (hs.drop (nsec c.2.2.1.1.toNat 4)) (by rw[List.length_drop];omega) (N:=c.2.2.1.2.1) (by omega) (by omega) (by rw[List.length_drop];omega);have t2:=a1m n c ((hs.drop (nsec c.2.2.1.1.toNat 4)).drop (nsec c.2.2.1.2.1.toNat 4)) (by rw[List.length_drop,List.length_drop];omega) (N:=c.2.2.1.2.2) (by omega) (by omega) (by rw[List.length_drop,List.length_drop];omega)
 have e1:IntKind.wrap .i64 ((0:Int)+1)=1:=by decide
 have e2:IntKind.wrap .i64 ((1:Int)+1)=2:=by decide
 have e3:IntKind.wrap .i64 ((2:Int)+1)=3:=by decide
 rw[hf,d0i,tfd,if_pos (by omega),tfd,if_pos rfl,t0,obs,tfd,if_pos rfl,e1];dsimp only;rw[d0i,tfd,if_pos (by omega),tfd,if_neg (by omega),tfd,if_pos rfl,t1,obs,tfd,if_neg (by omega),tfd,if_pos rfl,e2];dsimp only;rw[d0i,tfd,if_pos (by omega),tfd,if_neg (by omega),tfd,if_neg (by omega),tfd,if_pos rfl,t2,obs,tfd,if_neg (by omega),tfd,if_neg (by omega),tfd,if_pos rfl,e3];dsimp only;rw[d0i,tfd,if_neg (by omega)];exact ⟨_,rfl⟩
def v2 (l:List UInt8):Int:=valI (d0a (l.take 2))
def v8 (l:List UInt8):Int:=valI (d0a (l.take 8))
theorem rd2 {l:List UInt8} (h:2≤l.length):rd (l,false) 2=(v2 l,(l.drop 2,false)):=by
 unfold rd;rw[if_neg (by rintro (k | k);cases k;exact absurd h (by dsimp only at k;omega))];rfl
theorem rd8 {l:List UInt8} (h:8≤l.length):rd (l,false) 8=(v8 l,(l.drop 8,false)):=by
 unfold rd;rw[if_neg (by rintro (k | k);cases k;exact absurd h (by dsimp only at k;omega))];rfl
theorem l1l {l:List UInt8} (h:2≤l.length):0≤v2 l∧v2 l≤65535:=by
 have:=x1z (l,false) 2;rw[rd2 h] at this;have e:(256:Int)^2=65536:=rfl;rw[e] at this;exact ⟨this.1,by have:=this.2;dsimp only at this;omega⟩
theorem v2_of {v:Int} (h0:0≤v) (h1:v≤65535) (t:List UInt8):v2 (toB (beI 2 v)++t)=v:=by
 have:=a1i 2 v t;rw[rd2 (by simp[c0i,b0l])] at this;have e:(256:Int)^2=65536:=rfl;rw[e] at this;have:=congrArg Prod.fst this;dsimp only at this;rw[this,Int.emod_eq_of_lt h0 (by omega)]
theorem d2g (v:Int) (t:List UInt8):v8 (n8B v++t)=IntKind.wrap .u64 v:=by
 have:=rd_n8 v t;rw[rd8 (by simp[f0r])] at this;exact congrArg Prod.fst this
theorem g1g {v:Int} (h:I64 v):IntKind.wrap .i64 (IntKind.wrap .u64 v)=v:=by
 have h1:=IntKind.wrap_u64 v;have h2:=IntKind.wrap_i64 (IntKind.wrap .u64 v);have h3:=h.1;have h4:=h.2;omega
def serV (c:Conf) (ls:List Lab) (h:List UInt8) (t:List (List UInt8)):Ser :=
 (ls,(IntKind.wrap .i64 (v8 (h.drop 322)),(rawV c (IntKind.wrap .i64 (v8 (h.drop 330))) (IntKind.wrap .i64 (v8 (h.drop 338))) (v2 (h.drop 346)) (v0c c.1.toNat 16 t),
  ((e1f c.2.2.1.1 (t.drop (nsec c.1.toNat 16)),(e1f c.2.2.1.2.1 ((t.drop (nsec c.1.toNat 16)).drop (nsec c.2.2.1.1.toNat 4)),e1f c.2.2.1.2.2 (((t.drop (nsec c.1.toNat 16)).drop (nsec c.2.2.1.1.toNat 4)).drop (nsec c.2.2.1.2.1.toNat 4)))),
   (slR ((h.drop 348).take 128,false)).1))))
def need (c:Conf):Nat:=nsec c.1.toNat 16+(nsec c.2.2.1.1.toNat 4+nsec c.2.2.1.2.1.toNat 4+nsec c.2.2.1.2.2.toNat 4)
theorem e1s (n:Nat) (c:Conf) {h:List UInt8} {t:List (List UInt8)} (hh:h.length=512) (ht:Secs t) (hl:t.length≤100000) (hv:v2 h=0∨320<v2 h) :
  d0p (n+9) (c,h::t)=some (ser0,(c,t)):=by
 have hr:=l1l (l:=h) (by omega);have hS:∀s∈h::t,s.length≤1000000:=fun s hs=>by
  rcases List.mem_cons.1 hs with rfl | hs
  ·omega
  ·exact ht.le s hs
 have htk:=d1b (n+5) c (h::t) 1 1 (by omega) (by omega) (by omega) (by simp;omega) hS;rw[show nsec 1 1=1 from rfl] at htk;rw[k0x]
 change a0a (c0l (n+8) (c,h::t) ((1:Nat):Int) ((1:Nat):Int)) _=_
 rw[htk,obs,e0u,obs];dsimp only;rw[show (List.take 1 (h::t)).flatten=h by simp,a0t (n+5) _ 2 2 rfl (by omega) (by omega),rd2 (by omega),obs];dsimp only;rw[w64 (by omega) (by omega),tfd];by_cases k:v2 h=0
 ·rw[if_pos k];rfl
 ·rw[if_neg k,tfd,if_pos (by omega)];rfl
theorem k1e (n:Nat) {c:Conf} (hc:Rng c) {h:List UInt8} {t:List (List UInt8)} (hh:h.length=512) (ht:Secs t) (hl:t.length≤100000) (hN:need c≤t.length) (h0:0<v2 h) (h1:v2 h≤320)
  {ls:List Lab} {e:Int} (hlab:z0c (n+8) ((h.drop 2).take (v2 h).toNat)=some (ls,e)) :
  ∃q,d0p (n+9) (c,h::t)=some (serV c ls h t,q):=by
 unfold need at hN;have hS:∀s∈h::t,s.length≤1000000:=fun s hs=>by
  rcases List.mem_cons.1 hs with rfl | hs
  ·omega
  ·exact ht.le s hs
 have htk:=d1b (n+5) c (h::t) 1 1 (by omega) (by omega) (by omega) (by simp;omega) hS;rw[show nsec 1 1=1 from rfl] at htk;rw[k0x]
 change ∃q,a0a (c0l (n+8) (c,h::t) ((1:Nat):Int) ((1:Nat):Int)) _=_
 rw[htk,obs,e0u,obs];dsimp only;rw[show (List.take 1 (h::t)).flatten=h by simp,a0t (n+5) _ 2 2 rfl (by omega) (by omega),rd2 (by omega),obs];dsimp only;rw[w64 (by omega) (by omega),tfd,if_neg (by omega),tfd,if_neg (by omega)];have e1:h.drop 2=(h.drop 2).take 320++h.drop 322:=by
  have:=(List.take_append_drop 320 (h.drop 2)).symm
  rwa [List.drop_drop,show 2+320=322 from rfl] at this
 have l1:((h.drop 2).take 320).length=320:=by rw[List.length_take,List.length_drop];omega
 have hraw:=m1g (n+7) ((h.drop 2).take 320) (h.drop 322) (k:=320) (by omega);rw[←e1] at hraw;rw[hraw,obs];dsimp only;rw[show (decide ((0:Int)≤v2 h)&&decide (v2 h≤((((h.drop 2).take 320).length:Nat):Int)))=true by rw[Bool.and_eq_true,decide_eq_true_eq,decide_eq_true_eq];omega,tft];rw[List.take_take,Nat.min_eq_left (by omega),List.drop_zero,hlab,obs];dsimp only;rw[a0t (n+5) _ 8 8 rfl (by omega) (by omega),rd8 (by rw[List.length_drop];omega),obs];dsimp only
 rw[List.drop_drop,show 322+8=330 from rfl,a0t (n+5) _ 8 8 rfl (by omega) (by omega),rd8 (by rw[List.length_drop];omega),obs];dsimp only;rw[List.drop_drop,show 330+8=338 from rfl,a0t (n+5) _ 8 8 rfl (by omega) (by omega),rd8 (by rw[List.length_drop];omega),obs];dsimp only;rw[List.drop_drop,show 338+8=346 from rfl,a0t (n+5) _ 2 2 rfl (by omega) (by omega),rd2 (by rw[List.length_drop];omega),obs];dsimp only;have hr2:=l1l (l:=h.drop 346) (by rw[List.length_drop];omega);have e2:h.drop 348=(h.drop 348).take 128++h.drop 476:=by
  have:=(List.take_append_drop 128 (h.drop 348)).symm
  rwa [List.drop_drop,show 348+128=476 from rfl] at this
 have hraw2:=m1g (n+7) ((h.drop 348).take 128) (h.drop 476) (k:=128) (by rw[List.length_take,List.length_drop];omega);rw[←e2] at hraw2;rw[List.drop_drop,show 346+2=348 from rfl,hraw2,obs];dsimp only;rw[b1y (n+3),obs,w64 (x:=v2 (h.drop 346)) (by omega) (by omega)];have hraw:=hc.raw;rw[show (List.drop 1 (h::t))=t from rfl,f2k (n+2) (by omega) (by omega) ht (by omega) (by omega) _ _ _ hr2.1,obs];dsimp only
 obtain ⟨q,hq⟩:=a2q (n+2) hc ser0 (ht.drop (nsec c.1.toNat 16)) (by rw[List.length_drop];omega) (by rw[List.length_drop];omega) ls (IntKind.wrap .i64 (v8 (h.drop 322))) (rawV c (IntKind.wrap .i64 (v8 (h.drop 330))) (IntKind.wrap .i64 (v8 (h.drop 338))) (v2 (h.drop 346)) (v0c c.1.toNat 16 t)) (slR ((h.drop 348).take 128,false)).1;refine ⟨q,?_⟩
 change a0a (a0v (n+2+6) a0b ((c,t.drop (nsec c.1.toNat 16)),ser0,(ls,(IntKind.wrap .i64 (v8 (h.drop 322)),(rawV c (IntKind.wrap .i64 (v8 (h.drop 330))) (IntKind.wrap .i64 (v8 (h.drop 338))) (v2 (h.drop 346)) (v0c c.1.toNat 16 t),(([],([],[])),(slR ((h.drop 348).take 128,false)).1)))),c.2.2.1,(0:Int),())) _=_
 rw[hq,obs,a0r];rfl
end Go.Proofs.YtagnkfbpgkckiaaGreat
namespace Go.Proofs.YtagnkfbpgkckiaaGreat
open Go.Flat Go.Plim
set_option linter.unusedVariables false
def x1k (c:Conf) (s:Trs) (o:Slo) (l:List Ev):Prop :=
 (l=[]∧o=s0∧∀t,FInv c s [] t)∨∃t,EndsAt l t∧FInv c s l t∧o=(t / c.2.1.1,cellOf (win c.2.1.1 l (t / c.2.1.1)))
theorem x1k.fold {c:Conf} {s:Trs} {o:Slo} {l:List Ev} (h:x1k c s o l):FoldOk c s:=by
 rcases h with ⟨_,_,h⟩ | ⟨t,_,h,_⟩
 ·exact (h 0).ok
 ·exact h.ok
def Turn (o:Slo) (i:Int):Prop:=0<o.2.1∧o.1≠i
end Go.Proofs.YtagnkfbpgkckiaaGreat
namespace Go.Proofs.YtagnkfbpgkckiaaGreat
open Go.Flat Go.Plim
set_option linter.unusedVariables false
set_option linter.unusedSimpArgs false
def rawOf (room:Int) (l:List Ev):Rw :=
 (if (l.length:Int)≤room then 0 else (l.length:Int)-room,(if (l.length:Int)≤room then 0 else ((l[l.length-room.toNat-1]?).getD e0).1,l.drop (l.length-room.toNat)))
structure SerInv (c:Conf) (s:Ser) (l:List Ev):Prop where
 lab:LabOk s.1
 len:l.length≤1000000
 raw:s.2.2.1=rawOf c.1 l
 opn:x1k c s.2.2.2.1 s.2.2.2.2 l
 last:(l=[]∧s.2.1 = -1)∨EndsAt l s.2.1
theorem SerInv.foll {c:Conf} {s:Ser} {l:List Ev} (h:SerInv c s l):Foll l:=by
 rcases h.last with ⟨rfl,_⟩ | h
 ·exact Foll.nil
 ·exact h.foll
theorem c1j {l:List Ev} {t:Int} (h:EndsAt l t):∃e,l.getLast? = some e∧e.1=t:=by
 obtain ⟨x,hx,hxt⟩:=h.last;rcases List.eq_nil_or_concat l with rfl | ⟨p,y,rfl⟩
 ·cases hx
 rw[List.concat_eq_append] at *
 have h1:=h.le y (by simp);refine ⟨y,by simp,?_⟩;rcases List.mem_append.1 hx with q | q
 ·have:=(r0o.1 h.foll).2.2 x q y (by simp);omega
 ·simp at q;rw[←q];exact hxt
theorem i2c {l:List Ev} {t u:Int} (h:EndsAt l t) (k:EndsAt l u):t=u:=by
 obtain ⟨e,h1,h2⟩:=c1j h;obtain ⟨e',k1,k2⟩:=c1j k;rw[h1] at k1;simp at k1;rw[←h2,←k2,k1]
theorem SerInv.at_ {c:Conf} {s:Ser} {l:List Ev} (h:SerInv c s l) (hl:l≠[]):EndsAt l s.2.1∧FInv c s.2.2.2.1 l s.2.1∧s.2.2.2.2=(s.2.1 / c.2.1.1,cellOf (win c.2.1.1 l (s.2.1 / c.2.1.1))):=by
 have he:=h.last.resolve_left fun k=>hl k.1
 rcases h.opn with k | ⟨t,k1,k2,k3⟩
 ·exact absurd k.1 hl
 ·have:=i2c he k1;subst this;exact ⟨he,k2,k3⟩
end Go.Proofs.YtagnkfbpgkckiaaGreat
namespace Go.Proofs.YtagnkfbpgkckiaaGreat
open Go.Flat
set_option linter.unusedVariables false
set_option linter.unusedSimpArgs false
end Go.Proofs.YtagnkfbpgkckiaaGreat
namespace Go.Proofs.YtagnkfbpgkckiaaGreat
open Go.Flat Go.Plim
set_option linter.unusedVariables false
set_option linter.unusedSimpArgs false
theorem h2y (n:Nat) (a b:List Ser) (hL:a.length≤9223372036854775807) (eq:Ser×(Ser×Unit)→Option Bool) (he:∀x∈a,∀y,eq (x,(y,()))=some (decide (x=y))):∀(ra rb pa pb:List Ser) (f:Nat) (ix len:Int),a=pa++ra→b=pb++rb→pa.length=pb.length→ra.length=rb.length→ix=pa.length→len=a.length→ra.length<f →
  b0k n f (b,eq,a,len,ix,())=some (if ra=rb then .inl () else .inr false):=by
 intro ra;induction ra with
 | nil =>
  intro rb pa pb f ix len ha hb hp hr hi hn hf;obtain ⟨f,rfl⟩:∃g,f=g+1:=⟨f-1,by simp at hf;omega⟩;have:rb=[]:=List.length_eq_zero_iff.1 (by simpa using hr.symm);subst this;rw[c0o,decide_eq_false (idxe ha hi hn),tff,if_pos rfl]
 | cons x ra ih =>
  intro rb pa pb f ix len ha hb hp hr hi hn hf;obtain ⟨f,rfl⟩:∃g,f=g+1:=⟨f-1,by simp at hf;omega⟩;cases rb with
  | nil=>simp at hr
  | cons y rb =>
   have hlen:=congrArg List.length ha;simp at hlen;rw[c0o,decide_eq_true (idx ha hi hn),tft,b0s ha hi,obs,b0s hb (by rw[hi,hp]),obs,he x (by rw[ha];simp) y,obs,tfn,tfd,w64 (by omega) (by omega)];by_cases h:x=y
   ·subst h;rw[if_pos rfl,ih rb (pa++[x]) (pb++[x]) f (ix+1) len (idxl ha) (idxl hb) (by simp[hp]) (by simpa using hr) (idxs hi) hn (by simp at hf;omega)];by_cases h2:ra=rb
    ·rw[if_pos h2,if_pos (by rw[h2])]
    ·rw[if_neg h2,if_neg (by intro k;injection k with _ k;exact h2 k)]
   ·rw[if_neg h,if_neg (by intro k;injection k with k _;exact h k)]
theorem stt_same (n:Nat) {a:Sta} (ha:StaW a) (b:Sta):l1y (n+5) a b=some (decide (a=b)):=by
 have he:∀x∈a.2.2.2,∀y,(fun y0:Ser×(Ser×Unit)=>e0b (n+4) y0.1 y0.2.1) (x,(y,()))=some (decide (x=y)):=fun x hx y=>v0z (n+1) x y (ha.ser x hx).2
 rw[u1k,confEq,tfd,tfd,tfd,f0u,tfn,tfd];obtain ⟨a1,a2,a3,a4⟩:=a;obtain ⟨b1,b2,b3,b4⟩:=b;simp only at ha he ⊢;by_cases h1:a1=b1
 case neg=>rw[if_neg h1,decide_eq_false (fun k=>h1 (congrArg Prod.fst k))]
 rw[if_pos h1];by_cases h2:a2=b2
 case neg=>rw[if_neg h2,decide_eq_false (fun k=>h2 (congrArg (fun z=>z.2.1) k))]
 rw[if_pos h2];by_cases h3:a3=b3
 case neg=>rw[if_neg h3,decide_eq_false (fun k=>h3 (congrArg (fun z=>z.2.2.1) k))]
 rw[if_pos h3];by_cases h4:(a4.length:Int)=b4.length
 case neg=>rw[if_neg h4,obs,decide_eq_false (fun k=>h4 (congrArg (fun z=>((z.2.2.2.length:Nat):Int)) k))]
 rw[if_pos h4,h2y (n+3) a4 b4 ha.len (fun y0:Ser×(Ser×Unit)=>e0b (n+4) y0.1 y0.2.1) he a4 b4 [] [] a0b 0 _ rfl rfl rfl (by omega) rfl rfl (by have:=ha.len;simp only at this;unfold a0b;omega)];by_cases h5:a4=b4
 ·rw[if_pos h5,decide_eq_true (by rw[h1,h2,h3,h5])];rfl
 ·rw[if_neg h5,decide_eq_false (fun k=>h5 (congrArg (fun z=>z.2.2.2) k))];rfl
theorem e2f:SerW ser0:=by
 refine ⟨?_,?_,⟨?_,?_,?_⟩,u1o⟩
 ·unfold I64;simp[ser0]
 ·intro e he;simp[ser0,r0w] at he
 ·intro x hx;simp[ser0] at hx
 ·intro x hx;simp[ser0] at hx
 ·intro x hx;simp[ser0] at hx
theorem rawV_w (c:Conf) (h2:c.1≤4096) (a b m:Int) (all:List UInt8):RawW (rawV c a b m all)∧(rawV c a b m all).2.2.length≤4096:=by
 unfold rawV;split
 ·exact ⟨fun e he=>by simp at he,by simp⟩
 split
 ·exact ⟨fun e he=>by simp at he,by simp⟩
 ·refine ⟨fun e he => ?_,by simp;omega⟩;dsimp only at he;obtain ⟨i,_,rfl⟩:=List.mem_map.1 he;exact evR_w _
theorem u1b (N:Int) (left:List (List UInt8)):∀s∈e1f N left,SloW s:=fun s hs=>by
 obtain ⟨i,_,rfl⟩:=List.mem_map.1 hs;exact slR_w _
theorem e1e (N:Int) (left:List (List UInt8)):(e1f N left).length=N.toNat:=by simp[e1f]
theorem serV_w {c:Conf} (hc:Rng c) {ls:List Lab} (hl:ls.length≤17) (h:List UInt8) (t:List (List UInt8)):SerW (serV c ls h t)∧SerM (serV c ls h t):=by
 have hr:=hc.raw;have h0:=hc.n0;have h1:=hc.n1;have h2:=hc.n2;have k:=rawV_w c (by omega) (IntKind.wrap .i64 (v8 (h.drop 330))) (IntKind.wrap .i64 (v8 (h.drop 338))) (v2 (h.drop 346)) (v0c c.1.toNat 16 t);refine ⟨⟨i64_w _,k.1,⟨u1b _ _,u1b _ _,u1b _ _⟩,slR_w _⟩,⟨?_,?_,?_,?_,?_⟩⟩
 ·unfold serV;dsimp only;omega
 ·unfold serV;dsimp only;have:=k.2;omega
 ·unfold serV;dsimp only;rw[e1e];omega
 ·unfold serV;dsimp only;rw[e1e];omega
 ·unfold serV;dsimp only;rw[e1e];omega
theorem p1w (n:Nat) {c:Conf} (hc:Rng c) {p:List (List UInt8)} (hp:Secs p) (hl:p.length≤100000) (hN:need c+1≤p.length):∃x q,d0p (n+9) (c,p)=some (x,q)∧SerW x∧SerM x:=by
 obtain ⟨h,t,rfl⟩:∃h t,p=h::t:=by
  cases p with
  | nil=>simp at hN
  | cons h t=>exact ⟨h,t,rfl⟩
 have hh:h.length=512:=hp h List.mem_cons_self;have ht:Secs t:=fun s hs=>hp s (List.mem_cons_of_mem _ hs)
 simp only[List.length_cons] at hl hN;have hv:=l1l (l:=h) (by omega);by_cases hz:v2 h=0∨320<v2 h
 ·exact ⟨_,_,e1s n c hh ht (by omega) hz,e2f,e2g⟩
 ·obtain ⟨ls,e,h1,h2⟩:=i1o n ((h.drop 2).take (v2 h).toNat) (by rw[List.length_take,List.length_drop];omega);obtain ⟨q,h3⟩:=k1e n hc hh ht (by omega) (by omega) (by omega) (by omega) h1;exact ⟨_,_,h3,serV_w hc h2 h t⟩
theorem n1m {α:Type} {m:Nat} (hm:1≤m) (f:α→List UInt8) (l:List α) (rest:List (List UInt8)):v0c l.length m (cutB m f l++rest)=(cutB m f l).flatten∧(cutB m f l++rest).drop (nsec l.length m)=rest:=by
 have h:(cutB m f l).length=nsec l.length m:=h0a hm f l;exact ⟨by unfold v0c;rw[List.take_left' h],List.drop_left' h⟩
theorem e2s {c:Conf} {r:Rw} (h:RawOk r c.1) (hw:RawW r) (rest:List (List UInt8)) :
  rawV c r.1 r.2.1 (r.2.2.length:Int) (v0c c.1.toNat 16 (cutB 16 c0y (e0x r c.1)++rest))=r:=by
 have h0:=h.l0;have h1:=h.len;have h2:=h.m0;have hrl:=(u0m h).1;have hj:=(n1m (m:=16) (by omega) c0y (e0x r c.1) rest).1;rw[hrl] at hj;obtain ⟨z,hz⟩:=t1j (m:=16) (w:=32) (by omega) (by omega) (f:=c0y) _ (e0x r c.1) (Nat.le_refl _) (fun x _=>g0a x);unfold rawV;rw[if_neg (by omega),if_neg (by omega),Int.toNat_natCast,hj,hz];obtain ⟨a,b,L⟩:=r;dsimp only at *
 congr 2;apply List.ext_getElem?;intro i;rw[List.getElem?_map];rcases Nat.lt_or_ge i L.length with k | k
 ·have hi:L[i]? = some L[i]:=List.getElem?_eq_getElem k;rw[List.getElem?_range k,hi];have hg:=e2m h (i:=i) hi;dsimp only at hg;obtain ⟨t,ht⟩:=h2h (w:=32) (f:=c0y) (l:=e0x (a,b,L) c.1) (fun y _=>g0a y) hg z;have e:32*((a.toNat % c.1.toNat+i) % c.1.toNat)=(a.toNat+i) % c.1.toNat*32:=by rw[Nat.mod_add_mod,Nat.mul_comm]
  show some (evAt _ _ _ _)=_;unfold evAt;rw[e,ht,h2o (hw _ (List.getElem_mem k))]
 ·rw[List.getElem?_eq_none (by simpa using k),List.getElem?_eq_none k];rfl
theorem z0u {l:List Slo} {N:Int} (hN:(l.length:Int)=N) (hw:∀s∈l,SloW s) (rest:List (List UInt8)):e1f N (cutB 4 b0w l++rest)=l∧(cutB 4 b0w l++rest).drop (nsec N.toNat 4)=rest:=by
 subst hN;rw[Int.toNat_natCast];obtain ⟨hj,hd⟩:=n1m (m:=4) (by omega) b0w l rest;refine ⟨?_,hd⟩;obtain ⟨z,hz⟩:=t1j (m:=4) (w:=128) (by omega) (by omega) (f:=b0w) _ l (Nat.le_refl _) (fun x _=>d0j x);unfold e1f;rw[Int.toNat_natCast,hj,hz];apply List.ext_getElem?;intro i;rw[List.getElem?_map];rcases Nat.lt_or_ge i l.length with k | k
 ·have hi:l[i]? = some l[i]:=List.getElem?_eq_getElem k;rw[List.getElem?_range k,hi];obtain ⟨t,ht⟩:=h2h (w:=128) (f:=b0w) (l:=l) (fun y _=>d0j y) hi z;show some (slAt _ _)=_;unfold slAt;rw[Nat.mul_comm,ht,x1v (hw _ (List.getElem_mem k))]
 ·rw[List.getElem?_eq_none (by simpa using k),List.getElem?_eq_none k];rfl
theorem w1u {x:Ser} (hl:(labB x.1).length≤320):∃z,
  c0x x=toB (beI 2 ((labB x.1).length:Int))++(padB (labB x.1) 320++(n8B x.2.1++(n8B x.2.2.1.1++(n8B x.2.2.1.2.1++(toB (beI 2 (x.2.2.1.2.2.length:Int))++(b0w x.2.2.2.2++z))))))
  ∧ (c0x x).drop 2=padB (labB x.1) 320++(n8B x.2.1++(n8B x.2.2.1.1++(n8B x.2.2.1.2.1++(toB (beI 2 (x.2.2.1.2.2.length:Int))++(b0w x.2.2.2.2++z)))))
  ∧ (c0x x).drop 322=n8B x.2.1++(n8B x.2.2.1.1++(n8B x.2.2.1.2.1++(toB (beI 2 (x.2.2.1.2.2.length:Int))++(b0w x.2.2.2.2++z))))
  ∧ (c0x x).drop 330=n8B x.2.2.1.1++(n8B x.2.2.1.2.1++(toB (beI 2 (x.2.2.1.2.2.length:Int))++(b0w x.2.2.2.2++z)))
  ∧ (c0x x).drop 338=n8B x.2.2.1.2.1++(toB (beI 2 (x.2.2.1.2.2.length:Int))++(b0w x.2.2.2.2++z))
  ∧ (c0x x).drop 346=toB (beI 2 (x.2.2.1.2.2.length:Int))++(b0w x.2.2.2.2++z)
  ∧ (c0x x).drop 348=b0w x.2.2.2.2++z:=by
 have e0:c0x x=toB (beI 2 ((labB x.1).length:Int))++(padB (labB x.1) 320++(n8B x.2.1++(n8B x.2.2.1.1++(n8B x.2.2.1.2.1++(toB (beI 2 (x.2.2.1.2.2.length:Int))++(b0w x.2.2.2.2++List.replicate (512-(n0p x).length) 0)))))):=by
  rw[c0x,padB]
  conv=>lhs;arg 1;unfold n0p
  simp only[List.append_assoc]
 have p1:(padB (labB x.1) 320).length=320:=by rw[l0v];omega
 refine ⟨_,e0,?_⟩;have d2:=List.drop_left' (l₂:=padB (labB x.1) 320++(n8B x.2.1++(n8B x.2.2.1.1++(n8B x.2.2.1.2.1++(toB (beI 2 (x.2.2.1.2.2.length:Int))++(b0w x.2.2.2.2++List.replicate (512-(n0p x).length) 0)))))) (d1v ((labB x.1).length:Int));rw[←e0] at d2;have d322:(c0x x).drop (2+320)=n8B x.2.1++(n8B x.2.2.1.1++(n8B x.2.2.1.2.1++(toB (beI 2 (x.2.2.1.2.2.length:Int))++(b0w x.2.2.2.2++List.replicate (512-(n0p x).length) 0)))):=by rw[←List.drop_drop,d2];exact List.drop_left' p1
 have d330:(c0x x).drop (2+320+8)=n8B x.2.2.1.1++(n8B x.2.2.1.2.1++(toB (beI 2 (x.2.2.1.2.2.length:Int))++(b0w x.2.2.2.2++List.replicate (512-(n0p x).length) 0))):=by rw[←List.drop_drop,d322];exact List.drop_left' (f0r _)
 have d338:(c0x x).drop (2+320+8+8)=n8B x.2.2.1.2.1++(toB (beI 2 (x.2.2.1.2.2.length:Int))++(b0w x.2.2.2.2++List.replicate (512-(n0p x).length) 0)):=by rw[←List.drop_drop,d330];exact List.drop_left' (f0r _)
 have d346:(c0x x).drop (2+320+8+8+8)=toB (beI 2 (x.2.2.1.2.2.length:Int))++(b0w x.2.2.2.2++List.replicate (512-(n0p x).length) 0):=by rw[←List.drop_drop,d338];exact List.drop_left' (f0r _)
 have d348:(c0x x).drop (2+320+8+8+8+2)=b0w x.2.2.2.2++List.replicate (512-(n0p x).length) 0:=by rw[←List.drop_drop,d346];exact List.drop_left' (d1v _)
 exact ⟨d2,d322,d330,d338,d346,d348⟩
theorem l1g:zsec.length=512:=List.length_replicate ..
theorem prt16 {x:Int} (h:0≤x):prt x 16=((nsec x.toNat 16:Nat):Int):=by unfold prt nsec;omega
theorem prt4 {x:Int} (h:0≤x):prt x 4=((nsec x.toNat 4:Nat):Int):=by unfold prt nsec;omega
theorem m1x {c:Conf} (hc:Rng c):(plc c).toNat=need c+1:=by
 have hr:=hc.raw;have h0:=hc.n0;have h1:=hc.n1;have h2:=hc.n2;unfold plc need;rw[prt16 (by omega),prt4 (by omega),prt4 (by omega),prt4 (by omega)];omega
theorem p1x (n:Nat) {c:Conf} {x:Ser} (hc:OkC c) (hw:SerW x) (h:x=ser0∨SerOk c x):∃q,d0p (n+9) (c,e0g c x)=some (x,q):=by
 have hp:=j0g hc.rng;have hn:=m1x hc.rng;by_cases h0:x=ser0
 ·unfold e0g;rw[if_pos h0,hn,List.replicate_succ,h0];have hz:v2 zsec=0:=by decide +kernel
  exact ⟨_,e1s n c l1g (fun s hs=>by rw[(List.mem_replicate.1 hs).2,l1g]) (by rw[List.length_replicate];omega) (.inl hz)⟩
 have hs:SerOk c x:=h.resolve_left h0;have hlab:=a1w hs.lab;have hln:=hs.raw.len;have hm:=hs.raw.m1;have hrd:=u0m hs.raw;obtain ⟨z,e0,d2,d322,d330,d338,d346,d348⟩:=w1u hlab;have hlen:1≤(labB x.1).length:=by
  unfold labB;rw[List.length_append,s0m (by have:=hs.lab.n1;omega)];omega
 have hv:v2 (c0x x)=((labB x.1).length:Int):=by rw[e0];exact v2_of (by omega) (by omega) _
 have hlbl:((c0x x).drop 2).take (v2 (c0x x)).toNat=labB x.1:=by
  rw[d2,hv,Int.toNat_natCast,padB,List.append_assoc,List.take_left]
 unfold e0g;rw[if_neg h0];have c1:=h0a (m:=16) (by omega) c0y (e0x x.2.2.1 c.1);have c2:=h0a (m:=4) (by omega) b0w x.2.2.2.1.1;have c3:=h0a (m:=4) (by omega) b0w x.2.2.2.1.2.1;have c4:=h0a (m:=4) (by omega) b0w x.2.2.2.1.2.2;have f0:=hs.fold.n0;have f1:=hs.fold.n1;have f2:=hs.fold.n2;have ht:=l1q hs;have hT:Secs (cutB 16 c0y (e0x x.2.2.1 c.1)++(cutB 4 b0w x.2.2.2.1.1++(cutB 4 b0w x.2.2.2.1.2.1++cutB 4 b0w x.2.2.2.1.2.2))):=by
  intro s hs;rcases List.mem_append.1 hs with q | hs
  ·exact o0o (m:=16) (w:=32) (by omega) (by omega) (fun y _=>g0a y) s q
  rcases List.mem_append.1 hs with q | hs
  ·exact o0o (m:=4) (w:=128) (by omega) (by omega) (fun y _=>d0j y) s q
  rcases List.mem_append.1 hs with q | q
  ·exact o0o (m:=4) (w:=128) (by omega) (by omega) (fun y _=>d0j y) s q
  ·exact o0o (m:=4) (w:=128) (by omega) (by omega) (fun y _=>d0j y) s q
 have hL:(cutB 16 c0y (e0x x.2.2.1 c.1)++(cutB 4 b0w x.2.2.2.1.1++(cutB 4 b0w x.2.2.2.1.2.1++cutB 4 b0w x.2.2.2.1.2.2))).length=need c:=by
  simp only[List.length_append,c1,c2,c3,c4,hrd.1];unfold need nsec;rw[←f0,←f1,←f2];simp only[Int.toNat_natCast];omega
 obtain ⟨q,hq⟩:=k1e n hc.rng (u0w hlab) hT (by omega) (by omega) (by omega) (by omega) (ls:=x.1) (e:=0) (by rw[hlbl];exact n1i n hs.lab);refine ⟨q,?_⟩;rw[hq];have t1:=e2s hs.raw hw.raw (cutB 4 b0w x.2.2.2.1.1++(cutB 4 b0w x.2.2.2.1.2.1++cutB 4 b0w x.2.2.2.1.2.2));have j1:=(n1m (m:=16) (by omega) c0y (e0x x.2.2.1 c.1) (cutB 4 b0w x.2.2.2.1.1++(cutB 4 b0w x.2.2.2.1.2.1++cutB 4 b0w x.2.2.2.1.2.2))).2;rw[hrd.1] at j1;have t2:=z0u f0 hw.trs.a (cutB 4 b0w x.2.2.2.1.2.1++cutB 4 b0w x.2.2.2.1.2.2)
 have t3:=z0u f1 hw.trs.b (cutB 4 b0w x.2.2.2.1.2.2);have t4:=z0u f2 hw.trs.c [];rw[List.append_nil] at t4;have k0:I64 x.2.2.1.1:=by have:=hs.raw.l0;have:=hs.raw.l1;unfold I64;omega
 have k1:I64 x.2.2.1.2.1:=by
  by_cases hz:x.2.2.1.1=0
  ·rw[hs.raw.z hz];unfold I64;omega
  ·obtain ⟨p1,p2,p3⟩:=hs.raw.p hz;have m0:=hs.raw.m0;cases hL:x.2.2.1.2.2 with
   | nil=>rw[hL] at p1;simp at p1;omega
   | cons e L =>
    have:=p3 e (by rw[hL];rfl);have he:=(hw.raw e (by rw[hL];simp)).t;unfold I64 at he ⊢;omega
 have o:=x1v hw.opn [];rw[List.append_nil] at o;unfold serV;rw[d322,d330,d338,d346,d348,d2g,d2g,d2g,v2_of (by omega) (by omega),g1g hw.last,g1g k0,g1g k1,t1,j1,t2.1,t2.2,t3.1,t3.2,t4.1,List.take_left' (d0j _),o]
theorem w0d {c:Conf} {x:Ser} (hc:Rng c) (h:x=ser0∨SerOk c x):Secs (e0g c x)∧(e0g c x).length=(plc c).toNat:=by
 have hn:=m1x hc;unfold e0g;by_cases h0:x=ser0
 ·rw[if_pos h0];exact ⟨fun s hs=>by rw[(List.mem_replicate.1 hs).2,l1g],List.length_replicate ..⟩
 have hs:SerOk c x:=h.resolve_left h0;rw[if_neg h0];have c1:=h0a (m:=16) (by omega) c0y (e0x x.2.2.1 c.1);have c2:=h0a (m:=4) (by omega) b0w x.2.2.2.1.1;have c3:=h0a (m:=4) (by omega) b0w x.2.2.2.1.2.1;have c4:=h0a (m:=4) (by omega) b0w x.2.2.2.1.2.2;have f0:=hs.fold.n0;have f1:=hs.fold.n1;have f2:=hs.fold.n2;have hrd:=u0m hs.raw;constructor
 ·intro s hs';rcases List.mem_cons.1 hs' with q | hs'
  ·rw[q];exact u0w (a1w hs.lab)
  rcases List.mem_append.1 hs' with q | hs'
  ·exact o0o (m:=16) (w:=32) (by omega) (by omega) (fun y _=>g0a y) s q
  rcases List.mem_append.1 hs' with q | hs'
  ·exact o0o (m:=4) (w:=128) (by omega) (by omega) (fun y _=>d0j y) s q
  rcases List.mem_append.1 hs' with q | q
  ·exact o0o (m:=4) (w:=128) (by omega) (by omega) (fun y _=>d0j y) s q
  ·exact o0o (m:=4) (w:=128) (by omega) (by omega) (fun y _=>d0j y) s q
 ·rw[hn,List.length_cons];simp only[List.length_append,c1,c2,c3,c4,hrd.1];unfold need nsec;rw[←f0,←f1,←f2];simp only[Int.toNat_natCast];omega
theorem whole_l (n:Nat) {g:(List UInt8×Unit)→Option Bool} (hg:∀s,g (s,())=some (!(decide ((s.length:Int)=512)))) (l:List (List UInt8)) (hl:l.length≤1000000):∀(rest pre:List (List UInt8)) (f:Nat) (i:Int),l=pre++rest→i=pre.length→rest.length<f →
  (Secs rest∧d0b n f (l,g,(l.length:Int),i,())=some (.inl ()))∨(¬Secs rest∧∃k,0≤k∧d0b n f (l,g,(l.length:Int),i,())=some (.inr k)):=by
 intro rest;induction rest with
 | nil =>
  intro pre f i h hi hf;obtain ⟨f,rfl⟩:=n0o hf;rw[h0x,tfd,if_neg (idxe h hi rfl)];exact .inl ⟨fun s hs=>by simp at hs,rfl⟩
 | cons a rest ih =>
  intro pre f i h hi hf;obtain ⟨f,rfl⟩:=n0o hf;have hlen:=congrArg List.length h;simp at hlen hf;rw[h0x,tfd,if_pos (idx h hi rfl),b0s h hi,obs,hg,obs,tfn,tfd];by_cases ha:(a.length:Int)=512
  ·rw[if_pos ha,w64 (by omega) (by omega)];rcases ih (pre++[a]) f (i+1) (idxl h) (idxs hi) (by omega) with ⟨q1,q2⟩ | ⟨q1,k,q2,q3⟩
   ·refine .inl ⟨fun s hs => ?_,q2⟩;rcases List.mem_cons.1 hs with rfl | hs
    ·omega
    ·exact q1 s hs
   ·exact .inr ⟨fun q=>q1 fun s hs=>q s (List.mem_cons_of_mem _ hs),k,q2,q3⟩
  ·rw[if_neg ha];exact .inr ⟨fun q=>ha (by have:=q a List.mem_cons_self;omega),i,by omega,rfl⟩
theorem d2f (n:Nat) (l:List (List UInt8)) (hl:l.length≤1000000):w0h (n+4) l=some (!(decide (l=[])) && @decide (Secs l) (Classical.propDecidable _)):=by
 rw[i1u,tfd];by_cases h0:l=[]
 ·subst h0;rfl
 have hp:0<(l.length:Int):=by
  cases l with
  | nil=>exact absurd rfl h0
  | cons a t=>simp
 rw[if_pos hp,o0z,s0h,decide_eq_false h0];have hg:∀s:List UInt8,(fun y0:List UInt8×Unit=>l0w (n+3) y0.1) (s,())=some (!(decide ((s.length:Int)=512))):=fun s=>c1w _ s
 rcases whole_l (n+1) (g:=fun y0=>l0w (n+3) y0.1) hg l hl l [] a0b 0 rfl rfl (by unfold a0b;omega) with ⟨q1,q2⟩ | ⟨q1,k,q2,q3⟩
 ·rw[q2,@decide_eq_true _ (Classical.propDecidable _) q1];rfl
 ·rw[q3,@decide_eq_false _ (Classical.propDecidable _) q1,obs,m0t,obs,obs,decide_eq_true q2];rfl
theorem strs_l (n:Nat) (a b:List (List UInt8)) (hL:a.length≤1000000000000):∀(ra rb pa pb:List (List UInt8)) (f:Nat) (i:Int),a=pa++ra→b=pb++rb→pa.length=pb.length→ra.length=rb.length→i=pa.length→ra.length<f →
  g0d n f (a,b,(a.length:Int),i,())=some (if ra=rb then .inl () else .inr false):=by
 intro ra;induction ra with
 | nil =>
  intro rb pa pb f ix ha hb hp hr hi hf;obtain ⟨f,rfl⟩:=n0o hf;have e:rb=[]:=List.length_eq_zero_iff.1 (by simpa using hr.symm);subst e;rw[k0r,decide_eq_false (idxe ha hi rfl),tff,if_pos rfl]
 | cons x ra ih =>
  intro rb pa pb f ix ha hb hp hr hi hf;obtain ⟨f,rfl⟩:=n0o hf;cases rb with
  | nil=>simp at hr
  | cons y rb =>
   have hlen:=congrArg List.length ha;simp at hlen hf;rw[k0r,decide_eq_true (idx ha hi rfl),tft,b0s ha hi,b0s hb (by omega)];simp only[obs];rw[w64 (x:=ix+1) (by omega) (by omega),tfn];by_cases h:x=y
   ·subst h;rw[beq_self_eq_true,tft,ih rb (pa++[x]) (pb++[x]) f (ix+1) (idxl ha) (idxl hb) (by simp;omega) (by simpa using hr) (idxs hi) (by omega)];simp
   ·rw[if_neg (by simp[h]),beq_eq_false_iff_ne.2 h,tff]
theorem x1r (n:Nat) (a b:List (List UInt8)) (hL:a.length≤1000000000000):i0y (n+1) a b=some (decide (a=b)):=by
 rw[x0s,tfn,tfd];by_cases h:a.length=b.length
 ·rw[if_pos (by omega),strs_l n a b hL a b [] [] a0b 0 rfl rfl rfl h rfl (by unfold a0b;omega),obs];by_cases k:a=b
  ·rw[if_pos k,decide_eq_true k];rfl
  ·rw[if_neg k,decide_eq_false k];rfl
 ·rw[if_neg (by omega),decide_eq_false (fun k=>h (by rw[k]))]
theorem g1v {α β:Type} {m:Nat} (hm:1≤m) (g:α→List β):∀l:List α,(∀x∈l,(g x).length=m)→c0k (l.flatMap g).length m (l.flatMap g)=l.map g
 | [],_=>rfl
 | x::l,h=>by
  have hx:=h x List.mem_cons_self;have ih:=g1v hm g l fun y hy=>h y (List.mem_cons_of_mem _ hy)
  rw[List.flatMap_cons,List.map_cons,←ih];cases hg:g x with
  | nil=>rw[hg] at hx;simp at hx;omega
  | cons y t =>
   rw[hg] at hx;have e:(y::t++l.flatMap g).length=(t++l.flatMap g).length+1:=rfl;rw[e,List.cons_append,u0a,←List.cons_append,List.take_left' hx,List.drop_left' hx,c1m hm (by simp)]
theorem q1a (n:Nat) {c:Conf} (hc:OkC c) (l:List (List UInt8)) (z:Sta):∀(xs:List Ser) (s:Sta),(∀x∈xs,SerW x∧(x=ser0∨SerOk c x))→s.2.2.2.length+xs.length≤10000000 →
  g0p (n+9) ((xs.map (e0g c)).map fun p=>(p,())) (l,z,c,s,())=some (l,z,c,(s.1,(s.2.1,(s.2.2.1,s.2.2.2++xs))),())
 | [],s,_,_=>by rw[List.append_nil];exact s0f _ _
 | x::xs,s,h,hl=>by
  obtain ⟨h1,h2⟩:=h x List.mem_cons_self;obtain ⟨q,hq⟩:=p1x n hc h1 h2;simp only[List.length_cons] at hl;rw[List.map_cons,List.map_cons,p0y,hq,obs,tfd,if_pos (by omega),obs];rw[q1a n hc l z xs _ (fun y hy=>h y (List.mem_cons_of_mem _ hy)) (by simp;omega)];simp
theorem p1z (n:Nat) {c:Conf} (hc:Rng c) (l:List (List UInt8)) (z:Sta):∀(P:List (List (List UInt8))) (s:Sta),(∀p∈P,Secs p∧p.length=(plc c).toNat)→s.2.2.2.length+P.length≤10000000→(∀x∈s.2.2.2,SerW x∧SerM x) →
  ∃L,g0p (n+9) (P.map fun p=>(p,())) (l,z,c,s,())=some (l,z,c,(s.1,(s.2.1,(s.2.2.1,L))),())∧L.length=s.2.2.2.length+P.length∧∀x∈L,SerW x∧SerM x
 | [],s,_,_,hs=>⟨s.2.2.2,s0f _ _,rfl,hs⟩
 | p::P,s,h,hl,hs=>by
  obtain ⟨h1,h2⟩:=h p List.mem_cons_self;have hn:=m1x hc;have hp:=j0g hc;obtain ⟨x,q,hq,w1,w2⟩:=p1w n hc h1 (by omega) (by omega);simp only[List.length_cons] at hl;obtain ⟨L,k1,k2,k3⟩:=p1z n hc l z P (s.1,(s.2.1,(s.2.2.1,s.2.2.2++[x]))) (fun y hy=>h y (List.mem_cons_of_mem _ hy)) (by simp;omega) (fun y hy=>by
   rcases List.mem_append.1 hy with q | q
   ·exact hs y q
   ·rw[List.mem_singleton] at q;subst q;exact ⟨w1,w2⟩)
  refine ⟨L,?_,by rw[k2];simp;omega,k3⟩;rw[List.map_cons,p0y,hq,obs,tfd,if_pos (by omega),obs];exact k1
theorem k1x {α β:Type} {m:Nat} {g:α→List β}:∀l:List α,(∀x∈l,(g x).length=m)→(l.flatMap g).length=l.length*m
 | [],_=>by simp
 | x::l,h=>by
  rw[List.flatMap_cons,List.length_append,h x List.mem_cons_self,k1x l fun y hy=>h y (List.mem_cons_of_mem _ hy),List.length_cons,Nat.add_mul];omega
theorem u1g (s:Sta):∃z,i0u s=(z0a++toB (bts s.1))++(n8B s.2.1++(n8B (s.2.2.1+1)++z)):=by
 refine ⟨List.replicate (512-(x0e s).length) 0,?_⟩;unfold i0u padB
 conv=>lhs;arg 1;unfold x0e
 simp only[List.append_assoc]
theorem h1w {s:Sta} (hs:StaOk s):Secs (allB s)∧(allB s).length=1+s.2.2.2.length*(plc s.1).toNat∧∀x∈s.2.2.2,(e0g s.1 x).length=(plc s.1).toNat:=by
 have hr:∀x∈s.2.2.2,x=ser0∨SerOk s.1 x:=fun x hx=>by
  obtain ⟨i,hi⟩:=List.getElem?_of_mem hx;exact s0t (hs.right i x hi)
 have hp:∀x∈s.2.2.2,(e0g s.1 x).length=(plc s.1).toNat:=fun x hx=>(w0d hs.whole.1.rng (hr x hx)).2
 refine ⟨fun y hy => ?_,?_,hp⟩
 ·rcases List.mem_cons.1 hy with rfl | hy
  ·exact a2d s
  ·obtain ⟨x,hx,hxy⟩:=List.mem_flatMap.1 hy;exact (w0d hs.whole.1.rng (hr x hx)).1 y hxy
 ·unfold allB;rw[List.length_cons,k1x _ hp];omega
open Classical in
theorem f2z (n:Nat) {l:List (List UInt8)} (hl:l.length≤1000000):r0n (n+17) l =
  if h:∃a t,l=a::t∧Secs l then
   (let a:=h.choose
    let S:=(a.take 64).drop 8
    @ite _ (OkC (cfg S)∧Full S∧(l.length:Int)-1=(cfg S).2.2.2.1*plc (cfg S)) (Classical.propDecidable _)
     (a0a (g0p (n+16) (((c0k (l.length-1) (plc (cfg S)).toNat (l.drop 1)).map fun p=>(p,()))) (l,sta0,cfg S,(cfg S,(IntKind.wrap .i64 (v8 (a.drop 64)),(IntKind.wrap .i64 (IntKind.wrap .i64 (v8 (a.drop 72))-1),[]))),())) fun r10 =>
      a0a (n0m (n+16) r10.2.2.2.1) fun r11=>tif (!(decide (r11.2=(0:Int)))) (some (sta0,4)) (a0a (i0y (n+16) r10.1 r11.1) fun r12=>tif (!r12) (some (sta0,4)) (some (r10.2.2.2.1,0))))
     (some (sta0,4)))
  else some (sta0,4):=by
 rw[w1m,d2f (n+12) l hl,obs,tfn];by_cases h:∃a t,l=a::t∧Secs l
 case neg =>
  rw[dif_neg h];have:(!(decide (l=[])) && @decide (Secs l) (Classical.propDecidable _))=false:=by
   cases l with
   | nil=>rfl
   | cons a t=>rw[@decide_eq_false _ (Classical.propDecidable _) (fun q=>h ⟨a,t,rfl,q⟩),Bool.and_false]
  rw[this,tff];rfl
 rw[dif_pos h];obtain ⟨t,hlt,hS⟩:=h.choose_spec;generalize h.choose=a at hlt ⊢;have hne:l≠[]:=by rw[hlt];simp
 have ha:a.length=512:=hS a (by rw[hlt];simp);have hat:at? l (0:Int)=some a:=by rw[hlt];rfl
 have hlen:1≤l.length:=by rw[hlt];simp
 rw[decide_eq_false hne,@decide_eq_true _ (Classical.propDecidable _) hS,Bool.not_false,Bool.and_self,tft,hat,obs,
  show (true&&decide ((64:Int)≤((a.length:Nat):Int)))=true by rw[Bool.true_and,decide_eq_true_eq];omega,tft]
 dsimp only;by_cases hr:OkC (cfg ((a.take 64).drop 8))∧Full ((a.take 64).drop 8)
 case neg =>
  rw[read_no (n+12) hr,obs,if_neg (fun q=>hr ⟨q.1,q.2.1⟩)];rfl
 rw[read_yes (n+12) hr.1 hr.2,obs];dsimp only;have hp:=j0g hr.1.rng;have hcap:=hr.1.rng.cap;have m0:0≤(cfg ((a.take 64).drop 8)).2.2.2.1*plc (cfg ((a.take 64).drop 8)):=Int.mul_nonneg (by omega) (by omega);have m1:(cfg ((a.take 64).drop 8)).2.2.2.1*plc (cfg ((a.take 64).drop 8))≤65536*20000:=Int.mul_le_mul hcap.2 hp.2 (by omega) (by omega);rw[decide_eq_true (rfl:(0:Int)=0),Bool.not_true,tff,(o1v (n+12) hr.1).1,obs,w64 (x:=((l.length:Nat):Int)-1) (by omega) (by omega),w64 (x:=(cfg ((a.take 64).drop 8)).2.2.2.1*plc (cfg ((a.take 64).drop 8))) (by omega) (by omega),tfn,tfd]
 by_cases hc:(l.length:Int)-1=(cfg ((a.take 64).drop 8)).2.2.2.1*plc (cfg ((a.take 64).drop 8))
 case neg=>rw[if_neg hc,if_neg (fun q=>hc q.2.2)];rfl
 rw[if_pos hc,if_pos ⟨hr.1,hr.2,hc⟩,obs,tfd,if_pos (by omega),List.take_length,e0u,obs,a0t (n+13) _ 8 8 rfl (by omega) (by omega),rd8 (by rw[List.length_drop];omega),obs];dsimp only;rw[List.drop_drop,show 64+8=72 from rfl,a0t (n+13) _ 8 8 rfl (by omega) (by omega),rd8 (by rw[List.length_drop];omega),obs,tfd,if_pos hlen,obs,List.take_length,x0t];have hpl:plc (cfg ((a.take 64).drop 8))=(((plc (cfg ((a.take 64).drop 8))).toNat:Nat):Int):=by omega
 have hch:=g1w (l.drop 1) (plc (cfg ((a.take 64).drop 8))).toNat (by omega) (by rw[List.length_drop];omega);rw[←hpl,List.length_drop] at hch;rw[hch,obs];rfl
theorem of_right (n:Nat) {s:Sta} (hw:StaW s) (hs:StaOk s) (hl:(allB s).length≤1000000):r0n (n+17) (allB s)=some (s,0):=by
 obtain ⟨h1,h2,h3⟩:=h1w hs;have hc:=hs.whole.1;have hcl:=hs.whole.2;have hp:=j0g hc.rng;have hk:=hs.clock;have hex:∃a t,allB s=a::t∧Secs (allB s):=⟨_,_,rfl,h1⟩;rw[f2z n hl,dif_pos hex];have hch:hex.choose=i0u s:=by
  obtain ⟨t,ht,_⟩:=hex.choose_spec;unfold allB at ht;injection ht with q;exact q.symm
 rw[hch];obtain ⟨z,hz⟩:=u1g s;have l8:z0a.length=8:=rfl;have l56:=q0k s.1;have l64:(z0a++toB (bts s.1)).length=64:=by rw[List.length_append,l8,l56]
 have e1:((i0u s).take 64).drop 8=toB (bts s.1):=by rw[hz,List.take_left' l64,List.drop_left' l8]
 have e2:(i0u s).drop 64=n8B s.2.1++(n8B (s.2.2.1+1)++z):=by rw[hz,List.drop_left' l64]
 have e3:(i0u s).drop 72=n8B (s.2.2.1+1)++z:=by
  rw[show 72=64+8 from rfl,←List.drop_drop,e2,List.drop_left' (f0r _)]
 obtain ⟨c1,c2⟩:=i2o hc.rng;dsimp only
 rw [e1, c1, if_pos ⟨hc, c2, by rw [h2, ← hcl]; have : plc s.1 = (((plc s.1).toNat : Nat) : Int) := by omega
                                rw[Int.natCast_add,Int.natCast_mul,←this];omega⟩,e2,e3,d2g,d2g]
 have i1:IntKind.wrap .i64 (IntKind.wrap .u64 s.2.1)=s.2.1:=by
  obtain ⟨k1,_⟩:=hk;exact g1g (by unfold s0l at k1;unfold I64;omega)
 have i2:IntKind.wrap .i64 (IntKind.wrap .i64 (IntKind.wrap .u64 (s.2.2.1+1))-1)=s.2.2.1:=by
  obtain ⟨_,k,_⟩:=hk;rcases k with k | ⟨k1,k2⟩
  ·rw[k];decide
  ·rw[g1g (by unfold I64;omega),w64 (by omega) (by omega)];omega
 rw[i1,i2];have hd:(allB s).drop 1=s.2.2.2.flatMap (e0g s.1):=rfl;have hdl:(allB s).length-1=(s.2.2.2.flatMap (e0g s.1)).length:=rfl;rw[hd,hdl,g1v (by omega) (e0g s.1) s.2.2.2 h3];have h11:=q1a (n+7) hc (allB s) sta0 s.2.2.2 (s.1,(s.2.1,(s.2.2.1,[]))) (fun x hx=>by
  obtain ⟨i,hi⟩:=List.getElem?_of_mem hx
  exact ⟨(hw.ser x hx).1,s0t (hs.right i x hi)⟩) (by have:=hs.whole.len;dsimp only;rw[List.length_nil];omega)
 rw[h11,obs];dsimp only;rw[List.nil_append]
 change a0a (n0m (n+16) s) _=_
 rw[o1u n hw,if_pos hs,obs];dsimp only;rw[decide_eq_true (rfl:(0:Int)=0),Bool.not_true,tff,x1r (n+15) _ _ (by omega),decide_eq_true rfl,obs];rfl
theorem of_none (n:Nat) {l:List (List UInt8)} (hl:l.length≤1000000) (h:¬ ∃s,StaW s∧StaOk s∧allB s=l):r0n (n+17) l=some (sta0,4):=by
 rw[f2z n hl];split
 case isFalse=>rfl
 rename_i hex;obtain ⟨t,ht,hS⟩:=hex.choose_spec;generalize hex.choose=a at ht ⊢;dsimp only;split
 case isFalse=>rfl
 rename_i hr;obtain ⟨hc,hf,hn⟩:=hr;have hp:=j0g hc.rng;have hcap:=hc.rng.cap;obtain ⟨k,hk⟩:∃k:Nat,(cfg ((a.take 64).drop 8)).2.2.2.1=k:=⟨_,(Int.toNat_of_nonneg (by omega)).symm⟩;have hpl:plc (cfg ((a.take 64).drop 8))=(((plc (cfg ((a.take 64).drop 8))).toNat:Nat):Int):=by omega
 generalize hm:(plc (cfg ((a.take 64).drop 8))).toNat=m at hpl;have hlk:(l.drop 1).length=k*m:=by
  rw[hk,hpl,←Int.natCast_mul] at hn;rw[List.length_drop];omega
 have hP:∀p∈c0k (l.drop 1).length m (l.drop 1),Secs p∧p.length=(plc (cfg ((a.take 64).drop 8))).toNat:=fun p hpm=>by
  obtain ⟨i,hi⟩:=List.getElem?_of_mem hpm;rw[d0r (by omega) _ _ (Nat.le_refl _),hlk] at hi;by_cases hb:i*m<k*m
  ·rw[if_pos hb] at hi;injection hi with hi;subst hi;have hik:i<k:=Nat.lt_of_mul_lt_mul_right hb;have hle:(i+1)*m≤k*m:=Nat.mul_le_mul_right m hik;rw[Nat.add_mul] at hle;exact ⟨((hS.drop 1).drop _).take _,by rw[hm,List.length_take,List.length_drop,hlk];omega⟩
  ·rw[if_neg hb] at hi;cases hi
 have hPl:(c0k (l.drop 1).length m (l.drop 1)).length≤1000000:=by
  have q1:=m0h (m:=m) (by omega) (l.drop 1);have q2:(l.drop 1).length=l.length-1:=List.length_drop ..;omega
 obtain ⟨L,h1,h2,h3⟩:=p1z (n+7) hc.rng l sta0 (c0k (l.drop 1).length m (l.drop 1)) (cfg ((a.take 64).drop 8),(IntKind.wrap .i64 (v8 (a.drop 64)),(IntKind.wrap .i64 (IntKind.wrap .i64 (v8 (a.drop 72))-1),[]))) hP (by dsimp only;rw[List.length_nil];omega) (fun x hx=>by simp at hx);have hdl:l.length-1=(l.drop 1).length:=by rw[List.length_drop]
 rw[hdl,h1,obs];dsimp only at h2 ⊢;have hw:StaW (cfg ((a.take 64).drop 8),(IntKind.wrap .i64 (v8 (a.drop 64)),(IntKind.wrap .i64 (IntKind.wrap .i64 (v8 (a.drop 72))-1),L))):=⟨by dsimp only;rw[h2,List.length_nil];omega,h3⟩;rw[o1u n hw];by_cases hs:StaOk (cfg ((a.take 64).drop 8),(IntKind.wrap .i64 (v8 (a.drop 64)),(IntKind.wrap .i64 (IntKind.wrap .i64 (v8 (a.drop 72))-1),L)))
 ·rw[if_pos hs,obs];dsimp only;rw[decide_eq_true (rfl:(0:Int)=0),Bool.not_true,tff,x1r (n+15) _ _ (by omega),decide_eq_false (fun q=>h ⟨_,hw,hs,q.symm⟩),obs];rfl
 ·rw[if_neg hs,obs];rfl
theorem i1m (n:Nat)  : t0q (n+1)  =
 a0a (g2r n ) fun r0 =>
 a0a (d2s n r0) fun r1 =>
 tif ((!(decide (r1.2=(0:Int))))) (
 some false) (
 a0a (o1x n r1.1 ((((97:UInt8)::[]),[])::[]) ((3:Int),((258:Int),((0:Int),false)))) fun r2 =>
 tif ((!(decide (r2.2=(0:Int))))) (
 some false) (
 tif ((!(decide ((((List.length r2.1.2.2.2):Nat):Int)=(3:Int))))) (
 some false) (
 a0a (n0m n r2.1) fun r3 =>
 a0a (n0k n r2.1) fun r4 =>
 a0a (r0n n r3.1) fun r5 =>
 a0a (at? r2.1.2.2.2 (0:Int)) fun r6 =>
 a0a (i0h n r2.1.1 r6) fun r7 =>
 a0a (r0n n []) fun r8 =>
 a0a (j0z n ((3:Int),((258:Int),((0:Int),true)))) fun r9 =>
 tif ((!(decide (r3.2=(0:Int))))) (
 some false) (
 tif ((!(decide ((((List.length r3.1):Nat):Int)=(25:Int))))) (
 some false) (
 tif ((!(decide (r7.2=(0:Int))))) (
 some false) (
 tif ((!(decide ((((List.length r7.1):Nat):Int)=(8:Int))))) (
 some false) (
 tif ((!(decide ((((List.length r9):Nat):Int)=(32:Int))))) (
 some false) (
 a0a (at? r7.1 (0:Int)) fun r10 =>
 a0a ((r7.1)[0]?) fun r11 =>
 tif ((!(decide ((((List.length r11):Nat):Int)=(512:Int))))) (
 some false) (
 a0a (at? r3.1 (0:Int)) fun r12 =>
 a0a ((r3.1)[0]?) fun r13 =>
 a0a (u0v n r3.1 (r13::(((120:UInt8)::[])::[])) (7:Int)) fun r14 =>
 a0a (at? r3.1 (0:Int)) fun r15 =>
 a0a ((r3.1)[0]?) fun r16 =>
 tif ((r4.1==r16)) (
 tif ((decide (r4.2=(0:Int)))) (
 a0a (l1y n r5.1 r2.1) fun r17 =>
 tif (r17) (
 tif ((decide (r5.2=(0:Int)))) (
 a0a (at? r7.1 (0:Int)) fun r18 =>
 a0a ((r7.1)[0]?) fun r19 =>
 a0a (at? r3.1 (1:Int)) fun r20 =>
 a0a ((r3.1)[1]?) fun r21 =>
 tif ((r19==r21)) (
 tif ((decide (r8.2=(4:Int)))) (
 a0a (at? r9 (7:Int)) fun r22 =>
 tif ((decide ((((UInt8.toNat r22):Nat):Int)=(3:Int)))) (
 a0a (at? r9 (14:Int)) fun r23 =>
 tif ((decide ((((UInt8.toNat r23):Nat):Int)=(1:Int)))) (
 a0a (at? r9 (15:Int)) fun r24 =>
 tif ((decide ((((UInt8.toNat r24):Nat):Int)=(2:Int)))) (
 a0a (at? r9 (24:Int)) fun r25 =>
 tif ((decide ((((UInt8.toNat r25):Nat):Int)=(1:Int)))) (
 a0a (g0z n ((0:Int),((0:Int),(((0:Int),((0:Int),((0:Int),false))),(((0:Int),((0:Int),((0:Int),false))),(((0:Int),(0:Int)),((0:Int),((0:Int),(0:Int))))))))) fun r26 =>
 tif ((decide ((((List.length r26):Nat):Int)=(128:Int)))) (
 a0a (at? r7.1 (0:Int)) fun r27 =>
 a0a ((r7.1)[0]?) fun r28 =>
 tif ((true&&(decide ((7:Int)≤(((List.length r28):Nat):Int))))) (
 tif (((List.drop 0 (List.take 7 r28))==((0:UInt8)::((4:UInt8)::((1:UInt8)::((1:UInt8)::((97:UInt8)::((0:UInt8)::((0:UInt8)::[]))))))))) (
 tif ((decide ((((List.length r14):Nat):Int)=(1:Int)))) (
 a0a (at? r14 (0:Int)) fun r29 =>
 some ((decide (r29.1=(8:Int)))&&(r29.2==((120:UInt8)::[])))) (
 some false)) (
 some false)) (
 none)) (
 some false)) (
 some false)) (
 some false)) (
 some false)) (
 some false)) (
 some false)) (
 some false)) (
 some false)) (
 some false)) (
 some false)) (
 some false)))))))))):=by kernel_rfl
def v0d:Conf:=(20,((10,(20,60)),((4,(5,6)),(3,9))))
def x24:Ser:=([([97],[])],(3,((0,(0,[(3,(258,(0,false)))])),((List.replicate 4 s0,(List.replicate 5 s0,List.replicate 6 s0)),(0,(1,((3,(258,(0,false))),((3,(258,(0,false))),((0,0),(0,(0,0)))))))))))
def S24:Sta:=(v0d,(0,((-1),[x24,ser0,ser0])))
theorem lvl24_0 (n:Nat):g2r (n+39)=some v0d:=by kernel_rfl
theorem lvl24_1 (n:Nat):d2s (n+39) v0d=some ((v0d,(0,((-1),[ser0,ser0,ser0]))),0):=by kernel_rfl
theorem lvl24_2 (n:Nat):o1x (n+39) (v0d,(0,((-1),[ser0,ser0,ser0]))) [([97],[])] (3,(258,(0,false)))=some (S24,0):=by kernel_rfl
theorem lvl24_3 (n:Nat):x0i (n+14) S24=some 0:=by kernel_rfl
theorem lvl24_4 (n:Nat):r0n (n+39) []=some (sta0,4):=of_none (n+22) (by simp) (by rintro ⟨s,_,_,h⟩;cases h)
theorem x24_w:SerW x24∧SerM x24:=by
 have r:∀k,∀s∈List.replicate k s0,SloW s:=fun k s hs=>by rw[(List.mem_replicate.1 hs).2];exact u1o
 have e:EvW (3,(258,(0,false))):=⟨by unfold I64;decide,by decide,by unfold I64;decide⟩;refine ⟨⟨by unfold I64;decide,fun y hy => ?_,⟨r 4,r 5,r 6⟩,⟨by unfold I64;decide,⟨by unfold I64;decide,e,e,?_,by unfold I64;decide,by unfold I64;decide,by unfold I64;decide⟩⟩⟩,⟨by decide,by decide,by decide,by decide,by decide⟩⟩
 ·rw[List.mem_singleton.1 hy];exact e
 ·exact ⟨by decide,by decide⟩
theorem j2l:StaW S24:=⟨by decide,fun x hx=>by
 rcases List.mem_cons.1 hx with rfl | hx
 ·exact x24_w
 rcases List.mem_cons.1 hx with rfl | hx
 ·exact ⟨e2f,e2g⟩
 rw[List.mem_singleton.1 hx];exact ⟨e2f,e2g⟩⟩
theorem l1e:StaOk S24:=by
 have h:=lvl24_3 0;rw[p1p 0 j2l] at h;by_cases k:StaOk S24
 ·exact k
 ·rw[if_neg k] at h;cases h
theorem x24_ne:x24≠ser0:=fun h=>by have:=congrArg Prod.fst h;cases this
theorem d2a:SerOk v0d x24:=(s0t (l1e.right 0 x24 rfl)).resolve_left x24_ne
theorem plc24:plc v0d=8:=by decide
theorem f2m:∃R,e0g v0d x24=c0x x24::R:=⟨_,by unfold e0g;rw[if_neg x24_ne]⟩
theorem all24:∃R,allB S24=i0u S24::c0x x24::R:=by
 obtain ⟨R,h⟩:=f2m;refine ⟨R++[ser0,ser0].flatMap (e0g v0d),?_⟩;show i0u S24::(x24::[ser0,ser0]).flatMap (e0g v0d)=_;rw[List.flatMap_cons,h,List.cons_append]
theorem diff24 (n:Nat) (a b:List UInt8) (R:List (List UInt8)) (hb:b≠[120]):u0v (n+1) (a::b::R) [a,[120]] 7=some [(8,[120])]:=by
 obtain ⟨f,hf⟩:∃f,a0b=f+1+1+1:=⟨a0b-3,by unfold a0b;omega⟩;have e0:IntKind.wrap .i64 ((0:Int)+1)=1:=by decide
 have e1:IntKind.wrap .i64 ((1:Int)+1)=2:=by decide
 have e2:IntKind.wrap .i64 ((7:Int)+1)=8:=by decide
 have a0:at? [a,[120]] (0:Int)=some a:=rfl;have a1:at? [a,[120]] (1:Int)=some [120]:=rfl;have b0:at? (a::b::R) (0:Int)=some a:=rfl;have b1:at? (a::b::R) (1:Int)=some b:=rfl;rw[n1p,hf,l0e,tfd,if_pos (by simp),a0,obs,tfd,if_neg (by simp;omega),b0,obs,beq_self_eq_true,Bool.not_true,tff,e0,
  l0e,tfd,if_pos (by simp),a1,obs,tfd,if_neg (by simp;omega),b1,obs,beq_eq_false_iff_ne.2 hb,Bool.not_false,tft,tfd,if_pos (by simp),e1,e2,
  l0e,tfd,if_neg (by simp),obs,a0r]
 rfl
theorem i1t (n:Nat):t0q (n+40)=some true:=by
 obtain ⟨R,hR⟩:=all24;obtain ⟨Q,hQ⟩:=f2m;obtain ⟨h1,h2,h3⟩:=h1w l1e;have hc:OkC v0d:=l1e.whole.1;have hlen:(allB S24).length=25:=by rw[h2];show 1+3*(plc v0d).toNat=25;rw[plc24];rfl
 have hpl:(e0g v0d x24).length=8:=by rw[(w0d hc.rng (.inr d2a)).2,plc24];rfl
 have hfb:(c0x x24).length=512:=u0w (a1w d2a.lab);have hne:c0x x24≠[120]:=fun h=>by rw[h] at hfb;cases hfb
 have hev:=g0a (3,(258,(0,true)));have e7:at? (c0y (3,(258,(0,true)))) 7=some 3:=by decide +kernel
 have e14:at? (c0y (3,(258,(0,true)))) 14=some 1:=by decide +kernel
 have e15:at? (c0y (3,(258,(0,true)))) 15=some 2:=by decide +kernel
 have e24:at? (c0y (3,(258,(0,true)))) 24=some 1:=by decide +kernel
 have t7:List.drop 0 (List.take 7 (c0x x24))=[0,4,1,1,97,0,0]:=by decide +kernel
 have a0:at? S24.2.2.2 (0:Int)=some x24:=rfl;rw[i1m,lvl24_0,obs,lvl24_1,obs,decide_eq_true rfl,Bool.not_true,tff,lvl24_2,obs,decide_eq_true rfl,Bool.not_true,tff,decide_eq_true (show ((S24.2.2.2.length:Nat):Int)=3 from rfl),Bool.not_true,tff];dsimp only;rw[o1u (n+23) j2l,if_pos l1e,obs,e1i (n+24) j2l,if_pos l1e,obs];dsimp only;rw[of_right (n+22) j2l l1e (by rw[hlen];omega),obs,a0,obs,show S24.1=v0d from rfl,f1o (n+27) hc x24_w.1 x24_w.2,if_pos (.inr d2a),obs,lvl24_4,obs,g1m (n+33),obs];dsimp only
 have p0:at? (e0g v0d x24) (0:Int)=some (c0x x24):=by rw[hQ];rfl
 have p0':(e0g v0d x24)[0]? = some (c0x x24):=by rw[hQ];rfl
 have q0:at? (allB S24) (0:Int)=some (i0u S24):=by rw[hR];rfl
 have q0':(allB S24)[0]? = some (i0u S24):=by rw[hR];rfl
 have q1:at? (allB S24) (1:Int)=some (c0x x24):=by rw[hR];rfl
 have q1':(allB S24)[1]? = some (c0x x24):=by rw[hR];rfl
 have hd:u0v (n+39) (allB S24) [i0u S24,[120]] 7=some [(8,[120])]:=by rw[hR];exact diff24 (n+38) _ _ _ hne
 rw[decide_eq_true rfl,Bool.not_true,tff,hlen,hpl,hev];simp only[p0,p0',q0,q0',q1,q1',obs,hd,hfb,beq_self_eq_true,tft,tff,tfd];rw[stt_same (n+34) j2l,decide_eq_true rfl,obs];simp only[e7,e14,e15,e24,obs,tft,d1e (n+33),t7];have hsl:=d0j (0,(0,((0,(0,(0,false))),((0,(0,(0,false))),((0,0),(0,(0,0)))))));rw[hsl];rfl
theorem small24 (n:Nat) (c:Conf):∃b,g1c (n+1) c=some b∧(b=true→c.2.2.2.1≤8∧c.1≤64∧c.2.2.1.1≤40∧c.2.2.1.2.1≤40∧c.2.2.1.2.2≤40):=by
 rw[s1g];simp only[tfd];by_cases h1:c.2.2.2.1≤8
 case neg=>rw[if_neg h1];exact ⟨_,rfl,by simp⟩
 by_cases h2:c.1≤64
 case neg=>rw[if_pos h1,if_neg h2];exact ⟨_,rfl,by simp⟩
 by_cases h3:c.2.2.1.1≤40
 case neg=>rw[if_pos h1,if_pos h2,if_neg h3];exact ⟨_,rfl,by simp⟩
 by_cases h4:c.2.2.1.2.1≤40
 case neg=>rw[if_pos h1,if_pos h2,if_pos h3,if_neg h4];exact ⟨_,rfl,by simp⟩
 rw[if_pos h1,if_pos h2,if_pos h3,if_pos h4];exact ⟨_,rfl,fun k=>⟨h1,h2,h3,h4,of_decide_eq_true k⟩⟩
theorem b2f (n:Nat) (c:Conf) {x:Ser} (hw:SerW x) (hm:SerM x):∃v,i0h (n+12) c x=some v∧p0m (n+12) c x=some v∧v.1.length≤1000000:=by
 by_cases hc:OkC c
 ·rw[f1o n hc hw hm,q1c n hc hw hm];by_cases h:x=ser0∨SerOk c x
  ·rw[if_pos h];exact ⟨_,rfl,rfl,by have:=a1n hc h;dsimp only;omega⟩
  ·rw[if_neg h];exact ⟨_,rfl,rfl,by simp⟩
 ·rw[f2l n x hc,e2i n x hc];exact ⟨_,rfl,rfl,by simp⟩
theorem d2p (n:Nat) {s:Sta} (hw:StaW s) (hn:s.2.2.2.length≤1000) (e:Ev) (o:Slo):∀(rest pre:List Ser) (f:Nat) (i:Int),s.2.2.2=pre++rest→i=pre.length →
  g0e (n+12) (f+rest.length+1) (s,e,o,s.2.2.2,(s.2.2.2.length:Int),i,())=some (.inl (e,(o,()))):=by
 intro rest;induction rest with
 | nil =>
  intro pre f i h hi;rw[k0u,tfd,if_neg (idxe h hi rfl)]
 | cons a rest ih =>
  intro pre f i h hi;have hlen:=congrArg List.length h;simp at hlen;have hia:s.2.2.2[pre.length]? = some a:=by rw[h];simp
  obtain ⟨w1,w2⟩:=hw.at hia;obtain ⟨v,h1,h2,h3⟩:=b2f n s.1 w1 w2;rw[show f+(a::rest).length+1=(f+rest.length+1)+1 by simp;omega,k0u,tfd,if_pos (idx h hi rfl),b0s h hi,obs,h1,obs,h2,obs,q1b (n+11) _ _ (by omega),decide_eq_true rfl,obs,Bool.not_true,tff,decide_eq_true rfl,Bool.not_true,tff,w64 (by omega) (by omega)];exact ih (pre++[a]) f (i+1) (idxl h) (idxs hi)
theorem allB_le {s:Sta} (hs:StaOk s) (hn:s.2.2.2.length≤8):(allB s).length≤1000000:=by
 have hp:=j0g hs.whole.1.rng;rw[(h1w hs).2.1];have:s.2.2.2.length*(plc s.1).toNat≤8*20000:=Nat.mul_le_mul hn (by omega);omega
theorem g1f (n:Nat) (s:Sta) (e:Ev) (o:Slo) (hs:Wf a0w s) (he:Wf a0e e) (ho:Wf a0c o):v0q (n+41) s e o=some true:=by
 have hw:=sta_wf hs;rw[a1x,i1t n];rcases g2o (n+37) hw with h | ⟨h,h8⟩
 ·rw[h];rfl
 rw[h,obs,show (decide ((1:Int)=0))=false from rfl,tff];obtain ⟨b,hb,_⟩:=small24 (n+39) s.1;rw[hb,obs];cases b with
 | false=>rfl
 | true =>
  rw[Bool.not_true,tff,o1u (n+24) hw,rall_val (n+24) hw,e1i (n+25) hw,k1g (n+25) hw];have h10:=d2p (n+28) hw (by omega) e o s.2.2.2 [] (a0b-s.2.2.2.length-1) 0 rfl rfl;rw[←lfu (by omega)] at h10;have hv:(if StaOk s then (allB s,(0:Int)) else ([],2)).1.length≤1000000:=by
   by_cases k:StaOk s
   ·rw[if_pos k];exact allB_le k h8
   ·rw[if_neg k];simp
  generalize (if StaOk s then (allB s,(0:Int)) else ([],2))=v at hv ⊢;generalize (if StaOk s then (i0u s,(0:Int)) else ([],2))=u;rw[obs,obs,obs,obs,q1b (n+39) _ _ (by omega),decide_eq_true rfl,obs,h10];simp only[Bool.not_true,tff,decide_true,beq_self_eq_true,obs,a0r,tft,g1m (n+34),k1i (n+36) _ (ev_wf he),d1e (n+34),e1u (n+36) _ (e2a ho)]
end Go.Proofs.YtagnkfbpgkckiaaGreat
