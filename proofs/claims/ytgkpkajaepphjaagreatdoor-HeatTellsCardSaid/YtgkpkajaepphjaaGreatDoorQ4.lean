/-
 Plain proofs about the functions of this seat, part 4 of 4.
-/
import Derived.Test.YtgkpkajaepphjaaGreatDoorQ3
import Derived.Test.YtgkpkajaepphjaaGreatDoorTr
namespace Go.Proofs.YtgkpkajaepphjaaGreatDoor
open Go.Flat Go.Plim
set_option linter.unusedVariables false
set_option linter.unusedSimpArgs false
noncomputable def e0m (s:Sta) (q:List Lab×(Int×(Int×Int))):List Cel×Int :=
 if (doQ s q.1 q.2.1 q.2.2.1 q.2.2.2).2=0 then
  (if 4096<q.2.2.2 / a0m s.1 ((b0m s q.2.1 q.2.2.1 q.2.2.2).1-1)-q.2.2.1 / a0m s.1 ((b0m s q.2.1 q.2.2.1 q.2.2.2).1-1) then ([],6)
   else (winL s q.1 ((b0m s q.2.1 q.2.2.1 q.2.2.2).1-1) (q.2.2.1 / a0m s.1 ((b0m s q.2.1 q.2.2.1 q.2.2.2).1-1)) (q.2.2.2 / a0m s.1 ((b0m s q.2.1 q.2.2.1 q.2.2.2).1-1)-q.2.2.1 / a0m s.1 ((b0m s q.2.1 q.2.2.1 q.2.2.2).1-1)).toNat,0))
 else ([],(doQ s q.1 q.2.1 q.2.2.1 q.2.2.2).2)
theorem m0v {s:Sta} {l:List Lab} {t a b:Int} (h:(doQ s l t a b).2=0):StaOk s∧LabOk l∧(b0m s t a b).2=0∧(doQ s l t a b).1.1=(b0m s t a b).1:=by
 unfold doQ at *
 by_cases h1:StaOk s
 case neg=>rw[if_neg h1] at h;cases h
 by_cases h2:LabOk l
 case neg=>rw[if_pos h1,if_neg h2] at h;cases h
 by_cases h3:(b0m s t a b).2=0
 case neg=>rw[if_pos h1,if_pos h2,if_neg h3] at h;exact (h3 h).elim
 rw[if_pos h1,if_pos h2,if_pos h3];exact ⟨h1,h2,h3,rfl⟩
theorem p1g {s:Sta} {l:List Lab} (h:l0z s l=none) (k i:Int):winC s l k i=z0:=by unfold winC;rw[h]
theorem p1f {s:Sta} {l:List Lab} {p:Nat} {x:Ser} (h:l0z s l=some p) (hx:s.2.2.2[p]? = some x) (hok:SerOk s.1 x) (k:Int) {i:Int} (h0:0≤i):y1u s.1 x k i=(winC s l k i,0):=by
 unfold winC;rw[h];simp only[hx,Option.getD_some];rw[y1t hok k h0];exact Prod.ext rfl (v0k hok k h0 (by omega))
theorem t1f (n:Nat) {s:Sta} (hw:StaW s) {l:List Lab} {p:Nat} {x:Ser} (h:l0z s l=some p) (hx:s.2.2.2[p]? = some x) (hok:SerOk s.1 x) (r:Int×(Cel×((Wd×Wd)×Int))) {k:Int} (h0:0≤k) (h2:k≤2) (hr:IntKind.wrap .i64 (r.1-1)=k) {i:Int} (hi:0≤i∧i≤35184372088832) (m:Nat) (hm:m≤4096):∀(d j f:Nat),j+d=m→d<f →
  b0e (n+21) f (s,r,i,winL s l k i j++List.replicate d z0,(p:Int),(m:Int),(j:Int),())=some (.inl (winL s l k i m,())):=by
 intro d;induction d with
 | zero =>
  intro j f hj hf;obtain ⟨f,rfl⟩:∃g,f=g+1:=⟨f-1,by omega⟩;obtain rfl:j=m:=by omega
  rw[b0r,decide_eq_false (by omega),tff];simp
 | succ d ih =>
  intro j f hj hf;obtain ⟨f,rfl⟩:∃g,f=g+1:=⟨f-1,by omega⟩;have hl:((j:Nat):Int)=((winL s l k i j).length:Int):=by rw[s0y]
  rw[b0r,decide_eq_true (by omega),tft,q0q hx,obs,hr,w64 (x:=i+(j:Int)) (by omega) (by omega),g2b n s.1 (hw.at hx).1 h0 h2,obs,p1f h hx hok k (by omega),u1k hl,obs,f1c hl,obs,d1k hl];simp only[decide_true,Bool.not_true,tff];rw[←w0a,w64 (by omega) (by omega),show ((j:Int)+1)=((j+1:Nat):Int) by omega];exact ih (j+1) f (by omega) (by omega)
theorem cap112 {x:Int} (h0:0≤x) (h:x≤4096):((decide ((0:Int)≤x))&&((decide (x≤x))&&(decide ((x*(112:Int))≤(140737488355328:Int)))))=true:=by
 rw[decide_eq_true h0,decide_eq_true (Int.le_refl x),decide_eq_true (by omega)];rfl
theorem t0x (n:Nat) {s:Sta} (hw:StaW s) (q:List Lab×(Int×(Int×Int))):b0t (n+25) s q=some (e0m s q):=by
 obtain ⟨l,t,a,b⟩:=q;rw[q0l,m1u n hw,obs,tfn,tfd];unfold e0m;simp only;by_cases h:(doQ s l t a b).2=0
 case neg=>rw[if_neg h,if_neg h]
 rw[if_pos h,if_pos h];obtain ⟨hs,hl,ht,e1⟩:=m0v h;obtain ⟨_,t1,t3,ho,_⟩:=l0e ht;obtain ⟨s1,s2⟩:=u0x ho;obtain ⟨wp,rp,ha,hb,es,ea,eab⟩:=n0h s1;generalize hr:(doQ s l t a b).1=r at *
 rw[←e1] at t1 t3 ho s1 s2 wp ha hb es ea eab ⊢;have hk:IntKind.wrap .i64 (r.1-1)=r.1-1:=w64 (by omega) (by omega);generalize hkk:r.1-1=k at *
 have hk0:0≤k:=by omega
 have hk2:k≤2:=by omega
 rw[hk];have fin:(a0a (e0g (n+24) a b (a0m s.1 k)) fun r1 =>
   tif (!(decide (r1.2.2=(0:Int)))) (some (([]:List Cel),r1.2.2)) (
   tif (decide ((4096:Int)<(IntKind.wrap .i64 (r1.2.1-r1.1)))) (some ([],(6:Int))) (
   tif (((decide ((0:Int)≤(IntKind.wrap .i64 (r1.2.1-r1.1))))&&((decide ((IntKind.wrap .i64 (r1.2.1-r1.1))≤(IntKind.wrap .i64 (r1.2.1-r1.1))))&&(decide (((IntKind.wrap .i64 (r1.2.1-r1.1))*(112:Int))≤(140737488355328:Int)))))) (
   a0a (k0i (n+24) s l) fun r2 =>
   tif (!(decide (r2.2=(0:Int)))) (some ((List.replicate (Int.toNat (IntKind.wrap .i64 (r1.2.1-r1.1))) z0),(0:Int))) (
   a0a (b0e (n+24) a0b (s,(r,(r1.1,((List.replicate (Int.toNat (IntKind.wrap .i64 (r1.2.1-r1.1))) z0),(r2.1,((((List.length (List.replicate (Int.toNat (IntKind.wrap .i64 (r1.2.1-r1.1))) z0)):Nat):Int),((0:Int),())))))))) fun r3 =>
   b0c (fun y4=>some (y4.1,(0:Int))) (fun z5=>some z5) r3)) none)))
   = some (if 4096<b / a0m s.1 k-a / a0m s.1 k then ([],6) else (winL s l k (a / a0m s.1 k) (b / a0m s.1 k-a / a0m s.1 k).toNat,0)):=by
  have hbw:b / a0m s.1 k≤b:=Int.ediv_le_self _ (by have:=rp.1;have:=rp.2.2;omega);have hb2:=rp.2.1;rw[v0e (n+21),obs,es];simp only[decide_true,Bool.not_true,tff];have hsub:IntKind.wrap .i64 (b / a0m s.1 k-a / a0m s.1 k)=b / a0m s.1 k-a / a0m s.1 k:=w64 (by omega) (by omega);rw[hsub,tfd];by_cases hlong:4096<b / a0m s.1 k-a / a0m s.1 k
  ·rw[if_pos hlong,if_pos hlong]
  rw[if_neg hlong,if_neg hlong,cap112 (by omega) (by omega),tft,z1h (n+14) hw,obs,tfn,tfd];cases hf:l0z s l with
  | none =>
   rw[t0z hs.whole hf,if_neg (show ¬((3:Int)=0) by decide)];have e3:∀m:Nat,winL s l k (a / a0m s.1 k) m=List.replicate m z0:=fun m=>List.eq_replicate_iff.2 ⟨s0y _ _ _ _ _,fun b hb=>by
    unfold winL at hb;obtain ⟨j,_,rfl⟩:=List.mem_map.1 hb
    exact p1g hf _ _⟩
   rw[e3]
  | some p =>
   obtain ⟨x,hx,_,_,hok⟩:=found hs hf;rw[t0y hs.whole hf,if_pos rfl];simp only[List.length_replicate];have:=t1f (n+3) hw hf hx hok r hk0 hk2 (hk ▸ hkk ▸ rfl) (i:=a / a0m s.1 k) ⟨ea,by omega⟩ (b / a0m s.1 k-a / a0m s.1 k).toNat (by omega) (b / a0m s.1 k-a / a0m s.1 k).toNat 0 a0b (by omega) (by unfold a0b;omega);have e:b0e (n+24) a0b (s,r,a / a0m s.1 k,List.replicate (b / a0m s.1 k-a / a0m s.1 k).toNat z0,(p:Int),(((b / a0m s.1 k-a / a0m s.1 k).toNat:Nat):Int),(0:Int),())=_:=this;rw[e,obs,a0k]
 rcases (by omega:k=0∨k=1∨k=2) with ek | ek | ek
 ·rw[decide_eq_true ek,tft];rw[ek] at fin ⊢;exact fin
 ·rw[decide_eq_false (by omega),tff,decide_eq_true ek,tft];rw[ek] at fin ⊢;exact fin
 ·rw[decide_eq_false (by omega),tff,decide_eq_false (by omega),tff,decide_eq_true ek,tft];rw[ek] at fin ⊢;exact fin
theorem w1b (n:Nat) {s:Sta} (hw:StaW s) (hs:StaOk s) (q:List Lab×(Int×(Int×Int))) (r:Int×(Cel×((Wd×Wd)×Int))) {k w:Int} (h0:0≤k) (h2:k≤2) (hr:IntKind.wrap .i64 (r.1-1)=k) (hw1:1≤w) {i:Int} (hi:0≤i) (hb:0≤q.2.2.2∧q.2.2.2≤35184372088832) (m:Nat) (hm:m≤4096) (him:i+(m:Int)=q.2.2.2 / w):∀(d j f:Nat),j+d=m→d<f →
  d0c (n+10) f (s,q,r,w,(c1d s q.1).1,(c1d s q.1).2,winL s q.1 k i j,i+(j:Int),())=some (.inl (winL s q.1 k i m,())):=by
 have hbw:q.2.2.2 / w≤q.2.2.2:=Int.ediv_le_self _ hb.1;have e1:IntKind.wrap .i64 (Int.tdiv q.2.2.2 w)=q.2.2.2 / w:=by rw[f0o hb.1,w64 (by omega) (by omega)]
 intro d;induction d with
 | zero =>
  intro j f hj hf;obtain ⟨f,rfl⟩:∃g,f=g+1:=⟨f-1,by omega⟩;obtain rfl:j=m:=by omega
  rw[q0t,decide_eq_false (show ¬w=0 by omega),tff,e1,decide_eq_false (by omega),tff]
 | succ d ih =>
  intro j f hj hf;obtain ⟨f,rfl⟩:∃g,f=g+1:=⟨f-1,by omega⟩;have hlen:(winL s q.1 k i j).length=j:=s0y _ _ _ _ _;have next:=ih (j+1) f (by omega) (by omega);rw[w0a,show i+((j+1:Nat):Int)=i+(j:Int)+1 by omega] at next;rw[q0t,decide_eq_false (show ¬w=0 by omega),tff,e1,decide_eq_true (by omega),tft,tfd];cases hf:l0z s q.1 with
  | none =>
   rw[t0z hs.whole hf] at next ⊢;rw[p1g hf] at next;rw[if_neg (show ¬((3:Int)=0) by decide),decide_eq_true (by omega),tft,w64 (by omega) (by omega)];exact next
  | some p =>
   obtain ⟨x,hx,_,_,hok⟩:=found hs hf;rw[t0y hs.whole hf] at next ⊢;simp only at next ⊢;rw[if_pos trivial,q0q hx,obs,hr,g2p n s.1 (hw.at hx).1 h0 h2,obs,p1f hf hx hok k (by omega),decide_eq_true (by omega),tft,w64 (by omega) (by omega)];exact next
theorem v1d {a b w:Int} (hw:1≤w) (ha:a % w=0) (hb:b % w=0):(b-a) / w=b / w-a / w:=by
 have ea:a / w*w=a:=Int.ediv_mul_cancel_of_emod_eq_zero ha;have eb:b / w*w=b:=Int.ediv_mul_cancel_of_emod_eq_zero hb;have e:b-a=(b / w-a / w)*w:=by rw[Int.sub_mul,ea,eb]
 conv=>lhs;rw[e]
 exact Int.mul_ediv_cancel _ (by omega)
theorem q1w (n:Nat) {s:Sta} (hw:StaW s) (q:List Lab×(Int×(Int×Int))):e0z (n+14) s q=some (e0m s q):=by
 obtain ⟨l,t,a,b⟩:=q;rw[q1y,r22_do n hw,obs,tfn,tfd];unfold e0m;simp only;by_cases h:(doQ s l t a b).2=0
 case neg=>rw[if_neg h,if_neg h]
 rw[if_pos h,if_pos h];obtain ⟨hs,hl,ht,e1⟩:=m0v h;obtain ⟨_,t1,t3,ho,_⟩:=l0e ht;obtain ⟨s1,s2⟩:=u0x ho;obtain ⟨wp,rp,ha,hb,es,ea,eab⟩:=n0h s1;generalize hr:(doQ s l t a b).1=r at *
 rw[←e1] at t1 t3 ho s1 s2 wp ha hb es ea eab ⊢;have hk:IntKind.wrap .i64 (r.1-1)=r.1-1:=w64 (by omega) (by omega);generalize hkk:r.1-1=k at *
 have hk0:0≤k:=by omega
 have hk2:k≤2:=by omega
 rw[hk];have fin:(tif (decide (a0m s.1 k=(0:Int))) none (
   tif (decide ((4096:Int)<(IntKind.wrap .i64 (Int.tdiv (IntKind.wrap .i64 (b-a)) (a0m s.1 k))))) (some (([]:List Cel),(6:Int))) (
   a0a (p0x (n+13) s l) fun r1 =>
   tif (decide (a0m s.1 k=(0:Int))) none (
   a0a (d0c (n+13) a0b (s,((l,(t,(a,b))),(r,(a0m s.1 k,(r1.1,(r1.2,([],((IntKind.wrap .i64 (Int.tdiv a (a0m s.1 k))),()))))))))) fun r2 =>
   b0c (fun y3=>some (y3.1,(0:Int))) (fun z4=>some z4) r2))))
   = some (if 4096<b / a0m s.1 k-a / a0m s.1 k then ([],6) else (winL s l k (a / a0m s.1 k) (b / a0m s.1 k-a / a0m s.1 k).toNat,0)):=by
  have ha0:=rp.1;have hab:=rp.2.2;have hb2:=rp.2.1;have hbw:b / a0m s.1 k≤b:=Int.ediv_le_self _ (by omega);have hw1:=wp.1;have hsub:IntKind.wrap .i64 (Int.tdiv (IntKind.wrap .i64 (b-a)) (a0m s.1 k))=b / a0m s.1 k-a / a0m s.1 k:=by
   rw[w64 (x:=b-a) (by omega) (by omega),f0o (by omega),v1d hw1 ha hb,w64 (by omega) (by omega)]
  have hav:IntKind.wrap .i64 (Int.tdiv a (a0m s.1 k))=a / a0m s.1 k:=by rw[f0o ha0,w64 (by omega) (by omega)]
  rw[decide_eq_false (show ¬a0m s.1 k=0 by omega),tff,hsub,tfd];by_cases hlong:4096<b / a0m s.1 k-a / a0m s.1 k
  ·rw[if_pos hlong,if_pos hlong]
  rw[if_neg hlong,if_neg hlong,z1p (n+6) hw,obs,tff,hav];have:=w1b (n+3) hw hs (l,(t,(a,b))) r hk0 hk2 (hk ▸ hkk ▸ rfl) hw1 (i:=a / a0m s.1 k) ea ⟨by simp only;omega,by simp only;omega⟩ (b / a0m s.1 k-a / a0m s.1 k).toNat (by omega) (by simp only;omega) (b / a0m s.1 k-a / a0m s.1 k).toNat 0 a0b (by omega) (by unfold a0b;omega);rw[show a / a0m s.1 k+((0:Nat):Int)=a / a0m s.1 k by omega] at this;have e:d0c (n+13) a0b (s,(l,t,a,b),r,a0m s.1 k,(c1d s l).1,(c1d s l).2,([]:List Cel),a / a0m s.1 k,())=_:=this;rw[e,obs,a0k]
 rcases (by omega:k=0∨k=1∨k=2) with ek | ek | ek
 ·rw[decide_eq_true ek,tft];rw[ek] at fin ⊢;exact fin
 ·rw[decide_eq_false (by omega),tff,decide_eq_true ek,tft];rw[ek] at fin ⊢;exact fin
 ·rw[decide_eq_false (by omega),tff,decide_eq_false (by omega),tff,decide_eq_true ek,tft];rw[ek] at fin ⊢;exact fin
theorem t1y (s:Sta) (q:List Lab×(Int×(Int×Int))):(∀c∈(e0m s q).1,b0f c)∧(e0m s q).1.length≤4096:=by
 unfold e0m;split
 ·split
  ·exact ⟨by simp,by simp⟩
  ·exact ⟨f2b _ _ _ _ _,by rw[s0y];omega⟩
 ·exact ⟨by simp,by simp⟩
theorem f2p:∀(l:List Cel) (c:Cel),(allE c l).2=0→b0f c→∀w∈stp c l,wv w*9<340282366920938463463374607431768211456:=by
 intro l;induction l with
 | nil=>intro c _ _ w hw;simp[stp] at hw
 | cons x l ih =>
  intro c h hc w hw;obtain ⟨_,hx,hah,hm,hr⟩:=m0f h;rcases List.mem_cons.1 hw with rfl | hw
  ·by_cases hx0:x=z0
   ·rw[hx0,z1i,r0b];omega
   ·have hxN:=hx.n hx0;have hi:=hxN.inc;have hsm:=hxN.small;by_cases hc0:c=z0
    ·rw[hc0,t0e hxN];omega
    ·have hlt:=(hah.resolve_left hc0).resolve_left hx0;have:=step_range (hc.n hc0) hxN hlt;rw[step_next (hc.n hc0) hxN,h0s];omega
  ·exact ih _ hr (q0w hc hx hah) w hw
def lineT (l:List Int):List UInt8:=l.map fun k=>UInt8.ofNat (48+k).toNat
theorem y1d (n:Nat) (l:List Int) (hL:l.length≤1000000) (hr:∀k∈l,0≤k∧k≤9) (why:Int):∀(rest pre:List Int) (out:List Int) (f:Nat) (i len:Int),l=pre++rest→i=pre.length→len=l.length→rest.length<f→out.length=pre.length →
  e0b n f (why,out++List.replicate rest.length (0:Int),l,len,i,())=some (.inl (why,out++rest.map (fun k=>48+k),())):=by
 intro rest;induction rest with
 | nil =>
  intro pre out f i len hl hi hn hf ho;obtain ⟨f,rfl⟩:∃g,f=g+1:=⟨f-1,by simp at hf;omega⟩;rw[d0v,decide_eq_false (idxe hl hi hn),tff];simp
 | cons x rest ih =>
  intro pre out f i len hl hi hn hf ho;obtain ⟨f,rfl⟩:∃g,f=g+1:=⟨f-1,by simp at hf;omega⟩;have hio:i=out.length:=by omega
  have hx:=hr x (by rw[hl];simp);rw[d0v,decide_eq_true (idx hl hi hn),tft,b0q hl hi,obs,List.length_cons,u1k hio,obs,f1c hio,obs,d1k hio,w64 (x:=48+x) (by omega) (by omega),wu8 (by omega) (by omega),idxw hl hi (by omega),ih (pre++[x]) (out++[48+x]) f (i+1) len (idxl hl) (idxs hi) hn (by simp at hf;omega) (by simp;omega),List.append_assoc];rfl
theorem digit_at {k:Int} (h:0≤k∧k≤9):List.drop (Int.toNat k) (List.take (Int.toNat (k+1)) ((48:UInt8)::((49:UInt8)::((50:UInt8)::((51:UInt8)::((52:UInt8)::((53:UInt8)::((54:UInt8)::((55:UInt8)::((56:UInt8)::((57:UInt8)::[])))))))))))=[UInt8.ofNat (48+k).toNat]:=by
 rcases (by omega:k=0∨k=1∨k=2∨k=3∨k=4∨k=5∨k=6∨k=7∨k=8∨k=9) with e | e | e | e | e | e | e | e | e | e<;>subst e<;>rfl
theorem c2t (n:Nat) (l:List Int) (hL:l.length≤1000000) (hr:∀k∈l,0≤k∧k≤9):∀(rest pre:List Int) (out:List UInt8) (f:Nat) (i len:Int),l=pre++rest→i=pre.length→len=l.length→rest.length<f→out.length=pre.length →
  p0u n f (out,l,len,i,())=some (.inl (out++lineT rest,())):=by
 intro rest;induction rest with
 | nil =>
  intro pre out f i len hl hi hn hf ho;obtain ⟨f,rfl⟩:∃g,f=g+1:=⟨f-1,by simp at hf;omega⟩;rw[u0r,decide_eq_false (idxe hl hi hn),tff];simp[lineT]
 | cons x rest ih =>
  intro pre out f i len hl hi hn hf ho;obtain ⟨f,rfl⟩:∃g,f=g+1:=⟨f-1,by simp at hf;omega⟩;have hx:=hr x (by rw[hl];simp);have hlen:=congrArg List.length hl;simp only[List.length_append,List.length_cons] at hlen
  rw[u0r,decide_eq_true (idx hl hi hn),tft,b0q hl hi,obs,decide_eq_true hx.1,tft,w64 (x:=x+1) (by omega) (by omega),digit_at hx,decide_eq_true (show (((Int.toNat x):Nat):Int)≤x+1 by omega),decide_eq_true (show x+1≤(10:Int) by omega),Bool.and_self,tft,decide_eq_true (show out.length+[UInt8.ofNat (48+x).toNat].length≤9223372036854775807 by simp;omega),tft,idxw hl hi (by omega),ih (pre++[x]) (out++[_]) f (i+1) len (idxl hl) (idxs hi) hn (by simp at hf;omega) (by simp;omega),List.append_assoc];rfl
theorem e2v {l:List Int} (hr:∀k∈l,0≤k∧k≤9):List.map (fun y=>(UInt8.ofNat (Int.toNat y))) (l.map fun k=>48+k)=lineT l:=by
 rw[List.map_map];rfl
theorem x1z (n m:Nat) {l:List Wd} (hL:l.length≤1000000) (hok:∀x∈l,WdOk x) (hs:∀x∈l,wv x*9<340282366920938463463374607431768211456) :
  ∃v,d0o (n+5) l=some (v,0)∧k0u (m+4) l=some (v,0)∧v.length=l.length∧∀k∈v,0≤k∧k≤9:=by
 by_cases hn:l=[]
 ·subst hn;exact ⟨[],s0s n,u0p m,rfl,by simp⟩
 ·obtain ⟨i,hi⟩:=h2h l hL hok hn;have hi0:=hi;obtain ⟨top,ht,hmax,_⟩:=hi0;have h9:=hs top (List.mem_of_getElem? ht);have e:levT top l=(l.map fun x=>lvl (wv top) (wv x),0):=if_pos h9;refine ⟨_,(f1b n hL hok hi ht).trans (congrArg some e),(j1y m hL hok hi ht).trans (congrArg some e),by simp,fun k hk => ?_⟩;obtain ⟨x,hx,rfl⟩:=List.mem_map.1 hk;exact e1o (c0h (hok x hx)).1 (hmax x hx)
theorem e2p {s:Sta} {q:List Lab×(Int×(Int×Int))} (h:(e0m s q).2=0):(allE z0 (e0m s q).1).2=0:=by
 unfold e0m at *
 by_cases hd:(doQ s q.1 q.2.1 q.2.2.1 q.2.2.2).2=0
 case neg=>rw[if_neg hd] at h;exact (hd h).elim
 rw[if_pos hd] at h ⊢;obtain ⟨hs,hl,ht,e1⟩:=m0v hd;obtain ⟨_,t1,t3,ho,_⟩:=l0e ht;obtain ⟨s1,s2⟩:=u0x ho;obtain ⟨wp,rp,ha,hb,es,ea,eab⟩:=n0h s1;generalize (b0m s q.2.1 q.2.2.1 q.2.2.2).1-1=k at *
 by_cases hlong:4096<q.2.2.2 / a0m s.1 k-q.2.2.1 / a0m s.1 k
 ·rw[if_pos hlong] at h;cases h
 rw[if_neg hlong] at h ⊢;simp only;cases hm:(q.2.2.2 / a0m s.1 k-q.2.2.1 / a0m s.1 k).toNat with
 | zero=>rfl
 | succ m=>rw[z1c hs q.1 k ea m]
theorem e1z (n m:Nat) {s:Sta} (hw:StaW s) (q:List Lab×(Int×(Int×Int))):∃v:List UInt8×Int,c0n (n+26) s q=some v∧i0e (m+15) s q=some v∧v.2=(e0m s q).2∧(v.2=0→v.1.length=(e0m s q).1.length)∧(v.2≠0→v.1=[]):=by
 obtain ⟨hc,hcl⟩:=t1y s q;rw[b1g,w1c,t0x n hw q,q1w m hw q];simp only[obs,tfn,tfd];by_cases h:(e0m s q).2=0
 case neg=>rw[if_neg h,if_neg h];exact ⟨_,rfl,rfl,rfl,fun e=>(h e).elim,fun _=>rfl⟩
 rw[if_pos h,if_pos h];have hall:=e2p h;have hw':∀x∈(e0m s q).1,CelW x:=fun x hx => .of (hc x hx)
 have es:i1r (e0m s q).1=(stp z0 (e0m s q).1,0):=if_pos hall;have hsl:(stp z0 (e0m s q).1).length=(e0m s q).1.length:=v1i _ _;rw[a1c (n+17) _ (by omega) hw',q1v (m+7) _ (by omega) hw',es];simp only[obs,if_pos trivial];have hsw:=stp_w (e0m s q).1 z0 hall h0a;have hss:=f2p (e0m s q).1 z0 hall h0a;obtain ⟨v,v1,v2,v3,v4⟩:=x1z (n+20) (m+10) (l:=stp z0 (e0m s q).1) (by omega) hsw hss;rw[v1,v2];simp only[obs];have t:=n1v v.length 1 (by omega);rw[show ((1:Nat):Int)=1 from rfl] at t
 have a1:=y1d (n+25) v (by omega) v4 0 v [] [] a0b 0 _ rfl rfl rfl (by unfold a0b;omega) rfl;have a2:=c2t (m+14) v (by omega) v4 v [] [] a0b 0 _ rfl rfl rfl (by unfold a0b;omega) rfl;rw[List.nil_append,List.nil_append] at a1;rw[List.nil_append] at a2;rw[t,tft,Int.toNat_natCast,a1,a2];simp only[obs,a0k];rw[e2v v4];refine ⟨_,rfl,rfl,h.symm,fun _ => ?_,fun e=>(e rfl).elim⟩;simp[lineT];omega
theorem f2m (x:Wd) (l:List Wd):sumW (x::l)=wv x+sumW l:=by simp[sumW]
theorem stp_sum:∀(l:List Cel) (c:Cel),(allE c l).2=0→sumW (stp c l)=wv (allE c l).1.2.2.2.1-wv c.2.2.2.1:=by
 intro l;induction l with
 | nil=>intro c _;simp[stp,allE,sumW]
 | cons x l ih =>
  intro c h;obtain ⟨hc,hx,hah,hm,hr⟩:=m0f h;rw[stp,f2m,ih _ hr,h0s,y0z,hm,if_pos rfl];simp only;omega
theorem stp_at:∀(l:List Cel) (c:Cel),(allE c l).2=0→∀(j:Nat) (x:Cel),l[j]? = some x→∃d,(stp c l)[j]? = some d∧wv x.2.2.2.1≤wv d:=by
 intro l;induction l with
 | nil=>intro c _ j x h;simp at h
 | cons y l ih =>
  intro c h j x hj;obtain ⟨hc,hy,hah,hm,hr⟩:=m0f h;cases j with
  | zero =>
   simp only[List.getElem?_cons_zero,Option.some.injEq] at hj;subst hj;refine ⟨_,rfl,?_⟩;by_cases hy0:y=z0
   ·rw[hy0,z1i];exact Int.le_refl _
   ·have hyN:=hy.n hy0;by_cases hc0:c=z0
    ·rw[hc0,t0e hyN];exact Int.le_refl _
    ·have hlt:=(hah.resolve_left hc0).resolve_left hy0;have:=step_range (hc.n hc0) hyN hlt;rw[step_next (hc.n hc0) hyN,h0s];omega
  | succ j=>exact ih _ hr j x hj
theorem h2u {s:Sta} {k a b:Int} (h:oneV s k a b=0) {j:Int} (h0:0≤j) (h1:j<b / a0m s.1 k-a / a0m s.1 k) :
  oneV s k (a+j*a0m s.1 k) (a+(j+1)*a0m s.1 k)=0∧(a+j*a0m s.1 k) / a0m s.1 k=a / a0m s.1 k+j∧(a+(j+1)*a0m s.1 k) / a0m s.1 k=a / a0m s.1 k+j+1∧0≤j*a0m s.1 k∧a+(j+1)*a0m s.1 k≤b∧(j+1)*a0m s.1 k=j*a0m s.1 k+a0m s.1 k:=by
 obtain ⟨s1,s2⟩:=u0x h;obtain ⟨wp,rp,ha,hb,es,ea,eab⟩:=n0h s1;rw[es] at s2;simp only at s2;unfold oneV;generalize a0m s.1 k=w at *
 have hw:=wp.1;have e1:(a+j*w) / w=a / w+j:=Int.add_mul_ediv_right a j (by omega);have e2:(a+(j+1)*w) / w=a / w+(j+1):=Int.add_mul_ediv_right a (j+1) (by omega);have e3:(a+j*w) % w=0:=by rw[Int.add_mul_emod_self_right];exact ha
 have e4:(a+(j+1)*w) % w=0:=by rw[Int.add_mul_emod_self_right];exact ha
 have p0:0≤j*w:=Int.mul_nonneg h0 (by omega);have p1:(j+1)*w=j*w+w:=by rw[Int.add_mul,Int.one_mul]
 have ea':a / w*w=a:=Int.ediv_mul_cancel_of_emod_eq_zero ha;have eb':b / w*w=b:=Int.ediv_mul_cancel_of_emod_eq_zero hb;have p2:(a / w+(j+1))*w≤b / w*w:=Int.mul_le_mul_of_nonneg_right (by omega) (by omega);rw[Int.add_mul,ea',eb'] at p2;have r1:=rp.1;have r2:=rp.2.1;have hs:j0l (a+j*w) (a+(j+1)*w) w=(a / w+j,(a / w+j+1,0)):=by
  unfold j0l;rw[if_pos ⟨wp,by omega,by omega,by omega⟩,if_pos ⟨e3,e4⟩,e1,e2,Int.add_assoc]
 refine ⟨?_,e1,by omega,p0,p2,p1⟩;rw[hs];simp only;rw[if_pos trivial,if_neg (by omega)]
theorem doQ_win {s:Sta} {l:List Lab} {t a b:Int} (h:(doQ s l t a b).2=0) {j:Int} (h0:0≤j) (h1:j<b / a0m s.1 ((b0m s t a b).1-1)-a / a0m s.1 ((b0m s t a b).1-1)) :
  (doQ s l (b0m s t a b).1 (a+j*a0m s.1 ((b0m s t a b).1-1)) (a+(j+1)*a0m s.1 ((b0m s t a b).1-1))).2=0 ∧
  (doQ s l (b0m s t a b).1 (a+j*a0m s.1 ((b0m s t a b).1-1)) (a+(j+1)*a0m s.1 ((b0m s t a b).1-1))).1.2.1=winC s l ((b0m s t a b).1-1) (a / a0m s.1 ((b0m s t a b).1-1)+j):=by
 obtain ⟨hs,hl,ht,e1⟩:=m0v h;obtain ⟨_,t1,t3,ho,_⟩:=l0e ht;generalize (b0m s t a b).1=T at *
 obtain ⟨o,d1,d2,_⟩:=h2u ho h0 h1;have hT:b0m s T (a+j*a0m s.1 (T-1)) (a+(j+1)*a0m s.1 (T-1))=(T,0):=by
  unfold b0m;rw[if_pos hs,if_neg (by omega),if_neg (by omega),if_pos o]
 unfold doQ;rw[hT,if_pos hs,if_pos hl];simp only;rw[if_pos trivial];refine ⟨rfl,?_⟩;simp only;rw[j1u,d1,d2];rfl
theorem t1z {s:Sta} {q:List Lab×(Int×(Int×Int))} (h:(doQ s q.1 q.2.1 q.2.2.1 q.2.2.2).2=0) {m:Nat} (hm:q.2.2.2 / a0m s.1 ((b0m s q.2.1 q.2.2.1 q.2.2.2).1-1)-q.2.2.1 / a0m s.1 ((b0m s q.2.1 q.2.2.1 q.2.2.2).1-1)=((m+1:Nat):Int)) (h4:m<4096) :
  e0m s q=(winL s q.1 ((b0m s q.2.1 q.2.2.1 q.2.2.2).1-1) (q.2.2.1 / a0m s.1 ((b0m s q.2.1 q.2.2.1 q.2.2.2).1-1)) (m+1),0) ∧
  allE z0 (winL s q.1 ((b0m s q.2.1 q.2.2.1 q.2.2.2).1-1) (q.2.2.1 / a0m s.1 ((b0m s q.2.1 q.2.2.1 q.2.2.2).1-1)) (m+1))=((doQ s q.1 q.2.1 q.2.2.1 q.2.2.2).1.2.1,0):=by
 unfold e0m;rw[if_pos h,if_neg (by omega),hm,Int.toNat_natCast];refine ⟨rfl,?_⟩;obtain ⟨hs,hl,ht,e1⟩:=m0v h;obtain ⟨_,t1,t3,ho,_⟩:=l0e ht;obtain ⟨s1,s2⟩:=u0x ho;obtain ⟨wp,rp,ha,hb,es,ea,eab⟩:=n0h s1;rw[z1c hs _ _ ea m,show q.2.2.1 / a0m s.1 ((b0m s q.2.1 q.2.2.1 q.2.2.2).1-1)+((m+1:Nat):Int)=q.2.2.2 / a0m s.1 ((b0m s q.2.1 q.2.2.1 q.2.2.2).1-1) by omega,←j1u];unfold doQ;rw[if_pos hs,if_pos hl,if_pos ht]
theorem winL_at (s:Sta) (l:List Lab) (k i:Int) {m j:Nat} (h:j<m):(winL s l k i m)[j]? = some (winC s l k (i+(j:Int))):=by
 unfold winL;rw[List.getElem?_map,List.getElem?_range h];rfl
end Go.Proofs.YtgkpkajaepphjaaGreatDoor
namespace Go.Proofs.YtgkpkajaepphjaaGreatDoor
open Go.Flat
theorem ob {α β:Type} {o:Option α} {x:α} {f:α→Option β} {r:Option β} (h:o=some x) (k:f x=r):a0a o f=r:=by rw[h];exact k
theorem tt {α:Type} {b:Bool} {x y r:α} (h:b=true) (k:x=r):tif b x y=r:=by rw[h];exact k
theorem tf {α:Type} {b:Bool} {x y r:α} (h:b=false) (k:y=r):tif b x y=r:=by rw[h];exact k
theorem k2i {α σ:Type} {g:Nat→σ→Option α} {c:Nat} {s:σ} {r:Option α} (k:g (a0b-c+c) s=r) (h:c≤a0b):g a0b s=r:=by rw[Nat.sub_add_cancel h] at k;exact k
end Go.Proofs.YtgkpkajaepphjaaGreatDoor
namespace Go.Proofs.YtgkpkajaepphjaaGreatDoor
open Go.Flat
set_option linter.unusedVariables false
theorem g1q (n:Nat)  : c0f (n+1)  =
 a0a (i2i n ) fun r0 =>
 a0a (f2o n r0) fun r1 =>
 tif ((!(decide (r1.2=(0:Int))))) (
 some false) (
 a0a (v0z n r1.1 ((((97:UInt8)::[]),[])::[]) (((2:Int),((1:Int),((0:Int),false)))::(((4:Int),((5:Int),((0:Int),false)))::[]))) fun r2 =>
 tif ((!(decide (r2.2.1=(2:Int))))) (
 some false) (
 tif ((!(decide (r2.2.2=(0:Int))))) (
 some false) (
 a0a (v0z n (r2.1.1,((12:Int),r2.1.2.2)) ((((97:UInt8)::[]),[])::[]) (((13:Int),((7:Int),((0:Int),false)))::[])) fun r3 =>
 tif ((!(decide (r3.2.1=(1:Int))))) (
 some false) (
 tif ((!(decide (r3.2.2=(0:Int))))) (
 some false) (
 a0a (b0t n r3.1 (((((97:UInt8)::[]),[])::[]),((1:Int),((0:Int),(30:Int))))) fun r4 =>
 tif ((!(decide (r4.2=(0:Int))))) (
 some false) (
 tif ((!(decide ((((List.length r4.1):Nat):Int)=(3:Int))))) (
 some false) (
 a0a (e0i n r4.1) fun r5 =>
 a0a (f0v n r5.1) fun r6 =>
 a0a (e0o n (2:Int)) fun r7 =>
 a0a (e0o n (9:Int)) fun r8 =>
 a0a (e0o n (0:Int)) fun r9 =>
 a0a (e0o n (1:Int)) fun r10 =>
 a0a (d0o n (r7::(r8::(r9::(r10::[]))))) fun r11 =>
 a0a (c0n n r3.1 (((((97:UInt8)::[]),[])::[]),((1:Int),((0:Int),(30:Int))))) fun r12 =>
 a0a (d0o n (((9223372036854775808:Int),(0:Int))::[])) fun r13 =>
 a0a (f0v n []) fun r14 =>
 a0a (at? r4.1 (0:Int)) fun r15 =>
 tif ((decide (r15.1=(2:Int)))) (
 a0a (at? r4.1 (1:Int)) fun r16 =>
 tif ((decide (r16.1=(1:Int)))) (
 a0a (at? r4.1 (2:Int)) fun r17 =>
 tif (((decide (r17.1=(0:Int)))&&((decide (r17.2.1.1=(0:Int)))&&((decide (r17.2.1.2.1=(0:Int)))&&((decide (r17.2.1.2.2.1=(0:Int)))&&((r17.2.1.2.2.2==false)&&((decide (r17.2.2.1.1=(0:Int)))&&((decide (r17.2.2.1.2.1=(0:Int)))&&((decide (r17.2.2.1.2.2.1=(0:Int)))&&((r17.2.2.1.2.2.2==false)&&((decide (r17.2.2.2.1.1=(0:Int)))&&((decide (r17.2.2.2.1.2=(0:Int)))&&((decide (r17.2.2.2.2.1=(0:Int)))&&((decide (r17.2.2.2.2.2.1=(0:Int)))&&(decide (r17.2.2.2.2.2.2=(0:Int))))))))))))))))) (
 a0a (e0o n (4:Int)) fun r18 =>
 a0a (e0o n (2:Int)) fun r19 =>
 a0a (i0d n r5.1 (r18::(r19::(((0:Int),(0:Int))::[])))) fun r20 =>
 tif (r20) (
 tif ((decide (r5.2=(0:Int)))) (
 tif ((decide (r6.1=(0:Int)))) (
 tif (r6.2) (
 a0a (x0s n r11.1 ((2:Int)::((9:Int)::((0:Int)::((1:Int)::[]))))) fun r21 =>
 tif (r21) (
 tif ((decide (r11.2=(0:Int)))) (
 tif ((r12.1==((57:UInt8)::((52:UInt8)::((48:UInt8)::[]))))) (
 tif ((decide (r12.2=(0:Int)))) (
 tif ((decide (r13.2=(1:Int)))) (
 some (!r14.2)) (
 some false)) (
 some false)) (
 some false)) (
 some false)) (
 some false)) (
 some false)) (
 some false)) (
 some false)) (
 some false)) (
 some false)) (
 some false)) (
 some false)))))))):=by kernel_rfl
abbrev b0d:a0p:=((20,((10,(20,60)),((4,(5,6)),(3,9)))),(12,((-1),[([([97],[])],(13,((0,(0,[(2,(1,(0,false))),(4,(5,(0,false))),(13,(7,(0,false)))])),(([(0,(2,((2,(1,(0,false))),((4,(5,(0,false))),((0,4),(0,(0,2))))))),(0,(0,((0,(0,(0,false))),((0,(0,(0,false))),((0,0),(0,(0,0))))))),(0,(0,((0,(0,(0,false))),((0,(0,(0,false))),((0,0),(0,(0,0))))))),(0,(0,((0,(0,(0,false))),((0,(0,(0,false))),((0,0),(0,(0,0)))))))],([(0,(0,((0,(0,(0,false))),((0,(0,(0,false))),((0,0),(0,(0,0))))))),(0,(0,((0,(0,(0,false))),((0,(0,(0,false))),((0,0),(0,(0,0))))))),(0,(0,((0,(0,(0,false))),((0,(0,(0,false))),((0,0),(0,(0,0))))))),(0,(0,((0,(0,(0,false))),((0,(0,(0,false))),((0,0),(0,(0,0))))))),(0,(0,((0,(0,(0,false))),((0,(0,(0,false))),((0,0),(0,(0,0)))))))],[(0,(0,((0,(0,(0,false))),((0,(0,(0,false))),((0,0),(0,(0,0))))))),(0,(0,((0,(0,(0,false))),((0,(0,(0,false))),((0,0),(0,(0,0))))))),(0,(0,((0,(0,(0,false))),((0,(0,(0,false))),((0,0),(0,(0,0))))))),(0,(0,((0,(0,(0,false))),((0,(0,(0,false))),((0,0),(0,(0,0))))))),(0,(0,((0,(0,(0,false))),((0,(0,(0,false))),((0,0),(0,(0,0))))))),(0,(0,((0,(0,(0,false))),((0,(0,(0,false))),((0,0),(0,(0,0)))))))])),(1,(1,((13,(7,(0,false))),((13,(7,(0,false))),((0,0),(0,(0,0))))))))))),([],(0,((0,(0,[])),(([],([],[])),(0,(0,((0,(0,(0,false))),((0,(0,(0,false))),((0,0),(0,(0,0))))))))))),([],(0,((0,(0,[])),(([],([],[])),(0,(0,((0,(0,(0,false))),((0,(0,(0,false))),((0,0),(0,(0,0)))))))))))])))
theorem n1u (n:Nat):i2i (n+39)=some (20,((10,(20,60)),((4,(5,6)),(3,9)))):=by kernel_rfl
theorem n1t (n:Nat):f2o (n+39) (20,((10,(20,60)),((4,(5,6)),(3,9))))=some (((20,((10,(20,60)),((4,(5,6)),(3,9)))),(0,((-1),[([],(0,((0,(0,[])),(([],([],[])),(0,(0,((0,(0,(0,false))),((0,(0,(0,false))),((0,0),(0,(0,0))))))))))),([],(0,((0,(0,[])),(([],([],[])),(0,(0,((0,(0,(0,false))),((0,(0,(0,false))),((0,0),(0,(0,0))))))))))),([],(0,((0,(0,[])),(([],([],[])),(0,(0,((0,(0,(0,false))),((0,(0,(0,false))),((0,0),(0,(0,0)))))))))))]))),0):=by kernel_rfl
theorem n1s (n:Nat):v0z (n+39) ((20,((10,(20,60)),((4,(5,6)),(3,9)))),(0,((-1),[([],(0,((0,(0,[])),(([],([],[])),(0,(0,((0,(0,(0,false))),((0,(0,(0,false))),((0,0),(0,(0,0))))))))))),([],(0,((0,(0,[])),(([],([],[])),(0,(0,((0,(0,(0,false))),((0,(0,(0,false))),((0,0),(0,(0,0))))))))))),([],(0,((0,(0,[])),(([],([],[])),(0,(0,((0,(0,(0,false))),((0,(0,(0,false))),((0,0),(0,(0,0)))))))))))]))) [([97],[])] [(2,(1,(0,false))),(4,(5,(0,false)))]=some (((20,((10,(20,60)),((4,(5,6)),(3,9)))),(0,((-1),[([([97],[])],(4,((0,(0,[(2,(1,(0,false))),(4,(5,(0,false)))])),(([(0,(0,((0,(0,(0,false))),((0,(0,(0,false))),((0,0),(0,(0,0))))))),(0,(0,((0,(0,(0,false))),((0,(0,(0,false))),((0,0),(0,(0,0))))))),(0,(0,((0,(0,(0,false))),((0,(0,(0,false))),((0,0),(0,(0,0))))))),(0,(0,((0,(0,(0,false))),((0,(0,(0,false))),((0,0),(0,(0,0)))))))],([(0,(0,((0,(0,(0,false))),((0,(0,(0,false))),((0,0),(0,(0,0))))))),(0,(0,((0,(0,(0,false))),((0,(0,(0,false))),((0,0),(0,(0,0))))))),(0,(0,((0,(0,(0,false))),((0,(0,(0,false))),((0,0),(0,(0,0))))))),(0,(0,((0,(0,(0,false))),((0,(0,(0,false))),((0,0),(0,(0,0))))))),(0,(0,((0,(0,(0,false))),((0,(0,(0,false))),((0,0),(0,(0,0)))))))],[(0,(0,((0,(0,(0,false))),((0,(0,(0,false))),((0,0),(0,(0,0))))))),(0,(0,((0,(0,(0,false))),((0,(0,(0,false))),((0,0),(0,(0,0))))))),(0,(0,((0,(0,(0,false))),((0,(0,(0,false))),((0,0),(0,(0,0))))))),(0,(0,((0,(0,(0,false))),((0,(0,(0,false))),((0,0),(0,(0,0))))))),(0,(0,((0,(0,(0,false))),((0,(0,(0,false))),((0,0),(0,(0,0))))))),(0,(0,((0,(0,(0,false))),((0,(0,(0,false))),((0,0),(0,(0,0)))))))])),(0,(2,((2,(1,(0,false))),((4,(5,(0,false))),((0,4),(0,(0,2))))))))))),([],(0,((0,(0,[])),(([],([],[])),(0,(0,((0,(0,(0,false))),((0,(0,(0,false))),((0,0),(0,(0,0))))))))))),([],(0,((0,(0,[])),(([],([],[])),(0,(0,((0,(0,(0,false))),((0,(0,(0,false))),((0,0),(0,(0,0)))))))))))]))),(2,0)):=by kernel_rfl
theorem n1r (n:Nat):v0z (n+39) ((20,((10,(20,60)),((4,(5,6)),(3,9)))),(12,((-1),[([([97],[])],(4,((0,(0,[(2,(1,(0,false))),(4,(5,(0,false)))])),(([(0,(0,((0,(0,(0,false))),((0,(0,(0,false))),((0,0),(0,(0,0))))))),(0,(0,((0,(0,(0,false))),((0,(0,(0,false))),((0,0),(0,(0,0))))))),(0,(0,((0,(0,(0,false))),((0,(0,(0,false))),((0,0),(0,(0,0))))))),(0,(0,((0,(0,(0,false))),((0,(0,(0,false))),((0,0),(0,(0,0)))))))],([(0,(0,((0,(0,(0,false))),((0,(0,(0,false))),((0,0),(0,(0,0))))))),(0,(0,((0,(0,(0,false))),((0,(0,(0,false))),((0,0),(0,(0,0))))))),(0,(0,((0,(0,(0,false))),((0,(0,(0,false))),((0,0),(0,(0,0))))))),(0,(0,((0,(0,(0,false))),((0,(0,(0,false))),((0,0),(0,(0,0))))))),(0,(0,((0,(0,(0,false))),((0,(0,(0,false))),((0,0),(0,(0,0)))))))],[(0,(0,((0,(0,(0,false))),((0,(0,(0,false))),((0,0),(0,(0,0))))))),(0,(0,((0,(0,(0,false))),((0,(0,(0,false))),((0,0),(0,(0,0))))))),(0,(0,((0,(0,(0,false))),((0,(0,(0,false))),((0,0),(0,(0,0))))))),(0,(0,((0,(0,(0,false))),((0,(0,(0,false))),((0,0),(0,(0,0))))))),(0,(0,((0,(0,(0,false))),((0,(0,(0,false))),((0,0),(0,(0,0))))))),(0,(0,((0,(0,(0,false))),((0,(0,(0,false))),((0,0),(0,(0,0)))))))])),(0,(2,((2,(1,(0,false))),((4,(5,(0,false))),((0,4),(0,(0,2))))))))))),([],(0,((0,(0,[])),(([],([],[])),(0,(0,((0,(0,(0,false))),((0,(0,(0,false))),((0,0),(0,(0,0))))))))))),([],(0,((0,(0,[])),(([],([],[])),(0,(0,((0,(0,(0,false))),((0,(0,(0,false))),((0,0),(0,(0,0)))))))))))]))) [([97],[])] [(13,(7,(0,false)))]=some (b0d,(1,0)):=by kernel_rfl
theorem n1q (n:Nat):q0d (n+38) b0d ([([97],[])],(1,(0,30)))=some ((1,((3,((2,(1,(0,false))),((13,(7,(0,false))),((0,6),(0,(0,11)))))),(((0,6000),(0,11)),0))),0):=by kernel_rfl
theorem n1p (n:Nat):e0g (n+38) (0) (30) (10)=some (0,(3,0)):=by kernel_rfl
theorem n1o (n:Nat):k0i (n+38) b0d [([97],[])]=some (0,0):=by kernel_rfl
theorem n1n (n:Nat):c0k (n+38) (20,((10,(20,60)),((4,(5,6)),(3,9)))) ([([97],[])],(13,((0,(0,[(2,(1,(0,false))),(4,(5,(0,false))),(13,(7,(0,false)))])),(([(0,(2,((2,(1,(0,false))),((4,(5,(0,false))),((0,4),(0,(0,2))))))),(0,(0,((0,(0,(0,false))),((0,(0,(0,false))),((0,0),(0,(0,0))))))),(0,(0,((0,(0,(0,false))),((0,(0,(0,false))),((0,0),(0,(0,0))))))),(0,(0,((0,(0,(0,false))),((0,(0,(0,false))),((0,0),(0,(0,0)))))))],([(0,(0,((0,(0,(0,false))),((0,(0,(0,false))),((0,0),(0,(0,0))))))),(0,(0,((0,(0,(0,false))),((0,(0,(0,false))),((0,0),(0,(0,0))))))),(0,(0,((0,(0,(0,false))),((0,(0,(0,false))),((0,0),(0,(0,0))))))),(0,(0,((0,(0,(0,false))),((0,(0,(0,false))),((0,0),(0,(0,0))))))),(0,(0,((0,(0,(0,false))),((0,(0,(0,false))),((0,0),(0,(0,0)))))))],[(0,(0,((0,(0,(0,false))),((0,(0,(0,false))),((0,0),(0,(0,0))))))),(0,(0,((0,(0,(0,false))),((0,(0,(0,false))),((0,0),(0,(0,0))))))),(0,(0,((0,(0,(0,false))),((0,(0,(0,false))),((0,0),(0,(0,0))))))),(0,(0,((0,(0,(0,false))),((0,(0,(0,false))),((0,0),(0,(0,0))))))),(0,(0,((0,(0,(0,false))),((0,(0,(0,false))),((0,0),(0,(0,0))))))),(0,(0,((0,(0,(0,false))),((0,(0,(0,false))),((0,0),(0,(0,0)))))))])),(1,(1,((13,(7,(0,false))),((13,(7,(0,false))),((0,0),(0,(0,0))))))))))) (0) (0)=some ((2,((2,(1,(0,false))),((4,(5,(0,false))),((0,4),(0,(0,2)))))),0):=by kernel_rfl
theorem n1m (n:Nat):c0k (n+38) (20,((10,(20,60)),((4,(5,6)),(3,9)))) ([([97],[])],(13,((0,(0,[(2,(1,(0,false))),(4,(5,(0,false))),(13,(7,(0,false)))])),(([(0,(2,((2,(1,(0,false))),((4,(5,(0,false))),((0,4),(0,(0,2))))))),(0,(0,((0,(0,(0,false))),((0,(0,(0,false))),((0,0),(0,(0,0))))))),(0,(0,((0,(0,(0,false))),((0,(0,(0,false))),((0,0),(0,(0,0))))))),(0,(0,((0,(0,(0,false))),((0,(0,(0,false))),((0,0),(0,(0,0)))))))],([(0,(0,((0,(0,(0,false))),((0,(0,(0,false))),((0,0),(0,(0,0))))))),(0,(0,((0,(0,(0,false))),((0,(0,(0,false))),((0,0),(0,(0,0))))))),(0,(0,((0,(0,(0,false))),((0,(0,(0,false))),((0,0),(0,(0,0))))))),(0,(0,((0,(0,(0,false))),((0,(0,(0,false))),((0,0),(0,(0,0))))))),(0,(0,((0,(0,(0,false))),((0,(0,(0,false))),((0,0),(0,(0,0)))))))],[(0,(0,((0,(0,(0,false))),((0,(0,(0,false))),((0,0),(0,(0,0))))))),(0,(0,((0,(0,(0,false))),((0,(0,(0,false))),((0,0),(0,(0,0))))))),(0,(0,((0,(0,(0,false))),((0,(0,(0,false))),((0,0),(0,(0,0))))))),(0,(0,((0,(0,(0,false))),((0,(0,(0,false))),((0,0),(0,(0,0))))))),(0,(0,((0,(0,(0,false))),((0,(0,(0,false))),((0,0),(0,(0,0))))))),(0,(0,((0,(0,(0,false))),((0,(0,(0,false))),((0,0),(0,(0,0)))))))])),(1,(1,((13,(7,(0,false))),((13,(7,(0,false))),((0,0),(0,(0,0))))))))))) (0) (1)=some ((1,((13,(7,(0,false))),((13,(7,(0,false))),((0,0),(0,(0,0)))))),0):=by kernel_rfl
theorem n1k (n:Nat):c0k (n+38) (20,((10,(20,60)),((4,(5,6)),(3,9)))) ([([97],[])],(13,((0,(0,[(2,(1,(0,false))),(4,(5,(0,false))),(13,(7,(0,false)))])),(([(0,(2,((2,(1,(0,false))),((4,(5,(0,false))),((0,4),(0,(0,2))))))),(0,(0,((0,(0,(0,false))),((0,(0,(0,false))),((0,0),(0,(0,0))))))),(0,(0,((0,(0,(0,false))),((0,(0,(0,false))),((0,0),(0,(0,0))))))),(0,(0,((0,(0,(0,false))),((0,(0,(0,false))),((0,0),(0,(0,0)))))))],([(0,(0,((0,(0,(0,false))),((0,(0,(0,false))),((0,0),(0,(0,0))))))),(0,(0,((0,(0,(0,false))),((0,(0,(0,false))),((0,0),(0,(0,0))))))),(0,(0,((0,(0,(0,false))),((0,(0,(0,false))),((0,0),(0,(0,0))))))),(0,(0,((0,(0,(0,false))),((0,(0,(0,false))),((0,0),(0,(0,0))))))),(0,(0,((0,(0,(0,false))),((0,(0,(0,false))),((0,0),(0,(0,0)))))))],[(0,(0,((0,(0,(0,false))),((0,(0,(0,false))),((0,0),(0,(0,0))))))),(0,(0,((0,(0,(0,false))),((0,(0,(0,false))),((0,0),(0,(0,0))))))),(0,(0,((0,(0,(0,false))),((0,(0,(0,false))),((0,0),(0,(0,0))))))),(0,(0,((0,(0,(0,false))),((0,(0,(0,false))),((0,0),(0,(0,0))))))),(0,(0,((0,(0,(0,false))),((0,(0,(0,false))),((0,0),(0,(0,0))))))),(0,(0,((0,(0,(0,false))),((0,(0,(0,false))),((0,0),(0,(0,0)))))))])),(1,(1,((13,(7,(0,false))),((13,(7,(0,false))),((0,0),(0,(0,0))))))))))) (0) (2)=some ((0,((0,(0,(0,false))),((0,(0,(0,false))),((0,0),(0,(0,0)))))),0):=by kernel_rfl
theorem i1l (n f:Nat):b0e (n+38) (f+1) (b0d,((1,((3,((2,(1,(0,false))),((13,(7,(0,false))),((0,6),(0,(0,11)))))),(((0,6000),(0,11)),0))),(0,([(2,((2,(1,(0,false))),((4,(5,(0,false))),((0,4),(0,(0,2)))))),(1,((13,(7,(0,false))),((13,(7,(0,false))),((0,0),(0,(0,0)))))),(0,((0,(0,(0,false))),((0,(0,(0,false))),((0,0),(0,(0,0))))))],(0,(3,(3,())))))))=some (.inl ([(2,((2,(1,(0,false))),((4,(5,(0,false))),((0,4),(0,(0,2)))))),(1,((13,(7,(0,false))),((13,(7,(0,false))),((0,0),(0,(0,0)))))),(0,((0,(0,(0,false))),((0,(0,(0,false))),((0,0),(0,(0,0))))))],())):=by
 rw[b0r];refine tf (by kernel_rfl) ?_
 kernel_rfl
theorem i1k (n f:Nat):b0e (n+38) (f+2) (b0d,((1,((3,((2,(1,(0,false))),((13,(7,(0,false))),((0,6),(0,(0,11)))))),(((0,6000),(0,11)),0))),(0,([(2,((2,(1,(0,false))),((4,(5,(0,false))),((0,4),(0,(0,2)))))),(1,((13,(7,(0,false))),((13,(7,(0,false))),((0,0),(0,(0,0)))))),(0,((0,(0,(0,false))),((0,(0,(0,false))),((0,0),(0,(0,0))))))],(0,(3,(2,())))))))=some (.inl ([(2,((2,(1,(0,false))),((4,(5,(0,false))),((0,4),(0,(0,2)))))),(1,((13,(7,(0,false))),((13,(7,(0,false))),((0,0),(0,(0,0)))))),(0,((0,(0,(0,false))),((0,(0,(0,false))),((0,0),(0,(0,0))))))],())):=by
 rw[b0r];refine tt (by kernel_rfl) ?_
 refine ob (x:=([([97],[])],(13,((0,(0,[(2,(1,(0,false))),(4,(5,(0,false))),(13,(7,(0,false)))])),(([(0,(2,((2,(1,(0,false))),((4,(5,(0,false))),((0,4),(0,(0,2))))))),(0,(0,((0,(0,(0,false))),((0,(0,(0,false))),((0,0),(0,(0,0))))))),(0,(0,((0,(0,(0,false))),((0,(0,(0,false))),((0,0),(0,(0,0))))))),(0,(0,((0,(0,(0,false))),((0,(0,(0,false))),((0,0),(0,(0,0)))))))],([(0,(0,((0,(0,(0,false))),((0,(0,(0,false))),((0,0),(0,(0,0))))))),(0,(0,((0,(0,(0,false))),((0,(0,(0,false))),((0,0),(0,(0,0))))))),(0,(0,((0,(0,(0,false))),((0,(0,(0,false))),((0,0),(0,(0,0))))))),(0,(0,((0,(0,(0,false))),((0,(0,(0,false))),((0,0),(0,(0,0))))))),(0,(0,((0,(0,(0,false))),((0,(0,(0,false))),((0,0),(0,(0,0)))))))],[(0,(0,((0,(0,(0,false))),((0,(0,(0,false))),((0,0),(0,(0,0))))))),(0,(0,((0,(0,(0,false))),((0,(0,(0,false))),((0,0),(0,(0,0))))))),(0,(0,((0,(0,(0,false))),((0,(0,(0,false))),((0,0),(0,(0,0))))))),(0,(0,((0,(0,(0,false))),((0,(0,(0,false))),((0,0),(0,(0,0))))))),(0,(0,((0,(0,(0,false))),((0,(0,(0,false))),((0,0),(0,(0,0))))))),(0,(0,((0,(0,(0,false))),((0,(0,(0,false))),((0,0),(0,(0,0)))))))])),(1,(1,((13,(7,(0,false))),((13,(7,(0,false))),((0,0),(0,(0,0)))))))))))) (by kernel_rfl) ?_
 refine ob (n1k n) ?_;refine ob (x:=(0,((0,(0,(0,false))),((0,(0,(0,false))),((0,0),(0,(0,0))))))) (by kernel_rfl) ?_;refine ob (x:=(0,((0,(0,(0,false))),((0,(0,(0,false))),((0,0),(0,(0,0))))))) (by kernel_rfl) ?_;refine tf (by kernel_rfl) ?_;exact i1l n f
theorem i1j (n f:Nat):b0e (n+38) (f+3) (b0d,((1,((3,((2,(1,(0,false))),((13,(7,(0,false))),((0,6),(0,(0,11)))))),(((0,6000),(0,11)),0))),(0,([(2,((2,(1,(0,false))),((4,(5,(0,false))),((0,4),(0,(0,2)))))),(0,((0,(0,(0,false))),((0,(0,(0,false))),((0,0),(0,(0,0)))))),(0,((0,(0,(0,false))),((0,(0,(0,false))),((0,0),(0,(0,0))))))],(0,(3,(1,())))))))=some (.inl ([(2,((2,(1,(0,false))),((4,(5,(0,false))),((0,4),(0,(0,2)))))),(1,((13,(7,(0,false))),((13,(7,(0,false))),((0,0),(0,(0,0)))))),(0,((0,(0,(0,false))),((0,(0,(0,false))),((0,0),(0,(0,0))))))],())):=by
 rw[b0r];refine tt (by kernel_rfl) ?_
 refine ob (x:=([([97],[])],(13,((0,(0,[(2,(1,(0,false))),(4,(5,(0,false))),(13,(7,(0,false)))])),(([(0,(2,((2,(1,(0,false))),((4,(5,(0,false))),((0,4),(0,(0,2))))))),(0,(0,((0,(0,(0,false))),((0,(0,(0,false))),((0,0),(0,(0,0))))))),(0,(0,((0,(0,(0,false))),((0,(0,(0,false))),((0,0),(0,(0,0))))))),(0,(0,((0,(0,(0,false))),((0,(0,(0,false))),((0,0),(0,(0,0)))))))],([(0,(0,((0,(0,(0,false))),((0,(0,(0,false))),((0,0),(0,(0,0))))))),(0,(0,((0,(0,(0,false))),((0,(0,(0,false))),((0,0),(0,(0,0))))))),(0,(0,((0,(0,(0,false))),((0,(0,(0,false))),((0,0),(0,(0,0))))))),(0,(0,((0,(0,(0,false))),((0,(0,(0,false))),((0,0),(0,(0,0))))))),(0,(0,((0,(0,(0,false))),((0,(0,(0,false))),((0,0),(0,(0,0)))))))],[(0,(0,((0,(0,(0,false))),((0,(0,(0,false))),((0,0),(0,(0,0))))))),(0,(0,((0,(0,(0,false))),((0,(0,(0,false))),((0,0),(0,(0,0))))))),(0,(0,((0,(0,(0,false))),((0,(0,(0,false))),((0,0),(0,(0,0))))))),(0,(0,((0,(0,(0,false))),((0,(0,(0,false))),((0,0),(0,(0,0))))))),(0,(0,((0,(0,(0,false))),((0,(0,(0,false))),((0,0),(0,(0,0))))))),(0,(0,((0,(0,(0,false))),((0,(0,(0,false))),((0,0),(0,(0,0)))))))])),(1,(1,((13,(7,(0,false))),((13,(7,(0,false))),((0,0),(0,(0,0)))))))))))) (by kernel_rfl) ?_
 refine ob (n1m n) ?_;refine ob (x:=(0,((0,(0,(0,false))),((0,(0,(0,false))),((0,0),(0,(0,0))))))) (by kernel_rfl) ?_;refine ob (x:=(0,((0,(0,(0,false))),((0,(0,(0,false))),((0,0),(0,(0,0))))))) (by kernel_rfl) ?_;refine tf (by kernel_rfl) ?_;exact i1k n f
theorem i1i (n f:Nat):b0e (n+38) (f+4) (b0d,((1,((3,((2,(1,(0,false))),((13,(7,(0,false))),((0,6),(0,(0,11)))))),(((0,6000),(0,11)),0))),(0,([(0,((0,(0,(0,false))),((0,(0,(0,false))),((0,0),(0,(0,0)))))),(0,((0,(0,(0,false))),((0,(0,(0,false))),((0,0),(0,(0,0)))))),(0,((0,(0,(0,false))),((0,(0,(0,false))),((0,0),(0,(0,0))))))],(0,(3,(0,())))))))=some (.inl ([(2,((2,(1,(0,false))),((4,(5,(0,false))),((0,4),(0,(0,2)))))),(1,((13,(7,(0,false))),((13,(7,(0,false))),((0,0),(0,(0,0)))))),(0,((0,(0,(0,false))),((0,(0,(0,false))),((0,0),(0,(0,0))))))],())):=by
 rw[b0r];refine tt (by kernel_rfl) ?_
 refine ob (x:=([([97],[])],(13,((0,(0,[(2,(1,(0,false))),(4,(5,(0,false))),(13,(7,(0,false)))])),(([(0,(2,((2,(1,(0,false))),((4,(5,(0,false))),((0,4),(0,(0,2))))))),(0,(0,((0,(0,(0,false))),((0,(0,(0,false))),((0,0),(0,(0,0))))))),(0,(0,((0,(0,(0,false))),((0,(0,(0,false))),((0,0),(0,(0,0))))))),(0,(0,((0,(0,(0,false))),((0,(0,(0,false))),((0,0),(0,(0,0)))))))],([(0,(0,((0,(0,(0,false))),((0,(0,(0,false))),((0,0),(0,(0,0))))))),(0,(0,((0,(0,(0,false))),((0,(0,(0,false))),((0,0),(0,(0,0))))))),(0,(0,((0,(0,(0,false))),((0,(0,(0,false))),((0,0),(0,(0,0))))))),(0,(0,((0,(0,(0,false))),((0,(0,(0,false))),((0,0),(0,(0,0))))))),(0,(0,((0,(0,(0,false))),((0,(0,(0,false))),((0,0),(0,(0,0)))))))],[(0,(0,((0,(0,(0,false))),((0,(0,(0,false))),((0,0),(0,(0,0))))))),(0,(0,((0,(0,(0,false))),((0,(0,(0,false))),((0,0),(0,(0,0))))))),(0,(0,((0,(0,(0,false))),((0,(0,(0,false))),((0,0),(0,(0,0))))))),(0,(0,((0,(0,(0,false))),((0,(0,(0,false))),((0,0),(0,(0,0))))))),(0,(0,((0,(0,(0,false))),((0,(0,(0,false))),((0,0),(0,(0,0))))))),(0,(0,((0,(0,(0,false))),((0,(0,(0,false))),((0,0),(0,(0,0)))))))])),(1,(1,((13,(7,(0,false))),((13,(7,(0,false))),((0,0),(0,(0,0)))))))))))) (by kernel_rfl) ?_
 refine ob (n1n n) ?_;refine ob (x:=(0,((0,(0,(0,false))),((0,(0,(0,false))),((0,0),(0,(0,0))))))) (by kernel_rfl) ?_;refine ob (x:=(0,((0,(0,(0,false))),((0,(0,(0,false))),((0,0),(0,(0,0))))))) (by kernel_rfl) ?_;refine tf (by kernel_rfl) ?_;exact i1j n f
theorem i1h (n:Nat):b0t (n+39) b0d ([([97],[])],(1,(0,30)))=some ([(2,((2,(1,(0,false))),((4,(5,(0,false))),((0,4),(0,(0,2)))))),(1,((13,(7,(0,false))),((13,(7,(0,false))),((0,0),(0,(0,0)))))),(0,((0,(0,(0,false))),((0,(0,(0,false))),((0,0),(0,(0,0))))))],0):=by
 rw[q0l];refine ob (n1q n) ?_;refine tf (by kernel_rfl) ?_;refine tt (by kernel_rfl) ?_;refine ob (n1p n) ?_;refine tf (by kernel_rfl) ?_;refine tf (by kernel_rfl) ?_;refine tt (by kernel_rfl) ?_;refine ob (n1o n) ?_;refine tf (by kernel_rfl) ?_;refine ob (k2i (h:=by unfold a0b;omega) (i1i n (a0b-4))) ?_;refine Eq.trans (a0k ..) ?_
 kernel_rfl
theorem i1g (n:Nat):e0i (n+39) [(2,((2,(1,(0,false))),((4,(5,(0,false))),((0,4),(0,(0,2)))))),(1,((13,(7,(0,false))),((13,(7,(0,false))),((0,0),(0,(0,0)))))),(0,((0,(0,(0,false))),((0,(0,(0,false))),((0,0),(0,(0,0))))))]=some ([(0,4),(0,2),(0,0)],0):=by kernel_rfl
theorem i1f (n:Nat):f0v (n+39) [(0,4),(0,2),(0,0)]=some (0,true):=by kernel_rfl
theorem u0y (n:Nat):e0o (n+39) (2)=some (0,2):=by kernel_rfl
theorem i1e (n:Nat):e0o (n+39) (9)=some (0,9):=by kernel_rfl
theorem i1d (n:Nat):e0o (n+39) (0)=some (0,0):=by kernel_rfl
theorem i1c (n:Nat):e0o (n+39) (1)=some (0,1):=by kernel_rfl
theorem i1b (n:Nat):d0o (n+39) [(0,2),(0,9),(0,0),(0,1)]=some ([2,9,0,1],0):=by kernel_rfl
theorem i1a (n:Nat):q0d (n+37) b0d ([([97],[])],(1,(0,30)))=some ((1,((3,((2,(1,(0,false))),((13,(7,(0,false))),((0,6),(0,(0,11)))))),(((0,6000),(0,11)),0))),0):=by kernel_rfl
theorem h1y (n:Nat):e0g (n+37) (0) (30) (10)=some (0,(3,0)):=by kernel_rfl
theorem h1w (n:Nat):k0i (n+37) b0d [([97],[])]=some (0,0):=by kernel_rfl
theorem h1u (n:Nat):c0k (n+37) (20,((10,(20,60)),((4,(5,6)),(3,9)))) ([([97],[])],(13,((0,(0,[(2,(1,(0,false))),(4,(5,(0,false))),(13,(7,(0,false)))])),(([(0,(2,((2,(1,(0,false))),((4,(5,(0,false))),((0,4),(0,(0,2))))))),(0,(0,((0,(0,(0,false))),((0,(0,(0,false))),((0,0),(0,(0,0))))))),(0,(0,((0,(0,(0,false))),((0,(0,(0,false))),((0,0),(0,(0,0))))))),(0,(0,((0,(0,(0,false))),((0,(0,(0,false))),((0,0),(0,(0,0)))))))],([(0,(0,((0,(0,(0,false))),((0,(0,(0,false))),((0,0),(0,(0,0))))))),(0,(0,((0,(0,(0,false))),((0,(0,(0,false))),((0,0),(0,(0,0))))))),(0,(0,((0,(0,(0,false))),((0,(0,(0,false))),((0,0),(0,(0,0))))))),(0,(0,((0,(0,(0,false))),((0,(0,(0,false))),((0,0),(0,(0,0))))))),(0,(0,((0,(0,(0,false))),((0,(0,(0,false))),((0,0),(0,(0,0)))))))],[(0,(0,((0,(0,(0,false))),((0,(0,(0,false))),((0,0),(0,(0,0))))))),(0,(0,((0,(0,(0,false))),((0,(0,(0,false))),((0,0),(0,(0,0))))))),(0,(0,((0,(0,(0,false))),((0,(0,(0,false))),((0,0),(0,(0,0))))))),(0,(0,((0,(0,(0,false))),((0,(0,(0,false))),((0,0),(0,(0,0))))))),(0,(0,((0,(0,(0,false))),((0,(0,(0,false))),((0,0),(0,(0,0))))))),(0,(0,((0,(0,(0,false))),((0,(0,(0,false))),((0,0),(0,(0,0)))))))])),(1,(1,((13,(7,(0,false))),((13,(7,(0,false))),((0,0),(0,(0,0))))))))))) (0) (0)=some ((2,((2,(1,(0,false))),((4,(5,(0,false))),((0,4),(0,(0,2)))))),0):=by kernel_rfl
theorem h1s (n:Nat):c0k (n+37) (20,((10,(20,60)),((4,(5,6)),(3,9)))) ([([97],[])],(13,((0,(0,[(2,(1,(0,false))),(4,(5,(0,false))),(13,(7,(0,false)))])),(([(0,(2,((2,(1,(0,false))),((4,(5,(0,false))),((0,4),(0,(0,2))))))),(0,(0,((0,(0,(0,false))),((0,(0,(0,false))),((0,0),(0,(0,0))))))),(0,(0,((0,(0,(0,false))),((0,(0,(0,false))),((0,0),(0,(0,0))))))),(0,(0,((0,(0,(0,false))),((0,(0,(0,false))),((0,0),(0,(0,0)))))))],([(0,(0,((0,(0,(0,false))),((0,(0,(0,false))),((0,0),(0,(0,0))))))),(0,(0,((0,(0,(0,false))),((0,(0,(0,false))),((0,0),(0,(0,0))))))),(0,(0,((0,(0,(0,false))),((0,(0,(0,false))),((0,0),(0,(0,0))))))),(0,(0,((0,(0,(0,false))),((0,(0,(0,false))),((0,0),(0,(0,0))))))),(0,(0,((0,(0,(0,false))),((0,(0,(0,false))),((0,0),(0,(0,0)))))))],[(0,(0,((0,(0,(0,false))),((0,(0,(0,false))),((0,0),(0,(0,0))))))),(0,(0,((0,(0,(0,false))),((0,(0,(0,false))),((0,0),(0,(0,0))))))),(0,(0,((0,(0,(0,false))),((0,(0,(0,false))),((0,0),(0,(0,0))))))),(0,(0,((0,(0,(0,false))),((0,(0,(0,false))),((0,0),(0,(0,0))))))),(0,(0,((0,(0,(0,false))),((0,(0,(0,false))),((0,0),(0,(0,0))))))),(0,(0,((0,(0,(0,false))),((0,(0,(0,false))),((0,0),(0,(0,0)))))))])),(1,(1,((13,(7,(0,false))),((13,(7,(0,false))),((0,0),(0,(0,0))))))))))) (0) (1)=some ((1,((13,(7,(0,false))),((13,(7,(0,false))),((0,0),(0,(0,0)))))),0):=by kernel_rfl
theorem h1q (n:Nat):c0k (n+37) (20,((10,(20,60)),((4,(5,6)),(3,9)))) ([([97],[])],(13,((0,(0,[(2,(1,(0,false))),(4,(5,(0,false))),(13,(7,(0,false)))])),(([(0,(2,((2,(1,(0,false))),((4,(5,(0,false))),((0,4),(0,(0,2))))))),(0,(0,((0,(0,(0,false))),((0,(0,(0,false))),((0,0),(0,(0,0))))))),(0,(0,((0,(0,(0,false))),((0,(0,(0,false))),((0,0),(0,(0,0))))))),(0,(0,((0,(0,(0,false))),((0,(0,(0,false))),((0,0),(0,(0,0)))))))],([(0,(0,((0,(0,(0,false))),((0,(0,(0,false))),((0,0),(0,(0,0))))))),(0,(0,((0,(0,(0,false))),((0,(0,(0,false))),((0,0),(0,(0,0))))))),(0,(0,((0,(0,(0,false))),((0,(0,(0,false))),((0,0),(0,(0,0))))))),(0,(0,((0,(0,(0,false))),((0,(0,(0,false))),((0,0),(0,(0,0))))))),(0,(0,((0,(0,(0,false))),((0,(0,(0,false))),((0,0),(0,(0,0)))))))],[(0,(0,((0,(0,(0,false))),((0,(0,(0,false))),((0,0),(0,(0,0))))))),(0,(0,((0,(0,(0,false))),((0,(0,(0,false))),((0,0),(0,(0,0))))))),(0,(0,((0,(0,(0,false))),((0,(0,(0,false))),((0,0),(0,(0,0))))))),(0,(0,((0,(0,(0,false))),((0,(0,(0,false))),((0,0),(0,(0,0))))))),(0,(0,((0,(0,(0,false))),((0,(0,(0,false))),((0,0),(0,(0,0))))))),(0,(0,((0,(0,(0,false))),((0,(0,(0,false))),((0,0),(0,(0,0)))))))])),(1,(1,((13,(7,(0,false))),((13,(7,(0,false))),((0,0),(0,(0,0))))))))))) (0) (2)=some ((0,((0,(0,(0,false))),((0,(0,(0,false))),((0,0),(0,(0,0)))))),0):=by kernel_rfl
theorem h1p (n f:Nat):b0e (n+37) (f+1) (b0d,((1,((3,((2,(1,(0,false))),((13,(7,(0,false))),((0,6),(0,(0,11)))))),(((0,6000),(0,11)),0))),(0,([(2,((2,(1,(0,false))),((4,(5,(0,false))),((0,4),(0,(0,2)))))),(1,((13,(7,(0,false))),((13,(7,(0,false))),((0,0),(0,(0,0)))))),(0,((0,(0,(0,false))),((0,(0,(0,false))),((0,0),(0,(0,0))))))],(0,(3,(3,())))))))=some (.inl ([(2,((2,(1,(0,false))),((4,(5,(0,false))),((0,4),(0,(0,2)))))),(1,((13,(7,(0,false))),((13,(7,(0,false))),((0,0),(0,(0,0)))))),(0,((0,(0,(0,false))),((0,(0,(0,false))),((0,0),(0,(0,0))))))],())):=by
 rw[b0r];refine tf (by kernel_rfl) ?_
 kernel_rfl
theorem h1o (n f:Nat):b0e (n+37) (f+2) (b0d,((1,((3,((2,(1,(0,false))),((13,(7,(0,false))),((0,6),(0,(0,11)))))),(((0,6000),(0,11)),0))),(0,([(2,((2,(1,(0,false))),((4,(5,(0,false))),((0,4),(0,(0,2)))))),(1,((13,(7,(0,false))),((13,(7,(0,false))),((0,0),(0,(0,0)))))),(0,((0,(0,(0,false))),((0,(0,(0,false))),((0,0),(0,(0,0))))))],(0,(3,(2,())))))))=some (.inl ([(2,((2,(1,(0,false))),((4,(5,(0,false))),((0,4),(0,(0,2)))))),(1,((13,(7,(0,false))),((13,(7,(0,false))),((0,0),(0,(0,0)))))),(0,((0,(0,(0,false))),((0,(0,(0,false))),((0,0),(0,(0,0))))))],())):=by
 rw[b0r];refine tt (by kernel_rfl) ?_
 refine ob (x:=([([97],[])],(13,((0,(0,[(2,(1,(0,false))),(4,(5,(0,false))),(13,(7,(0,false)))])),(([(0,(2,((2,(1,(0,false))),((4,(5,(0,false))),((0,4),(0,(0,2))))))),(0,(0,((0,(0,(0,false))),((0,(0,(0,false))),((0,0),(0,(0,0))))))),(0,(0,((0,(0,(0,false))),((0,(0,(0,false))),((0,0),(0,(0,0))))))),(0,(0,((0,(0,(0,false))),((0,(0,(0,false))),((0,0),(0,(0,0)))))))],([(0,(0,((0,(0,(0,false))),((0,(0,(0,false))),((0,0),(0,(0,0))))))),(0,(0,((0,(0,(0,false))),((0,(0,(0,false))),((0,0),(0,(0,0))))))),(0,(0,((0,(0,(0,false))),((0,(0,(0,false))),((0,0),(0,(0,0))))))),(0,(0,((0,(0,(0,false))),((0,(0,(0,false))),((0,0),(0,(0,0))))))),(0,(0,((0,(0,(0,false))),((0,(0,(0,false))),((0,0),(0,(0,0)))))))],[(0,(0,((0,(0,(0,false))),((0,(0,(0,false))),((0,0),(0,(0,0))))))),(0,(0,((0,(0,(0,false))),((0,(0,(0,false))),((0,0),(0,(0,0))))))),(0,(0,((0,(0,(0,false))),((0,(0,(0,false))),((0,0),(0,(0,0))))))),(0,(0,((0,(0,(0,false))),((0,(0,(0,false))),((0,0),(0,(0,0))))))),(0,(0,((0,(0,(0,false))),((0,(0,(0,false))),((0,0),(0,(0,0))))))),(0,(0,((0,(0,(0,false))),((0,(0,(0,false))),((0,0),(0,(0,0)))))))])),(1,(1,((13,(7,(0,false))),((13,(7,(0,false))),((0,0),(0,(0,0)))))))))))) (by kernel_rfl) ?_
 refine ob (h1q n) ?_;refine ob (x:=(0,((0,(0,(0,false))),((0,(0,(0,false))),((0,0),(0,(0,0))))))) (by kernel_rfl) ?_;refine ob (x:=(0,((0,(0,(0,false))),((0,(0,(0,false))),((0,0),(0,(0,0))))))) (by kernel_rfl) ?_;refine tf (by kernel_rfl) ?_;exact h1p n f
theorem h1m (n f:Nat):b0e (n+37) (f+3) (b0d,((1,((3,((2,(1,(0,false))),((13,(7,(0,false))),((0,6),(0,(0,11)))))),(((0,6000),(0,11)),0))),(0,([(2,((2,(1,(0,false))),((4,(5,(0,false))),((0,4),(0,(0,2)))))),(0,((0,(0,(0,false))),((0,(0,(0,false))),((0,0),(0,(0,0)))))),(0,((0,(0,(0,false))),((0,(0,(0,false))),((0,0),(0,(0,0))))))],(0,(3,(1,())))))))=some (.inl ([(2,((2,(1,(0,false))),((4,(5,(0,false))),((0,4),(0,(0,2)))))),(1,((13,(7,(0,false))),((13,(7,(0,false))),((0,0),(0,(0,0)))))),(0,((0,(0,(0,false))),((0,(0,(0,false))),((0,0),(0,(0,0))))))],())):=by
 rw[b0r];refine tt (by kernel_rfl) ?_
 refine ob (x:=([([97],[])],(13,((0,(0,[(2,(1,(0,false))),(4,(5,(0,false))),(13,(7,(0,false)))])),(([(0,(2,((2,(1,(0,false))),((4,(5,(0,false))),((0,4),(0,(0,2))))))),(0,(0,((0,(0,(0,false))),((0,(0,(0,false))),((0,0),(0,(0,0))))))),(0,(0,((0,(0,(0,false))),((0,(0,(0,false))),((0,0),(0,(0,0))))))),(0,(0,((0,(0,(0,false))),((0,(0,(0,false))),((0,0),(0,(0,0)))))))],([(0,(0,((0,(0,(0,false))),((0,(0,(0,false))),((0,0),(0,(0,0))))))),(0,(0,((0,(0,(0,false))),((0,(0,(0,false))),((0,0),(0,(0,0))))))),(0,(0,((0,(0,(0,false))),((0,(0,(0,false))),((0,0),(0,(0,0))))))),(0,(0,((0,(0,(0,false))),((0,(0,(0,false))),((0,0),(0,(0,0))))))),(0,(0,((0,(0,(0,false))),((0,(0,(0,false))),((0,0),(0,(0,0)))))))],[(0,(0,((0,(0,(0,false))),((0,(0,(0,false))),((0,0),(0,(0,0))))))),(0,(0,((0,(0,(0,false))),((0,(0,(0,false))),((0,0),(0,(0,0))))))),(0,(0,((0,(0,(0,false))),((0,(0,(0,false))),((0,0),(0,(0,0))))))),(0,(0,((0,(0,(0,false))),((0,(0,(0,false))),((0,0),(0,(0,0))))))),(0,(0,((0,(0,(0,false))),((0,(0,(0,false))),((0,0),(0,(0,0))))))),(0,(0,((0,(0,(0,false))),((0,(0,(0,false))),((0,0),(0,(0,0)))))))])),(1,(1,((13,(7,(0,false))),((13,(7,(0,false))),((0,0),(0,(0,0)))))))))))) (by kernel_rfl) ?_
 refine ob (h1s n) ?_;refine ob (x:=(0,((0,(0,(0,false))),((0,(0,(0,false))),((0,0),(0,(0,0))))))) (by kernel_rfl) ?_;refine ob (x:=(0,((0,(0,(0,false))),((0,(0,(0,false))),((0,0),(0,(0,0))))))) (by kernel_rfl) ?_;refine tf (by kernel_rfl) ?_;exact h1o n f
theorem h1l (n f:Nat):b0e (n+37) (f+4) (b0d,((1,((3,((2,(1,(0,false))),((13,(7,(0,false))),((0,6),(0,(0,11)))))),(((0,6000),(0,11)),0))),(0,([(0,((0,(0,(0,false))),((0,(0,(0,false))),((0,0),(0,(0,0)))))),(0,((0,(0,(0,false))),((0,(0,(0,false))),((0,0),(0,(0,0)))))),(0,((0,(0,(0,false))),((0,(0,(0,false))),((0,0),(0,(0,0))))))],(0,(3,(0,())))))))=some (.inl ([(2,((2,(1,(0,false))),((4,(5,(0,false))),((0,4),(0,(0,2)))))),(1,((13,(7,(0,false))),((13,(7,(0,false))),((0,0),(0,(0,0)))))),(0,((0,(0,(0,false))),((0,(0,(0,false))),((0,0),(0,(0,0))))))],())):=by
 rw[b0r];refine tt (by kernel_rfl) ?_
 refine ob (x:=([([97],[])],(13,((0,(0,[(2,(1,(0,false))),(4,(5,(0,false))),(13,(7,(0,false)))])),(([(0,(2,((2,(1,(0,false))),((4,(5,(0,false))),((0,4),(0,(0,2))))))),(0,(0,((0,(0,(0,false))),((0,(0,(0,false))),((0,0),(0,(0,0))))))),(0,(0,((0,(0,(0,false))),((0,(0,(0,false))),((0,0),(0,(0,0))))))),(0,(0,((0,(0,(0,false))),((0,(0,(0,false))),((0,0),(0,(0,0)))))))],([(0,(0,((0,(0,(0,false))),((0,(0,(0,false))),((0,0),(0,(0,0))))))),(0,(0,((0,(0,(0,false))),((0,(0,(0,false))),((0,0),(0,(0,0))))))),(0,(0,((0,(0,(0,false))),((0,(0,(0,false))),((0,0),(0,(0,0))))))),(0,(0,((0,(0,(0,false))),((0,(0,(0,false))),((0,0),(0,(0,0))))))),(0,(0,((0,(0,(0,false))),((0,(0,(0,false))),((0,0),(0,(0,0)))))))],[(0,(0,((0,(0,(0,false))),((0,(0,(0,false))),((0,0),(0,(0,0))))))),(0,(0,((0,(0,(0,false))),((0,(0,(0,false))),((0,0),(0,(0,0))))))),(0,(0,((0,(0,(0,false))),((0,(0,(0,false))),((0,0),(0,(0,0))))))),(0,(0,((0,(0,(0,false))),((0,(0,(0,false))),((0,0),(0,(0,0))))))),(0,(0,((0,(0,(0,false))),((0,(0,(0,false))),((0,0),(0,(0,0))))))),(0,(0,((0,(0,(0,false))),((0,(0,(0,false))),((0,0),(0,(0,0)))))))])),(1,(1,((13,(7,(0,false))),((13,(7,(0,false))),((0,0),(0,(0,0)))))))))))) (by kernel_rfl) ?_
 refine ob (h1u n) ?_;refine ob (x:=(0,((0,(0,(0,false))),((0,(0,(0,false))),((0,0),(0,(0,0))))))) (by kernel_rfl) ?_;refine ob (x:=(0,((0,(0,(0,false))),((0,(0,(0,false))),((0,0),(0,(0,0))))))) (by kernel_rfl) ?_;refine tf (by kernel_rfl) ?_;exact h1m n f
theorem h1j (n:Nat):b0t (n+38) b0d ([([97],[])],(1,(0,30)))=some ([(2,((2,(1,(0,false))),((4,(5,(0,false))),((0,4),(0,(0,2)))))),(1,((13,(7,(0,false))),((13,(7,(0,false))),((0,0),(0,(0,0)))))),(0,((0,(0,(0,false))),((0,(0,(0,false))),((0,0),(0,(0,0))))))],0):=by
 rw[q0l];refine ob (i1a n) ?_;refine tf (by kernel_rfl) ?_;refine tt (by kernel_rfl) ?_;refine ob (h1y n) ?_;refine tf (by kernel_rfl) ?_;refine tf (by kernel_rfl) ?_;refine tt (by kernel_rfl) ?_;refine ob (h1w n) ?_;refine tf (by kernel_rfl) ?_;refine ob (k2i (h:=by unfold a0b;omega) (h1l n (a0b-4))) ?_;refine Eq.trans (a0k ..) ?_
 kernel_rfl
theorem h1h (n:Nat):e0i (n+38) [(2,((2,(1,(0,false))),((4,(5,(0,false))),((0,4),(0,(0,2)))))),(1,((13,(7,(0,false))),((13,(7,(0,false))),((0,0),(0,(0,0)))))),(0,((0,(0,(0,false))),((0,(0,(0,false))),((0,0),(0,(0,0))))))]=some ([(0,4),(0,2),(0,0)],0):=by kernel_rfl
theorem h1g (n:Nat):d0o (n+38) [(0,4),(0,2),(0,0)]=some ([9,4,0],0):=by kernel_rfl
theorem h1e (n f:Nat):e0b (n+38) (f+1) (0,([57,52,48],([9,4,0],(3,(3,())))))=some (.inl (0,([57,52,48],()))):=by
 rw[d0v];refine tf (by kernel_rfl) ?_
 kernel_rfl
theorem g1z (n f:Nat):e0b (n+38) (f+2) (0,([57,52,0],([9,4,0],(3,(2,())))))=some (.inl (0,([57,52,48],()))):=by
 rw[d0v];refine tt (by kernel_rfl) ?_;refine ob (x:=0) (by kernel_rfl) ?_;refine ob (x:=0) (by kernel_rfl) ?_;refine ob (x:=0) (by kernel_rfl) ?_;exact h1e n f
theorem g1y (n f:Nat):e0b (n+38) (f+3) (0,([57,0,0],([9,4,0],(3,(1,())))))=some (.inl (0,([57,52,48],()))):=by
 rw[d0v];refine tt (by kernel_rfl) ?_;refine ob (x:=4) (by kernel_rfl) ?_;refine ob (x:=0) (by kernel_rfl) ?_;refine ob (x:=0) (by kernel_rfl) ?_;exact g1z n f
theorem g1x (n f:Nat):e0b (n+38) (f+4) (0,([0,0,0],([9,4,0],(3,(0,())))))=some (.inl (0,([57,52,48],()))):=by
 rw[d0v];refine tt (by kernel_rfl) ?_;refine ob (x:=9) (by kernel_rfl) ?_;refine ob (x:=0) (by kernel_rfl) ?_;refine ob (x:=0) (by kernel_rfl) ?_;exact g1y n f
theorem g1w (n:Nat):c0n (n+39) b0d ([([97],[])],(1,(0,30)))=some ([57,52,48],0):=by
 rw[b1g];refine ob (h1j n) ?_;refine tf (by kernel_rfl) ?_;refine ob (h1h n) ?_;refine tf (by kernel_rfl) ?_;refine ob (h1g n) ?_;refine tt (by kernel_rfl) ?_;refine ob (k2i (h:=by unfold a0b;omega) (g1x n (a0b-4))) ?_;refine Eq.trans (a0k ..) ?_
 kernel_rfl
theorem g1v (n:Nat):d0o (n+39) [(9223372036854775808,0)]=some ([],1):=by kernel_rfl
theorem g1u (n:Nat):f0v (n+39) []=some (0,false):=by kernel_rfl
theorem g1t (n:Nat):e0o (n+39) (4)=some (0,4):=by kernel_rfl
theorem g1s (n:Nat):i0d (n+39) [(0,4),(0,2),(0,0)] [(0,4),(0,2),(0,0)]=some true:=by kernel_rfl
theorem g1r (n:Nat):x0s (n+39) [2,9,0,1] [2,9,0,1]=some true:=by kernel_rfl
theorem g0r (n:Nat):c0f (n+40)=some true:=by
 rw[g1q];refine ob (n1u n) ?_;refine ob (n1t n) ?_;refine tf (by kernel_rfl) ?_;refine ob (n1s n) ?_;refine tf (by kernel_rfl) ?_;refine tf (by kernel_rfl) ?_;refine ob (n1r n) ?_;refine tf (by kernel_rfl) ?_;refine tf (by kernel_rfl) ?_;refine ob (i1h n) ?_;refine tf (by kernel_rfl) ?_;refine tf (by kernel_rfl) ?_;refine ob (i1g n) ?_;refine ob (i1f n) ?_;refine ob (u0y n) ?_;refine ob (i1e n) ?_;refine ob (i1d n) ?_;refine ob (i1c n) ?_
 refine ob (i1b n) ?_;refine ob (g1w n) ?_;refine ob (g1v n) ?_;refine ob (g1u n) ?_;refine ob (x:=(2,((2,(1,(0,false))),((4,(5,(0,false))),((0,4),(0,(0,2))))))) (by kernel_rfl) ?_;refine tt (by kernel_rfl) ?_;refine ob (x:=(1,((13,(7,(0,false))),((13,(7,(0,false))),((0,0),(0,(0,0))))))) (by kernel_rfl) ?_;refine tt (by kernel_rfl) ?_;refine ob (x:=(0,((0,(0,(0,false))),((0,(0,(0,false))),((0,0),(0,(0,0))))))) (by kernel_rfl) ?_;refine tt (by kernel_rfl) ?_;refine ob (g1t n) ?_;refine ob (u0y n) ?_
 refine ob (g1s n) ?_;refine tt (by kernel_rfl) ?_;refine tt (by kernel_rfl) ?_;refine tt (by kernel_rfl) ?_;refine tt (by kernel_rfl) ?_;refine ob (g1r n) ?_;refine tt (by kernel_rfl) ?_;refine tt (by kernel_rfl) ?_;refine tt (by kernel_rfl) ?_;refine tt (by kernel_rfl) ?_;refine tt (by kernel_rfl) ?_
 kernel_rfl
end Go.Proofs.YtgkpkajaepphjaaGreatDoor
namespace Go.Proofs.YtgkpkajaepphjaaGreatDoor
open Go.Flat Go.Plim
set_option linter.unusedVariables false
set_option linter.unusedSimpArgs false
noncomputable def HSw (n:Nat) (s:a0p) (a:TAsk) (r4:v0d×Int) (w:Int):Option Bool :=
 tif ((decide (w=(0:Int)))) (
 none) (
 tif ((decide ((60:Int)<(IntKind.wrap .i64 (Int.tdiv (IntKind.wrap .i64 (a.2.2.2-a.2.2.1)) w))))) (
 some true) (
 a0a (b0t n s a) fun r7 =>
 a0a (e0i n r7.1) fun r8 =>
 a0a (c0n n s a) fun r9 =>
 a0a (m0z n r7.1) fun r10 =>
 a0a (p0g n r8.1) fun r11 =>
 tif ((decide (w=(0:Int)))) (
 none) (
 tif ((!(decide (r7.2=(0:Int))))) (
 some false) (
 tif ((!(decide (r8.2=(0:Int))))) (
 some false) (
 tif ((!(decide (r9.2=(0:Int))))) (
 some false) (
 tif ((!(decide (r10.2=(0:Int))))) (
 some false) (
 tif ((!(decide (r11.2=(0:Int))))) (
 some false) (
 tif ((!(decide ((((List.length r7.1):Nat):Int)=(IntKind.wrap .i64 (Int.tdiv (IntKind.wrap .i64 (a.2.2.2-a.2.2.1)) w)))))) (
 some false) (
 tif ((!(decide ((((List.length r8.1):Nat):Int)=(IntKind.wrap .i64 (Int.tdiv (IntKind.wrap .i64 (a.2.2.2-a.2.2.1)) w)))))) (
 some false) (
 tif ((!(decide ((((List.length r9.1):Nat):Int)=(IntKind.wrap .i64 (Int.tdiv (IntKind.wrap .i64 (a.2.2.2-a.2.2.1)) w)))))) (
 some false) (
 tif ((!((decide (r10.1.1=r4.1.2.1.1))&&((decide (r10.1.2.1.1=r4.1.2.1.2.1.1))&&((decide (r10.1.2.1.2.1=r4.1.2.1.2.1.2.1))&&((decide (r10.1.2.1.2.2.1=r4.1.2.1.2.1.2.2.1))&&((r10.1.2.1.2.2.2==r4.1.2.1.2.1.2.2.2)&&((decide (r10.1.2.2.1.1=r4.1.2.1.2.2.1.1))&&((decide (r10.1.2.2.1.2.1=r4.1.2.1.2.2.1.2.1))&&((decide (r10.1.2.2.1.2.2.1=r4.1.2.1.2.2.1.2.2.1))&&((r10.1.2.2.1.2.2.2==r4.1.2.1.2.2.1.2.2.2)&&((decide (r10.1.2.2.2.1.1=r4.1.2.1.2.2.2.1.1))&&((decide (r10.1.2.2.2.1.2=r4.1.2.1.2.2.2.1.2))&&((decide (r10.1.2.2.2.2.1=r4.1.2.1.2.2.2.2.1))&&((decide (r10.1.2.2.2.2.2.1=r4.1.2.1.2.2.2.2.2.1))&&(decide (r10.1.2.2.2.2.2.2=r4.1.2.1.2.2.2.2.2.2))))))))))))))))) (
 some false) (
 tif ((!((decide (r11.1.1=r4.1.2.1.2.2.2.1.1))&&(decide (r11.1.2=r4.1.2.1.2.2.2.1.2))))) (
 some false) (
 a0a (c0t n a0b (s,(a,(r4.1,(w,(r8.1,(r7.1,((((List.length r7.1):Nat):Int),((0:Int),()))))))))) fun r12 =>
 b0c (fun y13 =>
 some true) (fun z14 =>
 some z14) r12)))))))))))))
theorem wds_wf {l:List Wd} (h:Wf (.slice a0c) l):∀x∈l,WdOk x:=fun x hx=>⟨(h.2 x hx).1,(h.2 x hx).2⟩
theorem q1m (n:Nat) (a:List Cel) (hL:a.length≤1000000):∀(rest pre:List Cel) (f:Nat) (ix len:Int),a=pre++rest→ix=pre.length→len=a.length→rest.length<f→g0v n f (a,a,len,ix,())=some (.inl ()):=by
 intro rest;induction rest with
 | nil =>
  intro pre f i len hl hi hn hf;obtain ⟨f,rfl⟩:∃g,f=g+1:=⟨f-1,by simp at hf;omega⟩;rw[l0q,decide_eq_false (idxe hl hi hn),tff]
 | cons x rest ih =>
  intro pre f i len hl hi hn hf;obtain ⟨f,rfl⟩:∃g,f=g+1:=⟨f-1,by simp at hf;omega⟩;rw[l0q,decide_eq_true (idx hl hi hn),tft,b0q hl hi,idxw hl hi (show a.length≤1000000000000 by omega)];simp only[obs,decide_true,beq_self_eq_true,Bool.and_self,Bool.not_true,tff];exact ih (pre++[x]) f (i+1) len (idxl hl) (idxs hi) hn (by simp at hf;omega)
theorem c2j (n:Nat) (a:List Cel) (hL:a.length≤1000000):c0l (n+1) a a=some true:=by
 rw[b1y];simp only[decide_true,Bool.not_true,tff,q1m n a hL a [] a0b 0 _ rfl rfl rfl (by unfold a0b;omega),obs,a0k]
theorem q1l (n:Nat) (a:List Wd) (hL:a.length≤1000000):∀(rest pre:List Wd) (f:Nat) (ix len:Int),a=pre++rest→ix=pre.length→len=a.length→rest.length<f→g0u n f (a,a,len,ix,())=some (.inl ()):=by
 intro rest;induction rest with
 | nil =>
  intro pre f i len hl hi hn hf;obtain ⟨f,rfl⟩:∃g,f=g+1:=⟨f-1,by simp at hf;omega⟩;rw[l0p,decide_eq_false (idxe hl hi hn),tff]
 | cons x rest ih =>
  intro pre f i len hl hi hn hf;obtain ⟨f,rfl⟩:∃g,f=g+1:=⟨f-1,by simp at hf;omega⟩;rw[l0p,decide_eq_true (idx hl hi hn),tft,b0q hl hi,idxw hl hi (show a.length≤1000000000000 by omega)];simp only[obs,decide_true,beq_self_eq_true,Bool.and_self,Bool.not_true,tff];exact ih (pre++[x]) f (i+1) len (idxl hl) (idxs hi) hn (by simp at hf;omega)
theorem j1s (n:Nat) (a:List Wd) (hL:a.length≤1000000):i0d (n+1) a a=some true:=by
 rw[b1x];simp only[decide_true,Bool.not_true,tff,q1l n a hL a [] a0b 0 _ rfl rfl rfl (by unfold a0b;omega),obs,a0k]
theorem u1l {q:List Lab×(Int×(Int×Int))} (h:Wf h0v q):q.1.length≤9223372036854775807:=h.1.1
theorem j2r (s:Sta) (l:List Lab) (t a b:Int):b0f (doQ s l t a b).1.2.1:=by
 unfold doQ;by_cases h1:StaOk s
 case neg=>rw[if_neg h1];exact h0a
 rw[if_pos h1];by_cases h2:LabOk l
 case neg=>rw[if_neg h2];exact h0a
 rw[if_pos h2];by_cases h3:(b0m s t a b).2=0
 case neg=>rw[if_neg h3];exact h0a
 rw[if_pos h3];exact o1y _ _ _ _ _
theorem u1z {s:Sta} {k:Int} (h0:0≤k) (h2:k≤2):k=0∧a0m s.1 k=s.1.2.1.1∨k=1∧a0m s.1 k=s.1.2.1.2.1∨k=2∧a0m s.1 k=s.1.2.1.2.2:=by
 rcases (by omega:k=0∨k=1∨k=2) with e | e | e<;>subst e
 ·exact .inl ⟨rfl,rfl⟩
 ·exact .inr (.inl ⟨rfl,rfl⟩)
 ·exact .inr (.inr ⟨rfl,rfl⟩)
theorem i1t (n:Nat) (s:Sta) (q:List Lab×(Int×(Int×Int))) (hs:Wf a0f s) (hq:Wf h0v q):y0m (n+41) s q=some true:=by
 have hw:=sta_wf hs;rw[c1b];rcases s1u (n+37) hw with h | ⟨h,_⟩
 ·rw[h,g0r n];rfl
 rw[h,obs,show (decide ((1:Int)=0))=false from rfl,tff];rcases e1w (n+39) q.1 (u1l hq) with h1 | h1
 ·rw[h1,g0r n];rfl
 rw[h1,obs,show (decide ((1:Int)=0))=false from rfl,tff,k1c (n+21) hw,obs];obtain ⟨v,v1,v2,v3,v4,v5⟩:=e1z (n+14) (n+25) hw q;obtain ⟨c1,c2⟩:=t1y s q;rw[t0x (n+15) hw q,q1w (n+26) hw q,v1,v2,g0r n];simp only[obs,tft,c2j (n+39) (e0m s q).1 (by omega),decide_true,beq_self_eq_true,tif_same];simp only[tfd];by_cases ht:(b0m s q.2.1 q.2.2.1 q.2.2.2).2=0
 case neg=>rw[if_neg ht]
 rw[if_pos ht];obtain ⟨hok,t1,t3,ho,_⟩:=l0e ht;generalize (b0m s q.2.1 q.2.2.1 q.2.2.2).1=T at *
 have hr:=hok.whole.1.rng;have w0:=hr.w0.1;have w1:=hr.w1.1;have w2:=hr.w2.1;rw[if_pos t1,if_pos t3,w64 (x:=T-1) (by omega) (by omega),if_neg (show ¬s.1.2.1.1=0 by omega),if_neg (show ¬s.1.2.1.2.1=0 by omega),if_neg (show ¬s.1.2.1.2.2=0 by omega)];rcases (by omega:T-1=0∨T-1=1∨T-1=2) with e | e | e
 ·rw[if_pos e]
 ·rw[if_neg (by omega),if_pos e]
 ·rw[if_neg (by omega),if_neg (by omega),if_pos e]
theorem hstp_len (l:List Cel):(i1r l).1.length≤l.length:=by
 unfold i1r;split
 ·exact Nat.le_of_eq (v1i l z0)
 ·simp
theorem levT_len (t:Wd) (l:List Wd):(levT t l).1.length≤l.length:=by
 unfold levT;split<;>simp
theorem i1u (n:Nat) (l:List Cel) (m:List Wd) (hl:Wf (.slice a0j) l) (hm:Wf (.slice a0c) m):y0n (n+41) l m=some true:=by
 rw[c1c,g0r n,tfd];by_cases h1:(60:Int)<(l.length:Int)
 ·rw[if_pos h1];rfl
 rw[if_neg h1,tfd];by_cases h2:(60:Int)<(m.length:Int)
 ·rw[if_pos h2];rfl
 rw[if_neg h2];have hc:∀x∈l,CelW x:=fun x hx=>cel_wf (hl.2 x hx)
 have hw:=wds_wf hm;have hsl:=hstp_len l;rw[a1c (n+32) l (by omega) hc,q1v (n+33) l (by omega) hc];by_cases hn:m=[]
 ·subst hn;rw[y0q (n+38),a1w (n+37),s0s (n+35),u0p (n+36)];simp only[obs,tft,j1s (n+39) (i1r l).1 (by omega),decide_true,beq_self_eq_true,x0r (n+39) [] (by simp)]
 ·obtain ⟨i,hi⟩:=h2h m (by omega) hw hn;obtain ⟨top,ht,_⟩:=id hi;have hv:=levT_len top m;rw[t1e (n+38) (by omega) hw hi,z1m (n+37) (by omega) hw hi,f1b (n+35) (by omega) hw hi ht,j1y (n+36) (by omega) hw hi ht];simp only[obs,tft,j1s (n+39) (i1r l).1 (by omega),decide_true,beq_self_eq_true,x0r (n+39) (levT top m).1 (by omega)]
section
variable {m:List Wd} {i:Nat} {top:Wd} (hL:m.length≤60) (hw:∀x∈m,WdOk x) (hmax:∀y∈m,wv y≤wv top) (hfst:∀j y,j<i→m[j]? = some y→wv y<wv top) (ht:m[i]? = some top)
include hL hw ht in
include hL hw hmax hfst ht in
end
section
variable {s:Sta} (hw:StaW s) (q:List Lab×(Int×(Int×Int))) (h:(doQ s q.1 q.2.1 q.2.2.1 q.2.2.2).2=0) {m:Nat} (hm:q.2.2.2 / a0m s.1 ((b0m s q.2.1 q.2.2.1 q.2.2.2).1-1)-q.2.2.1 / a0m s.1 ((b0m s q.2.1 q.2.2.1 q.2.2.2).1-1)=((m+1:Nat):Int)) (h4:m<60)
include hw h hm h4
theorem y1f (n:Nat) (r:v0d) (hr:r.1=(b0m s q.2.1 q.2.2.1 q.2.2.2).1):∀(d j f:Nat),j+d=m+1→d<f →
  c0t (n+24) f (s,q,r,a0m s.1 ((b0m s q.2.1 q.2.2.1 q.2.2.2).1-1),stp z0 (winL s q.1 ((b0m s q.2.1 q.2.2.1 q.2.2.2).1-1) (q.2.2.1 / a0m s.1 ((b0m s q.2.1 q.2.2.1 q.2.2.2).1-1)) (m+1)),winL s q.1 ((b0m s q.2.1 q.2.2.1 q.2.2.2).1-1) (q.2.2.1 / a0m s.1 ((b0m s q.2.1 q.2.2.1 q.2.2.2).1-1)) (m+1),((m+1:Nat):Int),(j:Int),())=some (.inl ()):=by
 obtain ⟨hs,hl,ht,e1⟩:=m0v h;obtain ⟨_,t1,t3,ho,_⟩:=l0e ht;obtain ⟨s1,s2⟩:=u0x ho;obtain ⟨wp,rp,ha,hb,es,ea,eab⟩:=n0h s1;obtain ⟨_,hall⟩:=t1z h hm (by omega);have hwin:=fun (j:Nat) (hj:j<m+1)=>doQ_win h (j:=(j:Int)) (by omega) (by omega)
 have hone:=fun (j:Nat) (hj:j<m+1)=>h2u ho (j:=(j:Int)) (by omega) (by omega)
 generalize (b0m s q.2.1 q.2.2.1 q.2.2.2).1=T at *
 intro d;induction d with
 | zero =>
  intro j f hk hf;obtain ⟨f,rfl⟩:∃g,f=g+1:=⟨f-1,by omega⟩;rw[m0s,decide_eq_false (by omega),tff]
 | succ d ih =>
  intro j f hk hf;obtain ⟨f,rfl⟩:∃g,f=g+1:=⟨f-1,by omega⟩;have hjm:j<m+1:=by omega
  have next:=ih (j+1) f (by omega) (by omega);rw[show ((j+1:Nat):Int)=(j:Int)+1 by omega] at next;have hx:=winL_at s q.1 (T-1) (q.2.2.1 / a0m s.1 (T-1)) hjm;obtain ⟨k1,k2⟩:=hwin j hjm;obtain ⟨_,_,_,p0,p1,p2⟩:=hone j hjm;obtain ⟨y,hy,hyx⟩:=stp_at _ z0 (by rw[hall]) j _ hx;have hxw:WdOk (winC s q.1 (T-1) (q.2.2.1 / a0m s.1 (T-1)+(j:Int))).2.2.2.1:=(CelW.of (u1p s q.1 (T-1) (q.2.2.1 / a0m s.1 (T-1)+(j:Int)))).w;have hyw:WdOk y:=stp_w _ z0 (by rw[hall]) h0a y (List.mem_of_getElem? hy);have q1:=rp.1;have q2:=rp.2.1;have q3:=rp.2.2;have w1:=wp.1;generalize a0m s.1 (T-1)=w at *
  have f1:IntKind.wrap .i64 (q.2.2.1+IntKind.wrap .i64 ((j:Int)*w))=q.2.2.1+(j:Int)*w:=by
   rw[w64 (x:=(j:Int)*w) (by omega) (by omega),w64 (by omega) (by omega)]
  have f2:IntKind.wrap .i64 (q.2.2.1+IntKind.wrap .i64 (IntKind.wrap .i64 ((j:Int)+1)*w))=q.2.2.1+((j:Int)+1)*w:=by
   rw[w64 (x:=(j:Int)+1) (by omega) (by omega),w64 (x:=((j:Int)+1)*w) (by omega) (by omega),w64 (by omega) (by omega)]
  rw[m0s,decide_eq_true (show (j:Int)<((m+1:Nat):Int) by omega),tft,q0q hx,obs,f1,f2,hr,m1u n hw,obs];simp only[k1,k2];rw[q0q hy,obs,n0t (n+23) hyw hxw,obs,decide_eq_false (show ¬wv y<wv (winC s q.1 (T-1) (q.2.2.1 / w+(j:Int))).2.2.2.1 by omega),w64 (x:=(j:Int)+1) (by omega) (by omega)];simp only[decide_true,beq_self_eq_true,Bool.and_self,Bool.not_true,tff];exact next
theorem y1e (n:Nat):HSw (n+40) s q (doQ s q.1 q.2.1 q.2.2.1 q.2.2.2) (a0m s.1 ((b0m s q.2.1 q.2.2.1 q.2.2.2).1-1))=some true:=by
 obtain ⟨hs,hl,ht,e1⟩:=m0v h;obtain ⟨_,t1,t3,ho,_⟩:=l0e ht;obtain ⟨s1,s2⟩:=u0x ho;obtain ⟨wp,rp,ha,hb,es,ea,eab⟩:=n0h s1;obtain ⟨hcv,hall⟩:=t1z h hm (by omega);obtain ⟨v,v1,_,v3,v4,_⟩:=e1z (n+14) n hw q;have h24:=y1f hw q h hm h4 (n+16) (doQ s q.1 q.2.1 q.2.2.1 q.2.2.2).1 e1 (m+1) 0 a0b (by omega) (by unfold a0b;omega);rw[hcv] at v3 v4;have v4':=v4 v3;rw[s0y] at v4';have q1:=rp.1;have q2:=rp.2.1;have q3:=rp.2.2;have w1:=wp.1;have hC:=j2r s q.1 q.2.1 q.2.2.1 q.2.2.2;generalize (b0m s q.2.1 q.2.2.1 q.2.2.2).1=T at *
 have hlen:=s0y s q.1 (T-1) (q.2.2.1 / a0m s.1 (T-1)) (m+1);have hok:=f2b s q.1 (T-1) (q.2.2.1 / a0m s.1 (T-1)) (m+1);have hdiv:=v1d w1 ha hb;generalize a0m s.1 (T-1)=w at *
 generalize winL s q.1 (T-1) (q.2.2.1 / w) (m+1)=L at *
 have hcw:∀x∈L,CelW x:=fun x hx => .of (hok x hx)
 have hsum:=stp_sum L z0 (by rw[hall]);rw[hall] at hsum;have hst:i1r L=(stp z0 L,0):=if_pos (by rw[hall]);have hslen:(stp z0 L).length=m+1:=by rw[v1i,hlen]
 have hsw:=stp_w L z0 (by rw[hall]) h0a;have hcw2:=(CelW.of hC).w;have hN:IntKind.wrap .i64 (Int.tdiv (IntKind.wrap .i64 (q.2.2.2-q.2.2.1)) w)=((m+1:Nat):Int):=by
  rw[w64 (x:=q.2.2.2-q.2.2.1) (by omega) (by omega),f0o (by omega),hdiv,hm,w64 (by omega) (by omega)]
 have h24':c0t (n+40) a0b (s,q,(doQ s q.1 q.2.1 q.2.2.1 q.2.2.2).1,w,stp z0 L,L,((m+1:Nat):Int),(0:Int),())=_:=h24;have hz:wv z0.2.2.2.1=0:=rfl;rw[hz,Int.sub_zero] at hsum;unfold HSw;rw[decide_eq_false (show ¬w=0 by omega),tff,hN,decide_eq_false (show ¬(60:Int)<((m+1:Nat):Int) by omega),tff,t0x (n+15) hw q,obs,hcv];simp only;rw[a1c (n+32) L (by omega) hcw,obs,v1,obs,o1v (n+33) L (by omega) hcw,obs,hall,hst];simp only;rw[z1d (n+37) (stp z0 L) (by omega) hsw (by rw[hsum];exact (c0h hcw2).2),obs,hsum,b1f hcw2,tff,v3,v4',hlen,hslen]
 simp only[decide_true,beq_self_eq_true,Bool.and_self,Bool.not_true,tff];rw[h24',obs,a0k]
end
theorem t1h (n:Nat) (s:Sta) (q:List Lab×(Int×(Int×Int))) (hs:Wf a0f s) (hq:Wf h0v q):e1u (n+41) s q=some true:=by
 have hw:=sta_wf hs;rw[i1q,g0r n,obs,Bool.not_true,tff];rcases s1u (n+37) hw with h | ⟨h,_⟩
 ·rw[h];rfl
 rw[h,obs,show (decide ((1:Int)=0))=false from rfl,tff];rcases e1w (n+39) q.1 (u1l hq) with h1 | h1
 ·rw[h1];rfl
 rw[h1,obs,show (decide ((1:Int)=0))=false from rfl,tff,w0m (n+26) hw,obs,tfn];by_cases hok:StaOk s
 case neg=>rw[if_neg hok];rfl
 rw[if_pos hok,show (decide ((0:Int)=0))=true from rfl,tft,m1u (n+16) hw,obs,tfn];by_cases h:(doQ s q.1 q.2.1 q.2.2.1 q.2.2.2).2=0
 case neg =>
  obtain ⟨v,v1,_,v3,_,v5⟩:=e1z (n+14) n hw q;have e:e0m s q=([],(doQ s q.1 q.2.1 q.2.2.1 q.2.2.2).2):=by unfold e0m;rw[if_neg h]
  rw[e] at v3;rw[decide_eq_false h,tff,t0x (n+15) hw q,obs,v1,obs,e,v3,v5 (by rw[v3];exact h)];simp only[decide_true,tft,List.length_nil];rfl
 rw[decide_eq_true h,tft];obtain ⟨_,hl,ht,e1⟩:=m0v h;obtain ⟨_,t1,t3,ho,_⟩:=l0e ht;obtain ⟨s1,s2⟩:=u0x ho;obtain ⟨wp,rp,ha,hb,es,ea,eab⟩:=n0h s1;have main:HSw (n+40) s q (doQ s q.1 q.2.1 q.2.2.1 q.2.2.2) (a0m s.1 ((b0m s q.2.1 q.2.2.1 q.2.2.2).1-1))=some true:=by
  by_cases hlong:60<q.2.2.2 / a0m s.1 ((b0m s q.2.1 q.2.2.1 q.2.2.2).1-1)-q.2.2.1 / a0m s.1 ((b0m s q.2.1 q.2.2.1 q.2.2.2).1-1)
  ·have q1:=rp.1;have q2:=rp.2.1;have q3:=rp.2.2;have w1:=wp.1;have hdiv:=v1d w1 ha hb;have hle:q.2.2.2 / a0m s.1 ((b0m s q.2.1 q.2.2.1 q.2.2.2).1-1)≤q.2.2.2:=Int.ediv_le_self _ (by omega);generalize a0m s.1 ((b0m s q.2.1 q.2.2.1 q.2.2.2).1-1)=w at *
   have hN:IntKind.wrap .i64 (Int.tdiv (IntKind.wrap .i64 (q.2.2.2-q.2.2.1)) w)=q.2.2.2 / w-q.2.2.1 / w:=by
    rw[w64 (x:=q.2.2.2-q.2.2.1) (by omega) (by omega),f0o (by omega),hdiv,w64 (by omega) (by omega)]
   unfold HSw;rw[decide_eq_false (show ¬w=0 by omega),tff,hN,decide_eq_true hlong,tft]
  ·have q1:=rp.1;have q3:=rp.2.2;have w1:=wp.1;have hpos:q.2.2.1 / a0m s.1 ((b0m s q.2.1 q.2.2.1 q.2.2.2).1-1)<q.2.2.2 / a0m s.1 ((b0m s q.2.1 q.2.2.1 q.2.2.2).1-1):=by
    generalize a0m s.1 ((b0m s q.2.1 q.2.2.1 q.2.2.2).1-1)=w at *
    have ea':q.2.2.1 / w*w=q.2.2.1:=Int.ediv_mul_cancel_of_emod_eq_zero ha;have eb':q.2.2.2 / w*w=q.2.2.2:=Int.ediv_mul_cancel_of_emod_eq_zero hb;rcases Int.lt_or_eq_of_le eab with k | k
    ·exact k
    ·rw[k] at ea';omega
   obtain ⟨m,hm⟩:∃m:Nat,q.2.2.2 / a0m s.1 ((b0m s q.2.1 q.2.2.1 q.2.2.2).1-1)-q.2.2.1 / a0m s.1 ((b0m s q.2.1 q.2.2.1 q.2.2.2).1-1)=((m+1:Nat):Int) :=
    ⟨(q.2.2.2 / a0m s.1 ((b0m s q.2.1 q.2.2.1 q.2.2.2).1-1)-q.2.2.1 / a0m s.1 ((b0m s q.2.1 q.2.2.1 q.2.2.2).1-1)).toNat-1,by omega⟩
   exact y1e hw q h hm (by omega) n
 rw[e1,decide_eq_false (by omega),tff,decide_eq_false (by omega),tff,w64 (x:=(b0m s q.2.1 q.2.2.1 q.2.2.2).1-1) (by omega) (by omega)];generalize hT:(b0m s q.2.1 q.2.2.1 q.2.2.2).1-1=k at *
 rcases u1z (s:=s) (k:=k) (by omega) (by omega) with ⟨e,ew⟩ | ⟨e,ew⟩ | ⟨e,ew⟩
 ·rw[ew] at main;rw[decide_eq_true e,tft];exact main
 ·rw[ew] at main;rw[decide_eq_false (by omega),tff,decide_eq_true e,tft];exact main
 ·rw[ew] at main;rw[decide_eq_false (by omega),tff,decide_eq_false (by omega),tff,decide_eq_true e,tft];exact main
end Go.Proofs.YtgkpkajaepphjaaGreatDoor
