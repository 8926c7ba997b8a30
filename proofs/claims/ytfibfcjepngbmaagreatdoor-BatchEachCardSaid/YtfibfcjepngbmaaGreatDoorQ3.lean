/-
 Plain proofs about the functions of this seat, part 3 of 3.
-/
import Derived.Test.YtfibfcjepngbmaaGreatDoorQ2
import Derived.Test.YtfibfcjepngbmaaGreatDoorTr
import Derived.Test.YtfibfcjepngbmaaGreatDoorFlatM4
import Derived.KernelRfl
set_option linter.unusedVariables false
set_option linter.unusedSimpArgs false
set_option linter.unusedSectionVars false
open Go.IntKind (wrap)
namespace Go.Proofs.YtfibfcjepngbmaaGreatDoor
open Go.Flat Go.Plim
theorem g0o (n:Nat)(s:Sta):l0w (n+4) s=some (decide (Whole s)):=by
 rw[n1i,i0e n s.1,obs,tfd];by_cases h:OkC s.1
 case neg=>rw[q0n h,q0n (show ¬((2:Int)=0) by decide),q1z (fun k:Whole s=>h k.1)]
 rw[q0z h,q0z rfl];exact congrArg some (q2s.2 ⟨fun k=>⟨h,k⟩,fun k=>k.2⟩)
theorem w1e (n:Nat){s:Sta}(hh:Whole s)(h:m0x s.2.1):n0v (n+5) s=some (mk s):=by
 have hw:=hh.1.rng.w0;obtain ⟨m1,m2,m3,m4⟩:=r0d h hw;have h1:=h.1;have h2:=h.2;rw[a1w,g0o n s,obs,tfn,tfd,q0z hh,k0v (n+3),obs,tfn,tfd,q0z h,tfd,q0n (by omega),quo_at h hw.1];rw[w64 (show -9223372036854775808<=s.2.1 / s.1.2.1.1*s.1.2.1.1 from by unfold mk at m1;omega) (by unfold mk at m2;omega)];rfl
theorem r17_l11 (n:Nat){s:Sta}(hw:StaW s)(hL:s.2.2.2.length<=1000000)(i:Nat)(x:Ser)(hx:s.2.2.2[i]? = some x)(e:Int)(p:List Ser)(q r:Int):∀(d k f:Nat),k+d=i->d<f ->
  ((∃j,k<=j/\j<i/\LvX s x/\∃y,s.2.2.2[j]? = some y/\LvX s y/\y.1=x.1)/\c0t (n+6) f (s,e,(i:Int),x,p,q,r,(i:Int),(k:Int),())=some (.inr 2)) \/
  (¬(∃j,k<=j/\j<i/\LvX s x/\∃y,s.2.2.2[j]? = some y/\LvX s y/\y.1=x.1)/\c0t (n+6) f (s,e,(i:Int),x,p,q,r,(i:Int),(k:Int),())=some (.inl (s,e,p,q,r,()))):=by
 have hil:i<s.2.2.2.length:=(q2p.1 hx).1;have hm:=(hw.at hx).2;intro d;induction d with
 | zero =>
  intro k f hk hf;obtain ⟨f,rfl⟩:∃g,f=g+1:=⟨f-1,by omega⟩;refine .inr ⟨fun ⟨j,h1,h2,_⟩=>by omega,?_⟩;rw[o0q,q1z (by omega),tff]
 | succ d ih =>
  intro k f hk hf;obtain ⟨f,rfl⟩:∃g,f=g+1:=⟨f-1,by omega⟩;have hkl:k<s.2.2.2.length:=by omega
  have hy:s.2.2.2[k]? = some s.2.2.2[k]:=q2b hkl;generalize s.2.2.2[k]=y at hy;have hmy:=(hw.at hy).2;have ih':=ih (k+1) f (by omega) (by omega);have step:¬(LvX s x/\LvX s y/\y.1=x.1)->((∃j,k+1<=j/\j<i/\LvX s x/\∃y,s.2.2.2[j]? = some y/\LvX s y/\y.1=x.1)↔(∃j,k<=j/\j<i/\LvX s x/\∃y,s.2.2.2[j]? = some y/\LvX s y/\y.1=x.1)):=by
   intro hn;constructor
   ·rintro ⟨j,h1,h2⟩;exact ⟨j,by omega,h2⟩
   ·rintro ⟨j,h1,h2,h3,z,h4,h5,h6⟩;rcases Nat.lt_or_ge k j with g | g
    ·exact ⟨j,by omega,h2,h3,z,h4,h5,h6⟩
    ·obtain rfl:j=k:=by omega
     rw[hy] at h4;cases h4;exact absurd ⟨h3,h5,h6⟩ hn
  rw[o0q,q2a (by omega),tft,j0d n hx hm,obs,tfd,j0d n hy hmy,obs,tfd,q0d hy,obs,o0h (n+5) _ _ hmy.l,obs,tfd,w64 (by omega) (by omega),show ((k:Int)+1)=((k+1:Nat):Int) by omega];by_cases h1:LvX s x
  case neg=>rw[q0n h1,<-step (fun z=>h1 z.1)];exact ih'
  rw[q0z h1];by_cases h2:LvX s y
  case neg=>rw[q0n h2,<-step (fun z=>h2 z.2.1)];exact ih'
  rw[q0z h2];by_cases h3:y.1=x.1
  case neg=>rw[q0n h3,<-step (fun z=>h3 z.2.2)];exact ih'
  rw[q0z h3];exact .inl ⟨⟨k,q2e _,by omega,h1,y,hy,h2,h3⟩,rfl⟩
theorem r17_l5 (n:Nat){s:Sta}(hw:StaW s)(hh:Whole s)(ht:m0x s.2.1):∀(d i f:Nat),i+d=s.2.2.2.length->d<f ->
  ((∀(j:Nat) x,i<=j->s.2.2.2[j]? = some x->h0a s j x)/\c0u (n+8) f (s,mk s+s.1.2.1.1,s.2.2.2,(s.2.2.2.length:Int),(i:Int),())=some (.inl ())) \/
  (¬(∀(j:Nat) x,i<=j->s.2.2.2[j]? = some x->h0a s j x)/\c0u (n+8) f (s,mk s+s.1.2.1.1,s.2.2.2,(s.2.2.2.length:Int),(i:Int),())=some (.inr 2)):=by
 have hL:=hh.len;intro d;induction d with
 | zero =>
  intro i f hi hf;obtain ⟨f,rfl⟩:∃g,f=g+1:=⟨f-1,by omega⟩;refine .inl ⟨fun j x h1 h2 => ?_,?_⟩
  ·have:=(q2p.1 h2).1;omega
  ·rw[p0a,q1z (by omega),tff]
 | succ d ih =>
  intro i f hi hf;obtain ⟨f,rfl⟩:∃g,f=g+1:=⟨f-1,by omega⟩;have hx:s.2.2.2[i]? = some (s.2.2.2[i]'(by omega)):=q2b (by omega);generalize s.2.2.2[i]'(by omega)=x at hx;have hm:=hw.at hx;have ih':=ih (i+1) f (by omega) (by omega);have step:h0a s i x->((∀(j:Nat) x,i+1<=j->s.2.2.2[j]? = some x->h0a s j x)↔(∀(j:Nat) x,i<=j->s.2.2.2[j]? = some x->h0a s j x)):=by
   intro hr;constructor
   ·intro h j y h1 h2;rcases Nat.lt_or_ge i j with g | g
    ·exact h j y (by omega) h2
    ·obtain rfl:j=i:=by omega
     rw[hx] at h2;cases h2;exact hr
   ·intro h j y h1 h2;exact h j y (by omega) h2
  have bad:¬h0a s i x->¬(∀(j:Nat) x,i<=j->s.2.2.2[j]? = some x->h0a s j x):=fun h k=>h (k i x (q2e _) hx)
  rw[p0a,q2a (by omega),tft,q0d hx,obs,n1m (n+4) hm.2,obs,tfd,n1r n s.1 hm.1,obs,w64 (by omega) (by omega),show ((i:Int)+1)=((i+1:Nat):Int) by omega];by_cases h0:x=ser0
  ·rw[q0z h0,<-step (.inl h0)];exact ih'
  rw[q0n h0,tfn,tfd];by_cases h1:SerOk s.1 x
  case neg=>rw[q0n h1,q0n (show ¬((2:Int)=0) by decide)];exact .inr ⟨bad fun k=>by rcases k with k | k;exact h0 k;exact h1 k.1,rfl⟩
  rw[q0z h1,q0z rfl,tfd];by_cases h2:x.2.1<0
  ·rw[q0z h2];exact .inr ⟨bad fun k=>by rcases k with k | k;exact h0 k;have:=k.2.1;omega,rfl⟩
  rw[q0n h2,tfd];by_cases h3:mk s+s.1.2.1.1<=x.2.1
  ·rw[q0z h3];exact .inr ⟨bad fun k=>by rcases k with k | k;exact h0 k;have:=k.2.2.1;omega,rfl⟩
  rw[q0n h3,q2a (show (0:Int)<=(i:Int) by omega),q2a (show (i:Int)<=(s.2.2.2.length:Int) by omega),Bool.and_self,tft,show (List.drop 0 (List.take (Int.toNat (i:Int)) s.2.2.2)).length=i by simp;omega];rcases r17_l11 (n+2) hw (by omega) i x hx (mk s+s.1.2.1.1) s.2.2.2 (s.2.2.2.length:Int) (i:Int) i 0 a0b (by omega) (by unfold a0b;omega) with ⟨q1,q2⟩ | ⟨q1,q2⟩
  ·have q2':c0t (n+8) a0b (s,mk s+s.1.2.1.1,(i:Int),x,s.2.2.2,(s.2.2.2.length:Int),(i:Int),(i:Int),(0:Int),())=some (.inr 2):=q2;rw[q2',obs,g0m];obtain ⟨j,j1,j2,j3,j4⟩:=q1;exact .inr ⟨bad fun k=>by rcases k with k | k;exact h0 k;exact k.2.2.2 ⟨j3,j,j2,j4⟩,rfl⟩
  ·have q2':c0t (n+8) a0b (s,mk s+s.1.2.1.1,(i:Int),x,s.2.2.2,(s.2.2.2.length:Int),(i:Int),(i:Int),(0:Int),())=some (.inl (s,mk s+s.1.2.1.1,s.2.2.2,(s.2.2.2.length:Int),(i:Int),())):=q2;rw[q2',obs,b0h];have hr:h0a s i x := .inr ⟨h1,by omega,by omega,fun ⟨k1,j,k2,k3⟩=>q1 ⟨j,by omega,k2,k1,k3⟩⟩;rw[<-step hr,show wrap .i64 ((i:Int)+1)=((i+1:Nat):Int) by rw[w64 (by omega) (by omega)];omega];exact ih'
theorem n1n (n:Nat){s:Sta}(hw:StaW s):u0n (n+9) s=some (if StaOk s then 0 else 2):=by
 rw[n1q,g0o (n+4) s,obs,tfn,tfd];by_cases h:Whole s
 case neg=>rw[q0n h,q0n (fun k:StaOk s=>h k.whole)]
 rw[q0z h,k0v,obs,tfn,tfd];by_cases h1:m0x s.2.1
 case neg=>rw[q0n h1,q0n (fun k:StaOk s=>h1 k.clock.1)]
 have tail:(Clock s)->(a0a (n0v (n+8) s) fun r3 =>
   a0a (c0u (n+8) a0b (s,((wrap .i64 (r3+s.1.2.1.1)),(s.2.2.2,((((List.length s.2.2.2):Nat):Int),((0:Int),())))))) fun r4 =>
   b0u (fun y5=>some (0:Int)) (fun z6=>some z6) r4)=some (if StaOk s then 0 else 2):=by
  intro hcl;have hr:=h.1.rng;obtain ⟨m1,m2,m3,m4⟩:=r0d h1 hr.w0;have t2:=h1.2;have w0:=hr.w0;rw[w1e (n+3) h h1,obs,w64 (by omega) (by omega)];rcases r17_l5 n hw h h1 s.2.2.2.length 0 a0b (by omega) (by have:=h.len;unfold a0b;omega) with ⟨q1,q2⟩ | ⟨q1,q2⟩
  ·have q2':c0u (n+8) a0b (s,mk s+s.1.2.1.1,s.2.2.2,(s.2.2.2.length:Int),(0:Int),())=some (.inl ()):=q2;rw[q2',obs,b0h,q0z (show StaOk s from ⟨h,hcl,fun i x hx=>q1 i x (by omega) hx⟩)]
  ·have q2':c0u (n+8) a0b (s,mk s+s.1.2.1.1,s.2.2.2,(s.2.2.2.length:Int),(0:Int),())=some (.inr 2):=q2;rw[q2',obs,g0m,q0n (fun k:StaOk s=>q1 fun j x _ hx=>k.right j x hx)]
 rw[q0z h1,tfn,tfd];by_cases h2:s.2.2.1 = -1
 ·rw[q0z h2,tfd];by_cases h3:s.2.1<s.2.2.1
  ·have:=h1.1;omega
  ·rw[q0n h3];exact tail ⟨h1,.inl h2,by omega⟩
 ·rw[q0n h2,k0v,obs,tfn,tfd];by_cases h3:m0x s.2.2.1
  case neg=>rw[q0n h3,q0n (fun k:StaOk s=>by rcases k.clock.2.1 with q | q;exact h2 q;exact h3 q)]
  rw[q0z h3,tfd];by_cases h4:s.2.1<s.2.2.1
  ·rw[q0z h4,q0n (fun k:StaOk s=>by have:=k.clock.2.2;omega)]
  ·rw[q0n h4];exact tail ⟨h1,.inr h3,by omega⟩
theorem confEq (a b:Conf):((decide (a.1=b.1))&&((decide (a.2.1.1=b.2.1.1))&&((decide (a.2.1.2.1=b.2.1.2.1))&&((decide (a.2.1.2.2=b.2.1.2.2))&&((decide (a.2.2.1.1=b.2.2.1.1))&&((decide (a.2.2.1.2.1=b.2.2.1.2.1))&&((decide (a.2.2.1.2.2=b.2.2.1.2.2))&&((decide (a.2.2.2.1=b.2.2.2.1))&&(decide (a.2.2.2.2=b.2.2.2.2))))))))))=decide (a=b):=by
 rw[Bool.eq_iff_iff];simp[Prod.ext_iff,and_assoc]
theorem y1r (n:Nat)(l:List Ser)(hL:l.length<=1000000)(hm:∀x∈l,SerM x):∀(rest pre:List Ser) (f:Nat) (ix len:Int),l=pre++rest->ix=pre.length->len=l.length->rest.length<f ->
  i0j (n+2) f (l,len,ix,())=some (.inl ())\/i0j (n+2) f (l,len,ix,())=some (.inr 0):=by
 intro rest;induction rest with
 | nil =>
  intro pre f ix len hl hi hn hf;obtain ⟨f,rfl⟩:=FSu hf;left;rw[p0u];simp only[tfd,q0n (idxe hl hi hn)]
 | cons x rest ih =>
  intro pre f ix len hl hi hn hf;obtain ⟨f,rfl⟩:=FSu hf;have hx:SerM x:=hm x (by rw[hl];simp);rw[p0u];simp only[tfd,q0z (idx hl hi hn),b0p hl hi,obs,idxw hl hi (show l.length<=1000000000000 by omega)];rcases g2a n x hx.l with h | h
  ·rw[h];right;rfl
  ·rw[h];simp only[obs,q0n (show ¬((1:Int)=0) by decide)];exact ih (pre++[x]) f (ix+1) len (idxl hl) (idxs hi) hn (by simp at hf;omega)
theorem f2z (n:Nat){s:Sta}(hw:StaW s):v0n (n+3) s=some 0\/(v0n (n+3) s=some 1/\s.2.2.2.length<=8):=by
 rw[p1m];simp only[tfd];by_cases h:(8:Int)<(s.2.2.2.length:Int)
 ·rw[q0z h];exact .inl rfl
 ·rw[q0n h];rcases y1r n s.2.2.2 (by omega) (fun x hx=>(hw.ser x hx).2) s.2.2.2 [] a0b 0 _ rfl rfl rfl (by unfold a0b;omega) with h1 | h1
  ·rw[h1];exact .inr ⟨rfl,by omega⟩
  ·rw[h1];exact .inl rfl
theorem ser_m' {s:Ser}(h:Wf a0q s):SerM s:=by
 obtain ⟨h1,h2,h3,⟨h4,h5,h6⟩,h7⟩:=h;have e1:=h1.1;have e3:=h3.2.2.1;have e4:=h4.1;have e5:=h5.1;have e6:=h6.1;simp only[maxLen] at e1 e3 e4 e5 e6;exact ⟨e1,e3,e4,e5,e6⟩
theorem sta_wf {s:Sta}(h:Wf a0o s):StaW s:=by
 obtain ⟨h1,h2,h3,h4⟩:=h;have e:=h4.1;simp only[maxLen] at e;exact ⟨e,fun x hx=>⟨ser_wf (h4.2 x hx),ser_m' (h4.2 x hx)⟩⟩
def l1s (c:Conf)(s:Trs)(o:Slo)(l:List Ev):Prop :=
 (l=[]/\o=s0/\∀t,FInv c s [] t)\/∃t,EndsAt l t/\FInv c s l t/\o=(t / c.2.1.1,cellOf (win c.2.1.1 l (t / c.2.1.1)))
theorem emp_inv {c:Conf}(h:OkC c):l1s c (emp c) s0 []:=by
 have hr:=h.rng;have n0:=hr.n0;have n1:=hr.n1;have n2:=hr.n2;refine .inl ⟨rfl,rfl,fun t => ?_⟩;have e:emp c=(List.replicate c.2.2.1.1.toNat s0,(List.replicate c.2.2.1.2.1.toNat s0,List.replicate c.2.2.1.2.2.toNat s0)):=q0z h;have i0:TierInv (List.replicate c.2.2.1.1.toNat s0) c.2.1.1 []:=s0r (by omega) (by omega) hr.w0.1 hr.w0.2;have i1:TierInv (List.replicate c.2.2.1.2.1.toNat s0) c.2.1.2.1 []:=s0r (by omega) (by omega) hr.w1.1 hr.w1.2;have i2:TierInv (List.replicate c.2.2.1.2.2.toNat s0) c.2.1.2.2 []:=s0r (by omega) (by omega) hr.w2.1 hr.w2.2;rw[e]
 exact ⟨⟨h,by simp;omega,by simp;omega,by simp;omega,i0.ok,i1.ok,i2.ok⟩,i0,i1,i2⟩
theorem l1s.fold {c:Conf}{s:Trs}{o:Slo}{l:List Ev}(h:l1s c s o l):FoldOk c s:=by
 rcases h with ⟨_,_,h⟩ | ⟨t,_,h,_⟩
 ·exact (h 0).ok
 ·exact h.ok
theorem h2d {e:Ev}(h:EvOk e){w:Int}(hw:1<=w):d0w w (e.1 / w):=g1g hw ⟨h.t0,by have:=h.t1;omega⟩
def Turn (o:Slo)(i:Int):Prop:=0<o.2.1/\o.1≠i
def z0a (room:Int)(l:List Ev):Rw :=
 (if (l.length:Int)<=room then 0 else (l.length:Int)-room,(if (l.length:Int)<=room then 0 else ((l[l.length-room.toNat-1]?).getD e0).1,l.drop (l.length-room.toNat)))
theorem e2a {room:Int}(h:1<=room)(l:List Ev):((z0a room l).2.2.length:Int)=if (l.length:Int)<=room then (l.length:Int) else room:=by
 simp only[z0a,List.length_drop];split<;>omega
theorem z1i {room:Int}(h:1<=room)(l:List Ev):(z0a room l).2.2.getLast? = l.getLast? := by
 simp only[z0a,List.getLast?_drop];by_cases h0:l=[]
 ·subst h0;simp
 ·have:0<l.length:=List.length_pos_iff.2 h0;rw[q0n (by omega)]
theorem rawOf_ok {room:Int}(h:1<=room/\room<=4096){l:List Ev}(hl:Foll l)(hL:l.length<=1000000):RawOk (z0a room l) room:=by
 have hlen:=e2a h.1 l;refine ⟨h.1,h.2,by rw[hlen];split<;>omega,?_,?_,?_,?_,?_⟩
 ·simp only[z0a];split<;>omega
 ·simp only[z0a];split<;>omega
 ·exact hl.sub (List.drop_sublist _ _)
 ·simp only[z0a];intro k;split
  ·rfl
  ·rename_i h1;rw[q0n h1] at k;omega
 ·intro k;simp only[z0a] at k hlen ⊢;by_cases h1:(l.length:Int)<=room
  ·rw[q0z h1] at k;exact absurd rfl k
  rw[q0n h1] at hlen ⊢;obtain ⟨d,hd⟩:∃d,l.length-room.toNat=d+1:=⟨l.length-room.toNat-1,by omega⟩;rw[hd,show d+1-1=d by omega];have hdl:d<l.length:=by omega
  have hdl':d+1<l.length:=by omega
  rw[q2b hdl];refine ⟨by rw[<-hlen,hd],((hl.ok _ (List.getElem_mem hdl)).t0),fun x hx => ?_⟩;rw[List.head?_drop,q2b hdl'] at hx;have:=List.pairwise_iff_getElem.1 hl.inc d (d+1) hdl hdl' (by omega);simp at hx;rw[<-hx];exact this
structure SerInv (c:Conf)(s:Ser)(l:List Ev):Prop where
 lab:LabOk s.1
 len:l.length<=1000000
 raw:s.2.2.1=z0a c.1 l
 opn:l1s c s.2.2.2.1 s.2.2.2.2 l
 last:(l=[]/\s.2.1 = -1)\/EndsAt l s.2.1
theorem SerInv.foll {c:Conf}{s:Ser}{l:List Ev}(h:SerInv c s l):Foll l:=by
 rcases h.last with ⟨rfl,_⟩ | h
 ·exact Foll.nil
 ·exact h.foll
theorem l0b {l:List Ev}{t:Int}(h:EndsAt l t):∃e,l.getLast? = some e/\e.1=t:=by
 obtain ⟨x,hx,hxt⟩:=h.last;rcases List.eq_nil_or_concat l with rfl | ⟨p,y,rfl⟩
 ·cases hx
 rw[List.concat_eq_append] at *
 have h1:=h.le y (by simp);refine ⟨y,by simp,?_⟩;rcases q2n.1 hx with q | q
 ·have:=(d0b.1 h.foll).2.2 x q y (by simp);omega
 ·simp at q;rw[<-q];exact hxt
theorem h2o {l:List Ev}{t u:Int}(h:EndsAt l t)(k:EndsAt l u):t=u:=by
 obtain ⟨e,h1,h2⟩:=l0b h;obtain ⟨e',k1,k2⟩:=l0b k;rw[h1] at k1;simp at k1;rw[<-h2,<-k2,k1]
theorem h2p {l:List Ev}{t:Int}(h:EndsAt l t):l≠[]:=by
 obtain ⟨x,hx,_⟩:=h.last;exact List.ne_nil_of_mem hx
theorem SerInv.at_ {c:Conf}{s:Ser}{l:List Ev}(h:SerInv c s l)(hl:l≠[]):EndsAt l s.2.1/\FInv c s.2.2.2.1 l s.2.1/\s.2.2.2.2=(s.2.1 / c.2.1.1,cellOf (win c.2.1.1 l (s.2.1 / c.2.1.1))):=by
 have he:=h.last.resolve_left fun k=>hl k.1
 rcases h.opn with k | ⟨t,k1,k2,k3⟩
 ·exact absurd k.1 hl
 ·have:=h2o he k1;subst this;exact ⟨he,k2,k3⟩
theorem a1k {t:List Slo}{w:Int}(h:TierInv t w []):tall t=[]:=by
 cases hc:tall t with
 | nil=>rfl
 | cons x r =>
  have hx:x∈tall t:=by rw[hc];simp
  have h1:=h.cells x hx;have:=(j0w h.ok hx).1.n.n1;rw[h1] at this;simp[win,cellOf,z0] at this
theorem q0c {t:List Slo}{w u:Int}{l:List Ev}(h:TierInv t w (below w l u))(hl:Foll l):a0r t (u / w):=by
 rw[i0g h.ok];intro x hx;have h1:=h.cells x hx;have hn:=(j0w h.ok hx).1.n;have hne:win w (below w l u) x.1≠[]:=fun k=>by
  rw[k] at h1;exact hn.ne h1
 obtain ⟨e,he⟩:=List.exists_mem_of_ne_nil _ hne;obtain ⟨k1,k2⟩:=x0b.1 he;have:=of_decide_eq_true (q3m.1 k1).2;omega
theorem q1p {w T:Int}{l:List Ev}(he:EndsAt l T):(cellOf (win w l (T / w))).2.2.1.1=T:=by
 obtain ⟨x,hx,hxt⟩:=he.last;have hm:x∈win w l (T / w):=x0b.2 ⟨hx,by rw[hxt]⟩;have hw:=g1u (w:=w) he.foll (T / w);have hh:=x1s hw (List.ne_nil_of_mem hm);have ew:EndsAt (win w l (T / w)) T:=⟨hw,fun y hy=>he.le y (x0b.1 hy).1,x,hm,hxt⟩;obtain ⟨e,k1,k2⟩:=l0b ew;have:=hh.last;rw[k1] at this;simp at this;rw[<-this,k2]
theorem m1v {c:Conf}{s:Ser}{l:List Ev}(h:SerInv c s l):SerOk c s:=by
 have hf:=h.opn.fold;have hr:=hf.cok.rng;have hraw:RawOk s.2.2.1 c.1:=by rw[h.raw];exact rawOf_ok hr.raw h.foll h.len
 refine ⟨hf,h.lab,hraw,?_⟩;by_cases hl:l=[]
 ·subst hl;refine .inl ?_;have hlast:=h.last.resolve_right fun k=>h2p k rfl
  rcases h.opn with ⟨_,k1,k2⟩ | ⟨t,k1,_⟩
  ·have:=k2 0;exact ⟨hlast.2,by rw[h.raw];simp[z0a],k1,(m0k this.ok.t0).2 (a1k this.i0),(m0k this.ok.t1).2 (a1k this.i1),(m0k this.ok.t2).2 (a1k this.i2)⟩
  ·exact absurd rfl (h2p k1)
 ·obtain ⟨he,hi,ho⟩:=h.at_ hl;obtain ⟨x,hx,hxt⟩:=he.last;have:=(he.foll.ok x hx).t0;refine .inr ⟨by omega,?_,?_,?_,q0c hi.i0 he.foll,q0c hi.i1 he.foll,q0c hi.i2 he.foll⟩
  ·rw[h.raw,z1i hr.raw.1];exact l0b he
  ·rw[ho];exact q1p he
  ·rw[ho];exact (h1o he hi.i0).1
theorem v1z {c:Conf}{s:Ser}{l:List Ev}(h:SerInv c s l):SerW s:=by
 have hok:=m1v h;refine ⟨?_,fun e he=>EvW.of (hok.raw.f.ok e he),hok.fold.w,?_⟩
 ·by_cases hn:s.2.1 = -1
  ·rw[hn];unfold I64;omega
  ·have:=serOk_at hok hn;unfold I64;omega
 ·rcases h.opn with ⟨_,k,_⟩ | ⟨t,he,hi,ho⟩
  ·rw[k];exact i1d
  ·obtain ⟨x,hx,hxt⟩:=he.last;have hxo:=he.foll.ok x hx;have:=o1o hxo hi.ok.cok.rng.w0.1;rw[hxt] at this;rw[ho];exact ⟨by unfold I64;simp only;omega,.of (i2c (g1u he.foll _))⟩
theorem u1l {c:Conf}{l:List Lab}(h:OkC c)(hl:LabOk l):SerInv c (l,(-1,(r0w,(emp c,s0)))) [] :=
 ⟨hl,by simp,by have:=h.rng.raw;simp[z0a,r0w];omega,emp_inv h,.inl ⟨rfl,rfl⟩⟩
noncomputable def p0y (s:Sta)(l:List Lab):Option Nat:=s.2.2.2.findIdx? fun x=>decide (x.1=l/\LvX s x)
noncomputable def r0o (s:Sta):Option Nat:=s.2.2.2.findIdx? fun x=>decide (¬LvX s x)
theorem r0g {s:Sta}{l:List Lab}{i:Nat}:p0y s l=some i↔∃x,s.2.2.2[i]? = some x/\x.1=l/\LvX s x/\∀j,j<i->∀y,s.2.2.2[j]? = some y->¬(y.1=l/\LvX s y):=by
 unfold p0y;rw[List.findIdx?_eq_some_iff_getElem];constructor
 ·rintro ⟨h,h1,h2⟩;have h1:=of_decide_eq_true h1;refine ⟨_,q2b h,h1.1,h1.2,fun j hj y hy => ?_⟩;obtain ⟨hjl,e⟩:=q2p.1 hy;have:=h2 j hj;rw[e] at this
  simpa using this
 ·rintro ⟨x,hx,h1,h2,h3⟩;obtain ⟨hl,e⟩:=q2p.1 hx;refine ⟨hl,by rw[e];exact q2a ⟨h1,h2⟩,fun j hj => ?_⟩;have:=h3 j hj _ (q2b (by omega))
  simpa using this
theorem b2l {s:Sta}{l:List Lab}:p0y s l=none↔∀x∈s.2.2.2,¬(x.1=l/\LvX s x):=by
 unfold p0y;rw[List.findIdx?_eq_none_iff];simp
theorem f1g {s:Sta}{i:Nat}:r0o s=some i↔∃x,s.2.2.2[i]? = some x/\¬LvX s x/\∀j,j<i->∀y,s.2.2.2[j]? = some y->LvX s y:=by
 unfold r0o;rw[List.findIdx?_eq_some_iff_getElem];constructor
 ·rintro ⟨h,h1,h2⟩;refine ⟨_,q2b h,of_decide_eq_true h1,fun j hj y hy => ?_⟩;obtain ⟨hjl,e⟩:=q2p.1 hy;have:=h2 j hj;rw[e] at this
  simpa using this
 ·rintro ⟨x,hx,h1,h3⟩;obtain ⟨hl,e⟩:=q2p.1 hx;refine ⟨hl,by rw[e];exact q2a h1,fun j hj => ?_⟩;have:=h3 j hj _ (q2b (by omega))
  simpa using this
theorem z1e {s:Sta}:r0o s=none↔∀x∈s.2.2.2,LvX s x:=by
 unfold r0o;rw[List.findIdx?_eq_none_iff];simp
noncomputable def c0e (s:Sta)(l:List Lab)(e:Ev):Int×(Bool×Int) :=
 if ¬StaOk s then (0,(false,2)) else if ¬LabOk l then (0,(false,8)) else if ¬EvOk e then (0,(false,2)) else
 if e.1<mk s\/mk s+s.1.2.1.1<=e.1 then (0,(false,9)) else
 match p0y s l with
 | some i=>if e.1<=((s.2.2.2[i]?).getD ser0).2.1 then (0,(false,9)) else ((i:Int),(false,0))
 | none=>if e.2.2.2=true then (0,(false,3)) else match r0o s with | some i=>((i:Int),(true,0)) | none=>(0,(false,7))
open Go.Flat
def rd (st:List UInt8×Bool)(k:Nat):Int×(List UInt8×Bool):=if st.2=true\/st.1.length<k then (0,([],true)) else (valI (i2i (st.1.take k)),(st.1.drop k,false))
def q0 (s:List UInt8):=rd (s,false) 4
def q1 (s:List UInt8):=rd (q0 s).2 8
def q2 (s:List UInt8):=rd (q1 s).2 8
def q3 (s:List UInt8):=rd (q2 s).2 8
def q4 (s:List UInt8):=rd (q3 s).2 4
def q5 (s:List UInt8):=rd (q4 s).2 4
def q6 (s:List UInt8):=rd (q5 s).2 4
def q7 (s:List UInt8):=rd (q6 s).2 4
def q8 (s:List UInt8):=rd (q7 s).2 4
def q9 (s:List UInt8):=rd (q8 s).2 8
structure Full (s:List UInt8):Prop where
 z:(q9 s).1=0
 good:(q9 s).2.2=false
 left:(q9 s).2.1=[]
def idxC (c:Conf):Int:=prt c.2.2.2.2 120
def hom (c:Conf):Int:=1+idxC c+c.2.2.2.2
theorem y0q {l:List Ser}{k:Nat}(h:k<l.length):∃y,l[k]? = some y:=⟨l[k],q2b h⟩
noncomputable def q1a (s:Sta)(l:List Lab):Int×Int:=if Whole s then (match p0y s l with | some i=>((i:Int),0) | none=>(0,3)) else (0,2)
noncomputable def m1x (s:Sta):Int×Int:=if Whole s then (match r0o s with | some i=>((i:Int),0) | none=>(0,7)) else (0,2)
def IsF (s:Sta)(l:List Lab)(k:Nat):Prop:=∃y,s.2.2.2[k]? = some y/\y.1=l/\LvX s y
noncomputable instance (s l k):Decidable (IsF s l k):=Classical.propDecidable _
def IsR (s:Sta)(k:Nat):Prop:=∃y,s.2.2.2[k]? = some y/\¬LvX s y
noncomputable instance (s k):Decidable (IsR s k):=Classical.propDecidable _
theorem g1d {s:Sta}{l:List Lab}{m:Nat}(h:IsF s l m)(hn:∀j,j<m->¬IsF s l j):p0y s l=some m:=by
 obtain ⟨y,h1,h2,h3⟩:=h;exact r0g.2 ⟨y,h1,h2,h3,fun j hj z hz k=>hn j hj ⟨z,hz,k.1,k.2⟩⟩
theorem g2z {s:Sta}{l:List Lab}(hn:∀j,j<s.2.2.2.length->¬IsF s l j):p0y s l=none:=by
 refine b2l.2 fun x hx k => ?_
 obtain ⟨i,hi,e⟩:=List.getElem_of_mem hx;exact hn i hi ⟨x,by rw[q2b hi,e],k.1,k.2⟩
theorem f1f {s:Sta}{m:Nat}(h:IsR s m)(hn:∀j,j<m->¬IsR s j):r0o s=some m:=by
 obtain ⟨y,h1,h2⟩:=h;exact f1g.2 ⟨y,h1,h2,fun j hj z hz=>Decidable.byContradiction fun k=>hn j hj ⟨z,hz,k⟩⟩
theorem d2x {s:Sta}(hn:∀j,j<s.2.2.2.length->¬IsR s j):r0o s=none:=by
 refine z1e.2 fun x hx=>Decidable.byContradiction fun k => ?_
 obtain ⟨i,hi,e⟩:=List.getElem_of_mem hx;exact hn i hi ⟨x,by rw[q2b hi,e],k⟩
theorem stt_find (n:Nat){s:Sta}(hw:StaW s)(l:List Lab):h1y (n+10) s l=some (q1a s l):=by
 rw[r1q,i1a (n+5) s,obs,tfn,tfd];unfold q1a;by_cases h:Whole s
 case neg=>rw[q0n h,q0n h,q0n (show ¬((sta0,(2:Int)).2=0) by decide)]
 rw[q0z h,q0z h,q0z rfl];have his:∀k:Nat,k<s.2.2.2.length->(fun y1:Int×Unit=>e0w (n+9) y1.1 s l s) ((k:Int),())=some (decide (IsF s l k)):=by
  intro k hk;obtain ⟨y,hy⟩:=y0q hk;have hm:=(hw.at hy).2;show e0w (n+9) (k:Int) s l s=_;rw[h1w,q0d hy,obs,f1v (n+6) _ _ hm.l,obs,tfd,z0i (n+1) hy hm,obs];by_cases h1:y.1=l
  ·rw[q0z h1];refine congrArg some (q2s.2 ⟨fun k=>⟨y,hy,h1,k⟩,fun ⟨z,z1,z2,z3⟩ => ?_⟩);rw[hy] at z1;cases z1;exact z3
  ·rw[q0n h1,q1z (fun q:IsF s l k=>by obtain ⟨z,z1,z2,z3⟩:=q;rw[hy] at z1;cases z1;exact h1 z2)]
 rcases v0u (n+8) s (fun y1:Int×Unit=>e0w (n+9) y1.1 s l s) (fun k=>decide (IsF s l k)) (by have:=h.len;omega) his with ⟨m,q1,q2,q3,q4⟩ | ⟨q1,q2⟩
 ·rw[show (fun y1:Int×Unit=>e0w (n+9) y1.1 s l (s,(0:Int)).1)=fun y1:Int×Unit=>e0w (n+9) y1.1 s l s from rfl,q4,obs,tfd,q0n (by omega),g1d (of_decide_eq_true q2) (fun j hj=>of_decide_eq_false (q3 j hj))]
 ·rw[show (fun y1:Int×Unit=>e0w (n+9) y1.1 s l (s,(0:Int)).1)=fun y1:Int×Unit=>e0w (n+9) y1.1 s l s from rfl,q2,obs,tfd,q0z (by decide),g2z (fun j hj=>of_decide_eq_false (q1 j hj))]
theorem stt_room (n:Nat){s:Sta}(hw:StaW s):z0h (n+10) s=some (m1x s):=by
 rw[r1o,i1a (n+5) s,obs,tfn,tfd];unfold m1x;by_cases h:Whole s
 case neg=>rw[q0n h,q0n h,q0n (show ¬((sta0,(2:Int)).2=0) by decide)]
 rw[q0z h,q0z h,q0z rfl];have his:∀k:Nat,k<s.2.2.2.length->(fun y1:Int×Unit=>e0v (n+9) y1.1 s) ((k:Int),())=some (decide (IsR s k)):=by
  intro k hk;obtain ⟨y,hy⟩:=y0q hk;have hm:=(hw.at hy).2;show e0v (n+9) (k:Int) s=_;rw[h1s,z0i (n+1) hy hm,obs];by_cases h1:LvX s y
  ·rw[q2a h1,q1z (fun q:IsR s k=>by obtain ⟨z,z1,z2⟩:=q;rw[hy] at z1;cases z1;exact z2 h1)];rfl
  ·rw[q1z h1,q2a (show IsR s k from ⟨y,hy,h1⟩)];rfl
 rcases v0u (n+8) s (fun y1:Int×Unit=>e0v (n+9) y1.1 s) (fun k=>decide (IsR s k)) (by have:=h.len;omega) his with ⟨m,q1,q2,q3,q4⟩ | ⟨q1,q2⟩
 ·rw[show (fun y1:Int×Unit=>e0v (n+9) y1.1 (s,(0:Int)).1)=fun y1:Int×Unit=>e0v (n+9) y1.1 s from rfl,q4,obs,tfd,q0n (by omega),f1f (of_decide_eq_true q2) (fun j hj=>of_decide_eq_false (q3 j hj))]
 ·rw[show (fun y1:Int×Unit=>e0v (n+9) y1.1 (s,(0:Int)).1)=fun y1:Int×Unit=>e0v (n+9) y1.1 s from rfl,q2,obs,tfd,q0z (by decide),d2x (fun j hj=>of_decide_eq_false (q1 j hj))]
theorem s1t (n:Nat){s:Sta}(hw:StaW s)(hL:s.2.2.2.length<=1000000)(l:List Lab):∀(d k f:Nat),k+d=s.2.2.2.length->d<f ->
  (∃m:Nat,k<=m/\IsF s l m/\(∀j,k<=j->j<m->¬IsF s l j)/\d0n (n+6) f (l,s,s.2.2.2,(s.2.2.2.length:Int),(k:Int),())=some (.inr ((m:Int),0))) \/
  ((∀j,k<=j->j<s.2.2.2.length->¬IsF s l j)/\d0n (n+6) f (l,s,s.2.2.2,(s.2.2.2.length:Int),(k:Int),())=some (.inl ())):=by
 intro d;induction d with
 | zero =>
  intro k f hk hf;obtain ⟨f,rfl⟩:∃g,f=g+1:=⟨f-1,by omega⟩;refine .inr ⟨fun j h1 h2=>by omega,?_⟩;rw[s0f,q1z (by omega),tff]
 | succ d ih =>
  intro k f hk hf;obtain ⟨f,rfl⟩:∃g,f=g+1:=⟨f-1,by omega⟩;obtain ⟨y,hy⟩:=y0q (l:=s.2.2.2) (k:=k) (by omega);have hm:=(hw.at hy).2;have ih':=ih (k+1) f (by omega) (by omega);have next:¬IsF s l k->((∃m:Nat,k<=m/\IsF s l m/\(∀j,k<=j->j<m->¬IsF s l j)/\d0n (n+6) f (l,s,s.2.2.2,(s.2.2.2.length:Int),((k+1:Nat):Int),())=some (.inr ((m:Int),0))) \/
  ((∀j,k<=j->j<s.2.2.2.length->¬IsF s l j)/\d0n (n+6) f (l,s,s.2.2.2,(s.2.2.2.length:Int),((k+1:Nat):Int),())=some (.inl ()))):=by
   intro hn;have low:∀j,k<=j->¬k+1<=j->¬IsF s l j:=fun j h1 h2=>by rw[show j=k by omega];exact hn
   rcases ih' with ⟨m,h1,h2,h3,h4⟩ | ⟨h1,h2⟩
   ·exact .inl ⟨m,by omega,h2,fun j q1 q2=>if z:k+1<=j then h3 j z q2 else low j q1 z,h4⟩
   ·exact .inr ⟨fun j q1 q2=>if z:k+1<=j then h1 j z q2 else low j q1 z,h2⟩
  rw[s0f,q2a (by omega),tft,q0d hy,obs,j0d n hy hm,obs,tfd,o0h (n+5) _ _ hm.l,obs,tfd,w64 (by omega) (by omega),show ((k:Int)+1)=((k+1:Nat):Int) by omega];by_cases h1:LvX s y
  case neg=>rw[q0n h1];exact next (fun q=>by obtain ⟨z,z1,z2,z3⟩:=q;rw[hy] at z1;cases z1;exact h1 z3)
  rw[q0z h1];by_cases h2:y.1=l
  case neg=>rw[q0n h2];exact next (fun q=>by obtain ⟨z,z1,z2,z3⟩:=q;rw[hy] at z1;cases z1;exact h2 z2)
  rw[q0z h2];exact .inl ⟨k,q2e _,⟨y,hy,h2,h1⟩,fun j q1 q2=>by omega,rfl⟩
theorem w1f (n:Nat){s:Sta}(hw:StaW s)(l:List Lab):z0m (n+7) s l=some (q1a s l):=by
 rw[s1w,g0o (n+2) s,obs,tfn,tfd];unfold q1a;by_cases h:Whole s
 case neg=>rw[q0n h,q0n h]
 rw[q0z h,q0z h];have hL:=h.len;rcases s1t n hw (by omega) l s.2.2.2.length 0 a0b (by omega) (by unfold a0b;omega) with ⟨m,q1,q2,q3,q4⟩ | ⟨q1,q2⟩
 ·have q4':d0n (n+6) a0b (l,s,s.2.2.2,(s.2.2.2.length:Int),(0:Int),())=some (.inr ((m:Int),0)):=q4;rw[q4',obs,g0m,g1d q2 (fun j hj=>q3 j (by omega) hj)]
 ·have q2':d0n (n+6) a0b (l,s,s.2.2.2,(s.2.2.2.length:Int),(0:Int),())=some (.inl ()):=q2;rw[q2',obs,b0h,g2z (fun j hj=>q1 j (by omega) hj)]
theorem s1s (n:Nat){s:Sta}(hw:StaW s)(hL:s.2.2.2.length<=1000000):∀(d k f:Nat),k+d=s.2.2.2.length->d<f ->
  (∃m:Nat,k<=m/\IsR s m/\(∀j,k<=j->j<m->¬IsR s j)/\f0s (n+6) f (s,(s.2.2.2.length:Int),(k:Int),())=some (.inr ((m:Int),0))) \/
  ((∀j,k<=j->j<s.2.2.2.length->¬IsR s j)/\f0s (n+6) f (s,(s.2.2.2.length:Int),(k:Int),())=some (.inl ())):=by
 intro d;induction d with
 | zero =>
  intro k f hk hf;obtain ⟨f,rfl⟩:∃g,f=g+1:=⟨f-1,by omega⟩;refine .inr ⟨fun j h1 h2=>by omega,?_⟩;rw[s0e,q1z (by omega),tff]
 | succ d ih =>
  intro k f hk hf;obtain ⟨f,rfl⟩:∃g,f=g+1:=⟨f-1,by omega⟩;obtain ⟨y,hy⟩:=y0q (l:=s.2.2.2) (k:=k) (by omega);have hm:=(hw.at hy).2;have ih':=ih (k+1) f (by omega) (by omega);rw[s0e,q2a (by omega),tft,j0d n hy hm,obs,tfn,tfd,w64 (by omega) (by omega),show ((k:Int)+1)=((k+1:Nat):Int) by omega];by_cases h1:LvX s y
  ·rw[q0z h1];have hn:¬IsR s k:=fun q=>by obtain ⟨z,z1,z2⟩:=q;rw[hy] at z1;cases z1;exact z2 h1
   have low:∀j,k<=j->¬k+1<=j->¬IsR s j:=fun j h1 h2=>by rw[show j=k by omega];exact hn
   rcases ih' with ⟨m,h1,h2,h3,h4⟩ | ⟨h1,h2⟩
   ·exact .inl ⟨m,by omega,h2,fun j q1 q2=>if z:k+1<=j then h3 j z q2 else low j q1 z,h4⟩
   ·exact .inr ⟨fun j q1 q2=>if z:k+1<=j then h1 j z q2 else low j q1 z,h2⟩
  ·rw[q0n h1];exact .inl ⟨k,q2e _,⟨y,hy,h1⟩,fun j q1 q2=>by omega,rfl⟩
theorem w1d (n:Nat){s:Sta}(hw:StaW s):z0l (n+7) s=some (m1x s):=by
 rw[s1v,g0o (n+2) s,obs,tfn,tfd];unfold m1x;by_cases h:Whole s
 case neg=>rw[q0n h,q0n h]
 rw[q0z h,q0z h];have hL:=h.len;rcases s1s n hw (by omega) s.2.2.2.length 0 a0b (by omega) (by unfold a0b;omega) with ⟨m,q1,q2,q3,q4⟩ | ⟨q1,q2⟩
 ·have q4':f0s (n+6) a0b (s,(s.2.2.2.length:Int),(0:Int),())=some (.inr ((m:Int),0)):=q4;rw[q4',obs,g0m,f1f q2 (fun j hj=>q3 j (by omega) hj)]
 ·have q2':f0s (n+6) a0b (s,(s.2.2.2.length:Int),(0:Int),())=some (.inl ()):=q2;rw[q2',obs,b0h,d2x (fun j hj=>q1 j (by omega) hj)]
noncomputable def f2n (s:Sta):Int:=if Whole s/\m0x s.2.1 then mk s else 0
theorem stt_mark (n:Nat)(s:Sta):h1u (n+5) s=some (f2n s):=by
 rw[r1p,i1a n s,obs,tfn,tfd,r1r (n+3),obs,tfn,tfd];unfold f2n;by_cases h:Whole s
 case neg=>rw[q0n h,q0n (show ¬((sta0,(2:Int)).2=0) by decide),q0n (fun k=>h k.1)]
 rw[q0z h,q0z rfl];by_cases h1:m0x s.2.1
 case neg=>rw[q0n h1,q0n (fun k=>h1 k.2)]
 rw[q0z h1,q0z ⟨h,h1⟩,d2h (n+3) h1 h.1.rng.w0];rfl
theorem n1o (n:Nat)(s:Sta):n0v (n+5) s=some (f2n s):=by
 unfold f2n;by_cases h:Whole s/\m0x s.2.1
 ·rw[q0z h,w1e n h.1 h.2]
 rw[q0n h,a1w,g0o n s,obs,tfn,tfd,k0v (n+3),obs,tfn,tfd];by_cases h1:Whole s
 ·rw[q0z h1,q0n (fun k=>h ⟨h1,k⟩)]
 ·rw[q0n h1]
theorem n1j (n:Nat){s t:Sta}(hw:StaW s)(hl:s.2.2.2.length=t.2.2.2.length):∀(d i f:Nat),i+d=s.2.2.2.length->d<f->k0g (n+3) f (s,t,(s.2.2.2.length:Int),(i:Int),())=some (if s.2.2.2.drop i=t.2.2.2.drop i then .inl () else .inr false):=by
 have hL:=hw.len;intro d;induction d with
 | zero =>
  intro i f hi hf;obtain ⟨f,rfl⟩:∃g,f=g+1:=⟨f-1,by omega⟩;rw[s0d,q1z (by omega),tff,q0z];rw[List.drop_eq_nil_of_le (by omega),List.drop_eq_nil_of_le (by omega)]
 | succ d ih =>
  intro i f hi hf;obtain ⟨f,rfl⟩:∃g,f=g+1:=⟨f-1,by omega⟩;obtain ⟨x,hx⟩:=y0q (l:=s.2.2.2) (k:=i) (by omega);obtain ⟨y,hy⟩:=y0q (l:=t.2.2.2) (k:=i) (by omega);have ex:s.2.2.2.drop i=x::s.2.2.2.drop (i+1):=by
   obtain ⟨h1,h2⟩:=q2p.1 hx;rw[List.drop_eq_getElem_cons h1,h2]
  have ey:t.2.2.2.drop i=y::t.2.2.2.drop (i+1):=by
   obtain ⟨h1,h2⟩:=q2p.1 hy;rw[List.drop_eq_getElem_cons h1,h2]
  rw[s0d,q2a (by omega),tft,q0d hx,obs,q0d hy,obs,w1g n x y (hw.at hx).2,obs,tfn,tfd,w64 (by omega) (by omega),show ((i:Int)+1)=((i+1:Nat):Int) by omega,ih (i+1) f (by omega) (by omega),ex,ey];by_cases h:x=y
  ·subst h;rw[q0z rfl];by_cases h2:s.2.2.2.drop (i+1)=t.2.2.2.drop (i+1)
   ·rw[q0z h2,q0z (by rw[h2])]
   ·rw[q0n h2,q0n (by intro k;injection k with _ k;exact h2 k)]
  ·rw[q0n h,q0n (by intro k;injection k with k _;exact h k)]
theorem r17_same (n:Nat){a:Sta}(ha:StaW a)(b:Sta):i1t (n+4) a b=some (decide (a=b)):=by
 rw[s1u,confEq,tfn,tfd,tfn,tfd,tfn,tfd,tfn,tfd];by_cases h1:a.1=b.1
 case neg=>rw[q0n h1,q1z (fun k=>h1 (congrArg Prod.fst k))]
 rw[q0z h1];by_cases h2:a.2.1=b.2.1
 case neg=>rw[q0n h2,q1z (fun k=>h2 (congrArg (fun z:Sta=>z.2.1) k))]
 rw[q0z h2];by_cases h3:a.2.2.1=b.2.2.1
 case neg=>rw[q0n h3,q1z (fun k=>h3 (congrArg (fun z:Sta=>z.2.2.1) k))]
 rw[q0z h3];by_cases h4:(a.2.2.2.length:Int)=b.2.2.2.length
 case neg=>rw[q0n h4,q1z (fun k=>h4 (congrArg (fun z:Sta=>((z.2.2.2.length:Nat):Int)) k))]
 have e:k0g (n+3) a0b (a,b,(a.2.2.2.length:Int),(0:Int),())=_:=n1j n ha (by omega) a.2.2.2.length 0 a0b (by omega) (by have:=ha.len;unfold a0b;omega);rw[q0z h4,e,List.drop_zero,List.drop_zero];by_cases h5:a.2.2.2=b.2.2.2
 ·rw[q0z h5,q2a (Prod.ext h1 (Prod.ext h2 (Prod.ext h3 h5)))];rfl
 ·rw[q0n h5,q1z (fun k=>h5 (congrArg (fun z:Sta=>z.2.2.2) k))];rfl
theorem sta0_w:StaW sta0:=⟨by simp[sta0],by simp[sta0]⟩
theorem h0p {l:List Slo}{a b:Int}(h:a0r l a)(hab:a<=b):a0r l b:=fun s hs hc=>by
 have:=h s hs hc;omega
theorem u1m {l:List Slo}{b i:Int}{x:Cel}(h:a0r l b)(hi:i<b):a0r (tput l i x) b:=by
 intro s hs hc;rcases List.mem_or_eq_of_mem_set hs with k | k
 ·exact h s k hc
 ·rw[k];exact hi
theorem l1b {a b w:Int}(hw:1<=w)(hab:a<=b)(h:a / w≠b / w):a / w<b / w:=by
 have:a / w<=b / w:=Int.ediv_le_ediv (by omega) hab;omega
theorem nb_upw {c:Conf}(hc:OkC c){s:Trs}{T U:Int}(hTU:T<=U)(h0:a0r s.1 (U / c.2.1.1))(h1:a0r s.2.1 (T / c.2.1.2.1))(h2:a0r s.2.2 (T / c.2.1.2.2)) :
  a0r (upw c s (T / c.2.1.1) (U / c.2.1.1)).1 (U / c.2.1.1)/\a0r (upw c s (T / c.2.1.1) (U / c.2.1.1)).2.1 (U / c.2.1.2.1)/\a0r (upw c s (T / c.2.1.1) (U / c.2.1.1)).2.2 (U / c.2.1.2.2):=by
 have hr:=hc.rng;have q1:=(edvm (t:=T) hr.w0.1 hr.w1.1 hc.m1).1;have q1u:=(edvm (t:=U) hr.w0.1 hr.w1.1 hc.m1).1;have q2:=(edvm (t:=T) hr.w0.1 hr.w2.1 hc.m02).1;have q2u:=(edvm (t:=U) hr.w0.1 hr.w2.1 hc.m02).1;have m1:T / c.2.1.2.1<=U / c.2.1.2.1:=Int.ediv_le_ediv (by have:=hr.w1;omega) hTU;have m2:T / c.2.1.2.2<=U / c.2.1.2.2:=Int.ediv_le_ediv (by have:=hr.w2;omega) hTU;have u1:a0r (up1 c s (T / c.2.1.1) (U / c.2.1.1)).1 (U / c.2.1.1)/\a0r (up1 c s (T / c.2.1.1) (U / c.2.1.1)).2.1 (U / c.2.1.2.1)/\a0r (up1 c s (T / c.2.1.1) (U / c.2.1.1)).2.2 (T / c.2.1.2.2):=by
  unfold up1;rw[q1,q1u];split
  ·exact ⟨h0,h0p h1 m1,h2⟩
  ·rename_i hne;split
   ·exact ⟨h0,u1m (h0p h1 m1) (by omega),h2⟩
   ·exact ⟨h0,h0p h1 m1,h2⟩
 unfold upw;generalize up1 c s (T / c.2.1.1) (U / c.2.1.1)=v at u1;unfold up2;rw[q2,q2u];split
 ·exact ⟨u1.1,u1.2.1,h0p u1.2.2 m2⟩
 ·rename_i hne;split
  ·exact ⟨u1.1,u1.2.1,u1m (h0p u1.2.2 m2) (by omega)⟩
  ·exact ⟨u1.1,u1.2.1,h0p u1.2.2 m2⟩
theorem z1j {r:Rw}{room:Int}{e:Ev}(h:RawOk r room)(he:EvOk e)(ha:After r.2.2 e)(hl:¬((r.2.2.length:Int)=room/\r.1=70368744177664)):RawOk (g0n r room e) room/\(g0n r room e).2.2.getLast? = some e:=by
 have hf:Foll (r.2.2++[e]):=by
  refine d0b.2 ⟨h.f,⟨by simp[he],by simp⟩,fun x hx y hy => ?_⟩;simp at hy;subst hy;have hn:r.2.2≠[]:=List.ne_nil_of_mem hx;have hg:=List.getLast?_eq_some_getLast hn;have:=ha _ hg;rcases List.eq_nil_or_concat r.2.2 with k | ⟨p,z,k⟩
  ·exact absurd k hn
  ·rw[List.concat_eq_append] at k;have hz:r.2.2.getLast hn=z:=by simp[k]
   rw[hz] at this;rw[k] at hx;rcases q2n.1 hx with q | q
   ·have hf:=h.f;rw[k] at hf;have:=(d0b.1 hf).2.2 x q z (by simp);omega
   ·simp at q;rw[q];exact this
 unfold g0n;by_cases h1:(r.2.2.length:Int)<room
 ·rw[q0z h1];refine ⟨⟨h.m0,h.m1,by simp;omega,h.l0,h.l1,hf,h.z,fun k => ?_⟩,by simp⟩;have:=(h.p k).1;omega
 ·rw[q0n h1];have hlen:=h.len;have hlen':(r.2.2.length:Int)=room:=by omega
  have m0:=h.m0;cases hc:r.2.2 with
  | nil=>rw[hc] at hlen';simp at hlen';omega
  | cons a t =>
   rw[hc] at hf hlen';have hfa:=g2r.1 hf;simp only[List.drop_succ_cons,List.drop_zero,List.headD_cons];refine ⟨⟨h.m0,h.m1,by simp at hlen' ⊢;omega,by have:=h.l0;simp only;omega,?_,hfa.2.2,fun k => ?_,fun _=>⟨by simp at hlen' ⊢;omega,hfa.1.t0,fun x hx => ?_⟩⟩,by simp⟩
   ·have:=h.l1;have:r.1≠70368744177664:=fun k=>hl ⟨by rw[hc];exact hlen',k⟩
    simp only;omega
   ·have:=h.l0;simp only at k;omega
   ·exact hfa.2.1 x (List.mem_of_mem_head? hx)
theorem mrg_fits {a:Cel}{e:Ev}{w i:Int}(h:FitsP a w i)(he:EvOk e)(hlt:a.2.2.1.1<e.1)(hi:e.1 / w=i):FitsP (mrg a (c0c e)) w i:=by
 have hm:=p1f h.n (o0g he);refine ⟨mrg_N h.n (o0g he) hlt,h.w0,h.w1,?_,?_⟩
 ·rw[hm];exact h.f
 ·rw[hm];exact hi
theorem d2q {c:Conf}{s t:Ser}{e:Ev}(h:SerOk c s)(hp:putE c s e=(t,0)):SerOk c t/\EvOk e/\s.2.1<e.1/\t.2.1=e.1/\t.1=s.1:=by
 have hr:=h.fold.cok.rng;unfold putE at hp;by_cases h1:SerOk c s/\EvOk e
 case neg=>rw[q0n h1] at hp;cases hp
 rw[q0z h1] at hp;have he:=h1.2;by_cases h2:e.1<=s.2.1
 ·rw[q0z h2] at hp;cases hp
 rw[q0n h2] at hp;by_cases h3:(turned c s (e.1 / c.2.1.1)).2≠0
 ·rw[q0z h3] at hp;exact absurd (congrArg Prod.snd hp) h3
 rw[q0n h3] at hp;by_cases h4:(g0b s.2.2.1 c.1 e).2≠0
 ·rw[q0z h4] at hp;exact absurd (congrArg Prod.snd hp) h4
 rw[q0n h4] at hp;by_cases h5:(mrgE (turned c s (e.1 / c.2.1.1)).1.2.2 (c0c e)).2≠0
 ·rw[q0z h5] at hp;exact absurd (congrArg Prod.snd hp) h5
 rw[q0n h5] at hp;have hp:=(Prod.ext_iff.1 hp).1;simp only at hp;subst hp;refine ⟨?_,he,by omega,rfl,rfl⟩;have h3:(turned c s (e.1 / c.2.1.1)).2=0:=Decidable.byContradiction h3;have h4:(g0b s.2.2.1 c.1 e).2=0:=Decidable.byContradiction h4;have h5:(mrgE (turned c s (e.1 / c.2.1.1)).1.2.2 (c0c e)).2=0:=Decidable.byContradiction h5;have e0:0<=e.1:=he.t0;have hraw:RawOk (g0b s.2.2.1 c.1 e).1 c.1/\(g0b s.2.2.1 c.1 e).1.2.2.getLast? = some e:=by
  unfold g0b at h4 ⊢;rw[q0z ⟨h.raw,he⟩] at h4 ⊢;by_cases k1:After s.2.2.1.2.2 e
  case neg=>rw[q0n k1] at h4;cases h4
  rw[q0z k1] at h4 ⊢;by_cases k2:(s.2.2.1.2.2.length:Int)=c.1/\s.2.2.1.1=70368744177664
  ·rw[q0z k2] at h4;cases h4
  rw[q0n k2] at h4 ⊢;exact z1j h.raw he k1 k2
 have key:FoldOk c (turned c s (e.1 / c.2.1.1)).1.1/\a0r (turned c s (e.1 / c.2.1.1)).1.1.1 (e.1 / c.2.1.1)/\a0r (turned c s (e.1 / c.2.1.1)).1.1.2.1 (e.1 / c.2.1.2.1)/\a0r (turned c s (e.1 / c.2.1.1)).1.1.2.2 (e.1 / c.2.1.2.2) /\
   FitsP (mrgE (turned c s (e.1 / c.2.1.1)).1.2.2 (c0c e)).1 c.2.1.1 (e.1 / c.2.1.1)/\(mrgE (turned c s (e.1 / c.2.1.1)).1.2.2 (c0c e)).1.2.2.1.1=e.1:=by
  have fresh1:FitsP (c0c e) c.2.1.1 (e.1 / c.2.1.1):=⟨o0g he,hr.w0.1,hr.w0.2,rfl,rfl⟩;have z1:mrgE s0.2 (c0c e)=(c0c e,0):=mrgE_z0 (o0g he).ok;rcases h.st with ⟨l1,hf⟩ | ⟨l1,hd⟩
  ·have ht:turned c s (e.1 / c.2.1.1)=((s.2.2.2.1,s.2.2.2.2),0):=by
    unfold turned;rw[q0n (fun k:l1r s _=>k.1 hf.opn)]
   rw[ht];simp only;rw[hf.opn,z1];exact ⟨h.fold,h0p hf.b0 (Int.ediv_nonneg e0 (by have:=hr.w0;omega)),h0p hf.b1 (Int.ediv_nonneg e0 (by have:=hr.w1;omega)),h0p hf.b2 (Int.ediv_nonneg e0 (by have:=hr.w2;omega)),fresh1,rfl⟩
  ·have hT:s.2.1<=e.1:=by omega
   have ho:s.2.2.2.2.1=s.2.1 / c.2.1.1:=by rw[<-hd.fit.l,hd.ol]
   by_cases hts:l1r s (e.1 / c.2.1.1)
   ·have hlt:s.2.1 / c.2.1.1<e.1 / c.2.1.1:=l1b hr.w0.1 hT (by rw[<-ho];exact hts.2);have hcl:i0x c s.2.2.2.1 s.2.2.2.2 (e.1 / c.2.1.1)=(upw c (tput s.2.2.2.1.1 s.2.2.2.2.1 s.2.2.2.2.2,s.2.2.2.1.2) (s.2.1 / c.2.1.1) (e.1 / c.2.1.1),0):=by
     unfold i0x;rw[q0z h.fold,q0n hts.1,q0z hd.fit,q0n hts.2,q0z ⟨by omega,h2d he hr.w0.1⟩,ho]
    have ht:turned c s (e.1 / c.2.1.1)=((upw c (tput s.2.2.2.1.1 s.2.2.2.2.1 s.2.2.2.2.2,s.2.2.2.1.2) (s.2.1 / c.2.1.1) (e.1 / c.2.1.1),s0),0):=by
     unfold turned;rw[q0z hts,hcl,q0z rfl]
    rw[ht];simp only;rw[z1];obtain ⟨n0,n1,n2⟩:=nb_upw (s:=(tput s.2.2.2.1.1 s.2.2.2.2.1 s.2.2.2.2.2,s.2.2.2.1.2)) h.fold.cok hT (u1m (h0p hd.b0 (by omega)) (by omega)) hd.b1 hd.b2;exact ⟨upw_ok (s0x h.fold hd.fit) _ _,n0,n1,n2,fresh1,rfl⟩
   ·have ht:turned c s (e.1 / c.2.1.1)=((s.2.2.2.1,s.2.2.2.2),0):=by
     unfold turned;rw[q0n hts]
    have hop:s.2.2.2.2≠s0:=fun k=>by have:=hd.fit.n.n1;rw[k] at this;simp[s0,z0] at this
    have hw:s.2.2.2.2.1=e.1 / c.2.1.1:=Decidable.byContradiction fun k=>hts ⟨hop,k⟩
    rw[ht] at h5 ⊢;simp only at h5 ⊢;obtain ⟨k1,k2,k3,k4,k5⟩:=u1n h5;rw[k4];have hfit:=hd.fit;rw[hw] at hfit;have hm:=p1f hd.fit.n (o0g he);exact ⟨h.fold,h0p hd.b0 (by omega),h0p hd.b1 (Int.ediv_le_ediv (by have:=hr.w1;omega) hT),h0p hd.b2 (Int.ediv_le_ediv (by have:=hr.w2;omega) hT),
     mrg_fits hfit he (by have:=hd.ol;omega) rfl,by rw[hm];rfl⟩
 obtain ⟨k1,k2,k3,k4,k5,k6⟩:=key;exact ⟨k1,h.lab,hraw.1,.inr ⟨by show e.1 ≠ -1;omega,⟨e,hraw.2,rfl⟩,k6,k5,k2,k3,k4⟩⟩
def setS (s:Sta)(i:Nat)(y:Ser):Sta:=(s.1,(s.2.1,(s.2.2.1,s.2.2.2.set i y)))
noncomputable def xOf (s:Sta)(l:List Lab)(w:Int×(Bool×Int)):Ser:=if w.2.1=true then (newV s.1 l).1 else (s.2.2.2[w.1.toNat]?).getD ser0
noncomputable def g0h (s:Sta)(l:List Lab)(e:Ev):Sta×Int :=
 if (c0e s l e).2.2≠0 then (sta0,(c0e s l e).2.2)
 else if (putE s.1 (xOf s l (c0e s l e)) e).2≠0 then (sta0,(putE s.1 (xOf s l (c0e s l e)) e).2)
 else (setS s (c0e s l e).1.toNat (putE s.1 (xOf s l (c0e s l e)) e).1,0)
structure Goes (s:Sta)(l:List Lab)(e:Ev):Prop where
 st:StaOk s
 lab:LabOk l
 ev:EvOk e
 lo:mk s<=e.1
 hi:e.1<mk s+s.1.2.1.1
inductive PlaceAt (s:Sta)(l:List Lab)(e:Ev):Nat->Ser->Bool->Prop
 | found {i:Nat} {x:Ser} (hf:p0y s l=some i) (hx:s.2.2.2[i]? = some x) (hl:x.1=l) (hlv:LvX s x) (ht:x.2.1<e.1):PlaceAt s l e i x false
 | room {i:Nat} (hf:p0y s l=none) (hs:e.2.2.2=false) (hr:r0o s=some i):PlaceAt s l e i (l,(-1,(r0w,(emp s.1,s0)))) true
theorem u1k {c:Conf}{l:List Lab}(h:OkC c)(hl:LabOk l):newV c l=((l,(-1,(r0w,(emp c,s0)))),0):=by
 unfold newV;rw[q0z h,q0z hl]
theorem z0v {s:Sta}{l:List Lab}{e:Ev}(h:(c0e s l e).2.2=0):Goes s l e/\∃i x b,PlaceAt s l e i x b/\(c0e s l e).1.toNat=i/\xOf s l (c0e s l e)=x/\c0e s l e=((i:Int),(b,0)):=by
 unfold c0e at h ⊢;by_cases h1:StaOk s
 case neg=>rw[q0z h1] at h;cases h
 rw[q0n (fun k=>k h1)] at h ⊢;by_cases h2:LabOk l
 case neg=>rw[q0z h2] at h;cases h
 rw[q0n (fun k=>k h2)] at h ⊢;by_cases h3:EvOk e
 case neg=>rw[q0z h3] at h;cases h
 rw[q0n (fun k=>k h3)] at h ⊢;by_cases h4:e.1<mk s\/mk s+s.1.2.1.1<=e.1
 ·rw[q0z h4] at h;cases h
 rw[q0n h4] at h ⊢;refine ⟨⟨h1,h2,h3,by omega,by omega⟩,?_⟩;cases hf:p0y s l with
 | some i =>
  rw[hf] at h;simp only at h ⊢;obtain ⟨x,hx,k1,k2,k3⟩:=r0g.1 hf;rw[hx] at h ⊢;simp only[Option.getD_some] at h ⊢;by_cases h5:e.1<=x.2.1
  ·rw[q0z h5] at h;cases h
  rw[q0n h5];exact ⟨i,x,false,.found hf hx k1 k2 (by omega),rfl,by unfold xOf;simp[hx],rfl⟩
 | none =>
  rw[hf] at h;simp only at h ⊢;cases h5:e.2.2.2 with
  | true=>rw[h5,q0z rfl] at h;cases h
  | false =>
   rw[h5,q0n (by simp)] at h;rw[q0n (by simp)];cases hr:r0o s with
   | none=>rw[hr] at h;cases h
   | some i =>
    simp only;exact ⟨i,_,true,.room hf h5 hr,rfl,by unfold xOf;rw[q0z rfl,u1k h1.whole.1 h2],rfl⟩
theorem j1f {s:Sta}{l:List Lab}{e:Ev}(h:Goes s l e){i:Nat}{x:Ser}{b:Bool}(hp:PlaceAt s l e i x b):SerOk s.1 x/\x.1=l/\i<s.2.2.2.length/\x.2.1<e.1:=by
 cases hp with
 | found hf hx hl hlv ht =>
  rcases h.st.right _ _ hx with k | k
  ·exact absurd k hlv.1
  ·exact ⟨k.1,hl,(q2p.1 hx).1,ht⟩
 | room hf hs hr =>
  obtain ⟨y,hy,_⟩:=f1g.1 hr;exact ⟨m1v (u1l h.st.whole.1 h.lab),rfl,(q2p.1 hy).1,by have:=h.ev.t0;show (-1:Int)<e.1;omega⟩
theorem write_ok {s t:Sta}{l:List Lab}{e:Ev}(h:g0h s l e=(t,0)):Goes s l e/\∃i x b y,PlaceAt s l e i x b/\putE s.1 x e=(y,0)/\t=setS s i y/\c0e s l e=((i:Int),(b,0)):=by
 unfold g0h at h;by_cases h1:(c0e s l e).2.2=0
 case neg=>rw[q0z h1] at h;exact absurd (congrArg Prod.snd h) h1
 rw[q0n (fun k=>k h1)] at h;obtain ⟨hg,i,x,b,k1,k2,k3,k4⟩:=z0v h1;rw[k2,k3] at h;by_cases h2:(putE s.1 x e).2=0
 case neg=>rw[q0z h2] at h;exact absurd (congrArg Prod.snd h) h2
 rw[q0n (fun k=>k h2)] at h;exact ⟨hg,i,x,b,_,k1,Prod.ext rfl h2,(congrArg Prod.fst h).symm,k4⟩
theorem r15_new (n:Nat)(c:Conf)(l:List Lab):s1y (n+6) c l=some (newV c l):=by
 rw[z1p,i0e (n+2) c,b1f (n+3) l];unfold newV;by_cases h:OkC c
 case neg=>rw[q0n h,q0n h];rfl
 rw[q0z h,q0z h];simp only[obs,decide_true,q2t,tff];by_cases h1:LabOk l
 case neg=>rw[q0n h1,q0n h1];rfl
 have:=h1.n1;rw[q0z h1,q0z h1,q2a (show (0+l.length)*32<=140737488355328 by omega),e2l (n+1) c];rfl
noncomputable def j1i (s:Sta):Int×Int:=if StaOk s then (mk s,if 35184372088832<mk s+s.1.2.1.1 then 35184372088832 else mk s+s.1.2.1.1) else (0,0)
theorem w1w {s:Sta}(h:StaOk s):f2n s=mk s/\wrap .i64 (mk s+s.1.2.1.1)=mk s+s.1.2.1.1:=by
 have hr:=h.whole.1.rng.w0;have ht:=h.clock.1.2;obtain ⟨m1,m2,m3,m4⟩:=r0d h.clock.1 hr;exact ⟨q0z ⟨h.whole,h.clock.1⟩,w64 (by omega) (by omega)⟩
theorem z1c (n:Nat){s:Sta}(hw:StaW s):w0o (n+15) s=some (j1i s):=by
 rw[i1j,m1o n hw,obs,tfn,tfd,stt_mark (n+9) s];unfold j1i;by_cases h:StaOk s
 case neg=>rw[q0n h,q0n h,q0n (show ¬((2:Int)=0) by decide)]
 obtain ⟨e1,e2⟩:=w1w h;rw[q0z h,q0z h,q0z rfl,obs,e1,e2]
theorem r18_open (n:Nat){s:Sta}(hw:StaW s):i1r (n+10) s=some (j1i s):=by
 rw[s1q,n1n n hw,obs,tfn,tfd,n1o (n+4) s];unfold j1i;by_cases h:StaOk s
 case neg=>rw[q0n h,q0n h,q0n (show ¬((2:Int)=0) by decide)]
 obtain ⟨e1,e2⟩:=w1w h;rw[q0z h,q0z h,q0z rfl,obs,e1,e2]
theorem z0r {s:Sta}{e:Ev}(h:StaOk s)(he:EvOk e):(e.1<(j1i s).1\/(j1i s).2<=e.1)↔(e.1<mk s\/mk s+s.1.2.1.1<=e.1):=by
 have:=he.t1;unfold j1i;rw[q0z h];simp only;split<;>omega
theorem x0k {s:Sta}(h:Whole s){l:List Lab}{i:Nat}(hf:p0y s l=some i):q1a s l=((i:Int),0):=by
 unfold q1a;rw[q0z h,hf]
theorem x0l {s:Sta}(h:Whole s){l:List Lab}(hf:p0y s l=none):q1a s l=(0,3):=by
 unfold q1a;rw[q0z h,hf]
theorem w0p {s:Sta}(h:Whole s){i:Nat}(hf:r0o s=some i):m1x s=((i:Int),0):=by
 unfold m1x;rw[q0z h,hf]
theorem f1h {s:Sta}(h:Whole s)(hf:r0o s=none):m1x s=(0,7):=by
 unfold m1x;rw[q0z h,hf]
theorem a1g {s:Sta}{l:List Lab}{e:Ev}(h:StaOk s)(h1:LabOk l)(h2:EvOk e)(h3:¬(e.1<mk s\/mk s+s.1.2.1.1<=e.1)) :
  c0e s l e=match p0y s l with
   | some i=>if e.1<=((s.2.2.2[i]?).getD ser0).2.1 then (0,(false,9)) else ((i:Int),(false,0))
   | none=>if e.2.2.2=true then (0,(false,3)) else match r0o s with | some i=>((i:Int),(true,0)) | none=>(0,(false,7)):=by
 unfold c0e;rw[q0n (fun k=>k h),q0n (fun k=>k h1),q0n (fun k=>k h2),q0n h3]
 all_goals (cases p0y s l<;>first | rfl | (cases r0o s<;>rfl))
theorem s1d (n:Nat){s:Sta}(hw:StaW s)(l:List Lab){e:Ev}(he:EvW e):s0t (n+16) s l e=some (c0e s l e):=by
 rw[c1w,m1o (n+1) hw,obs,tfn,tfd,s0w _ l,f0u _ he,z1c n hw,stt_find (n+5) hw l,stt_room (n+5) hw];by_cases h:StaOk s
 case neg =>
  rw[q0n h,q0n (show ¬((2:Int)=0) by decide)];unfold c0e;rw[q0z h]
 rw[q0z h,q0z rfl,obs,tfn,tfd];by_cases h1:LabOk l
 case neg =>
  rw[q0n h1,q0n (show ¬((8:Int)=0) by decide)];unfold c0e;rw[q0n (fun k=>k h),q0z h1]
 rw[q0z h1,q0z rfl,obs,tfn,tfd];by_cases h2:EvOk e
 case neg =>
  rw[q0n h2,q0n (show ¬((2:Int)=0) by decide)];unfold c0e;rw[q0n (fun k=>k h),q0n (fun k=>k h1),q0z h2]
 rw[q0z h2,q0z rfl,obs,obs,tfd,tfd];by_cases h3:e.1<mk s\/mk s+s.1.2.1.1<=e.1
 ·have ht:c0e s l e=(0,(false,9)):=by
   unfold c0e;rw[q0n (fun k=>k h),q0n (fun k=>k h1),q0n (fun k=>k h2),q0z h3]
  rw[ht];rcases (z0r h h2).2 h3 with q | q
  ·rw[q0z q]
  ·by_cases q':e.1<(j1i s).1
   ·rw[q0z q']
   ·rw[q0n q',q0z q]
 have h3':=mt (z0r h h2).1 h3;rw[q0n (fun k=>h3' (.inl k)),q0n (fun k=>h3' (.inr k)),a1g h h1 h2 h3,tfd];cases hf:p0y s l with
 | some i =>
  obtain ⟨x,hx,_⟩:=r0g.1 hf;rw[x0k h.whole hf,q0z rfl,q0d hx,obs,tfd];simp only[hx,Option.getD_some];by_cases h4:e.1<=x.2.1
  ·rw[q0z h4,q0z h4]
  ·rw[q0n h4,q0n h4];rfl
 | none =>
  rw[x0l h.whole hf,q0n (show ¬((3:Int)=0) by decide),show (decide (((0:Int),(3:Int)).2=0))=false from rfl,tff];cases hs:e.2.2.2 with
  | true=>rw[tft];simp
  | false =>
   rw[tff,obs];simp only[Bool.false_eq_true,if_false];cases hr:r0o s with
   | some i=>rw[w0p h.whole hr];rfl
   | none=>rw[f1h h.whole hr];rfl
theorem z1m (n:Nat){s:Sta}(hw:StaW s)(l:List Lab){e:Ev}(he:EvW e):w0t (n+11) s l e=some (c0e s l e).2.2:=by
 rw[i1s,n1n (n+1) hw,obs,tfn,tfd,b1f _ l,g0s _ he,r18_open n hw,w1f (n+3) hw l,w1d (n+3) hw];by_cases h:StaOk s
 case neg =>
  rw[q0n h,q0n (show ¬((2:Int)=0) by decide)];unfold c0e;rw[q0z h]
 rw[q0z h,q0z rfl,obs,tfn,tfd];by_cases h1:LabOk l
 case neg =>
  rw[q0n h1,q0n (show ¬((8:Int)=0) by decide)];unfold c0e;rw[q0n (fun k=>k h),q0z h1]
 rw[q0z h1,q0z rfl,obs,tfn,tfd];by_cases h2:EvOk e
 case neg =>
  rw[q0n h2,q0n (show ¬((2:Int)=0) by decide)];unfold c0e;rw[q0n (fun k=>k h),q0n (fun k=>k h1),q0z h2]
 rw[q0z h2,q0z rfl,obs,tfd,tfd];by_cases h3:e.1<mk s\/mk s+s.1.2.1.1<=e.1
 ·have ht:c0e s l e=(0,(false,9)):=by
   unfold c0e;rw[q0n (fun k=>k h),q0n (fun k=>k h1),q0n (fun k=>k h2),q0z h3]
  rw[ht];rcases (z0r h h2).2 h3 with q | q
  ·rw[q0z q]
  ·by_cases q':e.1<(j1i s).1
   ·rw[q0z q']
   ·rw[q0n q',q0z q]
 have h3':=mt (z0r h h2).1 h3;rw[q0n (fun k=>h3' (.inl k)),q0n (fun k=>h3' (.inr k)),a1g h h1 h2 h3,obs,tfd];cases hf:p0y s l with
 | some i =>
  obtain ⟨x,hx,_⟩:=r0g.1 hf;rw[x0k h.whole hf,q0z rfl,q0d hx,obs,tfd];simp only[hx,Option.getD_some];by_cases h4:e.1<=x.2.1
  ·rw[q0z h4,q0z h4]
  ·rw[q0n h4,q0n h4]
 | none =>
  rw[x0l h.whole hf,q0n (show ¬((3:Int)=0) by decide)];cases hs:e.2.2.2 with
  | true=>rw[tft];simp
  | false =>
   rw[tff,obs];simp only[Bool.false_eq_true,if_false];cases hr:r0o s with
   | some i=>rw[w0p h.whole hr]
   | none=>rw[f1h h.whole hr]
theorem e2c (n:Nat){s:Sta}(hw:StaW s)(l:List Lab){e:Ev}(he:EvW e):a1v (n+12) s l e=some (if (c0e s l e).2.2=0 then c0e s l e else (0,(false,(c0e s l e).2.2))):=by
 rw[n1h,z1m n hw l he,obs,tfn,tfd,w1f (n+4) hw l,w1d (n+4) hw];by_cases h:(c0e s l e).2.2=0
 case neg=>rw[q0n h,q0n h]
 rw[q0z h,q0z h,obs,tfd];obtain ⟨hg,i,x,b,hp,_,_,hv⟩:=z0v h;rw[hv];cases hp with
 | found hf hx hl hlv ht=>rw[x0k hg.st.whole hf,q0z rfl]
 | room hf hs hr=>rw[x0l hg.st.whole hf,q0n (show ¬((3:Int)=0) by decide),w0p hg.st.whole hr,obs]
theorem m1c {s:Sta}{l:List Lab}{e:Ev}(h:(c0e s l e).2.2≠0):g0h s l e=(sta0,(c0e s l e).2.2):=by
 unfold g0h;rw[q0z h]
theorem h2y (n:Nat)(s:List Ser)(h:s.length<=1000000):j0z (n+1) s=some s:=by
 rw[u0h,q2a (show (0+s.length)*264<=140737488355328 by omega)];simp only[tft,q2q];by_cases h0:s.length=0
 ·rw[q2a h0,tft,List.length_eq_zero_iff.1 h0,q1s]
 ·rw[q1z h0,tff]
theorem place_w {s:Sta}(hw:StaW s){l:List Lab}{e:Ev}(hg:Goes s l e){i:Nat}{x:Ser}{b:Bool}(hp:PlaceAt s l e i x b):SerW x:=by
 cases hp with
 | found hf hx hl hlv ht=>exact (hw.at hx).1
 | room hf hs hr=>exact v1z (u1l hg.st.whole.1 hg.lab)
theorem l1v {s:Sta}{l:List Lab}{e:Ev}{i:Nat}{x:Ser}{b:Bool}(hp:(c0e s l e).1.toNat=i)(hx:xOf s l (c0e s l e)=x)(h:(c0e s l e).2.2=0) :
  g0h s l e=if (putE s.1 x e).2=0 then (setS s i (putE s.1 x e).1,0) else (sta0,(putE s.1 x e).2):=by
 unfold g0h;rw[q0n (fun k=>k h),hp,hx];by_cases h1:(putE s.1 x e).2=0
 ·rw[q0n (fun k=>k h1),q0z h1]
 ·rw[q0z h1,q0n h1]
theorem v1y {s:Sta}{i:Nat}(hi:i<s.2.2.2.length)(y:Ser) :
  (a0a (at? s.2.2.2 (i:Int)) fun r4=>a0a ((s.2.2.2)[(Int.toNat (i:Int))]?) fun r5=>some ((s.1,(s.2.1,(s.2.2.1,(List.set s.2.2.2 (Int.toNat (i:Int)) y)))),(0:Int)))=some (setS s i y,0):=by
 obtain ⟨z,hz⟩:=y0q hi;rw[q0d hz,obs,q2i,hz,obs];rfl
theorem c2f (n:Nat){s:Sta}(hw:StaW s)(l:List Lab){e:Ev}(he:EvW e):j0s (n+24) s l e=some (g0h s l e):=by
 rw[l1w,s1d (n+7) hw l he,obs,tfn,tfd];by_cases h:(c0e s l e).2.2=0
 case neg=>rw[q0n h,m1c h];rfl
 obtain ⟨hg,i,x,b,hp,k1,k2,hv⟩:=z0v h;obtain ⟨p1,p2,p3,p4⟩:=j1f hg hp;rw[q0z h,l1v (b:=b) k1 k2 h,hv,c1o];have hx:(tif b (a0a (q0q (n+22) s.1 l) fun r0=>some r0) (a0a (at? s.2.2.2 (i:Int)) fun r1=>some (r1,(0:Int))))=some (x,0):=by
  cases hp with
  | found hf hx hl hlv ht=>rw[tff,q0d hx,obs]
  | room hf hs hr=>rw[tft,z1a (n+15),u1k hg.st.whole.1 hg.lab,obs]
 simp only;rw[hx,obs,tfn,tfd,q0z rfl];simp only;rw[y1z n s.1 (place_w hw hg hp) he,obs,tfn,tfd];by_cases h1:(putE s.1 x e).2=0
 case neg=>rw[q0n h1,q0n h1];rfl
 rw[q0z h1,q0z h1,h2y (n+22) _ (by have:=hg.st.whole.len;omega),obs,v1y p3]
theorem r19_one (n:Nat){s:Sta}(hw:StaW s)(l:List Lab){e:Ev}(he:EvW e):s1p (n+13) s l e=some (g0h s l e):=by
 rw[z1l,e2c n hw l he,obs,tfn,tfd];by_cases h:(c0e s l e).2.2=0
 case neg=>rw[q0n h,q0n h,m1c h];rfl
 obtain ⟨hg,i,x,b,hp,k1,k2,hv⟩:=z0v h;obtain ⟨p1,p2,p3,p4⟩:=j1f hg hp;have hlen:=hg.st.whole.len;rw[q0z h,l1v (b:=b) k1 k2 h,q0z h,hv];obtain ⟨z,hz⟩:=y0q p3;simp only[q2q];rw[q0d hz,obs,q2a (show (0+s.2.2.2.length)*264<=140737488355328 by omega)];simp only[tft];have tail:∀y,(a0a (some z) fun r4=>a0a ((s.2.2.2)[(Int.toNat (i:Int))]?) fun r5=>some ((s.1,(s.2.1,(s.2.2.1,(List.set s.2.2.2 (Int.toNat (i:Int)) y)))),(0:Int)))=some (setS s i y,0):=by
  intro y;have:=v1y p3 y
  rwa [q0d hz] at this
 cases hp with
 | found hf hx hl hlv ht =>
  rw[hx] at hz;cases hz;rw[tff,e2d (n+1) s.1 (hw.at hx).1 he,obs,tfn,tfd];by_cases h1:(putE s.1 x e).2=0
  case neg=>rw[q0n h1,q0n h1];rfl
  rw[q0z h1,q0z h1,tail]
 | room hf hs hr =>
  rw[tft,r15_new (n+6),u1k hg.st.whole.1 hg.lab,obs,e2d (n+1) s.1 (v1z (u1l hg.st.whole.1 hg.lab)) he,obs,tfn,tfd];by_cases h1:(putE s.1 (l,(-1,(r0w,(emp s.1,s0)))) e).2=0
  case neg=>rw[q0n h1,q0n h1];rfl
  rw[q0z h1,q0z h1,tail]
theorem serW_put {c:Conf}{s t:Ser}{e:Ev}(h:SerOk c s)(hp:putE c s e=(t,0)):SerW t/\SerM t:=by
 obtain ⟨q1,q2,q3,q4,q5⟩:=d2q h hp;have hc:=q1.fold.cok.rng;refine ⟨⟨?_,fun x hx=>EvW.of (q1.raw.f.ok x hx),q1.fold.w,?_⟩,?_⟩
 ·have:=q2.t0;have:=q2.t1;rw[q4];unfold I64;omega
 ·rcases q1.st with ⟨_,k⟩ | ⟨_,k⟩
  ·rw[k.opn];exact i1d
  ·have:=k.fit.i0;exact ⟨by unfold I64;omega,.of k.fit.n.ok⟩
 ·have l1:=q1.lab.n1;have l2:=q1.raw.len;have l3:=q1.raw.m1;have:=q1.fold.lens;exact ⟨by omega,by omega,by omega,by omega,by omega⟩
theorem write_w {s t:Sta}(hw:StaW s){l:List Lab}{e:Ev}{v:Int}(h:g0h s l e=(t,v)):StaW t:=by
 by_cases hv:v=0
 ·subst hv;obtain ⟨hg,i,x,b,y,hp,hput,rfl,_⟩:=write_ok h;obtain ⟨p1,p2,p3,p4⟩:=j1f hg hp;have hy:=serW_put p1 hput;refine ⟨by simpa [setS] using hw.len,fun z hz => ?_⟩;rcases List.mem_or_eq_of_mem_set hz with k | k
  ·exact hw.ser z k
  ·rw[k];exact hy
 ·have:t=sta0:=by
   unfold g0h at h;split at h
   ·exact (congrArg Prod.fst h).symm
   ·split at h
    ·exact (congrArg Prod.fst h).symm
    ·exact absurd (congrArg Prod.snd h).symm hv
  rw[this];exact sta0_w
theorem writeV_w {s:Sta}(hw:StaW s)(l:List Lab)(e:Ev):StaW (g0h s l e).1:=write_w hw (v:=(g0h s l e).2) rfl
end Go.Proofs.YtfibfcjepngbmaaGreatDoor
namespace Go.Plim
def tz:Nat->Nat->Nat
 | 0,_=>0
 | k+1,x=>if x % 2=1 then 0 else tz k (x / 2)+1
def bl:Nat->Nat->Nat
 | 0,_=>0
 | k+1,x=>if x=0 then 0 else bl k (x / 2)+1
def ofN (x:Nat):Wd:=(((x / 18446744073709551616:Nat):Int),((x % 18446744073709551616:Nat):Int))
end Go.Plim
namespace Go.Proofs.YtfibfcjepngbmaaGreatDoor
open Go.Flat Go.Plim
end Go.Proofs.YtfibfcjepngbmaaGreatDoor
namespace Go.Plim
open Go.Flat
end Go.Plim
namespace Go.Proofs.YtfibfcjepngbmaaGreatDoor
open Go.Flat Go.Plim
def j2a (l:List Lab):Prop:=l.length<=40/\∀x∈l,x.1.length<=1000/\x.2.length<=1000
theorem d2o (n:Nat)(l:List Lab)(hL:l.length<=9223372036854775807):∀(rest pre:List Lab) (f:Nat) (ix len:Int),l=pre++rest->ix=pre.length->len=l.length->rest.length<f->pre.length<=40 ->
  (e0q n f (l,len,ix,())=some (.inl ())/\l.length<=40/\∀x∈rest,x.1.length<=1000/\x.2.length<=1000)\/e0q n f (l,len,ix,())=some (.inr 0):=by
 intro rest;induction rest with
 | nil =>
  intro pre f ix len hl hi hn hf h40;obtain ⟨f,rfl⟩:=FSu hf;left;refine ⟨?_,by rw[hl,q2x];exact h40,by simp⟩;rw[g0w];simp only[tfd,q0n (idxe hl hi hn)]
 | cons x rest ih =>
  intro pre f ix len hl hi hn hf h40;obtain ⟨f,rfl⟩:=FSu hf;have hlen:=congrArg List.length hl;simp at hlen;rw[g0w];simp only[tfd,q0z (idx hl hi hn),b0p hl hi,obs];rw[w64 (x:=ix+1) (by omega) (by omega)];by_cases h1:ix=40
  ·right;rw[q0z h1]
  rw[q0n h1];by_cases h2:(1000:Int)<x.1.length
  ·right;rw[q0z h2]
  rw[q0n h2];by_cases h3:(1000:Int)<x.2.length
  ·right;rw[q0z h3]
  rw[q0n h3];rcases ih (pre++[x]) f (ix+1) len (idxl hl) (idxs hi) hn (by simp at hf;omega) (by simp;omega) with ⟨k1,k2,k3⟩ | k
  ·left;refine ⟨k1,k2,fun y hy => ?_⟩;rcases q2l.1 hy with rfl | hy
   ·omega
   ·exact k3 y hy
  ·exact .inr k
theorem short05 (n:Nat)(l:List Lab)(hL:l.length<=9223372036854775807):k0m (n+1) l=some 0\/(k0m (n+1) l=some 1/\j2a l):=by
 rw[y0n];rcases d2o n l hL l [] a0b 0 _ rfl rfl rfl (by unfold a0b;omega) (by simp) with ⟨h,h1,h2⟩ | h
 ·right;refine ⟨by rw[h];rfl,h1,h2⟩
 ·left;rw[h];rfl
end Go.Proofs.YtfibfcjepngbmaaGreatDoor
namespace Go.Plim
open Go.Flat
section
variable {κ ε:Type}[DecidableEq κ]
variable (key:κ->List UInt8)(inj:∀a b,key a=key b->a=b)
include inj in
include inj in
include inj in
end
section
variable {κ ε:Type}[DecidableEq κ]
end
end Go.Plim
namespace Go.Plim
open Go.Flat
section
variable {κ ε:Type}[DecidableEq κ]
variable (bad:κ×ε->Int)(tm:ε->Int)(late:Int)
end
section
variable {κ ε:Type}[DecidableEq κ]
end
end Go.Plim
namespace Go.Plim
open Go.Flat
section
variable {κ ε:Type}[DecidableEq κ]
end
section
variable {κ ε:Type}[DecidableEq κ](bad:κ×ε->Int)(tm:ε->Int)(late:Int)
end
end Go.Plim
namespace Go.Proofs.YtfibfcjepngbmaaGreatDoor
open Go.Flat Go.Plim
abbrev m0y:=List Lab×Ev
theorem n2:((2:Int)=0)=False:=by decide
theorem set_mid {α:Type}(pre rest:List α)(x y:α):List.set (pre++x::rest) (Int.toNat ((pre.length:Nat):Int)) y=pre++y::rest:=by
 rw[q2i,q3p _ _ (q2e _),Nat.sub_self,List.set_cons_zero]
theorem get_mid {α:Type}(pre rest:List α)(x:α):(pre++x::rest)[Int.toNat ((pre.length:Nat):Int)]? = some x:=by
 rw[q2i,q2h (q2e _),Nat.sub_self];rfl
noncomputable def r0p (s:Sta)(x:m0y):Sta:=if (g0h s x.1 x.2).2=0 then (g0h s x.1 x.2).1 else s
noncomputable def stE:Sta->List m0y->Sta
 | s,[]=>s
 | s,x::r=>stE (r0p s x) r
noncomputable def erE:Sta->List m0y->List Int
 | _,[]=>[]
 | s,x::r=>(g0h s x.1 x.2).2::erE (r0p s x) r
theorem u1i {s:Sta}(hw:StaW s)(x:m0y):StaW (r0p s x):=by
 unfold r0p;split
 ·exact writeV_w hw _ _
 ·exact hw
theorem stE_w:∀(r:List m0y) {s:Sta},StaW s->StaW (stE s r):=by
 intro r;induction r with
 | nil=>intro s h;exact h
 | cons x r ih=>intro s h;exact ih (u1i h x)
theorem erE_len:∀(r:List m0y) (s:Sta),(erE s r).length=r.length:=by
 intro r;induction r with
 | nil=>intro s;rfl
 | cons x r ih=>intro s;simp[erE,ih]
theorem each_l3 (n:Nat){rows:List m0y}(hr:∀x∈rows,EvW x.2)(hL:rows.length<=1000000)(s4:Sta):∀(rest pre:List m0y) (s:Sta) (E:List Int) (f:Nat) (i:Int),rows=pre++rest->i=pre.length->rest.length<f->E.length=pre.length->StaW s ->
  c0j (n+24) f (s,s4,E++List.replicate rest.length (0:Int),rows,(rows.length:Int),i,())=some (.inl (stE s rest,(s4,(E++erE s rest,())))):=by
 intro rest;induction rest with
 | nil =>
  intro pre s E f i hl hi hf hE hs;obtain ⟨f,rfl⟩:=FSu hf;rw[c0o];simp only[tfd,q0n (idxe hl hi rfl)];rfl
 | cons x rest ih =>
  intro pre s E f i hl hi hf hE hs;obtain ⟨f,rfl⟩:=FSu hf;have hlen:=congrArg List.length hl;simp at hlen;rw[c0o,q2a (idx hl hi rfl),tft,b0p hl hi,obs,c2f n hs x.1 (hr x (by rw[hl];simp)),obs];rw[show List.replicate (x::rest).length (0:Int)=0::List.replicate rest.length 0 from rfl,b0p (pre:=E) (rest:=List.replicate rest.length (0:Int)) rfl (by omega),obs];have e:i=((E.length:Nat):Int):=by omega
  rw[show Int.toNat i=Int.toNat ((E.length:Nat):Int) by rw[<-e],get_mid,obs,set_mid,tfd,w64 (x:=i+1) (by omega) (by omega)];have IH:=ih (pre++[x]) (r0p s x) (E++[(g0h s x.1 x.2).2]) f (i+1) (idxl hl) (idxs hi) (by simp at hf;omega) (by simp;omega) (u1i hs x);rw[q2g,List.singleton_append] at IH;have e2:∀(z:Int),E++[z]++erE (r0p s x) rest=E++z::erE (r0p s x) rest:=fun z=>by simp
  rw[e2] at IH;have hst:stE s (x::rest)=stE (r0p s x) rest:=rfl;have her:erE s (x::rest)=(g0h s x.1 x.2).2::erE (r0p s x) rest:=rfl;rw[hst,her,<-IH];unfold r0p;split<;>rfl
theorem c2b (n:Nat){s:Sta}(hw:StaW s){rows:List m0y}(hr:∀x∈rows,EvW x.2)(hL:rows.length<=1000000):m0u (n+25) s rows=some (stE s rows,erE s rows):=by
 rw[w0b,a1h,q0z (by simp only[q1n,q2c];omega),q2i];have:=each_l3 n hr hL (((0:Int),(((0:Int),((0:Int),(0:Int))),(((0:Int),((0:Int),(0:Int))),((0:Int),(0:Int))))),((0:Int),((0:Int),[]))) rows [] s [] a0b 0 rfl rfl (by unfold a0b;omega) rfl hw;rw[q2q,q2q] at this;rw[this,obs,b0h]
theorem s1m (n:Nat){rows:List m0y}(hr:∀x∈rows,EvW x.2)(hL:rows.length<=1000000)(s4:Sta):∀(rest pre:List m0y) (s:Sta) (E:List Int) (f:Nat) (i:Int),rows=pre++rest->i=pre.length->rest.length<f->E.length=pre.length->StaW s ->
  k0e (n+13) f (s,s4,E,rows,(rows.length:Int),i,())=some (.inl (stE s rest,(s4,(E++erE s rest,())))):=by
 intro rest;induction rest with
 | nil =>
  intro pre s E f i hl hi hf hE hs;obtain ⟨f,rfl⟩:=FSu hf;rw[s0c];simp only[tfd,q0n (idxe hl hi rfl)];simp[stE,erE]
 | cons x rest ih =>
  intro pre s E f i hl hi hf hE hs;obtain ⟨f,rfl⟩:=FSu hf;have hlen:=congrArg List.length hl;simp at hlen;rw[s0c,q2a (idx hl hi rfl),tft,b0p hl hi,obs,r19_one n hs x.1 (hr x (by rw[hl];simp)),obs,q2a (show (E.length+1)*8<=140737488355328 by omega),tft,tft,tfd,w64 (x:=i+1) (by omega) (by omega)];have IH:=ih (pre++[x]) (r0p s x) (E++[(g0h s x.1 x.2).2]) f (i+1) (idxl hl) (idxs hi) (by simp at hf;omega) (by simp;omega) (u1i hs x);have e2:∀(z:Int),E++[z]++erE (r0p s x) rest=E++z::erE (r0p s x) rest:=fun z=>by simp
  rw[e2] at IH;have hst:stE s (x::rest)=stE (r0p s x) rest:=rfl;have her:erE s (x::rest)=(g0h s x.1 x.2).2::erE (r0p s x) rest:=rfl;rw[hst,her,<-IH];unfold r0p;split<;>rfl
theorem r36_each (n:Nat){s:Sta}(hw:StaW s){rows:List m0y}(hr:∀x∈rows,EvW x.2)(hL:rows.length<=1000000):i1p (n+14) s rows=some (stE s rows,erE s rows):=by
 rw[s1n];have:=s1m n hr hL (((0:Int),(((0:Int),((0:Int),(0:Int))),(((0:Int),((0:Int),(0:Int))),((0:Int),(0:Int))))),((0:Int),((0:Int),[]))) rows [] s [] a0b 0 rfl rfl (by unfold a0b;omega) rfl hw;rw[q2q] at this;rw[this,obs,b0h]
theorem z1k (n:Nat)(a:m0y)(hl:a.1.length<=9223372036854775807):i1q (n+2) a a=some true:=by
 rw[s1o,o0h n a.1 a.1 hl,obs];simp[a1h]
theorem same36_l (n:Nat){l:List m0y}(hl:l.length<=1000000)(hw:∀r∈l,r.1.length<=9223372036854775807):∀(rest pre:List m0y) (f:Nat) (i:Int),l=pre++rest->i=pre.length->rest.length<f ->
  k0f (n+2) f (l,l,(l.length:Int),i,())=some (.inl ()):=by
 intro rest;induction rest with
 | nil =>
  intro pre f i h hi hf;obtain ⟨f,rfl⟩:=FSu hf;rw[k0u];simp only[tfd,q0n (idxe h hi rfl)]
 | cons a rest ih =>
  intro pre f i h hi hf;obtain ⟨f,rfl⟩:=FSu hf;have hlen:=congrArg List.length h;simp at hlen;rw[k0u,q2a (idx h hi rfl),tft,b0p h hi,obs,obs,z1k n a (hw a (by rw[h];simp)),obs,q2t,tff,w64 (x:=i+1) (by omega) (by omega)];exact ih (pre++[a]) f (i+1) (idxl h) (idxs hi) (by simp at hf;omega)
theorem errs36_l (n:Nat){l:List Int}(hl:l.length<=1000000):∀(rest pre:List Int) (f:Nat) (i:Int),l=pre++rest->i=pre.length->rest.length<f ->
  f0e n f (l,l,(l.length:Int),i,())=some (.inl ()):=by
 intro rest;induction rest with
 | nil =>
  intro pre f i h hi hf;obtain ⟨f,rfl⟩:=FSu hf;rw[i0u];simp only[tfd,q0n (idxe h hi rfl)]
 | cons a rest ih =>
  intro pre f i h hi hf;obtain ⟨f,rfl⟩:=FSu hf;have hlen:=congrArg List.length h;simp at hlen;rw[i0u,q2a (idx h hi rfl),tft,b0p h hi,obs,obs,q2a rfl,q2t,tff,w64 (x:=i+1) (by omega) (by omega)];exact ih (pre++[a]) f (i+1) (idxl h) (idxs hi) (by simp at hf;omega)
theorem errs36 (n:Nat){l:List Int}(hl:l.length<=1000000):f0k (n+1) l l=some true:=by
 rw[w0s,q2a rfl,q2t,tff,errs36_l n hl l [] a0b 0 rfl rfl (by unfold a0b;omega),obs,b0h]
theorem d2j (n:Nat){rows:List m0y}(hl9:∀x∈rows,x.1.length<=9223372036854775807)(hL:rows.length<=1000000):∀(rest pre:List m0y) (f:Nat) (i:Int),rows=pre++rest->i=pre.length->rest.length<f ->
  i0i (n+1) f (rows,(rows.length:Int),i,())=some (.inr 0)\/(i0i (n+1) f (rows,(rows.length:Int),i,())=some (.inl ())/\∀x∈rest,j2a x.1):=by
 intro rest;induction rest with
 | nil =>
  intro pre f i h hi hf;obtain ⟨f,rfl⟩:=FSu hf;rw[p0t];simp only[tfd,q0n (idxe h hi rfl)];exact .inr ⟨trivial,by simp⟩
 | cons a rest ih =>
  intro pre f i h hi hf;obtain ⟨f,rfl⟩:=FSu hf;have hlen:=congrArg List.length h;simp at hlen;rw[p0t,q2a (idx h hi rfl),tft,b0p h hi,obs,w64 (x:=i+1) (by omega) (by omega)];rcases short05 n a.1 (hl9 a (by rw[h];simp)) with h1 | ⟨h1,h2⟩
  ·rw[h1,obs,q2a rfl,tft];exact .inl rfl
  ·rw[h1,obs,q1z (by decide),tff];rcases ih (pre++[a]) f (i+1) (idxl h) (idxs hi) (by simp at hf;omega) with k | ⟨k1,k2⟩
   ·exact .inl k
   ·refine .inr ⟨k1,fun x hx => ?_⟩;rcases q2l.1 hx with rfl | hx
    ·exact h2
    ·exact k2 x hx
theorem small36 (n:Nat){rows:List m0y}(hl9:∀x∈rows,x.1.length<=9223372036854775807):v0l (n+2) rows=some 0\/(v0l (n+2) rows=some 1/\rows.length<=40/\∀x∈rows,j2a x.1):=by
 rw[p1l,tfd];by_cases h:40<rows.length
 ·rw[q0z (by omega)];exact .inl rfl
 rw[q0n (by omega)];rcases d2j n hl9 (by omega) rows [] a0b 0 rfl rfl (by unfold a0b;omega) with k | ⟨k1,k2⟩
 ·rw[k,obs,g0m];exact .inl rfl
 ·rw[k1,obs,b0h];exact .inr ⟨rfl,by omega,k2⟩
open Go.Flat
theorem ob {α β:Type}{o:Option α}{x:α}{f:α->Option β}{r:Option β}(h:o=some x)(k:f x=r):a0a o f=r:=by rw[h];exact k
theorem tt {α:Type}{b:Bool}{x y r:α}(h:b=true)(k:x=r):tif b x y=r:=by rw[h];exact k
theorem tf {α:Type}{b:Bool}{x y r:α}(h:b=false)(k:y=r):tif b x y=r:=by rw[h];exact k
theorem atFuel {α σ:Type}{g:Nat->σ->Option α}{c:Nat}{s:σ}{r:Option α}(k:g (a0b-c+c) s=r)(h:c<=a0b):g a0b s=r:=by rw[Nat.sub_add_cancel h] at k;exact k
theorem d1e (n:Nat)  : p0s (n+1)  =
 a0a (g2c n ) fun r0 =>
 a0a (d2a n r0) fun r1 =>
 tif (!(decide (r1.2=(0:Int)))) (
 some false) (
 a0a (h0w n ((((((97:UInt8)::[]),[])::[]),((3:Int),((1:Int),((0:Int),false))))::((((((98:UInt8)::[]),[])::[]),((4:Int),((0:Int),((0:Int),false))))::((((((97:UInt8)::[]),[])::[]),((3:Int),((1:Int),((0:Int),false))))::[])))) fun r2 =>
 a0a (h0w n ((((((97:UInt8)::[]),[])::[]),((3:Int),((1:Int),((0:Int),false))))::((((((98:UInt8)::[]),[])::[]),((4:Int),((0:Int),((0:Int),false))))::((((((97:UInt8)::[]),[])::[]),((5:Int),((9:Int),((0:Int),false))))::[])))) fun r3 =>
 a0a (h0w n []) fun r4 =>
 a0a (c1h n ((((((97:UInt8)::[]),[])::[]),((3:Int),((1:Int),((0:Int),false))))::((((((98:UInt8)::[]),[])::[]),((4:Int),((0:Int),((0:Int),false))))::((((((97:UInt8)::[]),[])::[]),((5:Int),((9:Int),((0:Int),false))))::[])))) fun r5 =>
 a0a (h0v n (1:Int) ((((((97:UInt8)::[]),[])::[]),((3:Int),((1:Int),((0:Int),false))))::((((((98:UInt8)::[]),[])::[]),((4:Int),((0:Int),((0:Int),false))))::((((((97:UInt8)::[]),[])::[]),((5:Int),((9:Int),((0:Int),false))))::[])))) fun r6 =>
 a0a (h0v n (2:Int) ((((((97:UInt8)::[]),[])::[]),((3:Int),((1:Int),((0:Int),false))))::((((((98:UInt8)::[]),[])::[]),((4:Int),((0:Int),((0:Int),false))))::((((((97:UInt8)::[]),[])::[]),((5:Int),((9:Int),((0:Int),false))))::[])))) fun r7 =>
 a0a (m0u n r1.1 ((((((97:UInt8)::[]),[])::[]),((3:Int),((1:Int),((0:Int),false))))::((((((98:UInt8)::[]),[])::[]),((4:Int),((0:Int),((0:Int),false))))::((((((97:UInt8)::[]),[])::[]),((3:Int),((1:Int),((0:Int),false))))::((((((97:UInt8)::[]),[])::[]),((5:Int),((9:Int),((0:Int),false))))::[]))))) fun r8 =>
 tif (!(decide ((((List.length r6):Nat):Int)=(3:Int)))) (
 some false) (
 tif (!(decide ((((List.length r7):Nat):Int)=(1:Int)))) (
 some false) (
 tif (!(decide ((((List.length r8.1.2.2.2):Nat):Int)=(3:Int)))) (
 some false) (
 tif (decide (r2.1=(2:Int))) (
 tif (decide (r2.2=(9:Int))) (
 tif (decide (r3.1=(0:Int))) (
 tif (decide (r3.2=(0:Int))) (
 tif (decide (r4.2=(6:Int))) (
 a0a (y0f n r5 ((((((97:UInt8)::[]),[])::[]),((3:Int),((1:Int),((0:Int),false))))::((((((97:UInt8)::[]),[])::[]),((5:Int),((9:Int),((0:Int),false))))::((((((98:UInt8)::[]),[])::[]),((4:Int),((0:Int),((0:Int),false))))::[])))) fun r9 =>
 tif (r9) (
 a0a (at? r7 (0:Int)) fun r10 =>
 tif (decide ((((List.length r10):Nat):Int)=(3:Int))) (
 a0a (h0v n (0:Int) ((((((97:UInt8)::[]),[])::[]),((3:Int),((1:Int),((0:Int),false))))::[])) fun r11 =>
 tif (decide ((((List.length r11):Nat):Int)=(0:Int))) (
 a0a (r0l n r1.1.1) fun r12 =>
 tif (decide (r12=(1:Int))) (
 a0a (r0l n ((0:Int),(((0:Int),((0:Int),(0:Int))),(((0:Int),((0:Int),(0:Int))),((0:Int),(0:Int)))))) fun r13 =>
 tif (decide (r13=(0:Int))) (
 a0a (f0k n r8.2 ((0:Int)::((0:Int)::((9:Int)::((0:Int)::[]))))) fun r14 =>
 tif (r14) (
 a0a (v1v n r8.1) fun r15 =>
 tif (decide (r15=(2:Int))) (
 a0a (at? r8.1.2.2.2 (0:Int)) fun r16 =>
 some (decide (r16.2.1=(5:Int)))) (
 some false)) (
 some false)) (
 some false)) (
 some false)) (
 some false)) (
 some false)) (
 some false)) (
 some false)) (
 some false)) (
 some false)) (
 some false)) (
 some false))))):=by kernel_rfl
abbrev zC:Int×((Int×(Int×(Int×Bool)))×((Int×(Int×(Int×Bool)))×((Int×Int)×(Int×(Int×Int))))):=(0,((0,(0,(0,false))),((0,(0,(0,false))),((0,0),(0,(0,0))))))
abbrev zS:Int×(Int×((Int×(Int×(Int×Bool)))×((Int×(Int×(Int×Bool)))×((Int×Int)×(Int×(Int×Int)))))):=(0,zC)
abbrev c0i:a0l:=((20,((10,(20,60)),((4,(5,6)),(3,9)))),(0,((-1),[([([97],[])],(5,((0,(0,[(3,(1,(0,false))),(5,(9,(0,false)))])),(([zS,zS,zS,zS],([zS,zS,zS,zS,zS],[zS,zS,zS,zS,zS,zS])),(0,(2,((3,(1,(0,false))),((5,(9,(0,false))),((0,8),(0,(0,2))))))))))),([([98],[])],(4,((0,(0,[(4,(0,(0,false)))])),(([zS,zS,zS,zS],([zS,zS,zS,zS,zS],[zS,zS,zS,zS,zS,zS])),(0,(1,((4,(0,(0,false))),((4,(0,(0,false))),((0,0),(0,(0,0))))))))))),([],(0,((0,(0,[])),(([],([],[])),zS))))])))
abbrev f0l:a0l:=((20,((10,(20,60)),((4,(5,6)),(3,9)))),(0,((-1),[([([97],[])],(3,((0,(0,[(3,(1,(0,false)))])),(([zS,zS,zS,zS],([zS,zS,zS,zS,zS],[zS,zS,zS,zS,zS,zS])),(0,(1,((3,(1,(0,false))),((3,(1,(0,false))),((0,0),(0,(0,0))))))))))),([([98],[])],(4,((0,(0,[(4,(0,(0,false)))])),(([zS,zS,zS,zS],([zS,zS,zS,zS,zS],[zS,zS,zS,zS,zS,zS])),(0,(1,((4,(0,(0,false))),((4,(0,(0,false))),((0,0),(0,(0,0))))))))))),([],(0,((0,(0,[])),(([],([],[])),zS))))])))
abbrev l0o:a0l:=((20,((10,(20,60)),((4,(5,6)),(3,9)))),(0,((-1),[([([97],[])],(3,((0,(0,[(3,(1,(0,false)))])),(([zS,zS,zS,zS],([zS,zS,zS,zS,zS],[zS,zS,zS,zS,zS,zS])),(0,(1,((3,(1,(0,false))),((3,(1,(0,false))),((0,0),(0,(0,0))))))))))),([],(0,((0,(0,[])),(([],([],[])),zS)))),([],(0,((0,(0,[])),(([],([],[])),zS))))])))
theorem j1w (n:Nat):g2c (n+59)=some (20,((10,(20,60)),((4,(5,6)),(3,9)))):=by kernel_rfl
theorem j1v (n:Nat):d2a (n+59) (20,((10,(20,60)),((4,(5,6)),(3,9))))=some (((20,((10,(20,60)),((4,(5,6)),(3,9)))),(0,((-1),[([],(0,((0,(0,[])),(([],([],[])),zS)))),([],(0,((0,(0,[])),(([],([],[])),zS)))),([],(0,((0,(0,[])),(([],([],[])),zS))))]))),0):=by kernel_rfl
theorem j1u (n:Nat):h0w (n+59) [([([97],[])],(3,(1,(0,false)))),([([98],[])],(4,(0,(0,false)))),([([97],[])],(3,(1,(0,false))))]=some (2,9):=by kernel_rfl
theorem j1t (n:Nat):h0w (n+59) [([([97],[])],(3,(1,(0,false)))),([([98],[])],(4,(0,(0,false)))),([([97],[])],(5,(9,(0,false))))]=some (0,0):=by kernel_rfl
theorem j1s (n:Nat):h0w (n+59) []=some (0,6):=by kernel_rfl
theorem j1r (n:Nat):c1h (n+59) [([([97],[])],(3,(1,(0,false)))),([([98],[])],(4,(0,(0,false)))),([([97],[])],(5,(9,(0,false))))]=some [([([97],[])],(3,(1,(0,false)))),([([97],[])],(5,(9,(0,false)))),([([98],[])],(4,(0,(0,false))))]:=by kernel_rfl
theorem j1q (n:Nat):h0v (n+59) (1) [([([97],[])],(3,(1,(0,false)))),([([98],[])],(4,(0,(0,false)))),([([97],[])],(5,(9,(0,false))))]=some [[([([97],[])],(3,(1,(0,false))))],[([([98],[])],(4,(0,(0,false))))],[([([97],[])],(5,(9,(0,false))))]]:=by kernel_rfl
theorem j1p (n:Nat):h0v (n+59) (2) [([([97],[])],(3,(1,(0,false)))),([([98],[])],(4,(0,(0,false)))),([([97],[])],(5,(9,(0,false))))]=some [[([([97],[])],(3,(1,(0,false)))),([([98],[])],(4,(0,(0,false)))),([([97],[])],(5,(9,(0,false))))]]:=by kernel_rfl
theorem j1o (n:Nat):j0s (n+58) ((20,((10,(20,60)),((4,(5,6)),(3,9)))),(0,((-1),[([],(0,((0,(0,[])),(([],([],[])),zS)))),([],(0,((0,(0,[])),(([],([],[])),zS)))),([],(0,((0,(0,[])),(([],([],[])),zS))))]))) [([97],[])] (3,(1,(0,false)))=some (l0o,0):=by kernel_rfl
theorem j1n (n:Nat):j0s (n+58) l0o [([98],[])] (4,(0,(0,false)))=some (f0l,0):=by kernel_rfl
theorem d1s (n:Nat):j0s (n+58) f0l [([97],[])] (3,(1,(0,false)))=some (((0,((0,(0,0)),((0,(0,0)),(0,0)))),(0,(0,[]))),9):=by kernel_rfl
theorem d1r (n:Nat):j0s (n+58) f0l [([97],[])] (5,(9,(0,false)))=some (c0i,0):=by kernel_rfl
theorem d1q (n f:Nat):c0j (n+58) (f+1) (c0i,(((0,((0,(0,0)),((0,(0,0)),(0,0)))),(0,(0,[]))),([0,0,9,0],([([([97],[])],(3,(1,(0,false)))),([([98],[])],(4,(0,(0,false)))),([([97],[])],(3,(1,(0,false)))),([([97],[])],(5,(9,(0,false))))],(4,(4,()))))))=some (.inl (c0i,(((0,((0,(0,0)),((0,(0,0)),(0,0)))),(0,(0,[]))),([0,0,9,0],())))):=by
 rw[c0o];refine tf (by kernel_rfl) ?_
 kernel_rfl
theorem d1p (n f:Nat):c0j (n+58) (f+2) (f0l,(((0,((0,(0,0)),((0,(0,0)),(0,0)))),(0,(0,[]))),([0,0,9,0],([([([97],[])],(3,(1,(0,false)))),([([98],[])],(4,(0,(0,false)))),([([97],[])],(3,(1,(0,false)))),([([97],[])],(5,(9,(0,false))))],(4,(3,()))))))=some (.inl (c0i,(((0,((0,(0,0)),((0,(0,0)),(0,0)))),(0,(0,[]))),([0,0,9,0],())))):=by
 rw[c0o];refine tt (by kernel_rfl) ?_;refine ob (x:=([([97],[])],(5,(9,(0,false))))) (by kernel_rfl) ?_;refine ob (d1r (n+0)) ?_;refine ob (x:=0) (by kernel_rfl) ?_;refine ob (x:=0) (by kernel_rfl) ?_;refine tt (by kernel_rfl) ?_;exact d1q n f
theorem d1o (n f:Nat):c0j (n+58) (f+3) (f0l,(((0,((0,(0,0)),((0,(0,0)),(0,0)))),(0,(0,[]))),([0,0,0,0],([([([97],[])],(3,(1,(0,false)))),([([98],[])],(4,(0,(0,false)))),([([97],[])],(3,(1,(0,false)))),([([97],[])],(5,(9,(0,false))))],(4,(2,()))))))=some (.inl (c0i,(((0,((0,(0,0)),((0,(0,0)),(0,0)))),(0,(0,[]))),([0,0,9,0],())))):=by
 rw[c0o];refine tt (by kernel_rfl) ?_;refine ob (x:=([([97],[])],(3,(1,(0,false))))) (by kernel_rfl) ?_;refine ob (d1s (n+0)) ?_;refine ob (x:=0) (by kernel_rfl) ?_;refine ob (x:=0) (by kernel_rfl) ?_;refine tf (by kernel_rfl) ?_;exact d1p n f
theorem d1n (n f:Nat):c0j (n+58) (f+4) (l0o,(((0,((0,(0,0)),((0,(0,0)),(0,0)))),(0,(0,[]))),([0,0,0,0],([([([97],[])],(3,(1,(0,false)))),([([98],[])],(4,(0,(0,false)))),([([97],[])],(3,(1,(0,false)))),([([97],[])],(5,(9,(0,false))))],(4,(1,()))))))=some (.inl (c0i,(((0,((0,(0,0)),((0,(0,0)),(0,0)))),(0,(0,[]))),([0,0,9,0],())))):=by
 rw[c0o];refine tt (by kernel_rfl) ?_;refine ob (x:=([([98],[])],(4,(0,(0,false))))) (by kernel_rfl) ?_;refine ob (j1n (n+0)) ?_;refine ob (x:=0) (by kernel_rfl) ?_;refine ob (x:=0) (by kernel_rfl) ?_;refine tt (by kernel_rfl) ?_;exact d1o n f
theorem d1m (n f:Nat):c0j (n+58) (f+5) (((20,((10,(20,60)),((4,(5,6)),(3,9)))),(0,((-1),[([],(0,((0,(0,[])),(([],([],[])),zS)))),([],(0,((0,(0,[])),(([],([],[])),zS)))),([],(0,((0,(0,[])),(([],([],[])),zS))))]))),(((0,((0,(0,0)),((0,(0,0)),(0,0)))),(0,(0,[]))),([0,0,0,0],([([([97],[])],(3,(1,(0,false)))),([([98],[])],(4,(0,(0,false)))),([([97],[])],(3,(1,(0,false)))),([([97],[])],(5,(9,(0,false))))],(4,(0,()))))))=some (.inl (c0i,(((0,((0,(0,0)),((0,(0,0)),(0,0)))),(0,(0,[]))),([0,0,9,0],())))):=by
 rw[c0o];refine tt (by kernel_rfl) ?_;refine ob (x:=([([97],[])],(3,(1,(0,false))))) (by kernel_rfl) ?_;refine ob (j1o (n+0)) ?_;refine ob (x:=0) (by kernel_rfl) ?_;refine ob (x:=0) (by kernel_rfl) ?_;refine tt (by kernel_rfl) ?_;exact d1n n f
theorem d1l (n:Nat):m0u (n+59) ((20,((10,(20,60)),((4,(5,6)),(3,9)))),(0,((-1),[([],(0,((0,(0,[])),(([],([],[])),zS)))),([],(0,((0,(0,[])),(([],([],[])),zS)))),([],(0,((0,(0,[])),(([],([],[])),zS))))]))) [([([97],[])],(3,(1,(0,false)))),([([98],[])],(4,(0,(0,false)))),([([97],[])],(3,(1,(0,false)))),([([97],[])],(5,(9,(0,false))))]=some (c0i,[0,0,9,0]):=by
 rw[w0b];refine tt (by kernel_rfl) ?_;refine ob (atFuel (h:=by unfold a0b;omega) (d1m n (a0b-5))) ?_;refine Eq.trans (b0h ..) ?_
 kernel_rfl
theorem d1k (n:Nat):y0f (n+59) [([([97],[])],(3,(1,(0,false)))),([([97],[])],(5,(9,(0,false)))),([([98],[])],(4,(0,(0,false))))] [([([97],[])],(3,(1,(0,false)))),([([97],[])],(5,(9,(0,false)))),([([98],[])],(4,(0,(0,false))))]=some true:=by kernel_rfl
theorem d1j (n:Nat):h0v (n+59) (0) [([([97],[])],(3,(1,(0,false))))]=some []:=by kernel_rfl
theorem d1i (n:Nat):r0l (n+59) (20,((10,(20,60)),((4,(5,6)),(3,9))))=some 1:=by kernel_rfl
theorem d1h (n:Nat):r0l (n+59) (0,((0,(0,0)),((0,(0,0)),(0,0))))=some 0:=by kernel_rfl
theorem d1g (n:Nat):f0k (n+59) [0,0,9,0] [0,0,9,0]=some true:=by kernel_rfl
theorem d1f (n:Nat):v1v (n+59) c0i=some 2:=by kernel_rfl
theorem l0p (n:Nat):p0s (n+60)=some true:=by
 rw[d1e];refine ob (j1w (n+0)) ?_;refine ob (j1v (n+0)) ?_;refine tf (by kernel_rfl) ?_;refine ob (j1u (n+0)) ?_;refine ob (j1t (n+0)) ?_;refine ob (j1s (n+0)) ?_;refine ob (j1r (n+0)) ?_;refine ob (j1q (n+0)) ?_;refine ob (j1p (n+0)) ?_;refine ob (d1l n) ?_;refine tf (by kernel_rfl) ?_;refine tf (by kernel_rfl) ?_;refine tf (by kernel_rfl) ?_;refine tt (by kernel_rfl) ?_;refine tt (by kernel_rfl) ?_;refine tt (by kernel_rfl) ?_;refine tt (by kernel_rfl) ?_;refine tt (by kernel_rfl) ?_
 refine ob (d1k (n+0)) ?_;refine tt (by kernel_rfl) ?_;refine ob (x:=[([([97],[])],(3,(1,(0,false)))),([([98],[])],(4,(0,(0,false)))),([([97],[])],(5,(9,(0,false))))]) (by kernel_rfl) ?_;refine tt (by kernel_rfl) ?_;refine ob (d1j (n+0)) ?_;refine tt (by kernel_rfl) ?_;refine ob (d1i (n+0)) ?_;refine tt (by kernel_rfl) ?_;refine ob (d1h (n+0)) ?_;refine tt (by kernel_rfl) ?_;refine ob (d1g (n+0)) ?_;refine tt (by kernel_rfl) ?_;refine ob (d1f (n+0)) ?_;refine tt (by kernel_rfl) ?_
 refine ob (x:=([([97],[])],(5,((0,(0,[(3,(1,(0,false))),(5,(9,(0,false)))])),(([zS,zS,zS,zS],([zS,zS,zS,zS,zS],[zS,zS,zS,zS,zS,zS])),(0,(2,((3,(1,(0,false))),((5,(9,(0,false))),((0,8),(0,(0,2)))))))))))) (by kernel_rfl) ?_
 kernel_rfl
theorem rows_wf {rows:List m0y}(h:Wf (.slice b0s) rows):(∀x∈rows,x.1.length<=9223372036854775807)/\∀x∈rows,EvW x.2:=by
 refine ⟨fun x hx => ?_,fun x hx => ?_⟩
 ·obtain ⟨h1,_⟩:=h.2 x hx;have:=h1.1
  simpa only [maxLen] using this
 ·obtain ⟨_,h2⟩:=h.2 x hx;exact ev_wf h2
theorem e1i (n:Nat)(s:Sta)(rows:List m0y)(hs:Wf a0o s)(hr:Wf (.slice b0s) rows):v0m (n+61) s rows=some true:=by
 obtain ⟨hl9,hw⟩:=rows_wf hr;have hsw:=sta_wf hs;rw[z0c];rcases f2z (n+57) hsw with h0 | ⟨h0,_⟩
 ·rw[h0,obs,q2a rfl,tft,l0p n,obs]
 rw[h0,obs,q1z (by decide),tff];rcases small36 (n+58) hl9 with h | ⟨h,h40,_⟩
 ·rw[h,obs,q2a rfl,tft,l0p n,obs]
 have he:=erE_len rows s;rw[h,obs,q1z (by decide),tff,c2b (n+35) hsw hw (by omega),obs,r36_each (n+46) hsw hw (by omega),obs,l0p n,obs,tft];dsimp only;rw[r17_same (n+56) (stE_w rows hsw),obs,q2a rfl,tft,errs36 (n+59) (by omega),obs]
end Go.Proofs.YtfibfcjepngbmaaGreatDoor
