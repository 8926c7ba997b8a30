/-
 Plain proofs about the functions of this seat, part 4 of 4.
-/
import Derived.Test.YtagnkfbpgkckiaaGreatQ3
set_option linter.unusedVariables false
set_option linter.unusedSimpArgs false
open Go.IntKind (wrap)
namespace Go.Proofs.YtagnkfbpgkckiaaGreat
open Go.Flat Go.Plim
theorem x0e {l:List (List UInt8)}(h:¬ ∃s,StaW s/\StaOk s/\allB s=l):ofV l=(sta0,4):=by unfold ofV;rw[dif_neg h]
theorem k2f {s:Sta}(hw:StaW s)(hs:StaOk s)(hl:(allB s).length<=1000000):ofV (allB s)=(s,0):=by
 have h1:=f1o 0 hl;rw[q0r 0 hw hs hl] at h1;exact (Option.some.inj h1).symm
theorem ofV_w (l:List (List UInt8)):StaW (ofV l).1:=by
 unfold ofV;split
 ·rename_i h;exact h.choose_spec.1
 ·exact sta0_w
theorem g2f {α β:Type}{m:Nat}{g:α->List β}:∀(l:List α) (j:Nat) (x:α),(∀y∈l,(g y).length=m)->l[j]? = some x->((l.flatMap g).drop (j*m)).take m=g x:=by
 intro l;induction l with
 | nil=>intro j x _ h;cases h
 | cons y l ih =>
  intro j x hg h;have hy:=hg y List.mem_cons_self;cases j with
  | zero =>
   obtain rfl:y=x:=Option.some.inj h;rw[Nat.zero_mul,List.drop_zero,q3l,List.take_left' hy]
  | succ j =>
   rw[q3l,q3w,Nat.one_mul,Nat.add_comm (j*m) m,<-q3g,List.drop_left' hy];exact ih j x (fun z hz=>hg z (q2j _ hz)) h
open Classical in
theorem of_l2 (n:Nat)(l:List (List UInt8))(s2:Sta)(hL:l.length<=1000000):∀(rest pre:List (List UInt8)) (f:Nat) (i len:Int),l=pre++rest->i=pre.length->len=l.length->rest.length<f ->
  u0w n f (l,s2,l,len,i,())=some (if Secs rest then .inl (l,(s2,())) else .inr (sta0,4)):=by
 intro rest;induction rest with
 | nil =>
  intro pre f i len h hi hn hf;obtain ⟨f,rfl⟩:=FSu hf;rw[f1i,q1z (idxe h hi hn),tff,q0z (show Secs [] from fun s hs=>by cases hs)]
 | cons x rest ih =>
  intro pre f i len h hi hn hf;obtain ⟨f,rfl⟩:=FSu hf;have hlen:=congrArg List.length h;simp only[q2d,q2k] at hlen;rw[f1i,q2a (idx h hi hn),tft,b0o h hi,obs,tfn,tfd];by_cases hx:((x.length:Nat):Int)=512
  ·rw[q0z hx,idxw h hi (by omega),ih (pre++[x]) f (i+1) len (idxl h) (idxs hi) hn (by simp at hf;omega)];by_cases hs:Secs rest
   ·rw[q0z hs,q0z (show Secs (x::rest) from fun s k=>by
     rcases q2m.1 k with rfl | k
     ·omega
     ·exact hs s k)]
   ·rw[q0n hs,q0n (show ¬Secs (x::rest) from fun k=>hs fun s q=>k s (q2j _ q))]
  ·rw[q0n hx,q0n (show ¬Secs (x::rest) from fun k=>hx (by have:=k x List.mem_cons_self;omega))];rfl
theorem of_l15 (n:Nat){c:Conf}(hc:Rng c){l:List (List UInt8)}(hS:Secs l)(hL:l.length<=90000)(s2:Sta){k m:Nat}(hk:c.2.2.2.1=(k:Int))(hm:(plc c).toNat=m)(hlk:l.length=1+k*m):∀(d i f:Nat) (s:Sta),i+d=k->d<f->s.2.2.2.length<=i ->
  ∃L,w0u (n+15) f (l,s2,c,s,(m:Int),(i:Int),())=some (.inl (l,(s2,((s.1,(s.2.1,(s.2.2.1,s.2.2.2++L))),()))))/\L.length=d/\(∀x∈L,SerW x/\SerM x)/\∀j,j<d->r0d (n+15) c ((l.drop (1+(i+j)*m)).take m)=L[j]? := by
 intro d;have hp:=h0b hc;have hn:=b1z hc;have hkm:k<=k*m:=Nat.le_mul_of_pos_right _ (by omega);induction d with
 | zero =>
  intro i f s hi hf hs;obtain ⟨f,rfl⟩:∃g,f=g+1:=⟨f-1,by omega⟩;rw[a1w,tfd,q0n (by omega)];exact ⟨[],by rw[q2x],rfl,(fun x hx=>by cases hx),(fun j hj=>by omega)⟩
 | succ d ih =>
  intro i f s hi hf hs;obtain ⟨f,rfl⟩:∃g,f=g+1:=⟨f-1,by omega⟩;have hb:(i+1)*m<=k*m:=q3x m (by omega);have hb2:(i+1)*m=i*m+m:=by rw[q3w,Nat.one_mul]
  have e1:wrap .i64 ((1:Int)+(wrap .i64 ((i:Int)*(m:Int))))=((1+i*m:Nat):Int):=by
   rw[show (i:Int)*(m:Int)=((i*m:Nat):Int) by rw[Int.natCast_mul],w64 (x:=((i*m:Nat):Int)) (by omega) (by omega),w64 (by omega) (by omega)];omega
  have e2:wrap .i64 ((1:Int)+(wrap .i64 ((wrap .i64 ((i:Int)+(1:Int)))*(m:Int))))=((1+(i+1)*m:Nat):Int):=by
   rw[w64 (x:=(i:Int)+1) (by omega) (by omega),show ((i:Int)+1)*(m:Int)=(((i+1)*m:Nat):Int) by rw[Int.natCast_mul];rfl,w64 (x:=(((i+1)*m:Nat):Int)) (by omega) (by omega),w64 (by omega) (by omega)];omega
  have e3:wrap .i64 ((i:Int)+1)=((i+1:Nat):Int):=by rw[w64 (by omega) (by omega)];omega
  have hch:List.drop (1+i*m) (List.take (1+(i+1)*m) l)=(l.drop (1+i*m)).take m:=by rw[List.drop_take,show 1+(i+1)*m-(1+i*m)=m by omega]
  have hcl:((l.drop (1+i*m)).take m).length=m:=by rw[q2z,q2l];omega
  obtain ⟨x,hx,w1,w2⟩:=i1o (n+1) hc ((hS.drop (1+i*m)).take m) (by omega) (by omega);rw[a1w,tfd,q0z (by omega),e1,e2,e3,tfd,q0z (by omega),q2i,q2i,
   show (decide (((1+i*m:Nat):Int)<=((1+(i+1)*m:Nat):Int))&&decide (((1+(i+1)*m:Nat):Int)<=((l.length:Nat):Int)))=true by rw[q1n,q2c,q2c];omega,tft,hch,hx,obs,tfd,q0z (by omega)]
  obtain ⟨L,g1,g2,g3,g4⟩:=ih (i+1) f (s.1,(s.2.1,(s.2.2.1,s.2.2.2++[x]))) (by omega) (by omega) (by dsimp only;rw[q2d,List.length_singleton];omega);dsimp only at g1;refine ⟨x::L,?_,by rw[q2k,g2],?_,?_⟩
  ·rw[g1,q2g];rfl
  ·intro y hy;rcases q2m.1 hy with rfl | hy
   ·exact ⟨w1,w2⟩
   ·exact g3 y hy
  ·intro j hj;cases j with
   | zero=>exact hx
   | succ j =>
    rw[q3q,<-g4 j (by omega),show i+(j+1)=i+1+j by omega]
theorem e2v (n:Nat){l:List (List UInt8)}(hL:l.length<=1000):n1m (n+17) l=some (ofV l):=by
 have hsec:∀s,StaW s/\StaOk s/\allB s=l->Secs l:=fun s hs=>by rw[<-hs.2.2];exact (w0f hs.2.1).1
 rw[i2z];have h2:=of_l2 (n+16) l sta0 (by omega) l [] a0b 0 _ rfl rfl rfl (by unfold a0b;omega)
 change a0a (u0w (n+16) a0b (l,sta0,l,((l.length:Nat):Int),(0:Int),())) _=_
 rw[h2,obs];by_cases hS:Secs l
 case neg =>
  rw[q0n hS,j0z,x0e (fun ⟨s,hs⟩=>hS (hsec s hs))]
 rw[q0z hS,a0m];dsimp only;rw[tfd];cases hlt:l with
 | nil =>
  rw[q0z (show ((([]:List (List UInt8)).length:Nat):Int)=0 from rfl),x0e (fun ⟨s,_,_,k⟩=>by cases k)];rfl
 | cons a t =>
  have ha:a.length=512:=hS a (by rw[hlt];simp);have hhead:∀s,StaW s/\StaOk s/\allB s=l->a=i0g s:=fun s hs=>by
   have:=hs.2.2;rw[hlt] at this;unfold allB at this;exact (List.cons.inj this).1.symm
  have hfacts:∀s,StaW s/\StaOk s/\allB s=l->cfg ((a.take 64).drop 8)=s.1/\Full ((a.take 64).drop 8)/\wrap .i64 (v8 (a.drop 64))=s.2.1/\wrap .i64 (wrap .i64 (v8 (a.drop 72))-1)=s.2.2.1:=fun s hs=>by
   have he:=hhead s hs;have hc:=hs.2.1.whole.1;have hk:=hs.2.1.clock;obtain ⟨z,hz⟩:=h1w s;have l8:v0u.length=8:=rfl;have l64:(v0u++toB (bts s.1)).length=64:=by rw[q2d,l8,n0u s.1]
   have e1:((i0g s).take 64).drop 8=toB (bts s.1):=by rw[hz,List.take_left' l64,List.drop_left' l8]
   have e2:(i0g s).drop 64=n8B s.2.1++(n8B (s.2.2.1+1)++z):=by rw[hz,List.drop_left' l64]
   have e3:(i0g s).drop 72=n8B (s.2.2.1+1)++z:=by
    rw[show 72=64+8 from rfl,<-q3g,e2,List.drop_left' (f0r _)]
   obtain ⟨c1,c2⟩:=k1m hc.rng;rw[he,e1,e2,e3,x1f,x1f];refine ⟨c1,c2,?_,?_⟩
   ·obtain ⟨k1,_⟩:=hk;exact z0d (by unfold t0r at k1;unfold I64;omega)
   ·obtain ⟨_,k,_⟩:=hk;rcases k with k | ⟨k1,k2⟩
    ·rw[k];decide
    ·rw[z0d (by unfold I64;omega),w64 (by omega) (by omega)];omega
  rw[<-hlt,q0n (by rw[hlt];simp;omega)];have hat:at? l (0:Int)=some a:=by rw[hlt];rfl
  rw[hat,obs,show (true&&decide ((64:Int)<=((a.length:Nat):Int)))=true by rw[Bool.true_and,q2c];omega,tft];by_cases hr:OkC (cfg ((a.take 64).drop 8))/\Full ((a.take 64).drop 8)
  case neg =>
   rw[y1x (n+11) hr,obs,x0e (fun ⟨s,hs⟩=>hr (by obtain ⟨f1,f2,_⟩:=hfacts s hs;rw[f1];exact ⟨hs.2.1.whole.1,f2⟩))];rfl
  rw[t1z (n+11) hr.1 hr.2,obs];dsimp only;have hp:=h0b hr.1.rng;have hcap:=hr.1.rng.cap;have m0:0<=(cfg ((a.take 64).drop 8)).2.2.2.1*plc (cfg ((a.take 64).drop 8)):=Int.mul_nonneg (by omega) (by omega);have m1:(cfg ((a.take 64).drop 8)).2.2.2.1*plc (cfg ((a.take 64).drop 8))<=65536*20000:=Int.mul_le_mul hcap.2 hp.2 (by omega) (by omega);rw[q2a (rfl:(0:Int)=0),q2u,tff,(d2r (n+12) hr.1).2,obs,w64 (x:=(cfg ((a.take 64).drop 8)).2.2.2.1*plc (cfg ((a.take 64).drop 8))) (by omega) (by omega),w64 (by omega) (by omega),tfn,tfd]
  by_cases hc:(l.length:Int)=1+(cfg ((a.take 64).drop 8)).2.2.2.1*plc (cfg ((a.take 64).drop 8))
  case neg =>
   rw[q0n hc,x0e (fun ⟨s,hs⟩=>hc (by
    obtain ⟨f1,_⟩:=hfacts s hs;have q1:=(w0f hs.2.1).2.1;have q2:=hs.2.1.whole.2;rw[hs.2.2] at q1;rw[f1] at hp ⊢;rw[q1,<-q2];have:plc s.1=(((plc s.1).toNat:Nat):Int):=by omega
    rw[Int.natCast_add,Int.natCast_mul,<-this];omega))]
   rfl
  rw[q0z hc,obs];have q64:=b0p (n+13) a (p:=64) (by omega);have q72:=b0p (n+13) a (p:=72) (by omega);simp only[show ((64:Nat):Int)=64 from rfl,show ((72:Nat):Int)=72 from rfl] at q64 q72;rw[q64,obs,obs,q72,obs,obs];obtain ⟨k,hk⟩:∃k:Nat,(cfg ((a.take 64).drop 8)).2.2.2.1=k:=⟨_,(Int.toNat_of_nonneg (by omega)).symm⟩;have hpl:plc (cfg ((a.take 64).drop 8))=(((plc (cfg ((a.take 64).drop 8))).toNat:Nat):Int):=by omega
  generalize hm:(plc (cfg ((a.take 64).drop 8))).toNat=m at hpl;have hlk:l.length=1+k*m:=by
   rw[hk,hpl,<-Int.natCast_mul] at hc;omega
  have hkm:k<=k*m:=Nat.le_mul_of_pos_right _ (by omega);obtain ⟨L,g1,g2,g3,g4⟩:=of_l15 (n+1) hr.1.rng hS (by omega) sta0 hk hm hlk k 0 a0b (cfg ((a.take 64).drop 8),(wrap .i64 (v8 (a.drop 64)),(wrap .i64 (wrap .i64 (v8 (a.drop 72))-1),[]))) (by omega) (by unfold a0b;omega) (by simp);rw[show ((0:Nat):Int)=0 from rfl] at g1;rw[hpl,g1,obs,a0m];dsimp only;rw[q2r];have hw:StaW (cfg ((a.take 64).drop 8),(wrap .i64 (v8 (a.drop 64)),(wrap .i64 (wrap .i64 (v8 (a.drop 72))-1),L))):=⟨by dsimp only;omega,g3⟩
  have huniq:∀s,StaW s/\StaOk s/\allB s=l->s=(cfg ((a.take 64).drop 8),(wrap .i64 (v8 (a.drop 64)),(wrap .i64 (wrap .i64 (v8 (a.drop 72))-1),L))):=fun s hs=>by
   obtain ⟨f1,f2,f3,f4⟩:=hfacts s hs;obtain ⟨s1,s2,s3⟩:=w0f hs.2.1;have q2:=hs.2.1.whole.2;rw[f1] at hk hm g4;rw[f1,f3,f4];refine Prod.ext rfl (Prod.ext rfl (Prod.ext rfl (q3y fun j => ?_)));by_cases hj:j<k
   ·obtain ⟨x,hx⟩:∃x,s.2.2.2[j]? = some x:=⟨_,q2b (by omega)⟩;have hxm:=List.mem_of_getElem? hx;have hch:(l.drop (1+(0+j)*m)).take m=d0p s.1 x:=by
     rw[<-hs.2.2,Nat.zero_add,Nat.add_comm 1,<-hm];unfold allB;rw[List.drop_succ_cons];exact g2f s.2.2.2 j x s3 hx
    have:=g4 j hj;rw[hch,i1p (n+2) hs.2.1.whole.1 (hs.1.ser x hxm).1 (r0c (hs.2.1.right j x hx))] at this;show s.2.2.2[j]? = L[j]?;rw[hx,this]
   ·show s.2.2.2[j]? = L[j]?;rw[q2f (by omega),q2f (by omega)]
  generalize hst:((cfg ((a.take 64).drop 8),(wrap .i64 (v8 (a.drop 64)),(wrap .i64 (wrap .i64 (v8 (a.drop 72))-1),L))):Sta)=st at *
  rw[rall_val n hw];by_cases hs:StaOk st
  case neg =>
   rw[q0n hs,obs,x0e (fun ⟨s,q⟩=>hs (by rw[<-huniq s q];exact q.2.1))];rfl
  rw[q0z hs,obs];dsimp only;rw[q2a (rfl:(0:Int)=0),q2u,tff,i2i (n+15) _ _ (by omega),obs,tfn,tfd];by_cases he:l=allB st
  ·rw[q0z he];have:=k2f hw hs (by rw[<-he];omega);rw[<-he] at this;rw[this]
  ·rw[q0n he,x0e (fun ⟨s,q⟩=>he (by rw[<-huniq s q];exact q.2.2.symm))];rfl
theorem rdiff_l3 (n:Nat)(a b:List (List UInt8))(from_:Int)(hf0:0<=from_)(hf1:from_<=2000000000000)(hb:b.length<=10000000):∀(rest pre:List (List UInt8)) (f:Nat) (out:List Chg) (i:Int),b=pre++rest->i=pre.length->out.length<=pre.length ->
  k0z n (f+rest.length+1) (a,from_,out,b,(b.length:Int),i,())=some (.inl (out++w0b a from_ pre.length rest,())):=by
 intro rest;induction rest with
 | nil =>
  intro pre f out i h hi ho;rw[x0z,tfd,q0n (idxe h hi rfl)];simp[w0b]
 | cons x rest ih =>
  intro pre f out i h hi ho;have hlen:=congrArg List.length h;simp at hlen;subst hi;have hadd:(out++[(from_+(pre.length:Int),x)]).length<=(pre++[x]).length:=by simp;omega
  have i1:=ih (pre++[x]) f (out++[(from_+(pre.length:Int),x)]) ((pre.length:Int)+1) (idxl h) (idxs rfl) hadd;have i2:=ih (pre++[x]) f out ((pre.length:Int)+1) (idxl h) (idxs rfl) (by simp;omega);rw[show (pre++[x]).length=pre.length+1 by simp] at i1 i2;rw[show f+(x::rest).length+1=(f+rest.length+1)+1 by simp;omega,x0z,tfd,q0z (idx h rfl rfl),b0o h rfl,obs,tfd,w64 (x:=from_+(pre.length:Int)) (by omega) (by omega),w64 (x:=(pre.length:Int)+1) (by omega) (by omega)];by_cases hk:(a.length:Int)<=(pre.length:Int)
  ·rw[q0z hk,tfd,q0z (by omega),i1,w0b,q0n (by rw[q2f (by omega)];simp),q2g];rfl
  ·have hlt:pre.length<a.length:=by omega
   have hg:a[pre.length]? = some a[pre.length]:=q2b hlt;rw[q0n hk,r0x hg,obs,tfn,w0b,hg];by_cases he:a[pre.length]=x
   ·rw[he,beq_self_eq_true,tft,i2,q0z rfl]
   ·rw[beq_eq_false_iff_ne.2 he,tff,tfd,q0z (by omega),i1,q0n (by simpa using he),q2g];rfl
theorem i2v (n:Nat)(a b:List (List UInt8))(from_:Int)(hf0:0<=from_)(hf1:from_<=2000000000000)(hb:b.length<=10000000):w0v (n+1) a b from_=some (w0b a from_ 0 b):=by
 rw[y1j];have:=rdiff_l3 n a b from_ hf0 hf1 hb b [] (a0b-b.length-1) [] 0 rfl rfl (by simp);rw[<-lfu (by omega)] at this;rw[this,obs,a0m];rfl
theorem schg_l (n:Nat)(a b:List Chg)(hL:a.length<=9223372036854775807):∀(ra rb pa pb:List Chg) (f:Nat) (i:Int),a=pa++ra->b=pb++rb->pa.length=pb.length->ra.length=rb.length->i=pa.length->ra.length<f ->
  g0t n f (a,b,(a.length:Int),i,())=some (if ra=rb then .inl () else .inr false):=by
 intro ra;induction ra with
 | nil =>
  intro rb pa pb f i ha hb hp hr hi hf;obtain ⟨f,rfl⟩:=l0d hf;have:rb=[]:=q2p (by simpa using hr.symm);subst this;rw[l0w,q1z (idxe ha hi rfl),tff,q0z rfl]
 | cons x ra ih =>
  intro rb pa pb f i ha hb hp hr hi hf;obtain ⟨f,rfl⟩:=l0d hf;cases rb with
  | nil=>simp at hr
  | cons y rb =>
   have hlen:=congrArg List.length ha;simp at hlen;rw[l0w,q2a (idx ha hi rfl),tft,b0o ha hi,obs,b0o hb (by omega),obs];by_cases hxy:x=y
   ·subst hxy;rw[show (decide (x.1=x.1)&&(x.2==x.2))=true by rw[q2a rfl,beq_self_eq_true];rfl,q2u,tff,w64 (by omega) (by omega),ih rb (pa++[x]) (pb++[x]) f (i+1) (idxl ha) (idxl hb) (by simp;omega) (by simpa using hr) (idxs hi) (by simp at hf;omega)];simp
   ·rw[show (decide (x.1=y.1)&&(x.2==y.2))=false by
     by_cases h1:x.1=y.1
     ·rw[q2a h1,Bool.true_and,beq_eq_false_iff_ne];exact fun h2=>hxy (Prod.ext h1 h2)
     ·rw[q1z h1,Bool.false_and],q3e,tft,q0n (fun h=>hxy (List.cons.inj h).1)]
theorem schg_val (n:Nat)(a b:List Chg)(hL:a.length<=1000000000000):f0p (n+1) a b=some (decide (a=b)):=by
 rw[a1v];by_cases h:a.length=b.length
 ·rw[q2a (show ((a.length:Nat):Int)=(b.length:Nat) by omega),q2u,tff,schg_l n a b (by omega) a b [] [] a0b 0 rfl rfl rfl h rfl (by unfold a0b;omega),obs];by_cases he:a=b
  ·rw[q0z he,q2a he];rfl
  ·rw[q0n he,q1z he];rfl
 ·rw[q1z (show ¬((a.length:Nat):Int)=(b.length:Nat) by omega),q3e,tft,q1z (fun e=>h (by rw[e]))]
theorem of_l4o (n:Nat)(l m:List (List UInt8))(from_:Int)(hL:l.length<=1000000):∀(rest pre:List (List UInt8)) (f:Nat) (i len:Int),l=pre++rest->i=pre.length->len=l.length->rest.length<f ->
  i0u (n+40) f (l,m,from_,l,len,i,())=some (.inl (l,(m,(from_,()))))\/i0u (n+40) f (l,m,from_,l,len,i,())=some (.inr true):=by
 intro rest;induction rest with
 | nil =>
  intro pre f i len h hi hn hf;obtain ⟨f,rfl⟩:=FSu hf;rw[r0o,q1z (idxe h hi hn),tff];exact .inl rfl
 | cons x rest ih =>
  intro pre f i len h hi hn hf;obtain ⟨f,rfl⟩:=FSu hf;have hlen:=congrArg List.length h;simp only[q2d,q2k] at hlen;rw[r0o,q2a (idx h hi hn),tft,b0o h hi,obs,tfd];by_cases hx:(2000:Int)<((x.length:Nat):Int)
  ·rw[q0z hx,y0f n];exact .inr rfl
  ·rw[q0n hx,idxw h hi (by omega)];exact ih (pre++[x]) f (i+1) len (idxl h) (idxs hi) hn (by simp at hf;omega)
theorem v1v (n:Nat)(l m:List (List UInt8))(from_:Int):j1u (n+41) l m from_=some true:=by
 rw[l1u,tfd,y0f n];by_cases h1:(300:Int)<((l.length:Nat):Int)
 ·rw[q0z h1];rfl
 rw[q0n h1,tfd];by_cases h2:(300:Int)<((m.length:Nat):Int)
 ·rw[q0z h2];rfl
 rw[q0n h2,tfd];by_cases h3:from_<0
 ·rw[q0z h3];rfl
 rw[q0n h3,tfd];by_cases h4:1099511627776<from_
 ·rw[q0z h4];rfl
 rw[q0n h4];rcases of_l4o n l m from_ (by omega) l [] a0b 0 _ rfl rfl rfl (by unfold a0b;omega) with h5 | h5
 case inr=>rw[h5];rfl
 rw[h5,obs,a0m];dsimp only;have e1:=f1o (n+23) (l:=l) (by omega);have e2:=e2v (n+23) (l:=l) (by omega);have e3:=r17_same (n+36) (ofV_w l) (ofV l).1;have e4:=diff_val (n+39) l m from_ (by omega) (by omega) (by omega);have e5:=i2v (n+39) l m from_ (by omega) (by omega) (by omega);have hdl:=d2d l from_ m 0;have e6:=schg_val (n+39) (w0b l from_ 0 m) (w0b l from_ 0 m) (by omega);rw[q2a rfl] at e3 e6;simp only[e1,e2,e3,e4,e5,e6,obs,tft,decide_true];rw[tfd];by_cases h6:(0:Int)<((l.length:Nat):Int)
 case neg=>rw[q0n h6]
 rw[q0z h6];obtain ⟨a,t,rfl⟩:∃a t,l=a::t:=by
  cases l with
  | nil=>simp at h6
  | cons a t=>exact ⟨a,t,rfl⟩
 rw[show at? (a::t) (0:Int)=some a from rfl,obs,tfd];by_cases h7:((a.length:Nat):Int)=512
 case neg=>rw[q0n h7]
 rw[q0z h7,obs,show (true&&decide ((64:Int)<=((a.length:Nat):Int)))=true by rw[Bool.true_and,q2c];omega,tft];obtain ⟨v,hv⟩:∃v,o0v (n+40) (List.drop 8 (List.take 64 a))=some v:=by
  by_cases hr:OkC (cfg ((a.take 64).drop 8))/\Full ((a.take 64).drop 8)
  ·exact ⟨_,b2s (n+36) hr.1 hr.2⟩
  ·exact ⟨_,i2u (n+36) hr⟩
 rw[hv,obs,tfd];by_cases h8:v.2=0
 case neg=>rw[q0n h8]
 rw[q0z h8];obtain ⟨b,hb,_⟩:=small24 (n+39) v.1;rw[hb,obs];cases b<;>rfl
end Go.Proofs.YtagnkfbpgkckiaaGreat
