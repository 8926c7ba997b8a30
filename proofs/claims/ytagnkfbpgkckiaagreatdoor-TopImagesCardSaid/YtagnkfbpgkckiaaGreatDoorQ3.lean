/-
 Plain proofs about the functions of this seat, part 3 of 4.
-/
import Derived.Test.YtagnkfbpgkckiaaGreatDoorQ2
set_option linter.unusedVariables false
set_option linter.unusedSimpArgs false
open Go.IntKind (wrap)
namespace Go.Proofs.YtagnkfbpgkckiaaGreatDoor
open Go.Flat Go.Plim
def f1t (N:Int)(left:List (List UInt8)):List Slo:=(List.range N.toNat).map (slAt (z0v N.toNat 4 left))
theorem k2f (n:Nat){c:Conf}(hc:Rng c)(z:Ser){left:List (List UInt8)}(hs:Secs left)(hl':left.length<=1000000)
  (hl:nsec c.2.2.1.1.toNat 4+nsec c.2.2.1.2.1.toNat 4+nsec c.2.2.1.2.2.toNat 4<=left.length) (a:List Lab) (b:Int) (r:Rw) (o:Slo) :
  ∃q,a0u (n+6) a0b ((c,left),z,(a,(b,(r,(([],([],[])),o)))),c.2.2.1,(0:Int),()) =
   some (.inl (q,(z,((a,(b,(r,((f1t c.2.2.1.1 left,(f1t c.2.2.1.2.1 (left.drop (nsec c.2.2.1.1.toNat 4)),f1t c.2.2.1.2.2 ((left.drop (nsec c.2.2.1.1.toNat 4)).drop (nsec c.2.2.1.2.1.toNat 4)))),o)))),())))):=by
 obtain ⟨f,hf⟩:∃f,a0b=f+1+1+1+1:=⟨a0b-4,by unfold a0b;omega⟩;have h0:=hc.n0;have h1:=hc.n1;have h2:=hc.n2;have t0:=e1j n c hs hl' (N:=c.2.2.1.1) (by omega) (by omega) (by omega);have t1:=e1j n c (hs.drop (nsec c.2.2.1.1.toNat 4)) (by rw[q3j];omega) (N:=c.2.2.1.2.1) (by omega) (by omega) (by rw[q3j];omega);have t2:=e1j n c ((hs.drop (nsec c.2.2.1.1.toNat 4)).drop (nsec c.2.2.1.2.1.toNat 4)) (by rw[q3j,q3j];omega) (N:=c.2.2.1.2.2) (by omega) (by omega) (by rw[q3j,q3j];omega)
 have e1:wrap .i64 ((0:Int)+1)=1:=by decide
 have e2:wrap .i64 ((1:Int)+1)=2:=by decide
 have e3:wrap .i64 ((2:Int)+1)=3:=by decide
 rw[hf,d0h,tfd,q0z (by omega),tfd,q0z rfl,t0,obs,tfd,q0z rfl,e1];dsimp only;rw[d0h,tfd,q0z (by omega),tfd,q0n (by omega),tfd,q0z rfl,t1,obs,tfd,q0n (by omega),tfd,q0z rfl,e2];dsimp only;rw[d0h,tfd,q0z (by omega),tfd,q0n (by omega),tfd,q0n (by omega),tfd,q0z rfl,t2,obs,tfd,q0n (by omega),tfd,q0n (by omega),tfd,q0z rfl,e3];dsimp only;rw[d0h,tfd,q0n (by omega)];exact ⟨_,rfl⟩
def v2 (l:List UInt8):Int:=valI (c0z (l.take 2))
def v8 (l:List UInt8):Int:=valI (c0z (l.take 8))
theorem rd2 {l:List UInt8}(h:2<=l.length):rd (l,false) 2=(v2 l,(l.drop 2,false)):=by
 unfold rd;rw[q0n (by rintro (k | k);cases k;exact absurd h (by dsimp only at k;omega))];rfl
theorem rd8 {l:List UInt8}(h:8<=l.length):rd (l,false) 8=(v8 l,(l.drop 8,false)):=by
 unfold rd;rw[q0n (by rintro (k | k);cases k;exact absurd h (by dsimp only at k;omega))];rfl
theorem f2y {l:List UInt8}(h:2<=l.length):0<=v2 l/\v2 l<=65535:=by
 have:=rd_range (l,false) 2;rw[rd2 h] at this;have e:(256:Int)^2=65536:=rfl;rw[e] at this;exact ⟨this.1,by have:=this.2;dsimp only at this;omega⟩
theorem v2_of {v:Int}(h0:0<=v)(h1:v<=65535)(t:List UInt8):v2 (toB (beI 2 v)++t)=v:=by
 have:=e1d 2 v t;rw[rd2 (by simp[h0e,c0o])] at this;have e:(256:Int)^2=65536:=rfl;rw[e] at this;have:=congrArg Prod.fst this;dsimp only at this;rw[this,Int.emod_eq_of_lt h0 (by omega)]
theorem o2d (v:Int)(t:List UInt8):v8 (n8B v++t)=wrap .u64 v:=by
 have:=rd_n8 v t;rw[rd8 (by simp[z0p])] at this;exact congrArg Prod.fst this
theorem l1c {v:Int}(h:I64 v):wrap .i64 (wrap .u64 v)=v:=by
 have h1:=IntKind.wrap_u64 v;have h2:=IntKind.wrap_i64 (wrap .u64 v);have h3:=h.1;have h4:=h.2;omega
def serV (c:Conf)(ls:List Lab)(h:List UInt8)(t:List (List UInt8)):Ser :=
 (ls,(wrap .i64 (v8 (h.drop 322)),(d2b c (wrap .i64 (v8 (h.drop 330))) (wrap .i64 (v8 (h.drop 338))) (v2 (h.drop 346)) (z0v c.1.toNat 16 t),
  ((f1t c.2.2.1.1 (t.drop (nsec c.1.toNat 16)),(f1t c.2.2.1.2.1 ((t.drop (nsec c.1.toNat 16)).drop (nsec c.2.2.1.1.toNat 4)),f1t c.2.2.1.2.2 (((t.drop (nsec c.1.toNat 16)).drop (nsec c.2.2.1.1.toNat 4)).drop (nsec c.2.2.1.2.1.toNat 4)))),
   (slR ((h.drop 348).take 128,false)).1))))
def need (c:Conf):Nat:=nsec c.1.toNat 16+(nsec c.2.2.1.1.toNat 4+nsec c.2.2.1.2.1.toNat 4+nsec c.2.2.1.2.2.toNat 4)
theorem c2l (n:Nat)(c:Conf){h:List UInt8}{t:List (List UInt8)}(hh:h.length=512)(ht:Secs t)(hl:t.length<=100000)(hv:v2 h=0\/320<v2 h) :
  e0m (n+9) (c,h::t)=some (ser0,(c,t)):=by
 have hr:=f2y (l:=h) (by omega);have hS:∀s∈h::t,s.length<=1000000:=fun s hs=>by
  rcases q3k.1 hs with rfl | hs
  ·omega
  ·exact ht.le s hs
 have htk:=i1e (n+5) c (h::t) 1 1 (by omega) (by omega) (by omega) (by simp;omega) hS;rw[show nsec 1 1=1 from rfl] at htk;rw[m0d]
 change a0a (c0k (n+8) (c,h::t) ((1:Nat):Int) ((1:Nat):Int)) _=_
 rw[htk,obs,g0a,obs];dsimp only;rw[show (List.take 1 (h::t)).flatten=h by simp,a0s (n+5) _ 2 2 rfl (by omega) (by omega),rd2 (by omega),obs];dsimp only;rw[w64 (by omega) (by omega),tfd];by_cases k:v2 h=0
 ·rw[q0z k];rfl
 ·rw[q0n k,tfd,q0z (by omega)];rfl
theorem k2g (n:Nat){c:Conf}(hc:Rng c){h:List UInt8}{t:List (List UInt8)}(hh:h.length=512)(ht:Secs t)(hl:t.length<=100000)(hN:need c<=t.length)(h0:0<v2 h)(h1:v2 h<=320)
  {ls:List Lab} {e:Int} (hlab:i1m (n+8) ((h.drop 2).take (v2 h).toNat)=some (ls,e)) :
  ∃q,e0m (n+9) (c,h::t)=some (serV c ls h t,q):=by
 unfold need at hN;have hS:∀s∈h::t,s.length<=1000000:=fun s hs=>by
  rcases q3k.1 hs with rfl | hs
  ·omega
  ·exact ht.le s hs
 have htk:=i1e (n+5) c (h::t) 1 1 (by omega) (by omega) (by omega) (by simp;omega) hS;rw[show nsec 1 1=1 from rfl] at htk;rw[m0d]
 change ∃q,a0a (c0k (n+8) (c,h::t) ((1:Nat):Int) ((1:Nat):Int)) _=_
 rw[htk,obs,g0a,obs];dsimp only;rw[show (List.take 1 (h::t)).flatten=h by simp,a0s (n+5) _ 2 2 rfl (by omega) (by omega),rd2 (by omega),obs];dsimp only;rw[w64 (by omega) (by omega),tfd,q0n (by omega),tfd,q0n (by omega)];have e1:h.drop 2=(h.drop 2).take 320++h.drop 322:=by
  have:=(q4b 320 (h.drop 2)).symm
  rwa [q4d,show 2+320=322 from rfl] at this
 have l1:((h.drop 2).take 320).length=320:=by rw[q3x,q3j];omega
 have hraw:=s1m (n+7) ((h.drop 2).take 320) (h.drop 322) (k:=320) (by omega);rw[<-e1] at hraw;rw[hraw,obs];dsimp only;rw[show (decide ((0:Int)<=v2 h)&&decide (v2 h<=((((h.drop 2).take 320).length:Nat):Int)))=true by rw[q1n,q3a,q3a];omega,tft];rw[List.take_take,q4f (by omega),List.drop_zero,hlab,obs];dsimp only;rw[a0s (n+5) _ 8 8 rfl (by omega) (by omega),rd8 (by rw[q3j];omega),obs];dsimp only
 rw[q4d,show 322+8=330 from rfl,a0s (n+5) _ 8 8 rfl (by omega) (by omega),rd8 (by rw[q3j];omega),obs];dsimp only;rw[q4d,show 330+8=338 from rfl,a0s (n+5) _ 8 8 rfl (by omega) (by omega),rd8 (by rw[q3j];omega),obs];dsimp only;rw[q4d,show 338+8=346 from rfl,a0s (n+5) _ 2 2 rfl (by omega) (by omega),rd2 (by rw[q3j];omega),obs];dsimp only;have hr2:=f2y (l:=h.drop 346) (by rw[q3j];omega);have e2:h.drop 348=(h.drop 348).take 128++h.drop 476:=by
  have:=(q4b 128 (h.drop 348)).symm
  rwa [q4d,show 348+128=476 from rfl] at this
 have hraw2:=s1m (n+7) ((h.drop 348).take 128) (h.drop 476) (k:=128) (by rw[q3x,q3j];omega);rw[<-e2] at hraw2;rw[q4d,show 346+2=348 from rfl,hraw2,obs];dsimp only;rw[g1a (n+3),obs,w64 (x:=v2 (h.drop 346)) (by omega) (by omega)];have hraw:=hc.raw;rw[show (List.drop 1 (h::t))=t from rfl,q2d (n+2) (by omega) (by omega) ht (by omega) (by omega) _ _ _ hr2.1,obs];dsimp only
 obtain ⟨q,hq⟩:=k2f (n+2) hc ser0 (ht.drop (nsec c.1.toNat 16)) (by rw[q3j];omega) (by rw[q3j];omega) ls (wrap .i64 (v8 (h.drop 322))) (d2b c (wrap .i64 (v8 (h.drop 330))) (wrap .i64 (v8 (h.drop 338))) (v2 (h.drop 346)) (z0v c.1.toNat 16 t)) (slR ((h.drop 348).take 128,false)).1;refine ⟨q,?_⟩
 change a0a (a0u (n+2+6) a0b ((c,t.drop (nsec c.1.toNat 16)),ser0,(ls,(wrap .i64 (v8 (h.drop 322)),(d2b c (wrap .i64 (v8 (h.drop 330))) (wrap .i64 (v8 (h.drop 338))) (v2 (h.drop 346)) (z0v c.1.toNat 16 t),(([],([],[])),(slR ((h.drop 348).take 128,false)).1)))),c.2.2.1,(0:Int),())) _=_
 rw[hq,obs,a0r];rfl
def v1v (c:Conf)(s:Trs)(o:Slo)(l:List Ev):Prop :=
 (l=[]/\o=s0/\∀t,FInv c s [] t)\/∃t,EndsAt l t/\FInv c s l t/\o=(t / c.2.1.1,cellOf (win c.2.1.1 l (t / c.2.1.1)))
theorem emp_inv {c:Conf}(h:OkC c):v1v c (emp c) s0 []:=by
 have hr:=h.rng;have n0:=hr.n0;have n1:=hr.n1;have n2:=hr.n2;refine .inl ⟨rfl,rfl,fun t => ?_⟩;have e:emp c=(List.replicate c.2.2.1.1.toNat s0,(List.replicate c.2.2.1.2.1.toNat s0,List.replicate c.2.2.1.2.2.toNat s0)):=q0z h;have i0:TierInv (List.replicate c.2.2.1.1.toNat s0) c.2.1.1 []:=z0f (by omega) (by omega) hr.w0.1 hr.w0.2;have i1:TierInv (List.replicate c.2.2.1.2.1.toNat s0) c.2.1.2.1 []:=z0f (by omega) (by omega) hr.w1.1 hr.w1.2;have i2:TierInv (List.replicate c.2.2.1.2.2.toNat s0) c.2.1.2.2 []:=z0f (by omega) (by omega) hr.w2.1 hr.w2.2;rw[e]
 exact ⟨⟨h,by simp;omega,by simp;omega,by simp;omega,i0.ok,i1.ok,i2.ok⟩,i0,i1,i2⟩
theorem v1v.fold {c:Conf}{s:Trs}{o:Slo}{l:List Ev}(h:v1v c s o l):FoldOk c s:=by
 rcases h with ⟨_,_,h⟩ | ⟨t,_,h,_⟩
 ·exact (h 0).ok
 ·exact h.ok
theorem t2d {e:Ev}(h:EvOk e){w:Int}(hw:1<=w):k0g w (e.1 / w):=q1c hw ⟨h.t0,by have:=h.t1;omega⟩
def Turn (o:Slo)(i:Int):Prop:=0<o.2.1/\o.1≠i
def h1j (room:Int)(l:List Ev):Rw :=
 (if (l.length:Int)<=room then 0 else (l.length:Int)-room,(if (l.length:Int)<=room then 0 else ((l[l.length-room.toNat-1]?).getD e0).1,l.drop (l.length-room.toNat)))
theorem p2y {room:Int}(h:1<=room)(l:List Ev):((h1j room l).2.2.length:Int)=if (l.length:Int)<=room then (l.length:Int) else room:=by
 simp only[h1j,q3j];split<;>omega
theorem k2t {room:Int}(h:1<=room)(l:List Ev):(h1j room l).2.2.getLast? = l.getLast? := by
 simp only[h1j,List.getLast?_drop];by_cases h0:l=[]
 ·subst h0;simp
 ·have:0<l.length:=List.length_pos_iff.2 h0;rw[q0n (by omega)]
theorem rawOf_ok {room:Int}(h:1<=room/\room<=4096){l:List Ev}(hl:Foll l)(hL:l.length<=1000000):RawOk (h1j room l) room:=by
 have hlen:=p2y h.1 l;refine ⟨h.1,h.2,by rw[hlen];split<;>omega,?_,?_,?_,?_,?_⟩
 ·simp only[h1j];split<;>omega
 ·simp only[h1j];split<;>omega
 ·exact hl.sub (List.drop_sublist _ _)
 ·simp only[h1j];intro k;split
  ·rfl
  ·rename_i h1;rw[q0n h1] at k;omega
 ·intro k;simp only[h1j] at k hlen ⊢;by_cases h1:(l.length:Int)<=room
  ·rw[q0z h1] at k;exact absurd rfl k
  rw[q0n h1] at hlen ⊢;obtain ⟨d,hd⟩:∃d,l.length-room.toNat=d+1:=⟨l.length-room.toNat-1,by omega⟩;rw[hd,show d+1-1=d by omega];have hdl:d<l.length:=by omega
  have hdl':d+1<l.length:=by omega
  rw[q2z hdl];refine ⟨by rw[<-hlen,hd],((hl.ok _ (List.getElem_mem hdl)).t0),fun x hx => ?_⟩;rw[List.head?_drop,q2z hdl'] at hx;have:=List.pairwise_iff_getElem.1 hl.inc d (d+1) hdl hdl' (by omega);simp at hx;rw[<-hx];exact this
structure SerInv (c:Conf)(s:Ser)(l:List Ev):Prop where
 lab:LabOk s.1
 len:l.length<=1000000
 raw:s.2.2.1=h1j c.1 l
 opn:v1v c s.2.2.2.1 s.2.2.2.2 l
 last:(l=[]/\s.2.1 = -1)\/EndsAt l s.2.1
theorem SerInv.foll {c:Conf}{s:Ser}{l:List Ev}(h:SerInv c s l):Foll l:=by
 rcases h.last with ⟨rfl,_⟩ | h
 ·exact Foll.nil
 ·exact h.foll
theorem q0d {l:List Ev}{t:Int}(h:EndsAt l t):∃e,l.getLast? = some e/\e.1=t:=by
 obtain ⟨x,hx,hxt⟩:=h.last;rcases List.eq_nil_or_concat l with rfl | ⟨p,y,rfl⟩
 ·cases hx
 rw[List.concat_eq_append] at *
 have h1:=h.le y (by simp);refine ⟨y,by simp,?_⟩;rcases q3m.1 hx with q | q
 ·have:=(e0a.1 h.foll).2.2 x q y (by simp);omega
 ·simp at q;rw[<-q];exact hxt
theorem t2o {l:List Ev}{t u:Int}(h:EndsAt l t)(k:EndsAt l u):t=u:=by
 obtain ⟨e,h1,h2⟩:=q0d h;obtain ⟨e',k1,k2⟩:=q0d k;rw[h1] at k1;simp at k1;rw[<-h2,<-k2,k1]
theorem t2p {l:List Ev}{t:Int}(h:EndsAt l t):l≠[]:=by
 obtain ⟨x,hx,_⟩:=h.last;exact List.ne_nil_of_mem hx
theorem SerInv.at_ {c:Conf}{s:Ser}{l:List Ev}(h:SerInv c s l)(hl:l≠[]):EndsAt l s.2.1/\FInv c s.2.2.2.1 l s.2.1/\s.2.2.2.2=(s.2.1 / c.2.1.1,cellOf (win c.2.1.1 l (s.2.1 / c.2.1.1))):=by
 have he:=h.last.resolve_left fun k=>hl k.1
 rcases h.opn with k | ⟨t,k1,k2,k3⟩
 ·exact absurd k.1 hl
 ·have:=t2o he k1;subst this;exact ⟨he,k2,k3⟩
theorem j1g {t:List Slo}{w:Int}(h:TierInv t w []):tall t=[]:=by
 cases hc:tall t with
 | nil=>rfl
 | cons x r =>
  have hx:x∈tall t:=by rw[hc];simp
  have h1:=h.cells x hx;have:=(j0o h.ok hx).1.n.n1;rw[h1] at this;simp[win,cellOf,z0] at this
theorem w0j {t:List Slo}{w u:Int}{l:List Ev}(h:TierInv t w (below w l u))(hl:Foll l):b0j t (u / w):=by
 rw[v0u h.ok];intro x hx;have h1:=h.cells x hx;have hn:=(j0o h.ok hx).1.n;have hne:win w (below w l u) x.1≠[]:=fun k=>by
  rw[k] at h1;exact hn.ne h1
 obtain ⟨e,he⟩:=List.exists_mem_of_ne_nil _ hne;obtain ⟨k1,k2⟩:=e1p.1 he;have:=of_decide_eq_true (q4m.1 k1).2;omega
theorem a2m {w T:Int}{l:List Ev}(he:EndsAt l T):(cellOf (win w l (T / w))).2.2.1.1=T:=by
 obtain ⟨x,hx,hxt⟩:=he.last;have hm:x∈win w l (T / w):=e1p.2 ⟨hx,by rw[hxt]⟩;have hw:=q1l (w:=w) he.foll (T / w);have hh:=i2j hw (List.ne_nil_of_mem hm);have ew:EndsAt (win w l (T / w)) T:=⟨hw,fun y hy=>he.le y (e1p.1 hy).1,x,hm,hxt⟩;obtain ⟨e,k1,k2⟩:=q0d ew;have:=hh.last;rw[k1] at this;simp at this;rw[<-this,k2]
theorem x1i {c:Conf}{s:Ser}{l:List Ev}(h:SerInv c s l):SerOk c s:=by
 have hf:=h.opn.fold;have hr:=hf.cok.rng;have hraw:RawOk s.2.2.1 c.1:=by rw[h.raw];exact rawOf_ok hr.raw h.foll h.len
 refine ⟨hf,h.lab,hraw,?_⟩;by_cases hl:l=[]
 ·subst hl;refine .inl ?_;have hlast:=h.last.resolve_right fun k=>t2p k rfl
  rcases h.opn with ⟨_,k1,k2⟩ | ⟨t,k1,_⟩
  ·have:=k2 0;exact ⟨hlast.2,by rw[h.raw];simp[h1j],k1,(k1q this.ok.t0).2 (j1g this.i0),(k1q this.ok.t1).2 (j1g this.i1),(k1q this.ok.t2).2 (j1g this.i2)⟩
  ·exact absurd rfl (t2p k1)
 ·obtain ⟨he,hi,ho⟩:=h.at_ hl;obtain ⟨x,hx,hxt⟩:=he.last;have:=(he.foll.ok x hx).t0;refine .inr ⟨by omega,?_,?_,?_,w0j hi.i0 he.foll,w0j hi.i1 he.foll,w0j hi.i2 he.foll⟩
  ·rw[h.raw,k2t hr.raw.1];exact q0d he
  ·rw[ho];exact a2m he
  ·rw[ho];exact (r1j he hi.i0).1
theorem serInv_w {c:Conf}{s:Ser}{l:List Ev}(h:SerInv c s l):SerW s:=by
 have hok:=x1i h;refine ⟨?_,fun e he=>EvW.of (hok.raw.f.ok e he),hok.fold.w,?_⟩
 ·by_cases hn:s.2.1 = -1
  ·rw[hn];unfold I64;omega
  ·have:=p0r hok hn;unfold I64;omega
 ·rcases h.opn with ⟨_,k,_⟩ | ⟨t,he,hi,ho⟩
  ·rw[k];exact z0h
  ·obtain ⟨x,hx,hxt⟩:=he.last;have hxo:=he.foll.ok x hx;have:=x1w hxo hi.ok.cok.rng.w0.1;rw[hxt] at this;rw[ho];exact ⟨by unfold I64;simp only;omega,.of (u2n (q1l he.foll _))⟩
theorem p1z {a b:Int}(ha:1<=a)(hb:1<=b)(hm:b % a=0):0<b / a:=by
 rcases Int.lt_or_le 0 (b / a) with z | z
 ·exact z
 ·exfalso;have e:a*(b / a)=b:=by have:=Int.mul_ediv_add_emod b a;omega
  have:a*(b / a)<=a*0:=Int.mul_le_mul_of_nonneg_left z (by omega);omega
theorem q2x {c:Conf}{l:List Lab}(h:OkC c)(hl:LabOk l):SerInv c (l,(-1,(r0w,(emp c,s0)))) [] :=
 ⟨hl,by simp,by have:=h.rng.raw;simp[h1j,r0w];omega,emp_inv h,.inl ⟨rfl,rfl⟩⟩
noncomputable def p0m (s:Sta)(l:List Lab):Option Nat:=s.2.2.2.findIdx? fun x=>decide (x.1=l/\LvX s x)
noncomputable def z0l (s:Sta):Option Nat:=s.2.2.2.findIdx? fun x=>decide (¬LvX s x)
noncomputable def lvAt (s:Sta)(i:Nat):Bool:=match s.2.2.2[i]? with | some x=>decide (LvX s x) | none=>false
noncomputable def j0y (s:Sta):List Nat:=(List.range s.2.2.2.length).filter (lvAt s)
theorem h0w {s:Sta}{l:List Lab}{i:Nat}:p0m s l=some i↔∃x,s.2.2.2[i]? = some x/\x.1=l/\LvX s x/\∀j,j<i->∀y,s.2.2.2[j]? = some y->¬(y.1=l/\LvX s y):=by
 unfold p0m;rw[List.findIdx?_eq_some_iff_getElem];constructor
 ·rintro ⟨h,h1,h2⟩;have h1:=of_decide_eq_true h1;refine ⟨_,q2z h,h1.1,h1.2,fun j hj y hy => ?_⟩;obtain ⟨hjl,e⟩:=q3o.1 hy;have:=h2 j hj;rw[e] at this
  simpa using this
 ·rintro ⟨x,hx,h1,h2,h3⟩;obtain ⟨hl,e⟩:=q3o.1 hx;refine ⟨hl,by rw[e];exact q2g ⟨h1,h2⟩,fun j hj => ?_⟩;have:=h3 j hj _ (q2z (by omega))
  simpa using this
theorem r0y {s:Sta}{l:List Lab}:p0m s l=none↔∀x∈s.2.2.2,¬(x.1=l/\LvX s x):=by
 unfold p0m;rw[List.findIdx?_eq_none_iff];simp
theorem e1b {s:Sta}{i:Nat}:z0l s=some i↔∃x,s.2.2.2[i]? = some x/\¬LvX s x/\∀j,j<i->∀y,s.2.2.2[j]? = some y->LvX s y:=by
 unfold z0l;rw[List.findIdx?_eq_some_iff_getElem];constructor
 ·rintro ⟨h,h1,h2⟩;refine ⟨_,q2z h,of_decide_eq_true h1,fun j hj y hy => ?_⟩;obtain ⟨hjl,e⟩:=q3o.1 hy;have:=h2 j hj;rw[e] at this
  simpa using this
 ·rintro ⟨x,hx,h1,h3⟩;obtain ⟨hl,e⟩:=q3o.1 hx;refine ⟨hl,by rw[e];exact q2g h1,fun j hj => ?_⟩;have:=h3 j hj _ (q2z (by omega))
  simpa using this
theorem k2m {s:Sta}:z0l s=none↔∀x∈s.2.2.2,LvX s x:=by
 unfold z0l;rw[List.findIdx?_eq_none_iff];simp
theorem r2e {s:Sta}{i:Nat}{x:Ser}(h:s.2.2.2[i]? = some x):lvAt s i=decide (LvX s x):=by
 unfold lvAt;rw[h]
theorem t1n (s:Sta):(j0y s).length<=s.2.2.2.length:=by
 have:=List.length_filter_le (lvAt s) (List.range s.2.2.2.length)
 simpa [j0y] using this
noncomputable def f0c (s:Sta)(l:List Lab)(e:Ev):Int×(Bool×Int) :=
 if ¬StaOk s then (0,(false,2)) else if ¬LabOk l then (0,(false,8)) else if ¬EvOk e then (0,(false,2)) else
 if e.1<mk s\/mk s+s.1.2.1.1<=e.1 then (0,(false,9)) else
 match p0m s l with
 | some i=>if e.1<=((s.2.2.2[i]?).getD ser0).2.1 then (0,(false,9)) else ((i:Int),(false,0))
 | none=>if e.2.2.2=true then (0,(false,3)) else match z0l s with | some i=>((i:Int),(true,0)) | none=>(0,(false,7))
theorem i2c {l:List Ser}{k:Nat}(h:k<l.length):∃y,l[k]? = some y:=⟨l[k],q2z h⟩
noncomputable def m2q (s:Sta)(l:List Lab):Int×Int:=if Whole s then (match p0m s l with | some i=>((i:Int),0) | none=>(0,3)) else (0,2)
noncomputable def k2p (s:Sta):Int×Int:=if Whole s then (match z0l s with | some i=>((i:Int),0) | none=>(0,7)) else (0,2)
noncomputable def e2c (s:Sta):List Int:=if Whole s then (j0y s).map Int.ofNat else []
def IsF (s:Sta)(l:List Lab)(k:Nat):Prop:=∃y,s.2.2.2[k]? = some y/\y.1=l/\LvX s y
noncomputable instance (s l k):Decidable (IsF s l k):=Classical.propDecidable _
def IsR (s:Sta)(k:Nat):Prop:=∃y,s.2.2.2[k]? = some y/\¬LvX s y
noncomputable instance (s k):Decidable (IsR s k):=Classical.propDecidable _
theorem m2p {s:Sta}{l:List Lab}{m:Nat}(h:IsF s l m)(hn:∀j,j<m->¬IsF s l j):p0m s l=some m:=by
 obtain ⟨y,h1,h2,h3⟩:=h;exact h0w.2 ⟨y,h1,h2,h3,fun j hj z hz k=>hn j hj ⟨z,hz,k.1,k.2⟩⟩
theorem find_no {s:Sta}{l:List Lab}(hn:∀j,j<s.2.2.2.length->¬IsF s l j):p0m s l=none:=by
 refine r0y.2 fun x hx k => ?_
 obtain ⟨i,hi,e⟩:=List.getElem_of_mem hx;exact hn i hi ⟨x,by rw[q2z hi,e],k.1,k.2⟩
theorem k2l {s:Sta}{m:Nat}(h:IsR s m)(hn:∀j,j<m->¬IsR s j):z0l s=some m:=by
 obtain ⟨y,h1,h2⟩:=h;exact e1b.2 ⟨y,h1,h2,fun j hj z hz=>Decidable.byContradiction fun k=>hn j hj ⟨z,hz,k⟩⟩
theorem room_no {s:Sta}(hn:∀j,j<s.2.2.2.length->¬IsR s j):z0l s=none:=by
 refine k2m.2 fun x hx=>Decidable.byContradiction fun k => ?_
 obtain ⟨i,hi,e⟩:=List.getElem_of_mem hx;exact hn i hi ⟨x,by rw[q2z hi,e],k⟩
theorem g2e (n:Nat){s:Sta}(hw:StaW s)(l:List Lab):i1g (n+10) s l=some (m2q s l):=by
 rw[c2a,j1q (n+5) s,obs,tfn,tfd];unfold m2q;by_cases h:Whole s
 case neg=>rw[q0n h,q0n h,q0n (show ¬((sta0,(2:Int)).2=0) by decide)]
 rw[q0z h,q0z h,q0z rfl];have his:∀k:Nat,k<s.2.2.2.length->(fun y1:Int×Unit=>h0m (n+9) y1.1 s l s) ((k:Int),())=some (decide (IsF s l k)):=by
  intro k hk;obtain ⟨y,hy⟩:=i2c hk;have hm:=(hw.at hy).2;show h0m (n+9) (k:Int) s l s=_;rw[r1t,d1c hy,obs,p1n (n+6) _ _ hm.l,obs,tfd,a1z (n+1) hy hm,obs];by_cases h1:y.1=l
  ·rw[q0z h1];refine congrArg some (q3r.2 ⟨fun k=>⟨y,hy,h1,k⟩,fun ⟨z,z1,z2,z3⟩ => ?_⟩);rw[hy] at z1;cases z1;exact z3
  ·rw[q0n h1,q1z (fun q:IsF s l k=>by obtain ⟨z,z1,z2,z3⟩:=q;rw[hy] at z1;cases z1;exact h1 z2)]
 rcases c1r (n+8) s (fun y1:Int×Unit=>h0m (n+9) y1.1 s l s) (fun k=>decide (IsF s l k)) (by have:=h.len;omega) his with ⟨m,q1,q2,q3,q4⟩ | ⟨q1,q2⟩
 ·rw[show (fun y1:Int×Unit=>h0m (n+9) y1.1 s l (s,(0:Int)).1)=fun y1:Int×Unit=>h0m (n+9) y1.1 s l s from rfl,q4,obs,tfd,q0n (by omega),m2p (of_decide_eq_true q2) (fun j hj=>of_decide_eq_false (q3 j hj))]
 ·rw[show (fun y1:Int×Unit=>h0m (n+9) y1.1 s l (s,(0:Int)).1)=fun y1:Int×Unit=>h0m (n+9) y1.1 s l s from rfl,q2,obs,tfd,q0z (by decide),find_no (fun j hj=>of_decide_eq_false (q1 j hj))]
theorem stt_room (n:Nat){s:Sta}(hw:StaW s):i1f (n+10) s=some (k2p s):=by
 rw[b2x,j1q (n+5) s,obs,tfn,tfd];unfold k2p;by_cases h:Whole s
 case neg=>rw[q0n h,q0n h,q0n (show ¬((sta0,(2:Int)).2=0) by decide)]
 rw[q0z h,q0z h,q0z rfl];have his:∀k:Nat,k<s.2.2.2.length->(fun y1:Int×Unit=>h0h (n+9) y1.1 s) ((k:Int),())=some (decide (IsR s k)):=by
  intro k hk;obtain ⟨y,hy⟩:=i2c hk;have hm:=(hw.at hy).2;show h0h (n+9) (k:Int) s=_;rw[r1r,a1z (n+1) hy hm,obs];by_cases h1:LvX s y
  ·rw[q2g h1,q1z (fun q:IsR s k=>by obtain ⟨z,z1,z2⟩:=q;rw[hy] at z1;cases z1;exact z2 h1)];rfl
  ·rw[q1z h1,q2g (show IsR s k from ⟨y,hy,h1⟩)];rfl
 rcases c1r (n+8) s (fun y1:Int×Unit=>h0h (n+9) y1.1 s) (fun k=>decide (IsR s k)) (by have:=h.len;omega) his with ⟨m,q1,q2,q3,q4⟩ | ⟨q1,q2⟩
 ·rw[show (fun y1:Int×Unit=>h0h (n+9) y1.1 (s,(0:Int)).1)=fun y1:Int×Unit=>h0h (n+9) y1.1 s from rfl,q4,obs,tfd,q0n (by omega),k2l (of_decide_eq_true q2) (fun j hj=>of_decide_eq_false (q3 j hj))]
 ·rw[show (fun y1:Int×Unit=>h0h (n+9) y1.1 (s,(0:Int)).1)=fun y1:Int×Unit=>h0h (n+9) y1.1 s from rfl,q2,obs,tfd,q0z (by decide),room_no (fun j hj=>of_decide_eq_false (q1 j hj))]
theorem lvAt_el {s:Sta}{k:Nat}{y:Ser}(h:s.2.2.2[k]? = some y):decide (LvX s y)=lvAt s k:=(r2e h).symm
theorem j2n (n:Nat){s:Sta}(hw:StaW s)(hL:s.2.2.2.length<=1000000):∀(d k f:Nat) (out:List Int),k+d=s.2.2.2.length->d<f->out.length<=k ->
  k0q (n+7) f (s,out,(s.2.2.2.length:Int),(k:Int),())=some (.inl (out++((List.range' k d).filter (lvAt s)).map Int.ofNat,())):=by
 intro d;induction d with
 | zero =>
  intro k f out hk hf ho;obtain ⟨f,rfl⟩:∃g,f=g+1:=⟨f-1,by omega⟩;rw[y0f,q1z (by omega),tff];simp
 | succ d ih =>
  intro k f out hk hf ho;obtain ⟨f,rfl⟩:∃g,f=g+1:=⟨f-1,by omega⟩;obtain ⟨y,hy⟩:=i2c (l:=s.2.2.2) (k:=k) (by omega);rw[y0f,q2g (by omega),tft,a1z n hy (hw.at hy).2,obs,lvAt_el hy,w64 (by omega) (by omega),show ((k:Int)+1)=((k+1:Nat):Int) by omega,List.range'_succ];cases h:lvAt s k
  ·rw[tff,ih (k+1) f out (by omega) (by omega) (by omega),List.filter_cons_of_neg (by simp[h])]
  ·rw[tft,q2g (by omega),tft,ih (k+1) f _ (by omega) (by omega) (by simp;omega),List.filter_cons_of_pos h];simp
theorem r1q (n:Nat){s:Sta}(hw:StaW s):a1y (n+8) s=some (e2c s):=by
 rw[b2z,j1q (n+3) s,obs,tfn,tfd];unfold e2c;by_cases h:Whole s
 case neg=>rw[q0n h,q0n h,q0n (show ¬((sta0,(2:Int)).2=0) by decide)]
 rw[q0z h,q0z h,q0z rfl];have hL:=h.len;have e:k0q (n+7) a0b (s,([]:List Int),(s.2.2.2.length:Int),(0:Int),())=_:=j2n n hw (by omega) s.2.2.2.length 0 a0b [] (by omega) (by unfold a0b;omega) (by simp);simp only;rw[e,obs,a0r];unfold j0y;rw[List.range_eq_range'];rfl
theorem r2f {s:Sta}{k:Nat}(h:lvAt s k=true):k<s.2.2.2.length:=by
 unfold lvAt at h;cases hx:s.2.2.2[k]? with
 | none=>rw[hx] at h;cases h
 | some x=>exact (q3o.1 hx).1
noncomputable def markV (s:Sta):Int:=if Whole s/\y0b s.2.1 then mk s else 0
theorem stt_mark (n:Nat)(s:Sta):r1s (n+5) s=some (markV s):=by
 rw[b2y,j1q n s,obs,tfn,tfd,c2c (n+3),obs,tfn,tfd];unfold markV;by_cases h:Whole s
 case neg=>rw[q0n h,q0n (show ¬((sta0,(2:Int)).2=0) by decide),q0n (fun k=>h k.1)]
 rw[q0z h,q0z rfl];by_cases h1:y0b s.2.1
 case neg=>rw[q0n h1,q0n (fun k=>h1 k.2)]
 rw[q0z h1,q0z ⟨h,h1⟩,p2b (n+3) h1 h.1.rng.w0];rfl
noncomputable def q2y (c:Conf):Sta×Int:=if OkC c then (if (sizR c).2=0 then ((c,(0,(-1,List.replicate c.2.2.2.1.toNat ser0))),0) else (sta0,(sizR c).2)) else (sta0,2)
theorem cap_test {c:Conf}(h:OkC c):((decide ((0:Int)<=c.2.2.2.1))&&((decide (c.2.2.2.1<=c.2.2.2.1))&&(decide ((c.2.2.2.1*(264:Int))<=(140737488355328:Int)))))=true:=by
 have:=h.rng.cap;rw[q2g (by omega),q2g (by omega),q2g (by omega)];rfl
theorem sta0_w:StaW sta0:=⟨by simp[sta0],by simp[sta0]⟩
theorem p2k:SerW ser0:=by
 refine ⟨?_,?_,⟨?_,?_,?_⟩,z0h⟩
 ·unfold I64;simp[ser0]
 ·intro e he;simp[ser0,r0w] at he
 ·intro x hx;simp[ser0] at hx
 ·intro x hx;simp[ser0] at hx
 ·intro x hx;simp[ser0] at hx
theorem t1w {α:Type}{m:Nat}(hm:1<=m)(f:α->List UInt8)(l:List α)(rest:List (List UInt8)):z0v l.length m (cutB m f l++rest)=(cutB m f l).flatten/\(cutB m f l++rest).drop (nsec l.length m)=rest:=by
 have h:(cutB m f l).length=nsec l.length m:=h0x hm f l;exact ⟨by unfold z0v;rw[List.take_left' h],List.drop_left' h⟩
theorem p2x {c:Conf}{r:Rw}(h:RawOk r c.1)(hw:RawW r)(rest:List (List UInt8)) :
  d2b c r.1 r.2.1 (r.2.2.length:Int) (z0v c.1.toNat 16 (cutB 16 i0t (k0m r c.1)++rest))=r:=by
 have h0:=h.l0;have h1:=h.len;have h2:=h.m0;have hrl:=(b1p h).1;have hj:=(t1w (m:=16) (by omega) i0t (k0m r c.1) rest).1;rw[hrl] at hj;obtain ⟨z,hz⟩:=z1z (m:=16) (w:=32) (by omega) (by omega) (f:=i0t) _ (k0m r c.1) (q3c _) (fun x _=>s0a x);unfold d2b;rw[q0n (by omega),q0n (by omega),q3g,hj,hz];obtain ⟨a,b,L⟩:=r;dsimp only at *
 congr 2;apply q4u;intro i;rw[q4c];rcases Nat.lt_or_ge i L.length with k | k
 ·have hi:L[i]? = some L[i]:=q2z k;rw[List.getElem?_range k,hi];have hg:=p2r h (i:=i) hi;dsimp only at hg;obtain ⟨t,ht⟩:=s2t (w:=32) (f:=i0t) (l:=k0m (a,b,L) c.1) (fun y _=>s0a y) hg z;have e:32*((a.toNat % c.1.toNat+i) % c.1.toNat)=(a.toNat+i) % c.1.toNat*32:=by rw[Nat.mod_add_mod,Nat.mul_comm]
  show some (evAt _ _ _ _)=_;unfold evAt;rw[e,ht,t2e (hw _ (List.getElem_mem k))]
 ·rw[q3d (by simpa using k),q3d k];rfl
theorem d1j {l:List Slo}{N:Int}(hN:(l.length:Int)=N)(hw:∀s∈l,SloW s)(rest:List (List UInt8)):f1t N (cutB 4 c0p l++rest)=l/\(cutB 4 c0p l++rest).drop (nsec N.toNat 4)=rest:=by
 subst hN;rw[q3g];obtain ⟨hj,hd⟩:=t1w (m:=4) (by omega) c0p l rest;refine ⟨?_,hd⟩;obtain ⟨z,hz⟩:=z1z (m:=4) (w:=128) (by omega) (by omega) (f:=c0p) _ l (q3c _) (fun x _=>g0e x);unfold f1t;rw[q3g,hj,hz];apply q4u;intro i;rw[q4c];rcases Nat.lt_or_ge i l.length with k | k
 ·have hi:l[i]? = some l[i]:=q2z k;rw[List.getElem?_range k,hi];obtain ⟨t,ht⟩:=s2t (w:=128) (f:=c0p) (l:=l) (fun y _=>g0e y) hi z;show some (slAt _ _)=_;unfold slAt;rw[Nat.mul_comm,ht,g2i (hw _ (List.getElem_mem k))]
 ·rw[q3d (by simpa using k),q3d k];rfl
theorem e2s {x:Ser}(hl:(labB x.1).length<=320):∃z,
  g0y x=toB (beI 2 ((labB x.1).length:Int))++(padB (labB x.1) 320++(n8B x.2.1++(n8B x.2.2.1.1++(n8B x.2.2.1.2.1++(toB (beI 2 (x.2.2.1.2.2.length:Int))++(c0p x.2.2.2.2++z))))))
  /\ (g0y x).drop 2=padB (labB x.1) 320++(n8B x.2.1++(n8B x.2.2.1.1++(n8B x.2.2.1.2.1++(toB (beI 2 (x.2.2.1.2.2.length:Int))++(c0p x.2.2.2.2++z)))))
  /\ (g0y x).drop 322=n8B x.2.1++(n8B x.2.2.1.1++(n8B x.2.2.1.2.1++(toB (beI 2 (x.2.2.1.2.2.length:Int))++(c0p x.2.2.2.2++z))))
  /\ (g0y x).drop 330=n8B x.2.2.1.1++(n8B x.2.2.1.2.1++(toB (beI 2 (x.2.2.1.2.2.length:Int))++(c0p x.2.2.2.2++z)))
  /\ (g0y x).drop 338=n8B x.2.2.1.2.1++(toB (beI 2 (x.2.2.1.2.2.length:Int))++(c0p x.2.2.2.2++z))
  /\ (g0y x).drop 346=toB (beI 2 (x.2.2.1.2.2.length:Int))++(c0p x.2.2.2.2++z)
  /\ (g0y x).drop 348=c0p x.2.2.2.2++z:=by
 have e0:g0y x=toB (beI 2 ((labB x.1).length:Int))++(padB (labB x.1) 320++(n8B x.2.1++(n8B x.2.2.1.1++(n8B x.2.2.1.2.1++(toB (beI 2 (x.2.2.1.2.2.length:Int))++(c0p x.2.2.2.2++List.replicate (512-(r0x x).length) 0)))))):=by
  rw[g0y,padB]
  conv=>lhs;arg 1;unfold r0x
  simp only[q3e]
 have p1:(padB (labB x.1) 320).length=320:=by rw[p0w];omega
 refine ⟨_,e0,?_⟩;have d2:=List.drop_left' (l₂:=padB (labB x.1) 320++(n8B x.2.1++(n8B x.2.2.1.1++(n8B x.2.2.1.2.1++(toB (beI 2 (x.2.2.1.2.2.length:Int))++(c0p x.2.2.2.2++List.replicate (512-(r0x x).length) 0)))))) (v1s ((labB x.1).length:Int));rw[<-e0] at d2;have d322:(g0y x).drop (2+320)=n8B x.2.1++(n8B x.2.2.1.1++(n8B x.2.2.1.2.1++(toB (beI 2 (x.2.2.1.2.2.length:Int))++(c0p x.2.2.2.2++List.replicate (512-(r0x x).length) 0)))):=by rw[<-q4d,d2];exact List.drop_left' p1
 have d330:(g0y x).drop (2+320+8)=n8B x.2.2.1.1++(n8B x.2.2.1.2.1++(toB (beI 2 (x.2.2.1.2.2.length:Int))++(c0p x.2.2.2.2++List.replicate (512-(r0x x).length) 0))):=by rw[<-q4d,d322];exact List.drop_left' (z0p _)
 have d338:(g0y x).drop (2+320+8+8)=n8B x.2.2.1.2.1++(toB (beI 2 (x.2.2.1.2.2.length:Int))++(c0p x.2.2.2.2++List.replicate (512-(r0x x).length) 0)):=by rw[<-q4d,d330];exact List.drop_left' (z0p _)
 have d346:(g0y x).drop (2+320+8+8+8)=toB (beI 2 (x.2.2.1.2.2.length:Int))++(c0p x.2.2.2.2++List.replicate (512-(r0x x).length) 0):=by rw[<-q4d,d338];exact List.drop_left' (z0p _)
 have d348:(g0y x).drop (2+320+8+8+8+2)=c0p x.2.2.2.2++List.replicate (512-(r0x x).length) 0:=by rw[<-q4d,d346];exact List.drop_left' (v1s _)
 exact ⟨d2,d322,d330,d338,d346,d348⟩
theorem q1j:zsec.length=512:=q3z ..
theorem prt16 {x:Int}(h:0<=x):prt x 16=((nsec x.toNat 16:Nat):Int):=by unfold prt nsec;omega
theorem prt4 {x:Int}(h:0<=x):prt x 4=((nsec x.toNat 4:Nat):Int):=by unfold prt nsec;omega
theorem h2c {c:Conf}(hc:Rng c):(plc c).toNat=need c+1:=by
 have hr:=hc.raw;have h0:=hc.n0;have h1:=hc.n1;have h2:=hc.n2;unfold plc need;rw[prt16 (by omega),prt4 (by omega),prt4 (by omega),prt4 (by omega)];omega
theorem x1h (n:Nat){c:Conf}{x:Ser}(hc:OkC c)(hw:SerW x)(h:x=ser0\/SerOk c x):∃q,e0m (n+9) (c,j0x c x)=some (x,q):=by
 have hp:=l0z hc.rng;have hn:=h2c hc.rng;by_cases h0:x=ser0
 ·unfold j0x;rw[q0z h0,hn,List.replicate_succ,h0];have hz:v2 zsec=0:=by decide +kernel
  exact ⟨_,c2l n c q1j (fun s hs=>by rw[(List.mem_replicate.1 hs).2,q1j]) (by rw[q3z];omega) (.inl hz)⟩
 have hs:SerOk c x:=h.resolve_left h0;have hlab:=t1v hs.lab;have hln:=hs.raw.len;have hm:=hs.raw.m1;have hrd:=b1p hs.raw;obtain ⟨z,e0,d2,d322,d330,d338,d346,d348⟩:=e2s hlab;have hlen:1<=(labB x.1).length:=by
  unfold labB;rw[q3b,d1h (by have:=hs.lab.n1;omega)];omega
 have hv:v2 (g0y x)=((labB x.1).length:Int):=by rw[e0];exact v2_of (by omega) (by omega) _
 have hlbl:((g0y x).drop 2).take (v2 (g0y x)).toNat=labB x.1:=by
  rw[d2,hv,q3g,padB,q3e,List.take_left]
 unfold j0x;rw[q0n h0];have c1:=h0x (m:=16) (by omega) i0t (k0m x.2.2.1 c.1);have c2:=h0x (m:=4) (by omega) c0p x.2.2.2.1.1;have c3:=h0x (m:=4) (by omega) c0p x.2.2.2.1.2.1;have c4:=h0x (m:=4) (by omega) c0p x.2.2.2.1.2.2;have f0:=hs.fold.n0;have f1:=hs.fold.n1;have f2:=hs.fold.n2;have ht:=b2h hs;have hT:Secs (cutB 16 i0t (k0m x.2.2.1 c.1)++(cutB 4 c0p x.2.2.2.1.1++(cutB 4 c0p x.2.2.2.1.2.1++cutB 4 c0p x.2.2.2.1.2.2))):=by
  intro s hs;rcases q3m.1 hs with q | hs
  ·exact q0e (m:=16) (w:=32) (by omega) (by omega) (fun y _=>s0a y) s q
  rcases q3m.1 hs with q | hs
  ·exact q0e (m:=4) (w:=128) (by omega) (by omega) (fun y _=>g0e y) s q
  rcases q3m.1 hs with q | q
  ·exact q0e (m:=4) (w:=128) (by omega) (by omega) (fun y _=>g0e y) s q
  ·exact q0e (m:=4) (w:=128) (by omega) (by omega) (fun y _=>g0e y) s q
 have hL:(cutB 16 i0t (k0m x.2.2.1 c.1)++(cutB 4 c0p x.2.2.2.1.1++(cutB 4 c0p x.2.2.2.1.2.1++cutB 4 c0p x.2.2.2.1.2.2))).length=need c:=by
  simp only[q3b,c1,c2,c3,c4,hrd.1];unfold need nsec;rw[<-f0,<-f1,<-f2];simp only[q3g];omega
 obtain ⟨q,hq⟩:=k2g n hc.rng (p1w hlab) hT (by omega) (by omega) (by omega) (by omega) (ls:=x.1) (e:=0) (by rw[hlbl];exact t1r n hs.lab);refine ⟨q,?_⟩;rw[hq];have t1:=p2x hs.raw hw.raw (cutB 4 c0p x.2.2.2.1.1++(cutB 4 c0p x.2.2.2.1.2.1++cutB 4 c0p x.2.2.2.1.2.2));have j1:=(t1w (m:=16) (by omega) i0t (k0m x.2.2.1 c.1) (cutB 4 c0p x.2.2.2.1.1++(cutB 4 c0p x.2.2.2.1.2.1++cutB 4 c0p x.2.2.2.1.2.2))).2;rw[hrd.1] at j1;have t2:=d1j f0 hw.trs.a (cutB 4 c0p x.2.2.2.1.2.1++cutB 4 c0p x.2.2.2.1.2.2)
 have t3:=d1j f1 hw.trs.b (cutB 4 c0p x.2.2.2.1.2.2);have t4:=d1j f2 hw.trs.c [];rw[q3v] at t4;have k0:I64 x.2.2.1.1:=by have:=hs.raw.l0;have:=hs.raw.l1;unfold I64;omega
 have k1:I64 x.2.2.1.2.1:=by
  by_cases hz:x.2.2.1.1=0
  ·rw[hs.raw.z hz];unfold I64;omega
  ·obtain ⟨p1,p2,p3⟩:=hs.raw.p hz;have m0:=hs.raw.m0;cases hL:x.2.2.1.2.2 with
   | nil=>rw[hL] at p1;simp at p1;omega
   | cons e L =>
    have:=p3 e (by rw[hL];rfl);have he:=(hw.raw e (by rw[hL];simp)).t;unfold I64 at he ⊢;omega
 have o:=g2i hw.opn [];rw[q3v] at o;unfold serV;rw[d322,d330,d338,d346,d348,o2d,o2d,o2d,v2_of (by omega) (by omega),l1c hw.last,l1c k0,l1c k1,t1,j1,t2.1,t2.2,t3.1,t3.2,t4.1,List.take_left' (g0e _),o]
theorem k1i {c:Conf}{x:Ser}(hc:Rng c)(h:x=ser0\/SerOk c x):Secs (j0x c x)/\(j0x c x).length=(plc c).toNat:=by
 have hn:=h2c hc;unfold j0x;by_cases h0:x=ser0
 ·rw[q0z h0];exact ⟨fun s hs=>by rw[(List.mem_replicate.1 hs).2,q1j],q3z ..⟩
 have hs:SerOk c x:=h.resolve_left h0;rw[q0n h0];have c1:=h0x (m:=16) (by omega) i0t (k0m x.2.2.1 c.1);have c2:=h0x (m:=4) (by omega) c0p x.2.2.2.1.1;have c3:=h0x (m:=4) (by omega) c0p x.2.2.2.1.2.1;have c4:=h0x (m:=4) (by omega) c0p x.2.2.2.1.2.2;have f0:=hs.fold.n0;have f1:=hs.fold.n1;have f2:=hs.fold.n2;have hrd:=b1p hs.raw;constructor
 ·intro s hs';rcases q3k.1 hs' with q | hs'
  ·rw[q];exact p1w (t1v hs.lab)
  rcases q3m.1 hs' with q | hs'
  ·exact q0e (m:=16) (w:=32) (by omega) (by omega) (fun y _=>s0a y) s q
  rcases q3m.1 hs' with q | hs'
  ·exact q0e (m:=4) (w:=128) (by omega) (by omega) (fun y _=>g0e y) s q
  rcases q3m.1 hs' with q | q
  ·exact q0e (m:=4) (w:=128) (by omega) (by omega) (fun y _=>g0e y) s q
  ·exact q0e (m:=4) (w:=128) (by omega) (by omega) (fun y _=>g0e y) s q
 ·rw[hn,q3i];simp only[q3b,c1,c2,c3,c4,hrd.1];unfold need nsec;rw[<-f0,<-f1,<-f2];simp only[q3g];omega
theorem whole_l (n:Nat){g:(List UInt8×Unit)->Option Bool}(hg:∀s,g (s,())=some (!(decide ((s.length:Int)=512))))(l:List (List UInt8))(hl:l.length<=1000000):∀(rest pre:List (List UInt8)) (f:Nat) (i:Int),l=pre++rest->i=pre.length->rest.length<f ->
  (Secs rest/\d0a n f (l,g,(l.length:Int),i,())=some (.inl ()))\/(¬Secs rest/\∃k,0<=k/\d0a n f (l,g,(l.length:Int),i,())=some (.inr k)):=by
 intro rest;induction rest with
 | nil =>
  intro pre f i h hi hf;obtain ⟨f,rfl⟩:=t0x hf;rw[i0p,tfd,q0n (idxe h hi rfl)];exact .inl ⟨fun s hs=>by simp at hs,rfl⟩
 | cons a rest ih =>
  intro pre f i h hi hf;obtain ⟨f,rfl⟩:=t0x hf;have hlen:=congrArg List.length h;simp at hlen hf;rw[i0p,tfd,q0z (idx h hi rfl),c0c h hi,obs,hg,obs,tfn,tfd];by_cases ha:(a.length:Int)=512
  ·rw[q0z ha,w64 (by omega) (by omega)];rcases ih (pre++[a]) f (i+1) (idxl h) (idxs hi) (by omega) with ⟨q1,q2⟩ | ⟨q1,k,q2,q3⟩
   ·refine .inl ⟨fun s hs => ?_,q2⟩;rcases q3k.1 hs with rfl | hs
    ·omega
    ·exact q1 s hs
   ·exact .inr ⟨fun q=>q1 fun s hs=>q s (q3h _ hs),k,q2,q3⟩
  ·rw[q0n ha];exact .inr ⟨fun q=>ha (by have:=q a List.mem_cons_self;omega),i,by omega,rfl⟩
theorem n2y (n:Nat)(l:List (List UInt8))(hl:l.length<=1000000):z0w (n+4) l=some (!(decide (l=[])) && @decide (Secs l) (Classical.propDecidable _)):=by
 rw[n1j,tfd];by_cases h0:l=[]
 ·subst h0;rfl
 have hp:0<(l.length:Int):=by
  cases l with
  | nil=>exact absurd rfl h0
  | cons a t=>simp
 rw[q0z hp,q0r,u0r,q1z h0];have hg:∀s:List UInt8,(fun y0:List UInt8×Unit=>n0i (n+3) y0.1) (s,())=some (!(decide ((s.length:Int)=512))):=fun s=>h1q _ s
 rcases whole_l (n+1) (g:=fun y0=>n0i (n+3) y0.1) hg l hl l [] a0b 0 rfl rfl (by unfold a0b;omega) with ⟨q1,q2⟩ | ⟨q1,k,q2,q3⟩
 ·rw[q2,@decide_eq_true _ (Classical.propDecidable _) q1];rfl
 ·rw[q3,@decide_eq_false _ (Classical.propDecidable _) q1,obs,l0w,obs,obs,q2g q2];rfl
theorem strs_l (n:Nat)(a b:List (List UInt8))(hL:a.length<=1000000000000):∀(ra rb pa pb:List (List UInt8)) (f:Nat) (i:Int),a=pa++ra->b=pb++rb->pa.length=pb.length->ra.length=rb.length->i=pa.length->ra.length<f ->
  g0l n f (a,b,(a.length:Int),i,())=some (if ra=rb then .inl () else .inr false):=by
 intro ra;induction ra with
 | nil =>
  intro rb pa pb f ix ha hb hp hr hi hf;obtain ⟨f,rfl⟩:=t0x hf;have e:rb=[]:=List.length_eq_zero_iff.1 (by simpa using hr.symm);subst e;rw[l0v,q1z (idxe ha hi rfl),tff,q0z rfl]
 | cons x ra ih =>
  intro rb pa pb f ix ha hb hp hr hi hf;obtain ⟨f,rfl⟩:=t0x hf;cases rb with
  | nil=>simp at hr
  | cons y rb =>
   have hlen:=congrArg List.length ha;simp at hlen hf;rw[l0v,q2g (idx ha hi rfl),tft,c0c ha hi,c0c hb (by omega)];simp only[obs];rw[w64 (x:=ix+1) (by omega) (by omega),tfn];by_cases h:x=y
   ·subst h;rw[beq_self_eq_true,tft,ih rb (pa++[x]) (pb++[x]) f (ix+1) (idxl ha) (idxl hb) (by simp;omega) (by simpa using hr) (idxs hi) (by omega)];simp
   ·rw[q0n (by simp[h]),beq_eq_false_iff_ne.2 h,tff]
theorem strs_val (n:Nat)(a b:List (List UInt8))(hL:a.length<=1000000000000):j0s (n+1) a b=some (decide (a=b)):=by
 rw[b1i,tfn,tfd];by_cases h:a.length=b.length
 ·rw[q0z (by omega),strs_l n a b hL a b [] [] a0b 0 rfl rfl rfl h rfl (by unfold a0b;omega),obs];by_cases k:a=b
  ·rw[q0z k,q2g k];rfl
  ·rw[q0n k,q1z k];rfl
 ·rw[q0n (by omega),q1z (fun k=>h (by rw[k]))]
theorem l1q {α β:Type}{m:Nat}(hm:1<=m)(g:α->List β):∀l:List α,(∀x∈l,(g x).length=m)->d0r (l.flatMap g).length m (l.flatMap g)=l.map g
 | [],_=>rfl
 | x::l,h=>by
  have hx:=h x List.mem_cons_self;have ih:=l1q hm g l fun y hy=>h y (q3h _ hy)
  rw[q4h,q4i,<-ih];cases hg:g x with
  | nil=>rw[hg] at hx;simp at hx;omega
  | cons y t =>
   rw[hg] at hx;have e:(y::t++l.flatMap g).length=(t++l.flatMap g).length+1:=rfl;rw[e,q4w,g1q,<-q4w,List.take_left' hx,List.drop_left' hx,g1p hm (by simp)]
theorem x1k (n:Nat){c:Conf}(hc:OkC c)(l:List (List UInt8))(z:Sta):∀(xs:List Ser) (s:Sta),(∀x∈xs,SerW x/\(x=ser0\/SerOk c x))->s.2.2.2.length+xs.length<=10000000 ->
  j0i (n+9) ((xs.map (j0x c)).map fun p=>(p,())) (l,z,c,s,())=some (l,z,c,(s.1,(s.2.1,(s.2.2.1,s.2.2.2++xs))),())
 | [],s,_,_=>by rw[q3v];exact h1s _ _
 | x::xs,s,h,hl=>by
  obtain ⟨h1,h2⟩:=h x List.mem_cons_self;obtain ⟨q,hq⟩:=x1h n hc h1 h2;simp only[q3i] at hl;rw[q4i,q4i,e1w,hq,obs,tfd,q0z (by omega),obs];rw[x1k n hc l z xs _ (fun y hy=>h y (q3h _ hy)) (by simp;omega)];simp
theorem p1u {α β:Type}{m:Nat}{g:α->List β}:∀l:List α,(∀x∈l,(g x).length=m)->(l.flatMap g).length=l.length*m
 | [],_=>by simp
 | x::l,h=>by
  rw[q4h,q3b,h x List.mem_cons_self,p1u l fun y hy=>h y (q3h _ hy),q3i,q4r];omega
theorem b2t (s:Sta):∃z,v0e s=(k1v++toB (bts s.1))++(n8B s.2.1++(n8B (s.2.2.1+1)++z)):=by
 refine ⟨List.replicate (512-(j1m s).length) 0,?_⟩;unfold v0e padB
 conv=>lhs;arg 1;unfold j1m
 simp only[q3e]
theorem d1d {s:Sta}(hs:StaOk s):Secs (allB s)/\(allB s).length=1+s.2.2.2.length*(plc s.1).toNat/\∀x∈s.2.2.2,(j0x s.1 x).length=(plc s.1).toNat:=by
 have hr:∀x∈s.2.2.2,x=ser0\/SerOk s.1 x:=fun x hx=>by
  obtain ⟨i,hi⟩:=List.getElem?_of_mem hx;exact k1c (hs.right i x hi)
 have hp:∀x∈s.2.2.2,(j0x s.1 x).length=(plc s.1).toNat:=fun x hx=>(k1i hs.whole.1.rng (hr x hx)).2
 refine ⟨fun y hy => ?_,?_,hp⟩
 ·rcases q3k.1 hy with rfl | hy
  ·exact j2l s
  ·obtain ⟨x,hx,hxy⟩:=List.mem_flatMap.1 hy;exact (k1i hs.whole.1.rng (hr x hx)).1 y hxy
 ·unfold allB;rw[q3i,p1u _ hp];omega
open Classical in
theorem t1y (n:Nat){l:List (List UInt8)}(hl:l.length<=1000000):i1n (n+17) l =
  if h:∃a t,l=a::t/\Secs l then
   (let a:=h.choose
    let S:=(a.take 64).drop 8
    @ite _ (OkC (cfg S)/\Full S/\(l.length:Int)-1=(cfg S).2.2.2.1*plc (cfg S)) (Classical.propDecidable _)
     (a0a (j0i (n+16) ((d0r (l.length-1) (plc (cfg S)).toNat (l.drop 1)).map fun p=>(p,())) (l,sta0,cfg S,(cfg S,(wrap .i64 (v8 (a.drop 64)),(wrap .i64 (wrap .i64 (v8 (a.drop 72))-1),[]))),())) fun r10 =>
      a0a (k0a (n+16) r10.2.2.2.1) fun r11=>tif (!(decide (r11.2=(0:Int)))) (some (sta0,4)) (a0a (j0s (n+16) r10.1 r11.1) fun r12=>tif (!r12) (some (sta0,4)) (some (r10.2.2.2.1,0))))
     (some (sta0,4)))
  else some (sta0,4):=by
 rw[e2h,n2y (n+12) l hl,obs,tfn];by_cases h:∃a t,l=a::t/\Secs l
 case neg =>
  rw[dif_neg h];have:(!(decide (l=[])) && @decide (Secs l) (Classical.propDecidable _))=false:=by
   cases l with
   | nil=>rfl
   | cons a t=>rw[@decide_eq_false _ (Classical.propDecidable _) (fun q=>h ⟨a,t,rfl,q⟩),Bool.and_false]
  rw[this,tff];rfl
 rw[dif_pos h];obtain ⟨t,hlt,hS⟩:=h.choose_spec;generalize h.choose=a at hlt ⊢;have hne:l≠[]:=by rw[hlt];simp
 have ha:a.length=512:=hS a (by rw[hlt];simp);have hat:at? l (0:Int)=some a:=by rw[hlt];rfl
 have hlen:1<=l.length:=by rw[hlt];simp
 rw[q1z hne,@decide_eq_true _ (Classical.propDecidable _) hS,Bool.not_false,Bool.and_self,tft,hat,obs,
  show (true&&decide ((64:Int)<=((a.length:Nat):Int)))=true by rw[Bool.true_and,q3a];omega,tft]
 dsimp only;by_cases hr:OkC (cfg ((a.take 64).drop 8))/\Full ((a.take 64).drop 8)
 case neg =>
  rw[read_no (n+12) hr,obs,q0n (fun q=>hr ⟨q.1,q.2.1⟩)];rfl
 rw[read_yes (n+12) hr.1 hr.2,obs];dsimp only;have hp:=l0z hr.1.rng;have hcap:=hr.1.rng.cap;have m0:0<=(cfg ((a.take 64).drop 8)).2.2.2.1*plc (cfg ((a.take 64).drop 8)):=Int.mul_nonneg (by omega) (by omega);have m1:(cfg ((a.take 64).drop 8)).2.2.2.1*plc (cfg ((a.take 64).drop 8))<=65536*20000:=Int.mul_le_mul hcap.2 hp.2 (by omega) (by omega);rw[q2g (rfl:(0:Int)=0),q3s,tff,a2w (n+12) hr.1,obs,w64 (x:=((l.length:Nat):Int)-1) (by omega) (by omega),w64 (x:=(cfg ((a.take 64).drop 8)).2.2.2.1*plc (cfg ((a.take 64).drop 8))) (by omega) (by omega),tfn,tfd]
 by_cases hc:(l.length:Int)-1=(cfg ((a.take 64).drop 8)).2.2.2.1*plc (cfg ((a.take 64).drop 8))
 case neg=>rw[q0n hc,q0n (fun q=>hc q.2.2)];rfl
 rw[q0z hc,q0z ⟨hr.1,hr.2,hc⟩,obs,tfd,q0z (by omega),List.take_length,g0a,obs,a0s (n+13) _ 8 8 rfl (by omega) (by omega),rd8 (by rw[q3j];omega),obs];dsimp only;rw[q4d,show 64+8=72 from rfl,a0s (n+13) _ 8 8 rfl (by omega) (by omega),rd8 (by rw[q3j];omega),obs,tfd,q0z hlen,obs,List.take_length,b1k];have hpl:plc (cfg ((a.take 64).drop 8))=(((plc (cfg ((a.take 64).drop 8))).toNat:Nat):Int):=by omega
 have hch:=l1r (l.drop 1) (plc (cfg ((a.take 64).drop 8))).toNat (by omega) (by rw[q3j];omega);rw[<-hpl,q3j] at hch;rw[hch,obs];rfl
theorem n1n (n:Nat){s:Sta}(hw:StaW s)(hs:StaOk s)(hl:(allB s).length<=1000000):i1n (n+17) (allB s)=some (s,0):=by
 obtain ⟨h1,h2,h3⟩:=d1d hs;have hc:=hs.whole.1;have hcl:=hs.whole.2;have hp:=l0z hc.rng;have hk:=hs.clock;have hex:∃a t,allB s=a::t/\Secs (allB s):=⟨_,_,rfl,h1⟩;rw[t1y n hl,dif_pos hex];have hch:hex.choose=v0e s:=by
  obtain ⟨t,ht,_⟩:=hex.choose_spec;unfold allB at ht;injection ht with q;exact q.symm
 rw[hch];obtain ⟨z,hz⟩:=b2t s;have l8:k1v.length=8:=rfl;have l56:=z0e s.1;have l64:(k1v++toB (bts s.1)).length=64:=by rw[q3b,l8,l56]
 have e1:((v0e s).take 64).drop 8=toB (bts s.1):=by rw[hz,List.take_left' l64,List.drop_left' l8]
 have e2:(v0e s).drop 64=n8B s.2.1++(n8B (s.2.2.1+1)++z):=by rw[hz,List.drop_left' l64]
 have e3:(v0e s).drop 72=n8B (s.2.2.1+1)++z:=by
  rw[show 72=64+8 from rfl,<-q4d,e2,List.drop_left' (z0p _)]
 obtain ⟨c1,c2⟩:=u2m hc.rng;dsimp only
 rw [e1, c1, q0z ⟨hc, c2, by rw [h2, <- hcl]; have : plc s.1 = (((plc s.1).toNat : Nat) : Int) :=(by omega);rw[Int.natCast_add,Int.natCast_mul,<-this];omega⟩,e2,e3,o2d,o2d]
 have i1:wrap .i64 (wrap .u64 s.2.1)=s.2.1:=by
  obtain ⟨k1,_⟩:=hk;exact l1c (by unfold y0b at k1;unfold I64;omega)
 have i2:wrap .i64 (wrap .i64 (wrap .u64 (s.2.2.1+1))-1)=s.2.2.1:=by
  obtain ⟨_,k,_⟩:=hk;rcases k with k | ⟨k1,k2⟩
  ·rw[k];decide
  ·rw[l1c (by unfold I64;omega),w64 (by omega) (by omega)];omega
 rw[i1,i2];have hd:(allB s).drop 1=s.2.2.2.flatMap (j0x s.1):=rfl;have hdl:(allB s).length-1=(s.2.2.2.flatMap (j0x s.1)).length:=rfl;rw[hd,hdl,l1q (by omega) (j0x s.1) s.2.2.2 h3];have h11:=x1k (n+7) hc (allB s) sta0 s.2.2.2 (s.1,(s.2.1,(s.2.2.1,[]))) (fun x hx=>by
  obtain ⟨i,hi⟩:=List.getElem?_of_mem hx
  exact ⟨(hw.ser x hx).1,k1c (hs.right i x hi)⟩) (by have:=hs.whole.len;dsimp only;rw[List.length_nil];omega)
 rw[h11,obs];dsimp only;rw[q3p]
 change a0a (k0a (n+16) s) _=_
 rw[v1u n hw,q0z hs,obs];dsimp only;rw[q2g (rfl:(0:Int)=0),q3s,tff,strs_val (n+15) _ _ (by omega),q2g rfl,obs];rfl
theorem k0z {l:List Slo}{a b:Int}(h:b0j l a)(hab:a<=b):b0j l b:=fun s hs hc=>by
 have:=h s hs hc;omega
theorem d2t {l:List Slo}{b i:Int}{x:Cel}(h:b0j l b)(hi:i<b):b0j (tput l i x) b:=by
 intro s hs hc;rcases List.mem_or_eq_of_mem_set hs with k | k
 ·exact h s k hc
 ·rw[k];exact hi
theorem u1x {a b w:Int}(hw:1<=w)(hab:a<=b)(h:a / w≠b / w):a / w<b / w:=by
 have:a / w<=b / w:=Int.ediv_le_ediv (by omega) hab;omega
theorem nb_upw {c:Conf}(hc:OkC c){s:Trs}{T U:Int}(hTU:T<=U)(h0:b0j s.1 (U / c.2.1.1))(h1:b0j s.2.1 (T / c.2.1.2.1))(h2:b0j s.2.2 (T / c.2.1.2.2)) :
  b0j (upw c s (T / c.2.1.1) (U / c.2.1.1)).1 (U / c.2.1.1)/\b0j (upw c s (T / c.2.1.1) (U / c.2.1.1)).2.1 (U / c.2.1.2.1)/\b0j (upw c s (T / c.2.1.1) (U / c.2.1.1)).2.2 (U / c.2.1.2.2):=by
 have hr:=hc.rng;have q1:=(edvm (t:=T) hr.w0.1 hr.w1.1 hc.m1).1;have q1u:=(edvm (t:=U) hr.w0.1 hr.w1.1 hc.m1).1;have q2:=(edvm (t:=T) hr.w0.1 hr.w2.1 hc.m02).1;have q2u:=(edvm (t:=U) hr.w0.1 hr.w2.1 hc.m02).1;have m1:T / c.2.1.2.1<=U / c.2.1.2.1:=Int.ediv_le_ediv (by have:=hr.w1;omega) hTU;have m2:T / c.2.1.2.2<=U / c.2.1.2.2:=Int.ediv_le_ediv (by have:=hr.w2;omega) hTU;have u1:b0j (up1 c s (T / c.2.1.1) (U / c.2.1.1)).1 (U / c.2.1.1)/\b0j (up1 c s (T / c.2.1.1) (U / c.2.1.1)).2.1 (U / c.2.1.2.1)/\b0j (up1 c s (T / c.2.1.1) (U / c.2.1.1)).2.2 (T / c.2.1.2.2):=by
  unfold up1;rw[q1,q1u];split
  ·exact ⟨h0,k0z h1 m1,h2⟩
  ·rename_i hne;split
   ·exact ⟨h0,d2t (k0z h1 m1) (by omega),h2⟩
   ·exact ⟨h0,k0z h1 m1,h2⟩
 unfold upw;generalize up1 c s (T / c.2.1.1) (U / c.2.1.1)=v at u1;unfold up2;rw[q2,q2u];split
 ·exact ⟨u1.1,u1.2.1,k0z u1.2.2 m2⟩
 ·rename_i hne;split
  ·exact ⟨u1.1,u1.2.1,d2t (k0z u1.2.2 m2) (by omega)⟩
  ·exact ⟨u1.1,u1.2.1,k0z u1.2.2 m2⟩
theorem k2u {r:Rw}{room:Int}{e:Ev}(h:RawOk r room)(he:EvOk e)(ha:After r.2.2 e)(hl:¬((r.2.2.length:Int)=room/\r.1=70368744177664)):RawOk (t0g r room e) room/\(t0g r room e).2.2.getLast? = some e:=by
 have hf:Foll (r.2.2++[e]):=by
  refine e0a.2 ⟨h.f,⟨by simp[he],by simp⟩,fun x hx y hy => ?_⟩;simp at hy;subst hy;have hn:r.2.2≠[]:=List.ne_nil_of_mem hx;have hg:=List.getLast?_eq_some_getLast hn;have:=ha _ hg;rcases List.eq_nil_or_concat r.2.2 with k | ⟨p,z,k⟩
  ·exact absurd k hn
  ·rw[List.concat_eq_append] at k;have hz:r.2.2.getLast hn=z:=by simp[k]
   rw[hz] at this;rw[k] at hx;rcases q3m.1 hx with q | q
   ·have hf:=h.f;rw[k] at hf;have:=(e0a.1 hf).2.2 x q z (by simp);omega
   ·simp at q;rw[q];exact this
 unfold t0g;by_cases h1:(r.2.2.length:Int)<room
 ·rw[q0z h1];refine ⟨⟨h.m0,h.m1,by simp;omega,h.l0,h.l1,hf,h.z,fun k => ?_⟩,by simp⟩;have:=(h.p k).1;omega
 ·rw[q0n h1];have hlen:=h.len;have hlen':(r.2.2.length:Int)=room:=by omega
  have m0:=h.m0;cases hc:r.2.2 with
  | nil=>rw[hc] at hlen';simp at hlen';omega
  | cons a t =>
   rw[hc] at hf hlen';have hfa:=s2o.1 hf;simp only[List.drop_succ_cons,List.drop_zero,List.headD_cons];refine ⟨⟨h.m0,h.m1,by simp at hlen' ⊢;omega,by have:=h.l0;simp only;omega,?_,hfa.2.2,fun k => ?_,fun _=>⟨by simp at hlen' ⊢;omega,hfa.1.t0,fun x hx => ?_⟩⟩,by simp⟩
   ·have:=h.l1;have:r.1≠70368744177664:=fun k=>hl ⟨by rw[hc];exact hlen',k⟩
    simp only;omega
   ·have:=h.l0;simp only at k;omega
   ·exact hfa.2.1 x (List.mem_of_mem_head? hx)
theorem mrg_fits {a:Cel}{e:Ev}{w i:Int}(h:FitsP a w i)(he:EvOk e)(hlt:a.2.2.1.1<e.1)(hi:e.1 / w=i):FitsP (mrg a (e0p e)) w i:=by
 have hm:=d2u h.n (u0c he);refine ⟨mrg_N h.n (u0c he) hlt,h.w0,h.w1,?_,?_⟩
 ·rw[hm];exact h.f
 ·rw[hm];exact hi
theorem b1m {c:Conf}{s t:Ser}{e:Ev}(h:SerOk c s)(hp:putE c s e=(t,0)):SerOk c t/\EvOk e/\s.2.1<e.1/\t.2.1=e.1/\t.1=s.1:=by
 have hr:=h.fold.cok.rng;unfold putE at hp;by_cases h1:SerOk c s/\EvOk e
 case neg=>rw[q0n h1] at hp;cases hp
 rw[q0z h1] at hp;have he:=h1.2;by_cases h2:e.1<=s.2.1
 ·rw[q0z h2] at hp;cases hp
 rw[q0n h2] at hp;by_cases h3:(turned c s (e.1 / c.2.1.1)).2≠0
 ·rw[q0z h3] at hp;exact absurd (congrArg Prod.snd hp) h3
 rw[q0n h3] at hp;by_cases h4:(v0k s.2.2.1 c.1 e).2≠0
 ·rw[q0z h4] at hp;exact absurd (congrArg Prod.snd hp) h4
 rw[q0n h4] at hp;by_cases h5:(mrgE (turned c s (e.1 / c.2.1.1)).1.2.2 (e0p e)).2≠0
 ·rw[q0z h5] at hp;exact absurd (congrArg Prod.snd hp) h5
 rw[q0n h5] at hp;have hp:=(Prod.ext_iff.1 hp).1;simp only at hp;subst hp;refine ⟨?_,he,by omega,rfl,rfl⟩;have h3:(turned c s (e.1 / c.2.1.1)).2=0:=Decidable.byContradiction h3;have h4:(v0k s.2.2.1 c.1 e).2=0:=Decidable.byContradiction h4;have h5:(mrgE (turned c s (e.1 / c.2.1.1)).1.2.2 (e0p e)).2=0:=Decidable.byContradiction h5;have e0:0<=e.1:=he.t0;have hraw:RawOk (v0k s.2.2.1 c.1 e).1 c.1/\(v0k s.2.2.1 c.1 e).1.2.2.getLast? = some e:=by
  unfold v0k at h4 ⊢;rw[q0z ⟨h.raw,he⟩] at h4 ⊢;by_cases k1:After s.2.2.1.2.2 e
  case neg=>rw[q0n k1] at h4;cases h4
  rw[q0z k1] at h4 ⊢;by_cases k2:(s.2.2.1.2.2.length:Int)=c.1/\s.2.2.1.1=70368744177664
  ·rw[q0z k2] at h4;cases h4
  rw[q0n k2] at h4 ⊢;exact k2u h.raw he k1 k2
 have key:FoldOk c (turned c s (e.1 / c.2.1.1)).1.1/\b0j (turned c s (e.1 / c.2.1.1)).1.1.1 (e.1 / c.2.1.1)/\b0j (turned c s (e.1 / c.2.1.1)).1.1.2.1 (e.1 / c.2.1.2.1)/\b0j (turned c s (e.1 / c.2.1.1)).1.1.2.2 (e.1 / c.2.1.2.2) /\
   FitsP (mrgE (turned c s (e.1 / c.2.1.1)).1.2.2 (e0p e)).1 c.2.1.1 (e.1 / c.2.1.1)/\(mrgE (turned c s (e.1 / c.2.1.1)).1.2.2 (e0p e)).1.2.2.1.1=e.1:=by
  have fresh1:FitsP (e0p e) c.2.1.1 (e.1 / c.2.1.1):=⟨u0c he,hr.w0.1,hr.w0.2,rfl,rfl⟩;have z1:mrgE s0.2 (e0p e)=(e0p e,0):=mrgE_z0 (u0c he).ok;rcases h.st with ⟨l1,hf⟩ | ⟨l1,hd⟩
  ·have ht:turned c s (e.1 / c.2.1.1)=((s.2.2.2.1,s.2.2.2.2),0):=by
    unfold turned;rw[q0n (fun k:f2t s _=>k.1 hf.opn)]
   rw[ht];simp only;rw[hf.opn,z1];exact ⟨h.fold,k0z hf.b0 (Int.ediv_nonneg e0 (by have:=hr.w0;omega)),k0z hf.b1 (Int.ediv_nonneg e0 (by have:=hr.w1;omega)),k0z hf.b2 (Int.ediv_nonneg e0 (by have:=hr.w2;omega)),fresh1,rfl⟩
  ·have hT:s.2.1<=e.1:=by omega
   have ho:s.2.2.2.2.1=s.2.1 / c.2.1.1:=by rw[<-hd.fit.l,hd.ol]
   by_cases hts:f2t s (e.1 / c.2.1.1)
   ·have hlt:s.2.1 / c.2.1.1<e.1 / c.2.1.1:=u1x hr.w0.1 hT (by rw[<-ho];exact hts.2);have hcl:g1n c s.2.2.2.1 s.2.2.2.2 (e.1 / c.2.1.1)=(upw c (tput s.2.2.2.1.1 s.2.2.2.2.1 s.2.2.2.2.2,s.2.2.2.1.2) (s.2.1 / c.2.1.1) (e.1 / c.2.1.1),0):=by
     unfold g1n;rw[q0z h.fold,q0n hts.1,q0z hd.fit,q0n hts.2,q0z ⟨by omega,t2d he hr.w0.1⟩,ho]
    have ht:turned c s (e.1 / c.2.1.1)=((upw c (tput s.2.2.2.1.1 s.2.2.2.2.1 s.2.2.2.2.2,s.2.2.2.1.2) (s.2.1 / c.2.1.1) (e.1 / c.2.1.1),s0),0):=by
     unfold turned;rw[q0z hts,hcl,q0z rfl]
    rw[ht];simp only;rw[z1];obtain ⟨n0,n1,n2⟩:=nb_upw (s:=(tput s.2.2.2.1.1 s.2.2.2.2.1 s.2.2.2.2.2,s.2.2.2.1.2)) h.fold.cok hT (d2t (k0z hd.b0 (by omega)) (by omega)) hd.b1 hd.b2;exact ⟨upw_ok (l1f h.fold hd.fit) _ _,n0,n1,n2,fresh1,rfl⟩
   ·have ht:turned c s (e.1 / c.2.1.1)=((s.2.2.2.1,s.2.2.2.2),0):=by
     unfold turned;rw[q0n hts]
    have hop:s.2.2.2.2≠s0:=fun k=>by have:=hd.fit.n.n1;rw[k] at this;simp[s0,z0] at this
    have hw:s.2.2.2.2.1=e.1 / c.2.1.1:=Decidable.byContradiction fun k=>hts ⟨hop,k⟩
    rw[ht] at h5 ⊢;simp only at h5 ⊢;obtain ⟨k1,k2,k3,k4,k5⟩:=d2v h5;rw[k4];have hfit:=hd.fit;rw[hw] at hfit;have hm:=d2u hd.fit.n (u0c he);exact ⟨h.fold,k0z hd.b0 (by omega),k0z hd.b1 (Int.ediv_le_ediv (by have:=hr.w1;omega) hT),k0z hd.b2 (Int.ediv_le_ediv (by have:=hr.w2;omega) hT),
     mrg_fits hfit he (by have:=hd.ol;omega) rfl,by rw[hm];rfl⟩
 obtain ⟨k1,k2,k3,k4,k5,k6⟩:=key;exact ⟨k1,h.lab,hraw.1,.inr ⟨by show e.1 ≠ -1;omega,⟨e,hraw.2,rfl⟩,k6,k5,k2,k3,k4⟩⟩
def setS (s:Sta)(i:Nat)(y:Ser):Sta:=(s.1,(s.2.1,(s.2.2.1,s.2.2.2.set i y)))
noncomputable def xOf (s:Sta)(l:List Lab)(w:Int×(Bool×Int)):Ser:=if w.2.1=true then (newV s.1 l).1 else (s.2.2.2[w.1.toNat]?).getD ser0
noncomputable def n0x (s:Sta)(l:List Lab)(e:Ev):Sta×Int :=
 if (f0c s l e).2.2≠0 then (sta0,(f0c s l e).2.2)
 else if (putE s.1 (xOf s l (f0c s l e)) e).2≠0 then (sta0,(putE s.1 (xOf s l (f0c s l e)) e).2)
 else (setS s (f0c s l e).1.toNat (putE s.1 (xOf s l (f0c s l e)) e).1,0)
structure Goes (s:Sta)(l:List Lab)(e:Ev):Prop where
 st:StaOk s
 lab:LabOk l
 ev:EvOk e
 lo:mk s<=e.1
 hi:e.1<mk s+s.1.2.1.1
inductive PlaceAt (s:Sta)(l:List Lab)(e:Ev):Nat->Ser->Bool->Prop
 | found {i:Nat} {x:Ser} (hf:p0m s l=some i) (hx:s.2.2.2[i]? = some x) (hl:x.1=l) (hlv:LvX s x) (ht:x.2.1<e.1):PlaceAt s l e i x false
 | room {i:Nat} (hf:p0m s l=none) (hs:e.2.2.2=false) (hr:z0l s=some i):PlaceAt s l e i (l,(-1,(r0w,(emp s.1,s0)))) true
theorem q2w {c:Conf}{l:List Lab}(h:OkC c)(hl:LabOk l):newV c l=((l,(-1,(r0w,(emp c,s0)))),0):=by
 unfold newV;rw[q0z h,q0z hl]
theorem h2q {s:Sta}{l:List Lab}{e:Ev}(h:(f0c s l e).2.2=0):Goes s l e/\∃i x b,PlaceAt s l e i x b/\(f0c s l e).1.toNat=i/\xOf s l (f0c s l e)=x/\f0c s l e=((i:Int),(b,0)):=by
 unfold f0c at h ⊢;by_cases h1:StaOk s
 case neg=>rw[q0z h1] at h;cases h
 rw[q0n (fun k=>k h1)] at h ⊢;by_cases h2:LabOk l
 case neg=>rw[q0z h2] at h;cases h
 rw[q0n (fun k=>k h2)] at h ⊢;by_cases h3:EvOk e
 case neg=>rw[q0z h3] at h;cases h
 rw[q0n (fun k=>k h3)] at h ⊢;by_cases h4:e.1<mk s\/mk s+s.1.2.1.1<=e.1
 ·rw[q0z h4] at h;cases h
 rw[q0n h4] at h ⊢;refine ⟨⟨h1,h2,h3,by omega,by omega⟩,?_⟩;cases hf:p0m s l with
 | some i =>
  rw[hf] at h;simp only at h ⊢;obtain ⟨x,hx,k1,k2,k3⟩:=h0w.1 hf;rw[hx] at h ⊢;simp only[Option.getD_some] at h ⊢;by_cases h5:e.1<=x.2.1
  ·rw[q0z h5] at h;cases h
  rw[q0n h5];exact ⟨i,x,false,.found hf hx k1 k2 (by omega),rfl,by unfold xOf;simp[hx],rfl⟩
 | none =>
  rw[hf] at h;simp only at h ⊢;cases h5:e.2.2.2 with
  | true=>rw[h5,q0z rfl] at h;cases h
  | false =>
   rw[h5,q0n (by simp)] at h;rw[q0n (by simp)];cases hr:z0l s with
   | none=>rw[hr] at h;cases h
   | some i =>
    simp only;exact ⟨i,_,true,.room hf h5 hr,rfl,by unfold xOf;rw[q0z rfl,q2w h1.whole.1 h2],rfl⟩
theorem b1w {s:Sta}{l:List Lab}{e:Ev}(h:Goes s l e){i:Nat}{x:Ser}{b:Bool}(hp:PlaceAt s l e i x b):SerOk s.1 x/\x.1=l/\i<s.2.2.2.length/\x.2.1<e.1:=by
 cases hp with
 | found hf hx hl hlv ht =>
  rcases h.st.right _ _ hx with k | k
  ·exact absurd k hlv.1
  ·exact ⟨k.1,hl,(q3o.1 hx).1,ht⟩
 | room hf hs hr =>
  obtain ⟨y,hy,_⟩:=e1b.1 hr;exact ⟨x1i (q2x h.st.whole.1 h.lab),rfl,(q3o.1 hy).1,by have:=h.ev.t0;show (-1:Int)<e.1;omega⟩
theorem i1b {s t:Sta}{l:List Lab}{e:Ev}(h:n0x s l e=(t,0)):Goes s l e/\∃i x b y,PlaceAt s l e i x b/\putE s.1 x e=(y,0)/\t=setS s i y/\f0c s l e=((i:Int),(b,0)):=by
 unfold n0x at h;by_cases h1:(f0c s l e).2.2=0
 case neg=>rw[q0z h1] at h;exact absurd (congrArg Prod.snd h) h1
 rw[q0n (fun k=>k h1)] at h;obtain ⟨hg,i,x,b,k1,k2,k3,k4⟩:=h2q h1;rw[k2,k3] at h;by_cases h2:(putE s.1 x e).2=0
 case neg=>rw[q0z h2] at h;exact absurd (congrArg Prod.snd h) h2
 rw[q0n (fun k=>k h2)] at h;exact ⟨hg,i,x,b,_,k1,Prod.ext rfl h2,(congrArg Prod.fst h).symm,k4⟩
theorem t0a (s:Sta)(i:Nat)(y:Ser)(j:Nat):(setS s i y).2.2.2[j]? = if i=j then (if i<s.2.2.2.length then some y else none) else s.2.2.2[j]? := by
 unfold setS;simp only[List.getElem?_set]
theorem y1q {s:Sta}(h:StaOk s){y:Ser}(hn:y≠ser0)(h1:mk s<=y.2.1)(h2:y.2.1<35184372088832):LvX s y:=by
 refine ⟨hn,?_⟩;rcases h.clock.2.1 with k | k
 ·exact .inl k
 ·refine .inr ?_;have hr:=h.whole.1.rng;have hc:=h.clock.2.2;obtain ⟨m1,m2,m3,m4⟩:=c1e h.clock.1 hr.w0;have e1:s.2.2.1 / s.1.2.1.1<=y.2.1 / s.1.2.1.1:=by
   have a1:s.2.1 / s.1.2.1.1<=y.2.1 / s.1.2.1.1:=by
    rw[Int.le_ediv_iff_mul_le (by omega)];exact h1
   have a2:s.2.2.1 / s.1.2.1.1<=s.2.1 / s.1.2.1.1:=Int.ediv_le_ediv (by omega) hc;omega
  unfold l1l;have g:e1x y.2.1 s.2.2.1 s.1.2.1.1 s.1.2.2.1.1=false:=by
   unfold e1x oldV;have n0:=hr.n0;have:=Int.ediv_nonneg k.1 (show 0<=s.1.2.1.1 by omega);rw[q0z ⟨⟨k.1,k.2,hr.w0.1,hr.w0.2⟩,n0.1,n0.2⟩];refine q1z fun q => ?_
   have q:=q.2.2;simp only at q;split at q<;>omega
  rw[g];simp
theorem c2b {s t:Sta}{l:List Lab}{e:Ev}(h:n0x s l e=(t,0)):StaOk t:=by
 obtain ⟨hg,i,x,b,y,hp,hput,rfl,_⟩:=i1b h;obtain ⟨p1,p2,p3,p4⟩:=b1w hg hp;obtain ⟨q1,q2,q3,q4,q5⟩:=b1m p1 hput;have hst:=hg.st;refine ⟨⟨hst.whole.1,by simpa [setS] using hst.whole.2⟩,hst.clock,fun j z hz => ?_⟩;rw[t0a] at hz;by_cases hij:i=j
 ·subst hij;rw[q0z rfl,q0z p3] at hz;cases hz;refine .inr ⟨q1,by rw[q4];exact hg.ev.t0,by rw[q4];exact hg.hi,?_⟩;rintro ⟨_,k,hk,w,hw,hlw,hwl⟩;rw[t0a,q0n (by omega)] at hw;rw[q5,p2] at hwl;cases hp with
  | found hf hx hl hlv ht =>
   obtain ⟨_,_,_,_,first⟩:=h0w.1 hf;exact first k hk w hw ⟨hwl,hlw⟩
  | room hf hs hr=>exact r0y.1 hf w (q3y hw) ⟨hwl,hlw⟩
 ·rw[q0n hij] at hz;rcases hst.right j z hz with k | ⟨k1,k2,k3,k4⟩
  ·exact .inl k
  ·refine .inr ⟨k1,k2,k3,?_⟩;rintro ⟨hlz,k,hk,w,hw,hlw,hwl⟩;rw[t0a] at hw;by_cases hik:i=k
   ·subst hik;rw[q0z rfl,q0z p3] at hw;cases hw;rw[q5,p2] at hwl;cases hp with
    | found hf hx hl hlv ht=>exact k4 ⟨hlz,i,hk,x,hx,hlv,hl.trans hwl⟩
    | room hf hs hr=>exact r0y.1 hf z (q3y hz) ⟨hwl.symm,hlz⟩
   ·rw[q0n hik] at hw;exact k4 ⟨hlz,k,hk,w,hw,hlw,hwl⟩
def Moves (s:Sta)(now:Int):Prop:=StaOk s/\s.2.1<now/\now<35184372088832
noncomputable instance (s now):Decidable (Moves s now):=Classical.propDecidable _
def o2m (s:Sta)(now:Int):Sta:=(s.1,(now,s.2.2))
noncomputable def w1t (s:Sta)(now:Int):Sta×Bool:=if Moves s now then (o2m s now,true) else (s,false)
theorem csc_tick (n:Nat){s:Sta}(hw:StaW s)(now:Int):v1a (n+15) s now=some (w1t s now):=by
 rw[f2f,f0e n hw];unfold w1t;simp only[tfd,tfn,obs];by_cases h:Moves s now
 ·rw[q0n (by have:=h.2.1;omega),q0n (by have:=h.2.2;omega),q0z h.1,q0z rfl,q0z h];rfl
 ·rw[q0n h];by_cases h1:now<=s.2.1
  ·rw[q0z h1]
  rw[q0n h1];by_cases h2:35184372088832<=now
  ·rw[q0z h2]
  rw[q0n h2,q0n (fun k:StaOk s=>h ⟨k,by omega,by omega⟩)];rfl
theorem tickS_w {s:Sta}(hw:StaW s)(now:Int):StaW (o2m s now):=⟨hw.len,hw.ser⟩
theorem tickV_w {s:Sta}(hw:StaW s)(now:Int):StaW (w1t s now).1:=by
 unfold w1t;split
 ·exact tickS_w hw now
 ·exact hw
theorem tick_ok {s:Sta}{now:Int}(h:Moves s now):StaOk (o2m s now):=by
 obtain ⟨h,h1,h2⟩:=h;have t0:=h.clock.1.1;have hr:=h.whole.1.rng.w0;refine ⟨h.whole,⟨⟨by show 0<=now;omega,h2⟩,h.clock.2.1,by have:=h.clock.2.2;show s.2.2.1<=now;omega⟩,fun i x hx => ?_⟩;rcases h.right i x hx with k | ⟨k1,k2,k3,k4⟩
 ·exact .inl k
 ·refine .inr ⟨k1,k2,?_,k4⟩;have:mk s<=mk (o2m s now):=Int.mul_le_mul_of_nonneg_right (Int.ediv_le_ediv (by omega) (by show s.2.1<=now;omega)) (by omega);show x.2.1<mk (o2m s now)+s.1.2.1.1;omega
def k0o (c:Conf)(k:Int):Int:=if k=0 then c.2.1.1 else if k=1 then c.2.1.2.1 else c.2.1.2.2
def tierN (c:Conf)(k:Int):Int:=if k=0 then c.2.2.1.1 else if k=1 then c.2.2.1.2.1 else c.2.2.1.2.2
noncomputable def keptV (s:Sta)(k:Int):Int×(Int×Int) :=
 if StaOk s then (if k<0\/2<k then (0,(0,1)) else ((oldV s.2.1 (k0o s.1 k) (tierN s.1 k)).1,(s.2.1 / k0o s.1 k,0))) else (0,(0,2))
theorem t0n {now w m:Int}(h:OfP now w)(hm:1<=m/\m<=4096):(oldV now w m).2=0:=by
 unfold oldV;rw[q0z ⟨h,hm.1,hm.2⟩]
theorem u1z (n:Nat){s:Sta}(hw:StaW s)(k:Int):c1u (n+16) s k=some (keptV s k):=by
 rw[f2g,a2a,f0e n hw];unfold keptV;by_cases h:StaOk s
 case neg=>rw[q0n h,q0n h];rfl
 rw[q0z h,q0z h];have hr:=h.whole.1.rng;have ht:=h.clock.1;simp only[obs,decide_true,q3s,tff,tfd,tfn,u0w (n+11)];by_cases h1:k<0
 ·rw[q0z h1,q0z (Or.inl h1)];rfl
 rw[q0n h1];by_cases h2:3<=k
 ·rw[q0z h2,q0z (show k<0\/2<k by omega)];rfl
 rw[q0n h2,q0n (show ¬(k<0\/2<k) by omega)];simp only[obs,if_true];have q0:=r0l ht hr.w0.1;have q1:=r0l ht hr.w1.1;have q2:=r0l ht hr.w2.1;rcases (by omega:k=0\/k=1\/k=2) with e | e | e
 ·subst e;simp only[if_true,q0n (nz hr.w0.1),q0,t0n ⟨ht.1,ht.2,hr.w0.1,hr.w0.2⟩ hr.n0];rfl
 ·subst e;simp only[if_true,q0n (show ¬((1:Int)=0) by decide),q0n (nz hr.w1.1),q1,t0n ⟨ht.1,ht.2,hr.w1.1,hr.w1.2⟩ hr.n1];rfl
 ·subst e;simp only[if_true,q0n (show ¬((2:Int)=0) by decide),q0n (show ¬((2:Int)=1) by decide),q0n (nz hr.w2.1),q2,t0n ⟨ht.1,ht.2,hr.w2.1,hr.w2.2⟩ hr.n2];rfl
def v1w (o:Int)(r:Int×Int)(s:Slo):Prop:=¬(s.1<o/\(s.1<r.1\/r.2<=s.1))
instance (o r s):Decidable (v1w o r s):=by unfold v1w;infer_instance
def u0a (o:Int)(r:Int×Int)(l:List Slo):List Slo:=l.map fun s=>if v1w o r s then s else s0
theorem k0b (o r)(l:List Slo):(u0a o r l).length=l.length:=by simp[u0a]
theorem u1m {o r}{l:List Slo}{w:Int}(h:TierOk l w):TierOk (u0a o r l) w:=by
 refine ⟨by rw[k0b];exact h.l0,by rw[k0b];exact h.l1,h.w0,h.w1,fun j s hs => ?_⟩;rw[k0b];unfold u0a at hs;rw[q4c] at hs;cases ha:l[j]? with
 | none=>rw[ha] at hs;cases hs
 | some a =>
  rw[ha] at hs;simp only[Option.map_some,Option.some.injEq] at hs;split at hs
  ·rw[<-hs];exact h.s j a ha
  ·exact .inl hs.symm
theorem x0j {o r}{l:List Slo}{a:Int}(h:b0j l a):b0j (u0a o r l) a:=by
 intro s hs hc;unfold u0a at hs;obtain ⟨x,hx,e⟩:=q4g.1 hs;split at e
 ·rw[<-e] at hc ⊢;exact h x hx hc
 ·rw[<-e] at hc;exact absurd hc (by decide)
def l2n (c:Conf)(last:Int):Int×Int:=(last / c.2.1.2.1*(c.2.1.2.1 / c.2.1.1),last / c.2.1.2.1*(c.2.1.2.1 / c.2.1.1)+c.2.1.2.1 / c.2.1.1)
def l2m (c:Conf)(last:Int):Int×Int:=(last / c.2.1.2.2*(c.2.1.2.2 / c.2.1.2.1),last / c.2.1.2.2*(c.2.1.2.2 / c.2.1.2.1)+c.2.1.2.2 / c.2.1.2.1)
noncomputable def m0i (c:Conf)(now:Int)(x:Ser):Ser :=
 (x.1,(x.2.1,(x.2.2.1,((u0a (oldV now c.2.1.1 c.2.2.1.1).1 (l2n c x.2.1) x.2.2.2.1.1,(u0a (oldV now c.2.1.2.1 c.2.2.1.2.1).1 (l2m c x.2.1) x.2.2.2.1.2.1,u0a (oldV now c.2.1.2.2 c.2.2.1.2.2).1 (0,0) x.2.2.2.1.2.2)),x.2.2.2.2))))
theorem f2i {c:Conf}{now:Int}{x:Ser}(h:FoldOk c x.2.2.2.1):FoldOk c (m0i c now x).2.2.2.1 :=
 ⟨h.cok,by simpa [m0i,k0b] using h.n0,by simpa [m0i,k0b] using h.n1,by simpa [m0i,k0b] using h.n2,u1m h.t0,u1m h.t1,u1m h.t2⟩
theorem u2d {c:Conf}{now:Int}{x:Ser}(h:SerOk c x):SerOk c (m0i c now x):=by
 refine ⟨f2i h.fold,h.lab,h.raw,?_⟩;rcases h.st with ⟨k1,k2⟩ | ⟨k1,k2⟩
 ·exact .inl ⟨k1,k2.raw,k2.opn,x0j k2.b0,x0j k2.b1,x0j k2.b2⟩
 ·exact .inr ⟨k1,k2.last,k2.ol,k2.fit,x0j k2.b0,x0j k2.b1,x0j k2.b2⟩
theorem c1d {a b:Cel}(ha:c0d a)(hb:c0d b)(h:Ahead a b):mrgE a b=(mrg a b,0):=by
 unfold mrgE;rw[q0z ⟨ha,hb⟩,q0z h]
theorem v2j {w:Int}:∀(L:List Slo) (c:Cel) (lo hi:Int),Up L->(∀s∈L,FitsP s.2 w s.1/\lo<=s.1/\s.1<hi)->c0d c->(c=z0\/c.2.2.1.1 / w<lo)->lo<=hi->(allE c (L.map (·.2))).1=z0\/(allE c (L.map (·.2))).1.2.2.1.1 / w<hi:=by
 intro L;induction L with
 | nil=>intro c lo hi _ _ _ h hle;rcases h with h | h;exact .inl h;exact .inr (by simp only[List.map_nil,allE];omega)
 | cons s L ih =>
  intro c lo hi hu hs hc hl hle;unfold Up at hu;rw[q4t] at hu;obtain ⟨hf,h1,h2⟩:=hs s (by simp);have ha:Ahead c s.2:=by
   rcases hl with h | h
   ·exact .inl h
   ·refine .inr (.inr ?_);have e:=hf.f;rcases Int.lt_or_le c.2.2.1.1 s.2.2.1.1 with q | q
    ·exact q
    ·have:=Int.ediv_le_ediv (c:=w) (by have:=hf.w0;omega) q;omega
  simp only[q4i,allE];rw[c1d hc hf.n.ok ha,q0z rfl];refine ih _ (s.1+1) hi hu.2 (fun x hx=>⟨(hs x (by simp[hx])).1,by have:=hu.1 x hx;omega,(hs x (by simp[hx])).2.2⟩) (y1r hc hf.n.ok ha) (.inr ?_) (by omega);have el:(mrg c s.2).2.2.1.1=s.2.2.2.1.1:=by
   unfold mrg;by_cases k:c=z0
   ·rw[q0z k]
   ·rw[q0n k,q0n hf.n.ne]
  rw[el,hf.l];omega
theorem o1j {t:List Slo}{w i j a:Int}(h:TierOk t w)(hb:b0j t a)(h0:0<=i)(ha:i<=a):c0d (k0i t i j).1/\((k0i t i j).1=z0\/(k0i t i j).1.2.2.1.1 / w<a):=by
 refine ⟨r0d _ _ _,?_⟩;unfold k0i;split
 ·exact .inl rfl
 ·unfold within;have hn:=(v0u h a).1 hb;refine v2j (w:=w) _ z0 i a ((r1n h).filter _) (fun s hs => ?_) t0o (.inl rfl) ha;obtain ⟨s1,s2⟩:=q4m.1 hs;have s2:=of_decide_eq_true s2;exact ⟨(j0o h s1).1,s2.1,hn s s1⟩
theorem i2p {a b:Cel}{w k:Int}(hw:1<=w)(ha:a=z0\/a.2.2.1.1 / w<k)(hb:b=z0\/b.2.1.1 / w=k):Ahead a b:=by
 rcases ha with ha | ha
 ·exact .inl ha
 rcases hb with hb | hb
 ·exact .inr (.inl hb)
 refine .inr (.inr ?_);rcases Int.lt_or_le a.2.2.1.1 b.2.1.1 with q | q
 ·exact q
 ·have:=Int.ediv_le_ediv (c:=w) (by omega) q;omega
theorem n2q {w:Int}:∀(L:List Slo) (c:Cel) (lo:Int),Up L->(∀s∈L,FitsP s.2 w s.1/\lo<=s.1)->c0d c->(c=z0\/c.2.2.1.1 / w<lo)->∀b:Int,(c=z0\/b<=c.2.1.1 / w)->b<=lo->(allE c (L.map (·.2))).1=z0\/b<=(allE c (L.map (·.2))).1.2.1.1 / w:=by
 intro L;induction L with
 | nil=>intro c lo _ _ _ _ b hb _;exact hb
 | cons s L ih =>
  intro c lo hu hs hc hl b hb hbl;unfold Up at hu;rw[q4t] at hu;obtain ⟨hf,h1⟩:=hs s (by simp);have ha:Ahead c s.2:=by
   rcases hl with h | h
   ·exact .inl h
   ·refine .inr (.inr ?_);have e:=hf.f;rcases Int.lt_or_le c.2.2.1.1 s.2.2.1.1 with q | q
    ·exact q
    ·have:=Int.ediv_le_ediv (c:=w) (by have:=hf.w0;omega) q;omega
  simp only[q4i,allE];rw[c1d hc hf.n.ok ha,q0z rfl];refine ih _ (s.1+1) hu.2 (fun x hx=>⟨(hs x (by simp[hx])).1,by have:=hu.1 x hx;omega⟩) (y1r hc hf.n.ok ha) (.inr ?_) b ?_ (by omega)
  ·have el:(mrg c s.2).2.2.1.1=s.2.2.2.1.1:=by
    unfold mrg;by_cases k:c=z0
    ·rw[q0z k]
    ·rw[q0n k,q0n hf.n.ne]
   rw[el,hf.l];omega
  ·unfold mrg;by_cases k:c=z0
   ·rw[q0z k,hf.f];exact .inr (by omega)
   ·rw[q0n k,q0n hf.n.ne];rcases hb with hb | hb
    ·exact absurd hb k
    ·exact .inr hb
theorem b2o {t:List Slo}{w i j:Int}(h:TierOk t w)(h0:0<=i):(k0i t i j).1=z0\/i<=(k0i t i j).1.2.1.1 / w:=by
 unfold k0i;split
 ·exact .inl rfl
 ·unfold within;refine n2q (w:=w) _ z0 i ((r1n h).filter _) (fun s hs => ?_) t0o (.inl rfl) i (.inl rfl) (Int.le_refl _);obtain ⟨s1,s2⟩:=q4m.1 hs;have s2:=of_decide_eq_true s2;exact ⟨(j0o h s1).1,s2.1⟩
theorem now_up {t:List Slo}{a b T:Int}{cur:Cel}(h:TierOk t a)(hb:b0j t (T / a))(ha:1<=a)(hb1:1<=b)(hm:b % a=0)(hT:0<=T)(hc:CellN cur)(hf:cur.2.1.1 / a=T / a) :
  ∃m,mrgE (k0i t (T / b*(b / a)) (T / a)).1 cur=(m,0)/\CellN m/\m.2.1.1 / b=T / b:=by
 have hp:=p1z ha hb1 hm;have q:=(edvm (t:=T) ha hb1 hm).2;have hT':0<=T / b:=Int.ediv_nonneg hT (by omega);have u0:T / b*(b / a)<=T / a:=by rw[<-q];exact Int.ediv_mul_le _ (by omega)
 have p0:0<=T / b*(b / a):=Int.mul_nonneg hT' (by omega);obtain ⟨k1,k2⟩:=o1j (j:=T / a) h hb p0 u0;have k3:=b2o (j:=T / a) h p0;have hah:=i2p ha k2 (.inr hf);refine ⟨_,c1d k1 hc.ok hah,?_,?_⟩
 ·rcases k1 with z | z
  ·rw[z,o1e];exact hc
  ·rcases hah with y | y | y
   ·rw[y,o1e];exact hc
   ·exact absurd y hc.ne
   ·exact mrg_N z hc y
 ·unfold mrg;by_cases z:(k0i t (T / b*(b / a)) (T / a)).1=z0
  ·rw[q0z z,<-(edvm (t:=cur.2.1.1) ha hb1 hm).2,hf,q]
  ·rw[q0n z,q0n hc.ne];have z1:=k2.resolve_left z;have z2:=k3.resolve_left z;have z3:=(k1.n z).ft;have z4:(k0i t (T / b*(b / a)) (T / a)).1.2.1.1 / a<=(k0i t (T / b*(b / a)) (T / a)).1.2.2.1.1 / a:=Int.ediv_le_ediv (by omega) z3;rw[<-(edvm (t:=(k0i t (T / b*(b / a)) (T / a)).1.2.1.1) ha hb1 hm).2];have z5:(k0i t (T / b*(b / a)) (T / a)).1.2.1.1 / a / (b / a)<=T / a / (b / a):=Int.ediv_le_ediv (by omega) (by omega);have z6:T / b<=(k0i t (T / b*(b / a)) (T / a)).1.2.1.1 / a / (b / a):=by rw[Int.le_ediv_iff_mul_le hp];exact z2
   omega
theorem e1g {t:List Slo}{w T i j:Int}{cur:Cel}{ok:Prop}[Decidable ok](hok:ok)(h:TierOk t w)(hb:T = -1\/b0j t (T / w)/\CellN cur/\cur.2.1.1 / w=T / w)(h0:0<=i)(hij:i<=j):(f0h ok i j T w t (cur,0)).2=0:=by
 unfold f0h;rw[q0z hok,q0n (by omega),q0n (by omega)];by_cases h1:T = -1
 ·rw[q0z h1]
 rw[q0n h1];obtain ⟨hb,hc,hf⟩:=hb.resolve_left h1;by_cases h2:T / w<i
 ·rw[q0z h2];exact k0p h h0 hij
 rw[q0n h2];by_cases h3:j<=T / w
 ·rw[q0z h3];exact k0p h h0 hij
 rw[q0n h3,q0n (nn rfl)];obtain ⟨k1,k2⟩:=o1j (j:=j) h hb h0 (by omega:i<=T / w);rw[c1d k1 hc.ok (i2p h.w0 k2 (.inr hf))]
structure Ends3 (c:Conf)(s:Ser):Prop where
 t0:s.2.1 = -1\/b0j s.2.2.2.1.1 (s.2.1 / c.2.1.1)/\CellN s.2.2.2.2.2/\s.2.2.2.2.2.2.1.1 / c.2.1.1=s.2.1 / c.2.1.1
 t1:s.2.1 = -1\/∃m,now1 c s=(m,0)/\b0j s.2.2.2.1.2.1 (s.2.1 / c.2.1.2.1)/\CellN m/\m.2.1.1 / c.2.1.2.1=s.2.1 / c.2.1.2.1
 t2:s.2.1 = -1\/∃m,now2 c s=(m,0)/\b0j s.2.2.2.1.2.2 (s.2.1 / c.2.1.2.2)/\CellN m/\m.2.1.1 / c.2.1.2.2=s.2.1 / c.2.1.2.2
theorem c2n {c:Conf}{s:Ser}(h:SerOk c s):Ends3 c s:=by
 have hr:=h.fold.cok.rng;by_cases hn:s.2.1 = -1
 ·exact ⟨.inl hn,.inl hn,.inl hn⟩
 have ht:=p0r h hn;obtain ⟨he,_⟩:=p1a h hn;have hf:s.2.2.2.2.2.2.1.1 / c.2.1.1=s.2.1 / c.2.1.1:=by
  rw[he.fit.f,<-he.fit.l,he.ol]
 obtain ⟨m1,a1,a2,a3⟩:=now_up h.fold.t0 he.b0 hr.w0.1 hr.w1.1 h.fold.cok.m1 ht.1 he.fit.n hf;obtain ⟨m2,b1,b2,b3⟩:=now_up h.fold.t1 he.b1 hr.w1.1 hr.w2.1 h.fold.cok.m2 ht.1 a2 a3;have e1:now1 c s=(m1,0):=a1;refine ⟨.inr ⟨he.b0,he.fit.n,hf⟩,.inr ⟨m1,e1,he.b1,a2,a3⟩,.inr ⟨m2,?_,he.b2,b2,b3⟩⟩;unfold now2;rw[e1,q0n (nn rfl)];exact b1
noncomputable def g1c (c:Conf)(s:Ser)(k i j:Int):Cel×Int :=
 if k=0 then f0h (SerOk c s) i j s.2.1 c.2.1.1 s.2.2.2.1.1 (s.2.2.2.2.2,0)
 else if k=1 then f0h (SerOk c s) i j s.2.1 c.2.1.2.1 s.2.2.2.1.2.1 (now1 c s)
 else f0h (SerOk c s) i j s.2.1 c.2.1.2.2 s.2.2.2.1.2.2 (now2 c s)
theorem d2e {c:Conf}{s:Ser}(h:SerOk c s)(k:Int){i j:Int}(h0:0<=i)(hij:i<=j):(g1c c s k i j).2=0:=by
 have he:=c2n h;unfold g1c;split
 ·exact e1g h h.fold.t0 he.t0 h0 hij
 split
 ·by_cases hn:s.2.1 = -1
  ·unfold f0h;rw[q0z h,q0n (by omega),q0n (by omega),q0z hn]
  ·obtain ⟨m,e,k1,k2,k3⟩:=he.t1.resolve_left hn;rw[e];exact e1g h h.fold.t1 (.inr ⟨k1,k2,k3⟩) h0 hij
 ·by_cases hn:s.2.1 = -1
  ·unfold f0h;rw[q0z h,q0n (by omega),q0n (by omega),q0z hn]
  ·obtain ⟨m,e,k1,k2,k3⟩:=he.t2.resolve_left hn;rw[e];exact e1g h h.fold.t2 (.inr ⟨k1,k2,k3⟩) h0 hij
noncomputable def e2y (s:Sta)(i:Nat):Bool:=match s.2.2.2[i]? with | some x=>l1l s.1 x.2.1 s.2.1 | none=>false
noncomputable def dueV (s:Sta):List Nat:=if StaOk s then (j0y s).filter (e2y s) else []
def o1k (s:Sta):Sta:=(s.1,(s.2.1,(s.2.1,s.2.2.2)))
noncomputable def y0v (s:Sta)(x:Ser):Ser:=if LvX s x then m0i s.1 s.2.1 x else ser0
noncomputable def l1o (s:Sta):Sta:=(s.1,(s.2.1,(s.2.2.1,s.2.2.2.map (y0v s))))
theorem swept_lv {s:Sta}{x:Ser}(h:StaOk s):LvX (o1k s) x↔x≠ser0/\l1l s.1 x.2.1 s.2.1=false:=by
 have:=h.clock.1.1;constructor
 ·rintro ⟨h1,h2 | h2⟩
  ·exfalso;have h2:s.2.1 = -1:=h2;omega
  ·exact ⟨h1,h2⟩
 ·rintro ⟨h1,h2⟩;exact ⟨h1,.inr h2⟩
theorem old_mono {a b w m:Int}(ha:OfP a w)(hb:OfP b w)(hab:a<=b)(hm:1<=m/\m<=4096):(oldV a w m).1<=(oldV b w m).1:=by
 unfold oldV;rw[q0z (show OfP a w/\1<=m/\m<=4096 from ⟨ha,hm.1,hm.2⟩),q0z (show OfP b w/\1<=m/\m<=4096 from ⟨hb,hm.1,hm.2⟩)];have:a / w<=b / w:=Int.ediv_le_ediv (by have:=ha.2.2.1;omega) hab;simp only;split<;>split<;>omega
theorem l1d {t a b w m:Int}(ha:OfP a w)(hb:OfP b w)(hab:a<=b)(hm:1<=m/\m<=4096)(h:e1x t a w m=true):e1x t b w m=true:=by
 unfold e1x at *
 have h:=of_decide_eq_true h;have:=old_mono ha hb hab hm;exact q2g ⟨h.1,t0n hb hm,by omega⟩
theorem t2u {c:Conf}{t a b:Int}(ha:y0b a)(hb:y0b b)(hab:a<=b)(h:l1l c t a=true):l1l c t b=true:=by
 unfold l1l at *
 simp only[q1n,q3a] at h ⊢;obtain ⟨hc,h0,h1,h2⟩:=h;have hr:=hc.rng;exact ⟨hc,l1d ⟨ha.1,ha.2,hr.w0.1,hr.w0.2⟩ ⟨hb.1,hb.2,hr.w0.1,hr.w0.2⟩ hab hr.n0 h0,l1d ⟨ha.1,ha.2,hr.w1.1,hr.w1.2⟩ ⟨hb.1,hb.2,hr.w1.1,hr.w1.2⟩ hab hr.n1 h1,l1d ⟨ha.1,ha.2,hr.w2.1,hr.w2.2⟩ ⟨hb.1,hb.2,hr.w2.1,hr.w2.2⟩ hab hr.n2 h2⟩
theorem g2d {s:Sta}(h:StaOk s){x:Ser}(hl:LvX (o1k s) x):LvX s x:=by
 obtain ⟨h1,h2⟩:=(swept_lv h).1 hl;refine ⟨h1,?_⟩;rcases h.clock.2.1 with k | k
 ·exact .inl k
 ·refine .inr ?_;cases hd:l1l s.1 x.2.1 s.2.2.1 with
  | false=>rfl
  | true=>rw[t2u k h.clock.1 h.clock.2.2 hd] at h2;cases h2
theorem swept_ok {s:Sta}(h:StaOk s):StaOk (o1k s):=by
 refine ⟨h.whole,⟨h.clock.1,.inr h.clock.1,Int.le_refl _⟩,fun i x hx => ?_⟩;rcases h.right i x hx with k | ⟨k1,k2,k3,k4⟩
 ·exact .inl k
 ·refine .inr ⟨k1,k2,k3,?_⟩;rintro ⟨q1,j,q2,y,q3,q4,q5⟩;exact k4 ⟨g2d h q1,j,q2,y,q3,g2d h q4,q5⟩
theorem u2e {c:Conf}{now:Int}{x:Ser}(h:SerOk c x):m0i c now x≠ser0:=by
 intro k;have:=h.lab.n0;have e:x.1=[]:=congrArg Prod.fst k;rw[e] at this;simp at this
theorem t1m {s:Sta}(h:StaOk s){x:Ser}(hx:x∈s.2.2.2)(hl:LvX s x):SerOk s.1 x/\0<=x.2.1:=by
 obtain ⟨i,hi,e⟩:=List.getElem_of_mem hx;rcases h.right i x (by rw[q2z hi,e]) with k | k
 ·exact absurd k hl.1
 ·exact ⟨k.1,k.2.1⟩
theorem u2f {s:Sta}(h:StaOk s){x:Ser}(hx:x∈s.2.2.2):LvX s (y0v s x)↔LvX s x:=by
 unfold y0v;by_cases hl:LvX s x
 ·rw[q0z hl];exact ⟨fun _=>hl,fun _=>⟨u2e (t1m h hx hl).1,hl.2⟩⟩
 ·rw[q0n hl];exact ⟨fun k=>absurd rfl k.1,fun k=>absurd k hl⟩
theorem clean_ok {s:Sta}(h:StaOk s):StaOk (l1o s):=by
 refine ⟨⟨h.whole.1,by simpa [l1o] using h.whole.2⟩,h.clock,fun i x hx => ?_⟩;have hx:(s.2.2.2.map (y0v s))[i]? = some x:=hx;rw[q4c] at hx;cases hy:s.2.2.2[i]? with
 | none=>rw[hy] at hx;cases hx
 | some y =>
  rw[hy] at hx;simp only[Option.map_some,Option.some.injEq] at hx;by_cases hl:LvX s y
  ·have e:y0v s y=m0i s.1 s.2.1 y:=q0z hl;rw[e] at hx;have hym:=q3y hy;rcases h.right i y hy with k | ⟨k1,k2,k3,k4⟩
   ·exact absurd k hl.1
   subst hx;refine .inr ⟨u2d k1,k2,k3,?_⟩;rintro ⟨q1,j,q2,z,q3,q4,q5⟩;have q3:(s.2.2.2.map (y0v s))[j]? = some z:=q3;rw[q4c] at q3;cases hw:s.2.2.2[j]? with
   | none=>rw[hw] at q3;cases q3
   | some w =>
    rw[hw] at q3;simp only[Option.map_some,Option.some.injEq] at q3;have hwm:=q3y hw;have q4:LvX s z:=q4;rw[<-q3] at q4 q5;have hlw:=(u2f h hwm).1 q4;have e2:y0v s w=m0i s.1 s.2.1 w:=q0z hlw;rw[e2] at q5;exact k4 ⟨hl,j,q2,w,hw,hlw,q5⟩
  ·have e:y0v s y=ser0:=q0n hl;rw[e] at hx;exact .inl hx.symm
theorem t1j {s:Sta}{i:Nat}:lvAt s i=true↔∃x,s.2.2.2[i]? = some x/\LvX s x:=by
 unfold lvAt;cases s.2.2.2[i]? with
 | none=>simp
 | some x=>simp
theorem z1r {u x:Sta}{l:List Lab}{e:Ev}(h:n0x u l e=(x,0)):∃i y,p0m x l=some i/\x.2.2.2[i]? = some y/\y.2.1=e.1:=by
 obtain ⟨hg,i,z,b,y,hp,hput,rfl,_⟩:=i1b h;obtain ⟨p1,p2,p3,p4⟩:=b1w hg hp;obtain ⟨q1,q2,q3,q4,q5⟩:=b1m p1 hput;have hy:(setS u i y).2.2.2[i]? = some y:=by rw[t0a,q0z rfl,q0z p3]
 have hne:y≠ser0:=fun k=>by
  have e1:y.1=[]:=congrArg Prod.fst k;have:=q1.lab.n0;rw[e1] at this;simp at this
 have hl:LvX (setS u i y) y:=y1q (s:=u) hg.st hne (by rw[q4];exact hg.lo) (by rw[q4];exact hg.ev.t1);refine ⟨i,y,h0w.2 ⟨y,hy,q5.trans p2,hl,fun j hj w hw hn => ?_⟩,hy,q4⟩;rw[t0a,q0n (by omega)] at hw;cases hp with
 | found hf hx hl hlv ht =>
  obtain ⟨_,_,_,_,first⟩:=h0w.1 hf;exact first j hj w hw hn
 | room hf hs hr=>exact r0y.1 hf w (q3y hw) hn
theorem i2u {u x:Sta}{l:List Lab}{e:Ev}(h:n0x u l e=(x,0)):∃i y old,p0m x l=some i/\u.2.2.2[i]? = some old/\x.2.2.2[i]? = some y/\x=setS u i y/\y≠old:=by
 obtain ⟨hg,i,z,b,y,hp,hput,hx,_⟩:=i1b h;subst hx;obtain ⟨p1,p2,p3,p4⟩:=b1w hg hp;obtain ⟨q1,q2,q3,q4,q5⟩:=b1m p1 hput;have hy:(setS u i y).2.2.2[i]? = some y:=by rw[t0a,q0z rfl,q0z p3]
 obtain ⟨i',y',f1,f2,f3⟩:=z1r h;have hne:y≠ser0:=fun k=>by
  have e1:y.1=[]:=congrArg Prod.fst k;have:=q1.lab.n0;rw[e1] at this;simp at this
 have hl:LvX (setS u i y) y:=y1q (s:=u) hg.st hne (by rw[q4];exact hg.lo) (by rw[q4];exact hg.ev.t1);have hfi:p0m (setS u i y) l=some i:=h0w.2 ⟨y,hy,q5.trans p2,hl,fun j hj w hw hn=>by
  rw[t0a,q0n (by omega)] at hw;cases hp with
  | found hf hx hl hlv ht =>
   obtain ⟨_,_,_,_,first⟩:=h0w.1 hf;exact first j hj w hw hn
  | room hf hs hr=>exact r0y.1 hf w (q3y hw) hn⟩
 cases hp with
 | found hf hx hl' hlv ht=>exact ⟨i,y,z,hfi,hx,hy,rfl,fun k=>by rw[k] at q4;omega⟩
 | room hf hs hr =>
  obtain ⟨old,o1,o2,_⟩:=e1b.1 hr;exact ⟨i,y,old,hfi,o1,hy,rfl,fun k=>o2 (by rw[<-k];exact hl)⟩
theorem u2k {α:Type}{s:Sta}(h:StaOk s)(x y:α):tif (decide ((if StaOk s then (0:Int) else 2)=0)) x y=x:=by rw[q0z h];rfl
theorem u2l {α:Type}{s:Sta}(h:¬StaOk s)(x y:α):tif (decide ((if StaOk s then (0:Int) else 2)=0)) x y=y:=by rw[q0n h];rfl
theorem u1d {α:Type}{l pre rest:List α}{x:α}{i:Int}(h:l=pre++x::rest)(hi:i=pre.length):l[i.toNat]? = some x:=by subst h hi;simp
theorem set_mid {α:Type}{pre rest:List α}{x v:α}{i:Int}(hi:i=pre.length):(pre++x::rest).set i.toNat v=(pre++[v])++rest:=by subst hi;simp
theorem at_nn {α:Type}{l:List α}{i:Int}{x:α}(h0:0<=i)(h:l[i.toNat]? = some x):at? l i=some x:=by unfold at?;rw[q2g h0];exact h
section
variable {del:Int×Unit->Option Bool}{p:Int->Bool}{L:List Int}(hd:∀x∈L,del (x,())=some (p x))
include hd
theorem index_il (n:Nat)(l:List Int)(hL:l.length<=1000000):∀(rest pre:List Int) (f:Nat) (i len:Int),(∀x∈rest,x∈L)->l=pre++rest->i=pre.length->len=l.length->rest.length<f ->
  (d0x n f (l,del,len,i,())=some (.inl ())/\∀x∈rest,p x=false) \/
  (∃A x B,rest=A++x::B/\(∀y∈A,p y=false)/\p x=true/\d0x n f (l,del,len,i,())=some (.inr (i+A.length))):=by
 intro rest;induction rest with
 | nil =>
  intro pre f i len hm hl hi hn hf;obtain ⟨f,rfl⟩:=FSu hf;rw[k0k];exact .inl ⟨by simp only[tfd,q0n (idxe hl hi hn)],by simp⟩
 | cons x rest ih =>
  intro pre f i len hm hl hi hn hf;obtain ⟨f,rfl⟩:=FSu hf;rw[k0k];simp only[tfd,q0z (idx hl hi hn),c0c hl hi,obs,hd x (hm x (by simp)),idxw hl hi (show l.length<=1000000000000 by omega)];cases hp:p x with
  | true=>exact .inr ⟨[],x,rest,rfl,by simp,hp,by simp⟩
  | false =>
   rw[tff];rcases ih (pre++[x]) f (i+1) len (fun y hy=>hm y (by simp[hy])) (idxl hl) (idxs hi) hn (by simp at hf;omega) with ⟨h1,h2⟩ | ⟨A,y,B,h1,h2,h3,h4⟩
   ·exact .inl ⟨h1,by intro z hz;rcases q3k.1 hz with rfl | hz;exact hp;exact h2 z hz⟩
   ·refine .inr ⟨x::A,y,B,by rw[h1];rfl,?_,h3,by rw[h4,q3i,show i+1+(A.length:Int)=i+((A.length+1:Nat):Int) by omega]⟩;intro z hz;rcases q3k.1 hz with rfl | hz
    ·exact hp
    ·exact h2 z hz
theorem t2t (n:Nat)(l0:List Int)(hL:l0.length<=1000000):∀(rest F G:List Int) (f:Nat) (i j:Int),(∀x∈rest,x∈L)->(F++(G++rest)).length=l0.length->G≠[]->i=F.length->j=F.length+G.length->rest.length<f ->
  ∃G',d0p n f (F++(G++rest),del,i,j,())=some (.inl (F++rest.filter (fun x => !p x)++G',(F++rest.filter (fun x => !p x)).length,()))/\(F++rest.filter (fun x => !p x)++G').length=l0.length:=by
 intro rest;induction rest with
 | nil =>
  intro F G f i j hm hl hg hi hj hf;obtain ⟨f,rfl⟩:=FSu hf;rw[j0u];have:¬(j<((F++(G++[])).length:Int)):=by simp;omega
  simp only[tfd,q0n this];exact ⟨G,by simp[hi],by simpa using hl⟩
 | cons x rest ih =>
  intro F G f i j hm hl hg hi hj hf;have hm':∀y∈rest,y∈L:=fun y hy=>hm y (by simp[hy])
  obtain ⟨f,rfl⟩:=FSu hf;rw[j0u];simp only[q3b,q3i] at hl;have hlt:j<((F++(G++x::rest)).length:Int):=by simp;omega
  have hat:at? (F++(G++x::rest)) j=some x:=c0c (pre:=F++G) (rest:=rest) (by simp) (by simp;omega);have hget:(F++(G++x::rest))[j.toNat]? = some x:=by
   rw[show j.toNat=F.length+G.length by omega,q3f (by omega),q3f (by omega)];simp
  simp only[tfd,q0z hlt,hat,hget,obs,hd x (hm x (by simp))];have wj:wrap .i64 (j+1)=j+1:=by rw[w64 (by omega) (by omega)]
  have wi:wrap .i64 (i+1)=i+1:=by rw[w64 (by omega) (by omega)]
  rw[wj,wi]
  match G,hg with
  | g::G,_ =>
  cases hp:p x with
  | false =>
   have hat':at? (F++(g::G++x::rest)) i=some g:=c0c (pre:=F) (rest:=G++x::rest) (by simp) hi;have hget':(F++(g::G++x::rest))[i.toNat]? = some g:=by
    rw[show i.toNat=F.length by omega];simp
   have hset:(F++(g::G++x::rest)).set i.toNat x=(F++[x])++((G++[x])++rest):=by
    rw[show i.toNat=F.length by omega,q4q _ _ (by omega)];simp
   simp only[Bool.not_false,tft,hat',hget',obs,hset];obtain ⟨G',h1,h2⟩:=ih (F++[x]) (G++[x]) f (i+1) (j+1) hm' (by simp at hl ⊢;omega) (by simp) (by simp;omega) (by simp at hj ⊢;omega) (by simp at hf;omega);refine ⟨G',?_,?_⟩
   ·rw[h1];simp[List.filter_cons,hp]
   ·rw[<-h2];simp[List.filter_cons,hp]
  | true =>
   simp only[q3s,tff];obtain ⟨G',h1,h2⟩:=ih F (g::G++[x]) f i (j+1) hm' (by simp at hl ⊢;omega) (by simp) hi (by simp at hj ⊢;omega) (by simp at hf;omega);simp only[q3e,List.singleton_append] at h1;refine ⟨G',?_,?_⟩
   ·rw[h1];simp[List.filter_cons,hp]
   ·rw[<-h2];simp[List.filter_cons,hp]
theorem m2y (n:Nat)(l:List Int)(hL:l.length<=1000000)(hm:∀x∈l,x∈L):k0t (n+2) l del=some (l.filter fun x => !p x):=by
 rw[x0v,z0j];rcases index_il hd n l hL l [] a0b 0 l.length hm rfl rfl rfl (by unfold a0b;omega) with ⟨h1,h2⟩ | ⟨A,x,B,h1,h2,h3,h4⟩
 ·rw[h1];simp only[obs,a0r,tfd,q0z trivial];exact congrArg some (List.filter_eq_self.2 fun y hy=>by simp[h2 y hy]).symm
 ·rw[h4];have hl:l.length=A.length+(B.length+1):=by rw[h1];simp
  simp only[obs,l0w,tfd,Int.zero_add];rw[q0n (by omega),w64 (x:=(A.length:Int)+1) (by omega) (by omega)];obtain ⟨G',g1,g2⟩:=t2t hd (n+1) l hL B A [x] a0b (A.length:Int) (A.length+1) (fun y hy=>hm y (by rw[h1];simp[hy])) (by rw[h1];simp) (by simp) rfl (by simp) (by unfold a0b;omega);rw[show A++([x]++B)=l by rw[h1];simp] at g1;rw[g1];have hF:A++B.filter (fun x => !p x)=l.filter fun x => !p x:=by
   rw[h1,List.filter_append,List.filter_cons];have:A.filter (fun x => !p x)=A:=List.filter_eq_self.2 fun y hy=>by simp[h2 y hy]
   simp[h3,this]
  rw[hF] at g2 ⊢;generalize (l.filter fun x => !p x)=F at *
  simp only[obs,a0r,u0z,tfd,q3g];have hle:F.length<=(F++G').length:=by simp
  have k1:putRow (F++G') F.length (List.replicate ((F++G').length-F.length) (0:Int))=F++List.replicate ((F++G').length-F.length) (0:Int):=by
   unfold putRow;rw[List.drop_of_length_le (by simp)];simp
  rw[k1,q0z (by omega),q0z hle,q0z (by omega),q0z (by omega),q0z (by simp;omega)];simp
end
theorem d2y {s:Sta}{z:Int}(h:z∈(j0y s).map Int.ofNat):0<=z/\∃y,s.2.2.2[z.toNat]? = some y/\LvX s y:=by
 obtain ⟨i,hi,rfl⟩:=q4g.1 h;have h1:=(q4m.1 hi).2;obtain ⟨x,hx,hl⟩:=t1j.1 h1;exact ⟨Int.natCast_nonneg i,x,hx,hl⟩
theorem b2p (n:Nat){s:Sta}{z:Int}{x:Ser}(h0:0<=z)(hx:s.2.2.2[z.toNat]? = some x):o0f (n+7) z s=some (!e2y s z.toNat):=by
 rw[m1m,at_nn h0 hx,obs,j1z n,obs];unfold e2y;rw[hx]
theorem due_list (s:Sta):((j0y s).map Int.ofNat).filter (fun z=>e2y s z.toNat)=((j0y s).filter (e2y s)).map Int.ofNat:=by
 rw[List.filter_map];rfl
theorem o2s (n:Nat){s:Sta}(hw:StaW s):j1l (n+15) s=some ((dueV s).map Int.ofNat):=by
 rw[w1x,f0e n hw,obs,tfn];unfold dueV;by_cases h:StaOk s
 case neg=>rw[u2l h,q0n h];rfl
 have hd:∀z∈(j0y s).map Int.ofNat,(fun y2:Int×Unit=>o0f (n+14) y2.1 s) (z,())=some (!e2y s z.toNat):=fun z hz=>by
  obtain ⟨h0,y,hy,_⟩:=d2y hz;exact b2p (n+7) h0 hy
 have hL:((j0y s).map Int.ofNat).length<=1000000:=by have:=t1n s;have:=h.whole.len;simp;omega
 have e:e2c s=(j0y s).map Int.ofNat:=q0z h.whole;rw[u2k h,r1q (n+6) hw,obs,e,m2y (del:=fun y2:Int×Unit=>o0f (n+14) y2.1 s) (p:=fun z => !e2y s z.toNat) hd (n+12) _ hL (fun _ hx=>hx),obs,q0z h,<-due_list];simp only[Bool.not_not]
noncomputable def doV (s:Sta):Sta×(Int×Int):=if StaOk s then (o1k s,(((dueV s).length:Int),0)) else (sta0,(0,2))
theorem sweep_do (n:Nat){s:Sta}(hw:StaW s):r1p (n+16) s=some (doV s):=by
 rw[b2r,f0e (n+1) hw,obs,tfn];unfold doV;by_cases h:StaOk s
 case neg=>rw[u2l h,q0n h,q0n h];rfl
 rw[u2k h,q0z h,o2s n hw,obs,List.length_map];rfl
theorem sweptS_w {s:Sta}(hw:StaW s):StaW (o1k s):=⟨hw.len,hw.ser⟩
theorem s2z (o:Int)(r:Int×Int)(x:Slo)(l:List Slo):u0a o r (x::l)=(if v1w o r x then x else s0)::u0a o r l:=rfl
theorem e2u (n:Nat)(o a b:Int):∀(rest pre:List Slo) (f:Nat) (ix len:Int),pre.length+rest.length<=1000000->ix=pre.length->len=(pre.length:Int)+rest.length->rest.length<f ->
  d0g n f (o,a,b,pre++rest,len,ix,())=some (.inl (pre++u0a o (a,b) rest,())):=by
 intro rest;induction rest with
 | nil =>
  intro pre f ix len hL hi hn hf;obtain ⟨f,rfl⟩:=FSu hf;rw[u0j,q1z (by simp at hn;omega),tff];rfl
 | cons x rest ih =>
  intro pre f ix len hL hi hn hf;obtain ⟨f,rfl⟩:=FSu hf;simp only[q3i] at hL hn hf;have go:∀v:Slo,v=(if v1w o (a,b) x then x else s0)->d0g n f (o,a,b,(pre++[v])++rest,len,ix+1,())=some (.inl (pre++u0a o (a,b) (x::rest),())):=by
   intro v hv;rw[ih (pre++[v]) f (ix+1) len (by simp;omega) (by simp;omega) (by simp;omega) (by omega),s2z,<-hv];simp
  have same:(pre++[x])++rest=pre++x::rest:=by simp
  have gm:∀v:Slo,(pre++x::rest).set ix.toNat v=(pre++[v])++rest:=fun v=>set_mid hi
  rw[u0j,q2g (by omega),tft,c0c rfl hi,obs,u1d rfl hi,obs,w64 (by omega) (by omega)];simp only[tfd,obs,gm];by_cases h1:x.1<o
  ·rw[q0z h1];by_cases h2:x.1<a
   ·rw[q0z h2];exact go s0 (q0n (fun k:v1w o (a,b) x=>k ⟨h1,.inl h2⟩)).symm
   ·rw[q0n h2];by_cases h3:b<=x.1
    ·rw[q0z h3];exact go s0 (q0n (fun k:v1w o (a,b) x=>k ⟨h1,.inr h3⟩)).symm
    ·rw[q0n h3,<-same];exact go x (q0z (show v1w o (a,b) x from fun k=>k.2.elim h2 h3)).symm
  ·rw[q0n h1,<-same];exact go x (q0z (show v1w o (a,b) x from fun k=>h1 k.1)).symm
theorem g2z {t a b:Int}(ht:0<=t/\t<35184372088832)(ha:1<=a)(hb:1<=b)(hb1:b<=1099511627776)(hm:b % a=0):0<=t / b*(b / a)/\t / b*(b / a)<=t/\1<=b / a/\b / a<=1099511627776:=by
 have hp:=p1z ha hb hm;have q:=(edvm (t:=t) ha hb hm).2;have h0:0<=t / b:=Int.ediv_nonneg ht.1 (by omega);have h1:t / b*(b / a)<=t / a:=by rw[<-q];exact Int.ediv_mul_le _ (by omega)
 have h2:t / a<=t:=Int.ediv_le_self _ ht.1;have h3:b / a<=b:=Int.ediv_le_self _ (by omega);exact ⟨Int.mul_nonneg h0 (by omega),by omega,by omega,by omega⟩
theorem h2a {a b:Int}(ha:1<=a)(hb:1<=b)(hb1:b<=1099511627776):wrap .i64 (Int.tdiv b a)=b / a:=r0l ⟨by omega,by omega⟩ ha
theorem needed_0 (n:Nat){c:Conf}(h:OkC c){t:Int}(ht:0<=t/\t<35184372088832):f0q (n+1) c t 0=some (l2n c t):=by
 have hr:=h.rng;obtain ⟨a1,a2,a3,a4⟩:=g2z ht hr.w0.1 hr.w1.1 hr.w1.2 h.m1;rw[d1m,tfd,q0n (nz hr.w0.1),tfd,q0n (nz hr.w1.1),r0l ht hr.w1.1,h2a hr.w0.1 hr.w1.1 hr.w1.2,w64 (x:=t / c.2.1.2.1*(c.2.1.2.1 / c.2.1.1)) (by omega) (by omega),w64 (by omega) (by omega)];rfl
theorem needed_1 (n:Nat){c:Conf}(h:OkC c){t:Int}(ht:0<=t/\t<35184372088832):f0q (n+1) c t 1=some (l2m c t):=by
 have hr:=h.rng;obtain ⟨a1,a2,a3,a4⟩:=g2z ht hr.w1.1 hr.w2.1 hr.w2.2 h.m2;rw[d1l,tfd,q0n (nz hr.w1.1),tfd,q0n (nz hr.w2.1),r0l ht hr.w2.1,h2a hr.w1.1 hr.w2.1 hr.w2.2,w64 (x:=t / c.2.1.2.2*(c.2.1.2.2 / c.2.1.2.1)) (by omega) (by omega),w64 (by omega) (by omega)];rfl
theorem fade_0 (n:Nat){c:Conf}(h:OkC c)(x:Ser)(ht:0<=x.2.1/\x.2.1<35184372088832)(hL:x.2.2.2.1.1.length<=1000000)(o:Int):h0g (n+2) c x 0 o=some (u0a o (l2n c x.2.1) x.2.2.2.1.1):=by
 rw[j1k,needed_0 n h ht,obs,s0e n _ hL,obs];have e:=e2u (n+1) o (l2n c x.2.1).1 (l2n c x.2.1).2 x.2.2.2.1.1 [] a0b 0 (x.2.2.2.1.1.length:Int) (by simpa using hL) rfl (by simp) (by unfold a0b;omega);rw[q3p] at e;rw[e,obs,a0r];rfl
theorem fade_1 (n:Nat){c:Conf}(h:OkC c)(x:Ser)(ht:0<=x.2.1/\x.2.1<35184372088832)(hL:x.2.2.2.1.2.1.length<=1000000)(o:Int):h0g (n+2) c x 1 o=some (u0a o (l2m c x.2.1) x.2.2.2.1.2.1):=by
 rw[j1j,needed_1 n h ht,obs,s0e n _ hL,obs];have e:=e2u (n+1) o (l2m c x.2.1).1 (l2m c x.2.1).2 x.2.2.2.1.2.1 [] a0b 0 (x.2.2.2.1.2.1.length:Int) (by simpa using hL) rfl (by simp) (by unfold a0b;omega);rw[q3p] at e;rw[e,obs,a0r];rfl
theorem fade_2 (n:Nat)(c:Conf)(x:Ser)(hL:x.2.2.2.1.2.2.length<=1000000)(o:Int):h0g (n+2) c x 2 o=some (u0a o (0,0) x.2.2.2.1.2.2):=by
 rw[j1i,d1k,obs,s0e n _ hL,obs];have e:=e2u (n+1) o 0 0 x.2.2.2.1.2.2 [] a0b 0 (x.2.2.2.1.2.2.length:Int) (by simpa using hL) rfl (by simp) (by unfold a0b;omega);rw[q3p] at e;rw[e,obs,a0r];rfl
theorem time_of {s:Sta}(h:StaOk s){x:Ser}(hx:SerOk s.1 x)(h0:0<=x.2.1):0<=x.2.1/\x.2.1<35184372088832:=p0r hx (by omega)
theorem u2c (n:Nat){s:Sta}(h:StaOk s){x:Ser}(hx:SerOk s.1 x)(h0:0<=x.2.1)(s2:Sta)(out:List Ser)(i:Int)(L:List Int)(q1 q2:Int)(f:Nat) :
  c0t (n+14) (f+4) (s,s2,out,i,x,L,q1,q2,s.1.2.1,(0:Int),())=some (.inl (s,s2,out,i,m0i s.1 s.2.1 x,L,q1,q2,())):=by
 have hr:=h.whole.1.rng;have ht:=h.clock.1;have hc:=h.whole.1;have hT:=time_of h hx h0;have l0:=hx.fold.t0.l1;have l1:=hx.fold.t1.l1;have l2:=hx.fold.t2.l1;rw[x0s,u0w (n+10),obs,tfn,q2g (t0n ⟨ht.1,ht.2,hr.w0.1,hr.w0.2⟩ hr.n0),tft,fade_0 (n+12) hc x hT (by omega),obs];generalize e0:u0a (oldV s.2.1 s.1.2.1.1 s.1.2.2.1.1).1 (l2n s.1 x.2.1) x.2.2.2.1.1=F0;rw[x0r,u0w (n+10),obs,tfn,q2g (t0n ⟨ht.1,ht.2,hr.w1.1,hr.w1.2⟩ hr.n1),tft,
  fade_1 (n+12) hc (x.1,(x.2.1,(x.2.2.1,((F0,x.2.2.2.1.2),x.2.2.2.2)))) hT (by show x.2.2.2.1.2.1.length<=_;omega),obs]
 dsimp only;generalize e1:u0a (oldV s.2.1 s.1.2.1.2.1 s.1.2.2.1.2.1).1 (l2m s.1 x.2.1) x.2.2.2.1.2.1=F1;rw[x0q,u0w (n+10),obs,tfn,q2g (t0n ⟨ht.1,ht.2,hr.w2.1,hr.w2.2⟩ hr.n2),tft,
  fade_2 (n+12) s.1 (x.1,(x.2.1,(x.2.2.1,((F0,(F1,x.2.2.2.1.2.2)),x.2.2.2.2)))) (by show x.2.2.2.1.2.2.length<=_;omega),obs,x0p]
 subst e0 e1;rfl
noncomputable def i2h (s:Sta)(L:List Int)(out:List Ser):List Ser:=L.foldl (fun o z=>o.set z.toNat (m0i s.1 s.2.1 ((s.2.2.2[z.toNat]?).getD ser0))) out
theorem clean_l6 (n:Nat){s:Sta}(h:StaOk s)(s2:Sta)(L:List Int)(hL:L.length<=1000000)(hm:∀z∈L,0<=z/\∃y,s.2.2.2[z.toNat]? = some y/\SerOk s.1 y/\0<=y.2.1):∀(rest pre:List Int) (f:Nat) (out:List Ser) (ix len:Int),L=pre++rest->ix=pre.length->len=L.length->rest.length<f->out.length=s.2.2.2.length ->
  i0o (n+14) f (s,s2,out,L,len,ix,())=some (.inl (s,s2,i2h s rest out,())):=by
 intro rest;induction rest with
 | nil =>
  intro pre f out ix len hl hi hn hf ho;obtain ⟨f,rfl⟩:=FSu hf;rw[r0e,q1z (idxe hl hi hn),tff];rfl
 | cons z rest ih =>
  intro pre f out ix len hl hi hn hf ho;obtain ⟨f,rfl⟩:=FSu hf;obtain ⟨h0,y,hy,hs,hy0⟩:=hm z (by rw[hl];simp);have hlt:z.toNat<out.length:=by rw[ho];exact (q3o.1 hy).1
  have hg:out[z.toNat]? = some out[z.toNat]:=q2z hlt;have e10:=u2c n h hs hy0 s2 out z L len ix (2^70-4);rw[show 2^70-4+4=a0b from by decide] at e10;rw[r0e,q2g (idx hl hi hn),tft,c0c hl hi,obs,u1d hl hi,obs,at_nn h0 hy,obs,e10,obs,a0r];dsimp only;rw[at_nn h0 hg,obs,hg,obs,idxw hl hi (show L.length<=1000000000000 by omega),ih (pre++[z]) f _ (ix+1) len (idxl hl) (idxs hi) hn (by simp at hf;omega) (by simpa using ho)];unfold i2h;rw[List.foldl_cons,hy];rfl
theorem set_fold {α:Type}(g:Int->α)(j:Nat):∀(L:List Int) (out:List α),(∀z∈L,0<=z)->(L.foldl (fun o z=>o.set z.toNat (g z)) out)[j]? = if (j:Int)∈L then (if j<out.length then some (g j) else none) else out[j]? := by
 intro L;induction L with
 | nil=>intro out _;simp
 | cons z L ih =>
  intro out hz;have h0:=hz z (by simp);rw[List.foldl_cons,ih _ (fun y hy=>hz y (by simp[hy])),List.length_set];by_cases h:(j:Int)∈L
  ·rw[q0z h,q0z (show (j:Int)∈z::L by simp[h])]
  ·rw[q0n h,List.getElem?_set];by_cases e:z.toNat=j
   ·have e':z=(j:Int):=by omega
    rw[q0z e,q0z (show (j:Int)∈z::L by simp[e']),e,e']
   ·rw[q0n e,q0n (show ¬(j:Int)∈z::L by simp[h];omega)]
theorem n2b {s:Sta}(h:StaOk s):i2h s ((j0y s).map Int.ofNat) (List.replicate s.2.2.2.length ser0)=s.2.2.2.map (y0v s):=by
 apply q4u;intro j;unfold i2h;rw[set_fold (fun z=>m0i s.1 s.2.1 ((s.2.2.2[z.toNat]?).getD ser0)) j _ _ (fun z hz=>(d2y hz).1),q4c,q3z];have hmem:((j:Int)∈(j0y s).map Int.ofNat)↔lvAt s j=true:=by
  constructor
  ·intro hz;obtain ⟨i,hi,e⟩:=q4g.1 hz;have e:i=j:=by injection e
   rw[<-e];exact (q4m.1 hi).2
  ·intro hl;exact q4g.2 ⟨j,q4m.2 ⟨q4v.2 (r2f hl),hl⟩,rfl⟩
 by_cases hl:lvAt s j=true
 ·obtain ⟨x,hx,hlx⟩:=t1j.1 hl;rw[q0z (hmem.2 hl),q0z (r2f hl),hx];simp only[Option.map_some,q3g,hx,Option.getD_some];exact congrArg some (q0z hlx).symm
 ·rw[q0n (fun k=>hl (hmem.1 k)),List.getElem?_replicate];cases hx:s.2.2.2[j]? with
  | none=>rw[q0n (by have:=List.getElem?_eq_none_iff.1 hx;omega)];rfl
  | some x =>
   rw[q0z (q3o.1 hx).1];have hn:¬LvX s x:=fun k=>hl (t1j.2 ⟨x,hx,k⟩)
   exact congrArg some (q0n hn).symm
noncomputable def i2g (s:Sta):Sta×Int:=if StaOk s then (l1o s,0) else (sta0,2)
theorem d2z {s:Sta}(h:StaOk s):∀z∈(j0y s).map Int.ofNat,0<=z/\∃y,s.2.2.2[z.toNat]? = some y/\SerOk s.1 y/\0<=y.2.1:=by
 intro z hz;obtain ⟨h0,y,hy,hl⟩:=d2y hz;exact ⟨h0,y,hy,t1m h (q3y hy) hl⟩
theorem b2q (n:Nat){s:Sta}(hw:StaW s):z0g (n+15) s=some (i2g s):=by
 rw[m1n,f0e n hw,obs,tfn];unfold i2g;by_cases h:StaOk s
 case neg=>rw[u2l h,q0n h,q0n h];rfl
 have hlen:=h.whole.len;have hL:((j0y s).map Int.ofNat).length<=1000000:=by have:=t1n s;simp;omega
 have e:e2c s=(j0y s).map Int.ofNat:=q0z h.whole;have e6:=clean_l6 n h sta0 _ hL (d2z h) _ [] a0b (List.replicate s.2.2.2.length ser0) 0 _ rfl rfl rfl (by unfold a0b;omega) (by simp);rw[n2b h] at e6;rw[u2k h,q0z h,q2g (by omega),q2g (Int.le_refl _),q2g (show (s.2.2.2.length:Int)*264<=140737488355328 by omega),Bool.and_self,Bool.and_self,tft,r1q (n+6) hw,obs,e,q3g]
 change a0a (i0o (n+14) a0b (s,sta0,List.replicate s.2.2.2.length ser0,(j0y s).map Int.ofNat,(((j0y s).map Int.ofNat).length:Int),(0:Int),())) _=_
 rw[e6,obs,a0r];rfl
theorem cleanX_w {c:Conf}{now:Int}{x:Ser}(hx:SerW x/\SerM x):SerW (m0i c now x)/\SerM (m0i c now x):=by
 obtain ⟨⟨h1,h2,h3,h4⟩,m1,m2,m3,m4,m5⟩:=hx;have fw:∀(o:Int) (r:Int×Int) (l:List Slo),(∀z∈l,SloW z)->∀z∈u0a o r l,SloW z:=by
  intro o r l hl z hz;obtain ⟨y,hy,e⟩:=q4g.1 hz;split at e
  ·rw[<-e];exact hl y hy
  ·rw[<-e];exact z0h
 refine ⟨⟨h1,h2,?_,h4⟩,m1,m2,by simpa [m0i,k0b] using m3,by simpa [m0i,k0b] using m4,by simpa [m0i,k0b] using m5⟩;obtain ⟨t1,t2,t3⟩:=h3;exact ⟨fw _ _ _ t1,fw _ _ _ t2,fw _ _ _ t3⟩
theorem cleanS_w {s:Sta}(hw:StaW s):StaW (l1o s):=by
 refine ⟨by simpa [l1o] using hw.len,fun x hx => ?_⟩;obtain ⟨y,hy,e⟩:=q4g.1 hx;unfold y0v at e;split at e
 ·rw[<-e];exact cleanX_w (hw.ser y hy)
 ·rw[<-e];exact ⟨p2k,p2l⟩
noncomputable def l2e (s:Sta):Int×Int:=if StaOk s then (mk s,if 35184372088832<mk s+s.1.2.1.1 then 35184372088832 else mk s+s.1.2.1.1) else (0,0)
theorem markV_ok {s:Sta}(h:StaOk s):markV s=mk s/\wrap .i64 (mk s+s.1.2.1.1)=mk s+s.1.2.1.1:=by
 have hr:=h.whole.1.rng.w0;have ht:=h.clock.1.2;obtain ⟨m1,m2,m3,m4⟩:=c1e h.clock.1 hr;exact ⟨q0z ⟨h.whole,h.clock.1⟩,w64 (by omega) (by omega)⟩
theorem k2j (n:Nat){s:Sta}(hw:StaW s):e1a (n+15) s=some (l2e s):=by
 rw[s1h,f0e n hw,obs,tfn,tfd,stt_mark (n+9) s];unfold l2e;by_cases h:StaOk s
 case neg=>rw[q0n h,q0n h,q0n (show ¬((2:Int)=0) by decide)]
 obtain ⟨e1,e2⟩:=markV_ok h;rw[q0z h,q0z h,q0z rfl,obs,e1,e2]
theorem g2w {s:Sta}{e:Ev}(h:StaOk s)(he:EvOk e):(e.1<(l2e s).1\/(l2e s).2<=e.1)↔(e.1<mk s\/mk s+s.1.2.1.1<=e.1):=by
 have:=he.t1;unfold l2e;rw[q0z h];simp only;split<;>omega
theorem p1x {s:Sta}(h:Whole s){l:List Lab}{i:Nat}(hf:p0m s l=some i):m2q s l=((i:Int),0):=by
 unfold m2q;rw[q0z h,hf]
theorem p1y {s:Sta}(h:Whole s){l:List Lab}(hf:p0m s l=none):m2q s l=(0,3):=by
 unfold m2q;rw[q0z h,hf]
theorem k2n {s:Sta}(h:Whole s){i:Nat}(hf:z0l s=some i):k2p s=((i:Int),0):=by
 unfold k2p;rw[q0z h,hf]
theorem k2o {s:Sta}(h:Whole s)(hf:z0l s=none):k2p s=(0,7):=by
 unfold k2p;rw[q0z h,hf]
theorem b2c {s:Sta}{l:List Lab}{e:Ev}(h:StaOk s)(h1:LabOk l)(h2:EvOk e)(h3:¬(e.1<mk s\/mk s+s.1.2.1.1<=e.1)) :
  f0c s l e=match p0m s l with
   | some i=>if e.1<=((s.2.2.2[i]?).getD ser0).2.1 then (0,(false,9)) else ((i:Int),(false,0))
   | none=>if e.2.2.2=true then (0,(false,3)) else match z0l s with | some i=>((i:Int),(true,0)) | none=>(0,(false,7)):=by
 unfold f0c;rw[q0n (fun k=>k h),q0n (fun k=>k h1),q0n (fun k=>k h2),q0n h3]
 all_goals (cases p0m s l<;>first | rfl | (cases z0l s<;>rfl))
theorem c2p (n:Nat){s:Sta}(hw:StaW s)(l:List Lab){e:Ev}(he:EvW e):z0k (n+16) s l e=some (f0c s l e):=by
 rw[m1s,f0e (n+1) hw,obs,tfn,tfd,i0y _ l,i0z _ he,k2j n hw,g2e (n+5) hw l,stt_room (n+5) hw];by_cases h:StaOk s
 case neg =>
  rw[q0n h,q0n (show ¬((2:Int)=0) by decide)];unfold f0c;rw[q0z h]
 rw[q0z h,q0z rfl,obs,tfn,tfd];by_cases h1:LabOk l
 case neg =>
  rw[q0n h1,q0n (show ¬((8:Int)=0) by decide)];unfold f0c;rw[q0n (fun k=>k h),q0z h1]
 rw[q0z h1,q0z rfl,obs,tfn,tfd];by_cases h2:EvOk e
 case neg =>
  rw[q0n h2,q0n (show ¬((2:Int)=0) by decide)];unfold f0c;rw[q0n (fun k=>k h),q0n (fun k=>k h1),q0z h2]
 rw[q0z h2,q0z rfl,obs,obs,tfd,tfd];by_cases h3:e.1<mk s\/mk s+s.1.2.1.1<=e.1
 ·have ht:f0c s l e=(0,(false,9)):=by
   unfold f0c;rw[q0n (fun k=>k h),q0n (fun k=>k h1),q0n (fun k=>k h2),q0z h3]
  rw[ht];rcases (g2w h h2).2 h3 with q | q
  ·rw[q0z q]
  ·by_cases q':e.1<(l2e s).1
   ·rw[q0z q']
   ·rw[q0n q',q0z q]
 have h3':=mt (g2w h h2).1 h3;rw[q0n (fun k=>h3' (.inl k)),q0n (fun k=>h3' (.inr k)),b2c h h1 h2 h3,tfd];cases hf:p0m s l with
 | some i =>
  obtain ⟨x,hx,_⟩:=h0w.1 hf;rw[p1x h.whole hf,q0z rfl,d1c hx,obs,tfd];simp only[hx,Option.getD_some];by_cases h4:e.1<=x.2.1
  ·rw[q0z h4,q0z h4]
  ·rw[q0n h4,q0n h4];rfl
 | none =>
  rw[p1y h.whole hf,q0n (show ¬((3:Int)=0) by decide),show (decide (((0:Int),(3:Int)).2=0))=false from rfl,tff];cases hs:e.2.2.2 with
  | true=>rw[tft];simp
  | false =>
   rw[tff,obs];simp only[Bool.false_eq_true,if_false];cases hr:z0l s with
   | some i=>rw[k2n h.whole hr];rfl
   | none=>rw[k2o h.whole hr];rfl
theorem o2b {s:Sta}{l:List Lab}{e:Ev}(h:(f0c s l e).2.2≠0):n0x s l e=(sta0,(f0c s l e).2.2):=by
 unfold n0x;rw[q0z h]
theorem u2a (n:Nat)(s:List Ser)(h:s.length<=1000000):o0m (n+1) s=some s:=by
 rw[b1j,q2g (show (0+s.length)*264<=140737488355328 by omega)];simp only[tft,q3p];by_cases h0:s.length=0
 ·rw[q2g h0,tft,List.length_eq_zero_iff.1 h0,a2p]
 ·rw[q1z h0,tff]
theorem place_w {s:Sta}(hw:StaW s){l:List Lab}{e:Ev}(hg:Goes s l e){i:Nat}{x:Ser}{b:Bool}(hp:PlaceAt s l e i x b):SerW x:=by
 cases hp with
 | found hf hx hl hlv ht=>exact (hw.at hx).1
 | room hf hs hr=>exact serInv_w (q2x hg.st.whole.1 hg.lab)
theorem n2v {s:Sta}{l:List Lab}{e:Ev}{i:Nat}{x:Ser}{b:Bool}(hp:(f0c s l e).1.toNat=i)(hx:xOf s l (f0c s l e)=x)(h:(f0c s l e).2.2=0) :
  n0x s l e=if (putE s.1 x e).2=0 then (setS s i (putE s.1 x e).1,0) else (sta0,(putE s.1 x e).2):=by
 unfold n0x;rw[q0n (fun k=>k h),hp,hx];by_cases h1:(putE s.1 x e).2=0
 ·rw[q0n (fun k=>k h1),q0z h1]
 ·rw[q0z h1,q0n h1]
theorem set_tail {s:Sta}{i:Nat}(hi:i<s.2.2.2.length)(y:Ser) :
  (a0a (at? s.2.2.2 (i:Int)) fun r4=>a0a ((s.2.2.2)[(Int.toNat (i:Int))]?) fun r5=>some ((s.1,(s.2.1,(s.2.2.1,(List.set s.2.2.2 (Int.toNat (i:Int)) y)))),(0:Int)))=some (setS s i y,0):=by
 obtain ⟨z,hz⟩:=i2c hi;rw[d1c hz,obs,q3g,hz,obs];rfl
theorem n2w (n:Nat){s:Sta}(hw:StaW s)(l:List Lab){e:Ev}(he:EvW e):u0u (n+24) s l e=some (n0x s l e):=by
 rw[v1z,c2p (n+7) hw l he,obs,tfn,tfd];by_cases h:(f0c s l e).2.2=0
 case neg=>rw[q0n h,o2b h];rfl
 obtain ⟨hg,i,x,b,hp,k1,k2,hv⟩:=h2q h;obtain ⟨p1,p2,p3,p4⟩:=b1w hg hp;rw[q0z h,n2v (b:=b) k1 k2 h,hv,m1h];have hx:(tif b (a0a (w0y (n+22) s.1 l) fun r0=>some r0) (a0a (at? s.2.2.2 (i:Int)) fun r1=>some (r1,(0:Int))))=some (x,0):=by
  cases hp with
  | found hf hx hl hlv ht=>rw[tff,d1c hx,obs]
  | room hf hs hr=>rw[tft,k2e (n+15),q2w hg.st.whole.1 hg.lab,obs]
 simp only;rw[hx,obs,tfn,tfd,q0z rfl];simp only;rw[k2d n s.1 (place_w hw hg hp) he,obs,tfn,tfd];by_cases h1:(putE s.1 x e).2=0
 case neg=>rw[q0n h1,q0n h1];rfl
 rw[q0z h1,q0z h1,u2a (n+22) _ (by have:=hg.st.whole.len;omega),obs,set_tail p3]
end Go.Proofs.YtagnkfbpgkckiaaGreatDoor
namespace Go.Plim
def tz:Nat->Nat->Nat
 | 0,_=>0
 | k+1,x=>if x % 2=1 then 0 else tz k (x / 2)+1
theorem tz_odd (k x:Nat)(h:x % 2=1):tz k x=0:=by cases k<;>simp[tz,h]
theorem z0b:∀(k x:Nat),0<x->x<2^k->tz k x<k/\x=2^tz k x*(x / 2^tz k x)/\(x / 2^tz k x) % 2=1:=by
 intro k;induction k with
 | zero=>intro x h0 h1;simp at h1;omega
 | succ k ih =>
  intro x h0 h1;by_cases h:x % 2=1
  ·rw[tz_odd (k+1) x h];simp[h]
  ·have e:tz (k+1) x=tz k (x / 2)+1:=by simp[tz,h]
   rw[Nat.pow_succ] at h1;obtain ⟨a1,a2,a3⟩:=ih (x / 2) (by omega) (by omega);rw[e,Nat.pow_succ,Nat.mul_comm (2^tz k (x / 2)) 2,<-Nat.div_div_eq_div_mul];refine ⟨by omega,?_,a3⟩;rw[Nat.mul_assoc,<-a2];omega
theorem j1b {k x t:Nat}(h0:0<x)(h1:x<2^k)(h:x % 2^t=0)(ho:(x / 2^t) % 2=1):tz k x=t:=by
 obtain ⟨a1,a2,a3⟩:=z0b k x h0 h1;have b2:x=2^t*(x / 2^t):=by have:=Nat.div_add_mod x (2^t);omega
 generalize tz k x=s at *
 generalize hy:x / 2^s=y at *
 generalize hz:x / 2^t=z at *
 have e:2^s*y=2^t*z:=by omega
 have one:∀(s t y z:Nat),2^s*y=2^t*z->y % 2=1->z % 2=1->s<t->False:=by
  intro s t y z e hy hz hlt;obtain ⟨d,rfl⟩:∃d,t=s+(d+1):=⟨t-s-1,by omega⟩;rw[Nat.pow_add,Nat.mul_assoc] at e;have:=Nat.eq_of_mul_eq_mul_left (Nat.two_pow_pos s) e;rw[this,Nat.pow_succ,Nat.mul_comm (2^d) 2,Nat.mul_assoc,Nat.mul_mod_right] at hy;cases hy
 rcases Nat.lt_trichotomy s t with q | q | q
 ·exact (one s t y z e a3 ho q).elim
 ·exact q
 ·exact (one t s z y e.symm ho a3 q).elim
theorem e2n {a b:Nat}(ha:a % 2=1)(t:Nat):Nat.gcd a (2^t*b)=Nat.gcd a b:=by
 have hc:Nat.Coprime 2 a:=by
  unfold Nat.Coprime;rw[Nat.gcd_rec,ha];simp
 exact Nat.Coprime.gcd_mul_left_cancel_right b (Nat.Coprime.pow_left t hc)
theorem i1q {a b:Nat}(h:a<=b):Nat.gcd a (b-a)=Nat.gcd a b:=by
 have:=Nat.gcd_add_self_right (m:=a) (n:=b-a);rw[Nat.sub_add_cancel h] at this;exact this.symm
theorem s2l {x y s t a b:Nat}(hx:x=2^s*a)(hy:y=2^t*b)(ha:a % 2=1)(hb:b % 2=1):Nat.gcd x y=2^(min s t)*Nat.gcd a b:=by
 subst hx hy;rcases Nat.le_total s t with h | h
 ·rw[q4f h];obtain ⟨d,rfl⟩:∃d,t=s+d:=⟨t-s,by omega⟩;rw[Nat.pow_add,Nat.mul_assoc,Nat.gcd_mul_left,e2n ha]
 ·rw[Nat.min_eq_right h];obtain ⟨d,rfl⟩:∃d,s=t+d:=⟨s-t,by omega⟩;rw[Nat.pow_add,Nat.mul_assoc,Nat.gcd_mul_left,Nat.gcd_comm (2^d*a),e2n hb,Nat.gcd_comm b a]
def bl:Nat->Nat->Nat
 | 0,_=>0
 | k+1,x=>if x=0 then 0 else bl k (x / 2)+1
theorem f1l (k:Nat):bl k 0=0:=by cases k<;>simp[bl]
theorem l0l:∀(k x:Nat),x<2^k->x<2^bl k x/\(0<x->0<bl k x/\2^(bl k x-1)<=x)/\bl k x<=k:=by
 intro k;induction k with
 | zero=>intro x h;simp[bl] at *;omega
 | succ k ih =>
  intro x h;by_cases h0:x=0
  ·subst h0;rw[f1l];simp
  ·have e:bl (k+1) x=bl k (x / 2)+1:=by simp[bl,h0]
   rw[Nat.pow_succ] at h;obtain ⟨a1,a2,a3⟩:=ih (x / 2) (by omega);rw[e];refine ⟨by rw[Nat.pow_succ];omega,fun _=>⟨by omega,?_⟩,by omega⟩;rw[Nat.add_sub_cancel];by_cases h1:x / 2=0
   ·rw[h1,f1l];simp;omega
   ·obtain ⟨b1,b2⟩:=a2 (by omega);have:2^bl k (x / 2)=2^(bl k (x / 2)-1)*2:=by rw[<-Nat.pow_succ];congr 1;omega
    omega
theorem a2q {k x b:Nat}(h:x<2^k)(h0:0<x)(h1:2^b<=x)(h2:x<2^(b+1)):bl k x=b+1:=by
 obtain ⟨a1,a2,_⟩:=l0l k x h;obtain ⟨c1,c2⟩:=a2 h0;have d1:b<bl k x:=by
  rcases Nat.lt_or_ge b (bl k x) with q | q
  ·exact q
  ·have:=Nat.pow_le_pow_right (show 0<2 by decide) q;omega
 have d2:bl k x-1<b+1:=by
  rcases Nat.lt_or_ge (bl k x-1) (b+1) with q | q
  ·exact q
  ·have:=Nat.pow_le_pow_right (show 0<2 by decide) q;omega
 omega
def ofN (x:Nat):Wd:=(((x / 18446744073709551616:Nat):Int),((x % 18446744073709551616:Nat):Int))
theorem d2w (x:Nat):mkW (x:Int)=ofN x:=by
 unfold mkW ofN;rw[Prod.mk.injEq];constructor<;>omega
theorem wv_ofN (x:Nat):wv (ofN x)=x:=by rw[<-d2w,v1y]
theorem ofN_ok {x:Nat}(h:x<340282366920938463463374607431768211456):WdOk (ofN x):=by rw[<-d2w];exact y1s (by omega) (by omega)
theorem ofN_zero (x:Nat):(decide ((ofN x).1=(0:Int))&&decide ((ofN x).2=(0:Int)))=decide (x=0):=by
 rw[<-Bool.decide_and];apply q3r.2;unfold ofN;simp only;omega
def od (x:Nat):Nat:=x / 2^tz 128 x
theorem q0x {x:Nat}(h0:0<x)(h1:x<340282366920938463463374607431768211456):tz 128 x<128/\x=2^tz 128 x*od x/\od x % 2=1 :=
 z0b 128 x h0 h1
theorem q2t {x:Nat}(h0:0<x)(h1:x<340282366920938463463374607431768211456):0<od x:=by
 have:=(q0x h0 h1).2.2;rcases Nat.eq_zero_or_pos (od x) with q | q
 ·rw[q] at this;cases this
 ·exact q
theorem od_le (x:Nat):od x<=x:=Nat.div_le_self _ _
theorem od_even {x:Nat}(h0:0<x)(h1:x<340282366920938463463374607431768211456)(he:x % 2=0):2*od x<=x:=by
 obtain ⟨_,a2,a3⟩:=q0x h0 h1;have ht:1<=tz 128 x:=by
  rcases Nat.eq_zero_or_pos (tz 128 x) with q | q
  ·rw[q] at a2;simp at a2;omega
  ·exact q
 have:2^1<=2^tz 128 x:=Nat.pow_le_pow_right (by decide) ht;have:=q4s (od x) this;omega
theorem s2m {a x:Nat}(ha:a % 2=1)(h0:0<x)(h1:x<340282366920938463463374607431768211456):Nat.gcd a (od x)=Nat.gcd a x:=by
 obtain ⟨_,a2,_⟩:=q0x h0 h1;have:=e2n (b:=od x) ha (tz 128 x);rw[<-a2] at this;exact this.symm
theorem s2k {x y:Nat}(hx:0<x)(hx':x<340282366920938463463374607431768211456)(hy:0<y)(hy':y<340282366920938463463374607431768211456) :
  Nat.gcd x y=Nat.gcd (od x) y*2^(min (tz 128 x) (tz 128 y)):=by
 obtain ⟨_,a2,a3⟩:=q0x hx hx';obtain ⟨_,b2,b3⟩:=q0x hy hy';rw[s2l a2 b2 a3 b3,s2m a3 hy hy',Nat.mul_comm]
theorem or_pow {q k:Nat}(h:2^(k+1) ∣ q):q ||| 2^k=q+2^k:=by
 obtain ⟨m,rfl⟩:=h;exact (Nat.two_pow_add_eq_or_of_lt (i:=k+1) (b:=2^k) (by rw[Nat.pow_succ];have:=Nat.two_pow_pos k;omega) m).symm
theorem div_part {a d k q:Nat}(hd:0<d)(h:d*2^k<=a):q+2^k+(a-d*2^k) / d=q+a / d:=by
 have e:a=(a-d*2^k)+d*2^k:=by omega
 have:a / d=(a-d*2^k) / d+2^k:=by
  conv=>lhs;rw[e]
  rw[Nat.add_mul_div_left _ _ hd]
 omega
theorem half_up {x k:Nat}(hk:k<64)(h:x*2^k<340282366920938463463374607431768211456) :
  x / 18446744073709551616*2^k+x % 18446744073709551616 / 2^(64-k)=x*2^k / 18446744073709551616/\x % 18446744073709551616 / 2^(64-k)<2^k /\
  x % 18446744073709551616*2^k % 18446744073709551616=x*2^k % 18446744073709551616:=by
 have e:18446744073709551616=2^(64-k)*2^k:=by rw[<-Nat.pow_add,show 64-k+k=64 by omega]
 have hp:=Nat.two_pow_pos k;have hq:=Nat.two_pow_pos (64-k);have h0:=Nat.div_add_mod x 18446744073709551616;have h1:=Nat.mod_lt x (show 0<18446744073709551616 by decide);generalize x / 18446744073709551616=H at *
 generalize x % 18446744073709551616=L at *
 subst h0;have e1:(18446744073709551616*H+L)*2^k=L*2^k+18446744073709551616*(H*2^k):=by rw[q4r,Nat.mul_assoc];omega
 have e2:L*2^k / 18446744073709551616=L / 2^(64-k):=by
  conv=>lhs;rw[e]
  exact Nat.mul_div_mul_right _ _ hp
 refine ⟨?_,?_,?_⟩
 ·rw[e1,Nat.add_mul_div_left _ _ (by decide),e2];omega
 ·exact Nat.div_lt_of_lt_mul (by rw[<-e];exact h1)
 ·rw[e1,Nat.add_mul_mod_self_left]
theorem s2j {x k:Nat}(hk:k<64)(h:x<340282366920938463463374607431768211456) :
  x / 18446744073709551616 / 2^k=x / 2^k / 18446744073709551616 /\
  x % 18446744073709551616 / 2^k+x / 18446744073709551616*2^(64-k) % 18446744073709551616=x / 2^k % 18446744073709551616/\x % 18446744073709551616 / 2^k<2^(64-k) /\
  ∃m,x / 18446744073709551616*2^(64-k) % 18446744073709551616=2^(64-k)*m:=by
 have e:18446744073709551616=2^k*2^(64-k):=by rw[<-Nat.pow_add,show k+(64-k)=64 by omega]
 have hp:=Nat.two_pow_pos k;have hq:=Nat.two_pow_pos (64-k);have c1:x / 18446744073709551616 / 2^k=x / 2^k / 18446744073709551616:=by rw[Nat.div_div_eq_div_mul,Nat.div_div_eq_div_mul,Nat.mul_comm]
 have h0:=Nat.div_add_mod x 18446744073709551616;have h1:=Nat.mod_lt x (show 0<18446744073709551616 by decide);have hm0:∀H:Nat,H*2^(64-k) % 18446744073709551616=2^(64-k)*(H % 2^k):=by
  intro H
  conv=>lhs;rw[e]
  rw[Nat.mul_mod_mul_right,Nat.mul_comm]
 have hm:=hm0 (x / 18446744073709551616);have c3:x % 18446744073709551616 / 2^k<2^(64-k):=Nat.div_lt_of_lt_mul (by rw[<-e];exact h1);refine ⟨c1,?_,c3,_,hm⟩;rw[hm];generalize x / 18446744073709551616=H at *
 generalize x % 18446744073709551616=L at *
 subst h0;have e1:(18446744073709551616*H+L) / 2^k=L / 2^k+2^(64-k)*H:=by
  conv=>lhs;rw[e]
  rw[Nat.mul_assoc,Nat.add_comm,Nat.add_mul_div_left _ _ hp]
 have h2:=Nat.div_add_mod H (2^k);have e2:2^(64-k)*H=18446744073709551616*(H / 2^k)+2^(64-k)*(H % 2^k):=by
  conv=>lhs;rw[<-h2]
  rw[Nat.mul_add,<-Nat.mul_assoc,Nat.mul_comm (2^(64-k)),<-e]
 rw[e1,e2];have hlt:L / 2^k+2^(64-k)*(H % 2^k)<18446744073709551616:=by
  have h3:=Nat.mod_lt H hp;have h4:2^(64-k)*(H % 2^k+1)<=2^(64-k)*2^k:=Nat.mul_le_mul_left _ h3;rw[Nat.mul_comm (2^(64-k)) (2^k),<-e,Nat.mul_add,Nat.mul_one] at h4;omega
 omega
theorem t2x:∀(k a b:Nat),a+b+1=2^k->a &&& b=0:=by
 intro k;induction k with
 | zero => intro a b h; have : a = 0 := by simp at h; omega
           rw[this];simp
 | succ k ih =>
  intro a b h;rw[Nat.pow_succ] at h;have h1:(a &&& b) % 2≠1:=by rw[ne_eq,Nat.and_mod_two_eq_one];omega
  have h2:(a &&& b) / 2=0:=by rw[Nat.and_div_two];exact ih _ _ (by omega)
  omega
theorem low_bit {x:Nat}(h0:0<x)(h:x<18446744073709551616):x &&& (18446744073709551616-x)=2^tz 64 x:=by
 obtain ⟨a1,a2,a3⟩:=z0b 64 x h0 h;generalize hs:tz 64 x=s at *
 generalize x / 2^s=o at *
 have e:18446744073709551616=2^s*2^(64-s):=by rw[<-Nat.pow_add,show s+(64-s)=64 by omega]
 have hp:=Nat.two_pow_pos s;have e1:18446744073709551616-x=2^s*(2^(64-s)-o):=by rw[Nat.mul_sub,<-e,<-a2]
 have ho:o<2^(64-s):=by
  rcases Nat.lt_or_ge o (2^(64-s)) with q | q
  ·exact q
  ·have:=Nat.mul_le_mul_left (2^s) q;rw[<-e,<-a2] at this;omega
 obtain ⟨c,hc⟩:∃c,2^(64-s)=2*2^c:=⟨63-s,by rw[show 64-s=(63-s)+1 by omega,Nat.pow_succ,Nat.mul_comm]⟩;have e2:o &&& (2^(64-s)-o)=1:=by
  have h1:(o &&& (2^(64-s)-o)) % 2=1:=by rw[Nat.and_mod_two_eq_one];omega
  have h2:(o &&& (2^(64-s)-o)) / 2=0:=by rw[Nat.and_div_two];exact t2x c _ _ (by omega)
  omega
 rw[e1]
 conv=>lhs;rw[a2]
 rw[Nat.mul_comm (2^s) o,Nat.mul_comm (2^s),<-Nat.shiftLeft_eq,<-Nat.shiftLeft_eq,<-Nat.shiftLeft_and_distrib,e2,Nat.shiftLeft_eq,Nat.one_mul]
theorem tz_lo {x:Nat}(h:x<340282366920938463463374607431768211456)(h0:0<x % 18446744073709551616):tz 128 x=tz 64 (x % 18446744073709551616):=by
 obtain ⟨a1,a2,a3⟩:=z0b 64 _ h0 (Nat.mod_lt x (by decide));generalize tz 64 (x % 18446744073709551616)=s at *
 have e:18446744073709551616=2^s*(2*2^(63-s)):=by rw[<-Nat.pow_succ',<-Nat.pow_add,show s+(63-s).succ=64 by omega]
 have hp:=Nat.two_pow_pos s;have h2:=Nat.div_add_mod x 18446744073709551616;generalize x % 18446744073709551616=L at *
 generalize x / 18446744073709551616=H at *
 generalize L / 2^s=o at *
 have e1:x=2^s*(2*(2^(63-s)*H)+o):=by
  rw[Nat.mul_add,<-a2,<-Nat.mul_assoc 2,<-Nat.mul_assoc (2^s),<-e];omega
 refine j1b (by omega) h ?_ ?_
 ·rw[e1,Nat.mul_mod_right]
 ·rw[e1,Nat.mul_div_cancel_left _ hp];omega
theorem tz_hi {x:Nat}(h:x<340282366920938463463374607431768211456)(h0:x % 18446744073709551616=0)(hx:0<x):tz 128 x=64+tz 64 (x / 18446744073709551616):=by
 have hH:0<x / 18446744073709551616:=by omega
 obtain ⟨a1,a2,a3⟩:=z0b 64 _ hH (by omega);generalize tz 64 (x / 18446744073709551616)=s at *
 have h2:=Nat.div_add_mod x 18446744073709551616;generalize x / 18446744073709551616=H at *
 generalize H / 2^s=o at *
 have hp:=Nat.two_pow_pos (64+s);have e1:x=2^(64+s)*o:=by
  rw[Nat.pow_add,Nat.mul_assoc,<-a2];omega
 refine j1b hx h ?_ ?_
 ·rw[e1,Nat.mul_mod_right]
 ·rw[e1,Nat.mul_div_cancel_left _ hp];exact a3
theorem i2l {k x s:Nat}(h:x<2^k)(hs:2^s<=x):bl k x=s+bl k (x / 2^s):=by
 have hp:=Nat.two_pow_pos s;have h0:0<x / 2^s:=Nat.div_pos hs hp;have h1:x / 2^s<2^k:=q4p (Nat.div_le_self _ _) h;obtain ⟨a1,a2,a3⟩:=l0l k (x / 2^s) h1;obtain ⟨b1,b2⟩:=a2 h0;obtain ⟨c,hc⟩:∃c,bl k (x / 2^s)=c+1:=⟨bl k (x / 2^s)-1,by omega⟩;rw[hc] at a1 b2 ⊢;rw[Nat.add_sub_cancel] at b2;rw[<-q4l];refine a2q h (by omega) ?_ ?_
 ·rw[Nat.pow_add,Nat.mul_comm];exact (Nat.le_div_iff_mul_le hp).1 b2
 ·rw[q4l,Nat.pow_add,Nat.mul_comm];exact (Nat.div_lt_iff_lt_mul hp).1 a1
theorem i2k {k m x:Nat}(h:x<2^k)(h':x<2^m):bl k x=bl m x:=by
 rcases Nat.eq_zero_or_pos x with q | q
 ·subst q;rw[f1l,f1l]
 ·obtain ⟨a1,a2,_⟩:=l0l m x h';obtain ⟨b1,b2⟩:=a2 q;obtain ⟨c,hc⟩:∃c,bl m x=c+1:=⟨bl m x-1,by omega⟩;rw[hc] at a1 b2 ⊢;rw[Nat.add_sub_cancel] at b2;exact a2q h q b2 a1
theorem bl_up {a d k:Nat}(ha:a<2^128)(hd:d<2^128)(hk:bl 128 d+k<=bl 128 a)(h0:0<a):d*2^k<2^128:=by
 obtain ⟨a1,a2,a3⟩:=l0l 128 a ha;obtain ⟨d1,d2,d3⟩:=l0l 128 d hd;have h1:d*2^k<2^bl 128 d*2^k:=Nat.mul_lt_mul_of_pos_right d1 (Nat.two_pow_pos k);rw[<-Nat.pow_add] at h1;exact q4o h1 (Nat.pow_le_pow_right (by decide) (by omega))
theorem bl_over {a d:Nat}(ha:a<2^128)(hd:d<2^128)(h0:0<d):a<d*2^(bl 128 a-bl 128 d+1):=by
 obtain ⟨a1,a2,a3⟩:=l0l 128 a ha;obtain ⟨d1,d2,d3⟩:=l0l 128 d hd;obtain ⟨b1,b2⟩:=d2 h0;have h1:2^(bl 128 d-1)*2^(bl 128 a-bl 128 d+1)<=d*2^(bl 128 a-bl 128 d+1):=q4s _ b2;rw[<-Nat.pow_add] at h1;have h2:2^bl 128 a<=2^(bl 128 d-1+(bl 128 a-bl 128 d+1)):=Nat.pow_le_pow_right (by decide) (by omega);omega
theorem bl_less {a d:Nat}(ha:a<2^128)(hd:d<2^128)(h:bl 128 a<bl 128 d):a<d:=by
 obtain ⟨a1,a2,a3⟩:=l0l 128 a ha;obtain ⟨d1,d2,d3⟩:=l0l 128 d hd;rcases Nat.eq_zero_or_pos d with q | q
 ·subst q;rw[f1l] at h;omega
 ·obtain ⟨b1,b2⟩:=d2 q;have:2^bl 128 a<=2^(bl 128 d-1):=Nat.pow_le_pow_right (by decide) (by omega);omega
end Go.Plim
namespace Go.Proofs.YtagnkfbpgkckiaaGreatDoor
open Go.Flat Go.Plim
theorem wrapN (x:Nat):wrap .u64 (x:Int)=((x % 18446744073709551616:Nat):Int):=by
 rw[IntKind.wrap_u64];omega
theorem shlN (x k:Nat)(hk:k<=64):shlI .u64 (x:Int) (k:Int)=((x*2^k % 18446744073709551616:Nat):Int):=by
 show wrap .u64 ((x:Int)*2^(min (k:Int).toNat 64))=_;rw[show min (k:Int).toNat 64=k by omega,<-wrapN];congr 1
theorem shrN (x k:Nat)(hk:k<=64):shrI .u64 (x:Int) (k:Int)=((x / 2^k:Nat):Int):=by
 rw[p2i _ _ hk];simp
theorem orN {x y:Nat}(hx:x<18446744073709551616)(hy:y<18446744073709551616):orI .u64 (x:Int) (y:Int)=((x ||| y:Nat):Int):=by
 unfold orI;have e2:(BitVec.ofInt IntKind.u64.bits (x:Int) ||| BitVec.ofInt IntKind.u64.bits (y:Int)).toNat=x ||| y:=by
  show (BitVec.ofInt 64 (x:Int) ||| BitVec.ofInt 64 (y:Int)).toNat=_;rw[BitVec.toNat_or,BitVec.ofInt_natCast,BitVec.ofInt_natCast,BitVec.toNat_ofNat,BitVec.toNat_ofNat,Nat.mod_eq_of_lt (by omega),Nat.mod_eq_of_lt (by omega)]
 rw[e2];have:x ||| y<2^64:=Nat.or_lt_two_pow (by omega) (by omega)
 exact wu64 (by omega) (by omega)
theorem andN {x y:Nat}(hx:x<18446744073709551616)(hy:y<18446744073709551616):andI .u64 (x:Int) (y:Int)=((x &&& y:Nat):Int):=by
 unfold andI;have e2:(BitVec.ofInt IntKind.u64.bits (x:Int) &&& BitVec.ofInt IntKind.u64.bits (y:Int)).toNat=x &&& y:=by
  show (BitVec.ofInt 64 (x:Int) &&& BitVec.ofInt 64 (y:Int)).toNat=_;rw[BitVec.toNat_and,BitVec.ofInt_natCast,BitVec.ofInt_natCast,BitVec.toNat_ofNat,BitVec.toNat_ofNat,Nat.mod_eq_of_lt (by omega),Nat.mod_eq_of_lt (by omega)]
 rw[e2];have:x &&& y<=x:=Nat.and_le_left;exact wu64 (by omega) (by omega)
theorem g2v {H L k:Nat}(h:L<2^k):H*2^k ||| L=H*2^k+L:=by
 rw[Nat.mul_comm];exact (Nat.two_pow_add_eq_or_of_lt h H).symm
def lenT:List UInt8 :=
 i0e
theorem l2u (n:Nat)(x:Int):d0y (n+1) x =
 tif (decide ((4294967296:Int)<=x)) (
 tif (decide ((65536:Int)<=(shrI .u64 x (32:Int)))) (
 tif (decide ((256:Int)<=(shrI .u64 (shrI .u64 x (32:Int)) (16:Int)))) (
 a0a (at? lenT (wrap .u8 (shrI .u64 (shrI .u64 (shrI .u64 x (32:Int)) (16:Int)) (8:Int)))) fun r0 =>
 some (wrap .i64 ((56:Int)+(wrap .i64 (((UInt8.toNat r0):Nat):Int))))) (
 a0a (at? lenT (wrap .u8 (shrI .u64 (shrI .u64 x (32:Int)) (16:Int)))) fun r1 =>
 some (wrap .i64 ((48:Int)+(wrap .i64 (((UInt8.toNat r1):Nat):Int)))))) (
 tif (decide ((256:Int)<=(shrI .u64 x (32:Int)))) (
 a0a (at? lenT (wrap .u8 (shrI .u64 (shrI .u64 x (32:Int)) (8:Int)))) fun r2 =>
 some (wrap .i64 ((40:Int)+(wrap .i64 (((UInt8.toNat r2):Nat):Int))))) (
 a0a (at? lenT (wrap .u8 (shrI .u64 x (32:Int)))) fun r3 =>
 some (wrap .i64 ((32:Int)+(wrap .i64 (((UInt8.toNat r3):Nat):Int))))))) (
 tif (decide ((65536:Int)<=x)) (
 tif (decide ((256:Int)<=(shrI .u64 x (16:Int)))) (
 a0a (at? lenT (wrap .u8 (shrI .u64 (shrI .u64 x (16:Int)) (8:Int)))) fun r4 =>
 some (wrap .i64 ((24:Int)+(wrap .i64 (((UInt8.toNat r4):Nat):Int))))) (
 a0a (at? lenT (wrap .u8 (shrI .u64 x (16:Int)))) fun r5 =>
 some (wrap .i64 ((16:Int)+(wrap .i64 (((UInt8.toNat r5):Nat):Int)))))) (
 tif (decide ((256:Int)<=x)) (
 a0a (at? lenT (wrap .u8 (shrI .u64 x (8:Int)))) fun r6 =>
 some (wrap .i64 ((8:Int)+(wrap .i64 (((UInt8.toNat r6):Nat):Int))))) (
 a0a (at? lenT (wrap .u8 x)) fun r7 =>
 some (wrap .i64 ((0:Int)+(wrap .i64 (((UInt8.toNat r7):Nat):Int))))))):=c1g n x
theorem lenT_all:((List.range 256).all fun z=>match lenT[z]? with | some r=>decide (r.toNat=bl 64 z) | none=>false)=true:=by decide +kernel
theorem g0h (n x:Nat):n0q (n+1) (ofN x)=some (decide (x=0)):=by
 rw[s1o,ofN_zero]
theorem up_small {x k:Nat}(hk:k<=128)(h:x*2^k<340282366920938463463374607431768211456):x<2^(128-k):=by
 have e:340282366920938463463374607431768211456=2^(128-k)*2^k:=by rw[<-Nat.pow_add,show 128-k+k=128 by omega]
 rw[e] at h;exact Nat.lt_of_mul_lt_mul_right h
theorem v0m (n x k:Nat)(hk:k<128)(h:x*2^k<340282366920938463463374607431768211456):b1r (n+1) (ofN x) (k:Int)=some (ofN (x*2^k)):=by
 rw[d2c];simp only[tfd];by_cases c:64<=k
 ·have e:(k:Int)-64=((k-64:Nat):Int):=by omega
  have hx:x<18446744073709551616:=q4o (up_small (by omega) h) (show 2^(128-k)<=2^64 from Nat.pow_le_pow_right (by decide) (by omega));have e2:x*2^k=18446744073709551616*(x*2^(k-64)):=by
   rw[show (18446744073709551616:Nat)=2^64 from rfl,Nat.mul_left_comm,<-Nat.pow_add,show 64+(k-64)=k by omega]
  rw[q0z (by omega),w64 (by omega) (by omega),q0n (by omega),e];show some (shlI .u64 ((x % 18446744073709551616:Nat):Int) _,_)=some (((x*2^k / 18446744073709551616:Nat):Int),((x*2^k % 18446744073709551616:Nat):Int));rw[shlN _ _ (by omega),Nat.mod_eq_of_lt hx,e2,Nat.mul_div_cancel_left _ (by decide),Nat.mul_mod_right];rw[e2] at h;have:x*2^(k-64)<18446744073709551616:=Nat.lt_of_mul_lt_mul_left (show 18446744073709551616*(x*2^(k-64))<18446744073709551616*18446744073709551616 from h);rw[Nat.mod_eq_of_lt this];rfl
 ·have e:(64:Int)-k=((64-k:Nat):Int):=by omega
  obtain ⟨a1,a2,a3⟩:=half_up (show k<64 by omega) h;rw[q0n (by omega),q0n (by omega),w64 (by omega) (by omega),q0n (by omega),q0n (by omega),e];show some (orI .u64 (shlI .u64 ((x / 18446744073709551616:Nat):Int) _) (shrI .u64 ((x % 18446744073709551616:Nat):Int) _),shlI .u64 ((x % 18446744073709551616:Nat):Int) _)=some (((x*2^k / 18446744073709551616:Nat):Int),((x*2^k % 18446744073709551616:Nat):Int));have hq:x*2^k / 18446744073709551616<18446744073709551616:=Nat.div_lt_of_lt_mul h
  have h1:x / 18446744073709551616*2^k<18446744073709551616:=q4p (by rw[<-a1];exact Nat.le_add_right _ _) hq;have h2:x % 18446744073709551616 / 2^(64-k)<18446744073709551616:=q4p (Nat.div_le_self _ _) (Nat.mod_lt _ (by decide));rw[shlN _ _ (by omega),shrN _ _ (by omega),shlN _ _ (by omega),Nat.mod_eq_of_lt h1,orN h1 h2,g2v a2,a1,a3]
theorem y0p (n x k:Nat)(hk:k<128)(h:x<340282366920938463463374607431768211456):x0b (n+1) (ofN x) (k:Int)=some (ofN (x / 2^k)):=by
 rw[s1r];simp only[tfd];have hq:x / 18446744073709551616<18446744073709551616:=Nat.div_lt_of_lt_mul h;by_cases c:64<=k
 ·have e:(k:Int)-64=((k-64:Nat):Int):=by omega
  rw[q0z (by omega),w64 (by omega) (by omega),q0n (by omega),e];show some (_,shrI .u64 ((x / 18446744073709551616:Nat):Int) _)=some (((x / 2^k / 18446744073709551616:Nat):Int),((x / 2^k % 18446744073709551616:Nat):Int));have e2:x / 2^k=x / 18446744073709551616 / 2^(k-64):=by
   rw[Nat.div_div_eq_div_mul,show (18446744073709551616:Nat)=2^64 from rfl,<-Nat.pow_add,show 64+(k-64)=k by omega]
  have hlt:x / 18446744073709551616 / 2^(k-64)<18446744073709551616:=q4p (Nat.div_le_self _ _) hq;rw[shrN _ _ (by omega),e2,Nat.div_eq_of_lt hlt,Nat.mod_eq_of_lt hlt];rfl
 ·have e:(64:Int)-k=((64-k:Nat):Int):=by omega
  obtain ⟨a1,a2,a3,m,a4⟩:=s2j (show k<64 by omega) h;rw[q0n (by omega),q0n (by omega),q0n (by omega),w64 (by omega) (by omega),q0n (by omega),e];show some (shrI .u64 ((x / 18446744073709551616:Nat):Int) _,orI .u64 (shrI .u64 ((x % 18446744073709551616:Nat):Int) _) (shlI .u64 ((x / 18446744073709551616:Nat):Int) _))=some (((x / 2^k / 18446744073709551616:Nat):Int),((x / 2^k % 18446744073709551616:Nat):Int));have h3:x % 18446744073709551616 / 2^k<18446744073709551616:=q4p (Nat.div_le_self _ _) (Nat.mod_lt _ (by decide))
  have h4:x / 18446744073709551616*2^(64-k) % 18446744073709551616<18446744073709551616:=Nat.mod_lt _ (by decide);rw[shrN _ _ (by omega),shrN _ _ (by omega),shlN _ _ (by omega),orN h3 h4,Nat.or_comm];have a4':x / 18446744073709551616*2^(64-k) % 18446744073709551616=m*2^(64-k):=by rw[Nat.mul_comm m];exact a4
  rw[a4',g2v a3,<-a4',Nat.add_comm];rw[show x % 18446744073709551616 / 2^k+x / 18446744073709551616*2^(64-k) % 18446744073709551616=x / 2^k % 18446744073709551616 from a2,show x / 18446744073709551616 / 2^k=x / 2^k / 18446744073709551616 from a1]
theorem wide_sub (n:Nat){x y:Nat}(hx:x<340282366920938463463374607431768211456)(h:y<=x):q1p (n+2) (ofN x) (ofN y)=some (ofN (x-y),0):=by
 rw[a2z];have h1:x / 18446744073709551616<18446744073709551616:=Nat.div_lt_of_lt_mul hx;have h2:y / 18446744073709551616<18446744073709551616:=Nat.div_lt_of_lt_mul (q4p h hx);have h3:x % 18446744073709551616<18446744073709551616:=Nat.mod_lt _ (by decide);have h4:y % 18446744073709551616<18446744073709551616:=Nat.mod_lt _ (by decide);have e:∀z:Nat,ofN z=(((z / 18446744073709551616:Nat):Int),((z % 18446744073709551616:Nat):Int)):=fun _=>rfl
 rw[e x,e y,e (x-y)];have ex:=Nat.div_add_mod x 18446744073709551616;have ey:=Nat.div_add_mod y 18446744073709551616;have ez:=Nat.div_add_mod (x-y) 18446744073709551616;have h5:(x-y) % 18446744073709551616<18446744073709551616:=Nat.mod_lt _ (by decide);generalize x / 18446744073709551616=a at *
 generalize x % 18446744073709551616=b at *
 generalize y / 18446744073709551616=c at *
 generalize y % 18446744073709551616=d at *
 generalize (x-y) / 18446744073709551616=p at *
 generalize (x-y) % 18446744073709551616=q at *
 simp only[u0z,tfd,tft];by_cases hb:b<d
 ·have hb':(b:Int)<(d:Int)+0:=by omega
  rw[q0z (by omega),q0z (by omega),q0z (by omega),q0z (by omega),q0z (by omega),q0z (by omega),q0z hb',q0z (by omega),q0z (by omega),q0n (by omega),n0e,obs,q0z rfl];congr 3<;>omega
 ·have hb':¬(b:Int)<(d:Int)+0:=by omega
  rw[q0z (by omega),q0z (by omega),q0z (by omega),q0z (by omega),q0z (by omega),q0z (by omega),q0n hb',q0z (by omega),q0z (by omega),q0n (by omega),n0e,obs,q0z rfl];congr 3<;>omega
theorem q0u (n:Nat){x y:Nat}(hx:x<340282366920938463463374607431768211456)(h:y<=x):k0x (n+3) (ofN x) (ofN y)=some (ofN (x-y)):=by
 rw[s1q,wide_sub n hx h];rfl
theorem o1g (n:Nat){x y:Nat}(hx:x<340282366920938463463374607431768211456)(hy:y<340282366920938463463374607431768211456):n0y (n+1) (ofN x) (ofN y)=some (decide (x<y)):=by
 rw[w1b n (ofN_ok hx) (ofN_ok hy),wv_ofN,wv_ofN];congr 1;exact q3r.2 (by omega)
theorem tz_pow (n:Nat):((List.range 64).all fun t=>match m0j (n+1) ((2^t:Nat):Int) with | some r=>decide (r=(t:Int)) | none=>false)=true:=by kernel_rfl
theorem tz_at (n t:Nat)(ht:t<64):m0j (n+1) ((2^t:Nat):Int)=some (t:Int):=by
 have h:=List.all_eq_true.1 (tz_pow n) t (q4v.2 ht);split at h
 ·rename_i r hr;rw[hr,of_decide_eq_true h]
 ·cases h
theorem h2h {x:Nat}(h0:0<x)(h:x<18446744073709551616):andI .u64 (x:Int) (wrap .u64 ((0:Int)-x))=((2^tz 64 x:Nat):Int):=by
 rw[show wrap .u64 ((0:Int)-x)=((18446744073709551616-x:Nat):Int) by rw[IntKind.wrap_u64];omega,andN h (by omega)];exact congrArg Int.ofNat (low_bit h0 h)
theorem tz_val (n:Nat){x:Nat}(h0:0<x)(h:x<18446744073709551616):m0j (n+1) (x:Int)=some ((tz 64 x:Nat):Int):=by
 have ht:=(z0b 64 x h0 h).1;have hp:=Nat.two_pow_pos (tz 64 x);have hp2:2^tz 64 x<18446744073709551616:=Nat.pow_lt_pow_right (a:=2) (by decide) ht;rw[<-tz_at n _ ht];have e:tz 64 (2^tz 64 x)=tz 64 x:=j1b hp hp2 (Nat.mod_self _) (by rw[Nat.div_self hp]);rw[g1s,g1s,h2h h0 h,h2h hp hp2,e,q1z (show ¬((x:Int)=0) by omega),q1z (show ¬(((2^tz 64 x:Nat):Int)=0) by omega)]
theorem z0n (n:Nat){x:Nat}(h0:0<x)(h:x<340282366920938463463374607431768211456):h0u (n+2) (ofN x)=some ((tz 128 x:Nat):Int):=by
 rw[h1l];show tif (decide (((x % 18446744073709551616:Nat):Int)=0)) (a0a (m0j (n+1) ((x / 18446744073709551616:Nat):Int)) fun r0=>some (wrap .i64 (64+r0))) (a0a (m0j (n+1) ((x % 18446744073709551616:Nat):Int)) fun r1=>some r1)=_;rw[tfd];by_cases c:x % 18446744073709551616=0
 ·have h1:0<x / 18446744073709551616:=by omega
  have h2:x / 18446744073709551616<18446744073709551616:=Nat.div_lt_of_lt_mul h;have ht:=(z0b 64 _ h1 h2).1;rw[q0z (by omega),tz_val n h1 h2,obs,w64 (by omega) (by omega),tz_hi h c h0];congr 1
 ·rw[q0n (by omega),tz_val n (by omega) (Nat.mod_lt _ (by decide)),obs,tz_lo h (by omega)]
theorem lenT_at {z:Nat}(h:z<256):∃r,at? lenT (z:Int)=some r/\r.toNat=bl 64 z:=by
 have h1:=List.all_eq_true.1 lenT_all z (q4v.2 h);split at h1
 ·rename_i r hr;refine ⟨r,?_,of_decide_eq_true h1⟩;unfold at?;rw[q2g (by omega)];exact hr
 ·cases h1
theorem p0z {x s K:Nat}{I S:Int}(hK:K=2^s)(hI:I=((x / K:Nat):Int))(hS:S=s)(h2:x / K<256)(h1:K<=x\/s=0)(hx:x<18446744073709551616)(hs:s<=56) :
  (a0a (at? lenT (wrap .u8 I)) fun r=>some (wrap .i64 (S+wrap .i64 (((UInt8.toNat r):Nat):Int))))=some ((bl 64 x:Nat):Int):=by
 obtain ⟨r,hr,hb⟩:=lenT_at h2;have hle:=(l0l 64 (x / K) (q4p (Nat.div_le_self _ _) hx)).2.2;have e:bl 64 x=s+bl 64 (x / K):=by
  rcases h1 with h1 | rfl
  ·rw[hK] at h1 ⊢;exact i2l hx h1
  ·subst hK;simp
 rw[hI,e];generalize x / K=z at *
 rw[wu8 (by omega) (by omega),hr,obs,hb,w64 (x:=((bl 64 z:Nat):Int)) (by omega) (by omega),hS,w64 (by omega) (by omega)];congr 1
theorem y1w (n:Nat){x:Nat}(h:x<18446744073709551616):d0y (n+1) (x:Int)=some ((bl 64 x:Nat):Int):=by
 have s32:∀z:Nat,shrI .u64 (z:Int) (32:Int)=((z / 4294967296:Nat):Int):=fun z=>shrN z 32 (by decide)
 have s16:∀z:Nat,shrI .u64 (z:Int) (16:Int)=((z / 65536:Nat):Int):=fun z=>shrN z 16 (by decide)
 have s8:∀z:Nat,shrI .u64 (z:Int) (8:Int)=((z / 256:Nat):Int):=fun z=>shrN z 8 (by decide)
 have h':=h;rw[l2u];simp only[s32,s16,s8,tfd];by_cases c5:4294967296<=x
 ·rw[q0z (by omega)];by_cases c4:65536<=x / 4294967296
  ·rw[q0z (by omega)];by_cases c3:256<=x / 4294967296 / 65536
   ·rw[q0z (by omega)];exact p0z (s:=56) (K:=72057594037927936) rfl (by omega) rfl (by omega) (.inl (by omega)) h (by decide)
   ·rw[q0n (by omega)];exact p0z (s:=48) (K:=281474976710656) rfl (by omega) rfl (by omega) (.inl (by omega)) h (by decide)
  ·rw[q0n (by omega)];by_cases c3:256<=x / 4294967296
   ·rw[q0z (by omega)];exact p0z (s:=40) (K:=1099511627776) rfl (by omega) rfl (by omega) (.inl (by omega)) h (by decide)
   ·rw[q0n (by omega)];exact p0z (s:=32) (K:=4294967296) rfl (by omega) rfl (by omega) (.inl (by omega)) h (by decide)
 ·rw[q0n (by omega)];by_cases c4:65536<=x
  ·rw[q0z (by omega)];by_cases c3:256<=x / 65536
   ·rw[q0z (by omega)];exact p0z (s:=24) (K:=16777216) rfl (by omega) rfl (by omega) (.inl (by omega)) h (by decide)
   ·rw[q0n (by omega)];exact p0z (s:=16) (K:=65536) rfl (by omega) rfl (by omega) (.inl (by omega)) h (by decide)
  ·rw[q0n (by omega)];by_cases c3:256<=x
   ·rw[q0z (by omega)];exact p0z (s:=8) (K:=256) rfl (by omega) rfl (by omega) (.inl (by omega)) h (by decide)
   ·rw[q0n (by omega)];exact p0z (s:=0) (K:=1) rfl (by omega) rfl (by omega) (.inr rfl) h (by decide)
theorem h2j (n:Nat){x:Nat}(h:x<340282366920938463463374607431768211456):w0z (n+2) (ofN x)=some ((bl 128 x:Nat):Int):=by
 rw[s1p];show tif (!decide (((x / 18446744073709551616:Nat):Int)=0)) (a0a (d0y (n+1) ((x / 18446744073709551616:Nat):Int)) fun r0=>some (wrap .i64 (64+r0))) (a0a (d0y (n+1) ((x % 18446744073709551616:Nat):Int)) fun r1=>some r1)=_;have hq:x / 18446744073709551616<18446744073709551616:=Nat.div_lt_of_lt_mul h;rw[tfn,tfd];by_cases c:x / 18446744073709551616=0
 ·have hx:x<18446744073709551616:=by omega
  rw[q0z (by omega),y1w n (Nat.mod_lt _ (by decide)),obs,Nat.mod_eq_of_lt hx,i2k (k:=64) (m:=128) hx h]
 ·have hle:=(l0l 64 (x / 18446744073709551616) hq).2.2;rw[q0n (by omega),y1w n hq,obs,w64 (by omega) (by omega),i2l (k:=128) (s:=64) h (by omega)];rw[<-i2k (k:=128) (m:=64) (x:=x / 18446744073709551616) (q4o hq (by decide)) hq];congr 1
theorem or_ofN {x y:Nat}(hx:x<340282366920938463463374607431768211456)(hy:y<340282366920938463463374607431768211456):((orI .u64 (ofN x).1 (ofN y).1,orI .u64 (ofN x).2 (ofN y).2):Wd)=ofN (x ||| y):=by
 show ((orI .u64 ((x / 18446744073709551616:Nat):Int) ((y / 18446744073709551616:Nat):Int),orI .u64 ((x % 18446744073709551616:Nat):Int) ((y % 18446744073709551616:Nat):Int)):Wd)=((((x ||| y) / 18446744073709551616:Nat):Int),(((x ||| y) % 18446744073709551616:Nat):Int));have e1:(x ||| y) / 18446744073709551616=x / 18446744073709551616 ||| y / 18446744073709551616:=Nat.or_div_two_pow (n:=64)
 have e2:(x ||| y) % 18446744073709551616=x % 18446744073709551616 ||| y % 18446744073709551616:=Nat.or_mod_two_pow (n:=64)
 rw[e1,e2,orN (Nat.div_lt_of_lt_mul hx) (Nat.div_lt_of_lt_mul hy),orN (Nat.mod_lt _ (by decide)) (Nat.mod_lt _ (by decide))]
theorem one_ofN:((0,1):Wd)=ofN 1:=rfl
theorem zero_ofN:((0,0):Wd)=ofN 0:=rfl
theorem whole_l3 (n:Nat){d A:Nat}(hd:0<d)(hA:A<340282366920938463463374607431768211456)(hdM:d<340282366920938463463374607431768211456)(s4:Wd):∀(k f a q:Nat),q+a / d=A / d->a<=A->a<d*2^k->2^k ∣ q->(k=0\/d*2^(k-1)<340282366920938463463374607431768211456)->k<=128->k<f ->
  i0q (n+3) f (ofN a,ofN d,s4,ofN q,(k:Int)-1,())=some (.inl (s4,ofN (A / d),())):=by
 intro k;induction k with
 | zero =>
  intro f a q h1 h2 h3 h4 h5 h6 hf;obtain ⟨f,rfl⟩:∃g,f=g+1:=⟨f-1,by omega⟩;rw[k0w,q1z (by omega),tff];rw[Nat.pow_zero,Nat.mul_one] at h3;rw[Nat.div_eq_of_lt h3,Nat.add_zero] at h1;rw[h1]
 | succ k ih =>
  intro f a q h1 h2 h3 h4 h5 h6 hf;obtain ⟨f,rfl⟩:∃g,f=g+1:=⟨f-1,by omega⟩;have h5':d*2^k<340282366920938463463374607431768211456:=by
   rcases h5 with h | h
   ·cases h
   ·exact h
  have hk5:k=0\/d*2^(k-1)<340282366920938463463374607431768211456:=by
   rcases Nat.eq_zero_or_pos k with e | e
   ·exact .inl e
   ·refine .inr (q4p (Nat.mul_le_mul_left d (Nat.pow_le_pow_right (by decide) (Nat.sub_le _ _))) h5')
  have hpk:2^k<340282366920938463463374607431768211456:=q4o (Nat.pow_lt_pow_right (a:=2) (n:=128) (by decide) (by omega)) (by decide);have eb:((k+1:Nat):Int)-1=(k:Int):=by omega
  have hq2:2^k ∣ q:=Nat.dvd_trans (Nat.pow_dvd_pow 2 (Nat.le_succ k)) h4;rw[k0w,eb,q2g (by omega),tft,v0m (n+2) d k (by omega) h5',obs,o1g (n+2) (by omega) h5',obs,w64 (by omega) (by omega),tfd];by_cases hlt:a<d*2^k
  ·rw[q0z hlt];exact ih f a q h1 h2 hlt hq2 hk5 (by omega) (by omega)
  ·rw[q0n hlt,q0u n (by omega) (by omega),obs,i1x,obs,one_ofN,v0m (n+2) 1 k (by omega) (by rw[Nat.one_mul];exact hpk),obs,Nat.one_mul];have hqA:q<=A / d:=by rw[<-h1];exact Nat.le_add_right _ _
   have hqM:q<340282366920938463463374607431768211456:=q4p (q4n hqA (Nat.div_le_self _ _)) hA;rw[or_ofN hqM hpk,or_pow h4];refine ih f (a-d*2^k) (q+2^k) ?_ (by omega) ?_ (Nat.dvd_add hq2 (Nat.dvd_refl _)) hk5 (by omega) (by omega)
   ·rw[div_part hd (by omega)];exact h1
   ·rw[Nat.pow_succ,<-Nat.mul_assoc] at h3;omega
theorem v0l (n:Nat){a d:Nat}(ha:a<340282366920938463463374607431768211456)(hd:0<d)(hdM:d<340282366920938463463374607431768211456):t0h (n+4) (ofN a) (ofN d)=some (ofN (a / d)):=by
 have la:=(l0l 128 a ha).2.2;have ld:=(l0l 128 d hdM).2;have ld1:=(ld.1 hd).1;rw[m1u,h2j (n+1) ha,obs,h2j (n+1) hdM,obs,w64 (by omega) (by omega)];by_cases h:bl 128 d<=bl 128 a
 ·have h0:0<a:=by
   rcases Nat.eq_zero_or_pos a with e | e
   ·rw[e,f1l] at h;omega
   ·exact e
  have e:((bl 128 a:Nat):Int)-((bl 128 d:Nat):Int)=((bl 128 a-bl 128 d+1:Nat):Int)-1:=by omega
  rw[e,zero_ofN,whole_l3 n hd ha hdM _ (bl 128 a-bl 128 d+1) a0b a 0 (by omega) (q3c _) (bl_over ha hdM hd) (Nat.dvd_zero _) (.inr (by rw[Nat.add_sub_cancel];exact bl_up ha hdM (by omega) h0)) (by omega) (by unfold a0b;omega),obs,a0r]
 ·have hlt:=bl_less ha hdM (by omega);rw[show a0b=(2^70-1)+1 from rfl,k0w,q1z (by omega),tff,obs,a0r,Nat.div_eq_of_lt hlt];rfl
theorem h2s (n:Nat){A B f:Nat}(ha0:0<A)(ha:A<340282366920938463463374607431768211456)(hb0:0<B)(hb:B<340282366920938463463374607431768211456)(s4:Wd)(tw:Int):d0s (n+3) (f+1) (ofN A,ofN B,s4,tw,()) =
  if od B<A then d0s (n+3) f (ofN (od B),ofN (A-od B),s4,tw,()) else d0s (n+3) f (ofN A,ofN (od B-A),s4,tw,()):=by
 have ht:=(q0x hb0 hb).1;have hle:od B<340282366920938463463374607431768211456:=q4p (od_le B) hb;rw[o0t,g0h,obs,tfn,q1z (by omega),tff,z0n (n+1) hb0 hb,obs,y0p (n+2) B _ ht hb,obs]
 change a0a (n0y (n+3) (ofN (od B)) (ofN A)) _=_
 rw[o1g (n+2) hle ha,obs,tfd];by_cases h:od B<A
 ·rw[q0z h,q0z h]
  change a0a (k0x (n+3) (ofN A) (ofN (od B))) _=_
  rw[q0u n ha (by omega),obs];rfl
 ·rw[q0n h,q0n h]
  change a0a (k0x (n+3) (ofN (od B)) (ofN A)) _=_
  rw[q0u n hle (by omega),obs]
theorem gcd_l5 (n:Nat)(s4:Wd)(tw:Int):∀(k f A B:Nat),0<A->A<340282366920938463463374607431768211456->A % 2=1->B<340282366920938463463374607431768211456->B % 2=0->A*B<2^k->k<f ->
  d0s (n+3) f (ofN A,ofN B,s4,tw,())=some (.inl (ofN (Nat.gcd A B),s4,tw,())):=by
 intro k;induction k with
 | zero =>
  intro f A B h1 h2 h3 h4 h5 h6 hf;obtain ⟨f,rfl⟩:∃g,f=g+1:=⟨f-1,by omega⟩;have:B=0:=by
   rcases Nat.eq_zero_or_pos B with e | e
   ·exact e
   ·have:=Nat.mul_pos h1 e;omega
  subst this;rw[o0t,g0h,obs,tfn,q2g rfl,tft,Nat.gcd_zero_right]
 | succ k ih =>
  intro f A B h1 h2 h3 h4 h5 h6 hf;obtain ⟨f,rfl⟩:∃g,f=g+1:=⟨f-1,by omega⟩;rcases Nat.eq_zero_or_pos B with e | hB
  ·subst e;rw[o0t,g0h,obs,tfn,q2g rfl,tft,Nat.gcd_zero_right]
  ·have hev:=od_even hB h4 h5;have hod:=(q0x hB h4).2.2;have hpos:=q2t hB h4;have hg:=s2m h3 hB h4;have hp:A*od B<2^k:=by
    have:A*(2*od B)<=A*B:=Nat.mul_le_mul_left A hev;rw[Nat.mul_left_comm] at this;rw[Nat.pow_succ] at h6;omega
   rw[h2s n h1 h2 hB h4];by_cases h:od B<A
   ·rw[q0z h,ih f (od B) (A-od B) hpos (by omega) hod (by omega) (by omega) (q4p (by rw[Nat.mul_comm A];exact Nat.mul_le_mul_left _ (Nat.sub_le _ _)) hp) (by omega),i1q (by omega),Nat.gcd_comm,hg]
   ·rw[q0n h,ih f A (od B-A) h1 h2 h3 (by omega) (by omega) (q4p (Nat.mul_le_mul_left _ (Nat.sub_le _ _)) hp) (by omega),i1q (by omega),hg]
theorem gcd_any (n:Nat)(s4:Wd)(tw:Int){A B:Nat}(h1:0<A)(h2:A<340282366920938463463374607431768211456)(h3:A % 2=1)(hB:0<B)(h4:B<340282366920938463463374607431768211456):d0s (n+3) a0b (ofN A,ofN B,s4,tw,())=some (.inl (ofN (Nat.gcd A B),s4,tw,())):=by
 have hod:=(q0x hB h4).2.2;have hpos:=q2t hB h4;have hle:=od_le B;have hg:=s2m h3 hB h4;have hm:∀ {x y:Nat},x<340282366920938463463374607431768211456->y<340282366920938463463374607431768211456->x*y<2^256:=fun hx hy=>q4o (Nat.mul_lt_mul'' hx hy) (by decide)
 rw[show a0b=(2^70-1)+1 from rfl,h2s n h1 h2 hB h4];by_cases h:od B<A
 ·rw[q0z h,gcd_l5 n s4 tw 256 _ (od B) (A-od B) hpos (by omega) hod (by omega) (by omega) (hm (by omega) (by omega)) (by decide),i1q (by omega),Nat.gcd_comm,hg]
 ·rw[q0n h,gcd_l5 n s4 tw 256 _ A (od B-A) h1 h2 h3 (by omega) (by omega) (hm (by omega) (by omega)) (by decide),i1q (by omega),hg]
theorem p2z (n:Nat){x y:Nat}(hx:x<340282366920938463463374607431768211456)(hy:y<340282366920938463463374607431768211456):k1g (n+4) (ofN x) (ofN y)=some (ofN (Nat.gcd x y)):=by
 rw[x1t,g0h,obs,or_ofN hx hy];by_cases h0:x=0
 ·subst h0;rw[q2g rfl,tft,Nat.gcd_zero_left,Nat.zero_or]
 rw[q1z h0,tff,g0h,obs];by_cases h1:y=0
 ·subst h1;rw[q2g rfl,tft,Nat.gcd_zero_right,Nat.or_zero]
 have hx0:0<x:=by omega
 have hy0:0<y:=by omega
 obtain ⟨a1,a2,a3⟩:=q0x hx0 hx;obtain ⟨b1,b2,b3⟩:=q0x hy0 hy;have hle:od x<340282366920938463463374607431768211456:=q4p (od_le x) hx;rw[q1z h1,tff,z0n (n+1) hx0 hx,obs,z0n (n+1) hy0 hy,obs,obs,y0p (n+2) x _ a1 hx,obs]
 change a0a (d0s (n+3) a0b (ofN (od x),ofN y,_,_,())) _=_
 rw[gcd_any n _ _ (q2t hx0 hx) hle a3 hy0 hy,obs,a0r];have e:(if ((tz 128 y:Nat):Int)<((tz 128 x:Nat):Int) then ((tz 128 y:Nat):Int) else ((tz 128 x:Nat):Int))=((min (tz 128 x) (tz 128 y):Nat):Int):=by
  split<;>omega
 have hg:=s2k hx0 hx hy0 hy;have hlt:Nat.gcd x y<340282366920938463463374607431768211456:=q4p (Nat.gcd_le_left y hx0) hx;simp only;rw[e,v0m (n+2) _ _ (by omega) (by rw[<-hg];exact hlt),obs,<-hg]
theorem lo_ofN {b:Nat}(h:b<18446744073709551616):(((0:Int),(b:Int)):Wd)=ofN b:=by
 unfold ofN;rw[Nat.div_eq_of_lt h,Nat.mod_eq_of_lt h];rfl
def redV (x y:Nat):(Wd×Wd)×Int:=if y=0 then (((0,0),(0,0)),1) else ((ofN (x / Nat.gcd x y),ofN (y / Nat.gcd x y)),0)
theorem x1s (n:Nat){x y:Nat}(hx:x<340282366920938463463374607431768211456)(hy:y<340282366920938463463374607431768211456):v0n (n+5) (ofN x) (ofN y)=some (redV x y):=by
 rw[k1f,g0h,obs,tfd];unfold redV;by_cases h:y=0
 ·rw[q0z h,q0z h]
 ·have hg:0<Nat.gcd x y:=Nat.gcd_pos_of_pos_right x (by omega);have hl:Nat.gcd x y<340282366920938463463374607431768211456:=q4p (Nat.gcd_le_right x (by omega)) hy;rw[q0n h,q0n h,p2z n hx hy,obs,v0l n hx hg hl,obs,v0l n hy hg hl,obs]
def rateV (a:Wd)(ms:Int):(Wd×Wd)×Int :=
 if ms=0 then (((0,0),(0,0)),12) else if wv a*1000<340282366920938463463374607431768211456 then redV (wv a*1000).toNat ms.toNat else (((0,0),(0,0)),1)
theorem k2w {a:Wd}(ha:WdOk a){ms:Int}(hm:0<=ms/\ms<=18446744073709551615)(h:wv a*1000<340282366920938463463374607431768211456):mkW (wv a*1000)=ofN (wv a*1000).toNat/\(wv a*1000).toNat<340282366920938463463374607431768211456/\(((0:Int),ms):Wd)=ofN ms.toNat/\ms.toNat<340282366920938463463374607431768211456:=by
 obtain ⟨h1,h2⟩:=p0n ha;have e:wv a*1000=(((wv a*1000).toNat:Nat):Int):=by omega
 refine ⟨?_,by omega,?_,by omega⟩
 ·conv=>lhs;rw[e]
  exact d2w _
 ·rw[<-lo_ofN (by omega)];congr 1;omega
theorem k2v (n:Nat){a:Wd}(ha:WdOk a){ms:Int}(hm:0<=ms/\ms<=18446744073709551615):e1f (n+6) a ms=some (rateV a ms):=by
 rw[s1s,tfd];unfold rateV;by_cases h0:ms=0
 ·rw[q0z h0,q0z h0]
 rw[q0n h0,q0n h0,o1f (n+3) ha 1000 (by omega),obs];unfold w1n;by_cases h:wv a*1000<340282366920938463463374607431768211456
 ·obtain ⟨p1,p2,p3,p4⟩:=k2w ha hm h;rw[q0z h,q0z h];simp only[decide_true,q3s,tff];rw[i1x,obs,p1,p3,x1s n p2 p4,obs]
 ·rw[q0n h,q0n h];rfl
section
variable {del:Ev×Unit->Option Bool}{p:Ev->Bool}{L:List Ev}(hd:∀x∈L,del (x,())=some (p x))
include hd
end
def WidP (w:Int):Prop:=1<=w/\w<=1099511627776
instance (w:Int):Decidable (WidP w):=by unfold WidP;infer_instance
def RngP (a b:Int):Prop:=0<=a/\b<=35184372088832/\a<b
instance (a b:Int):Decidable (RngP a b):=by unfold RngP;infer_instance
def s0t (a b w:Int):Int×(Int×Int):=if WidP w/\RngP a b then (if a % w=0/\b % w=0 then (a / w,(b / w,0)) else (0,(0,10))) else (0,(0,1))
theorem p2d {w:Int}(a b:Int)(hw:WidP w) :
  (tif (decide (a<(0:Int))) (some ((0:Int),((0:Int),(1:Int)))) (
  tif (decide ((35184372088832:Int)<b)) (some ((0:Int),((0:Int),(1:Int)))) (
  tif (decide (b<=a)) (some ((0:Int),((0:Int),(1:Int)))) (
  tif (decide (w=(0:Int))) none (
  tif (!(decide ((Int.tmod a w)=(0:Int)))) (some ((0:Int),((0:Int),(10:Int)))) (
  tif (decide (w=(0:Int))) none (
  tif (!(decide ((Int.tmod b w)=(0:Int)))) (some ((0:Int),((0:Int),(10:Int)))) (
  tif (decide (w=(0:Int))) none (
  tif (decide (w=(0:Int))) none (
  some ((wrap .i64 (Int.tdiv a w)),((wrap .i64 (Int.tdiv b w)),(0:Int)))))))))))))=some (s0t a b w):=by
 obtain ⟨w1,w2⟩:=hw;unfold s0t;simp only[tfd,tfn];by_cases h:RngP a b
 ·obtain ⟨h1,h2,h3⟩:=h;have qa:0<=a / w/\a / w<=a:=⟨Int.ediv_nonneg h1 (by omega),Int.ediv_le_self _ h1⟩;have qb:0<=b / w/\b / w<=b:=⟨Int.ediv_nonneg (by omega) (by omega),Int.ediv_le_self _ (by omega)⟩;rw[q0n (by omega),q0n (by omega),q0n (by omega),q0n (by omega),q0z (show WidP w/\RngP a b from ⟨⟨w1,w2⟩,h1,h2,h3⟩),q0j h1,q0j (show 0<=b by omega),s0o h1,s0o (show 0<=b by omega),w64 (by omega) (by omega),w64 (by omega) (by omega)];by_cases ha:a % w=0
  ·rw[q0z ha,q0n (by omega)];by_cases hb:b % w=0
   ·rw[q0z hb,q0n (by omega),q0n (by omega),q0z ⟨ha,hb⟩]
   ·rw[q0n hb,q0n (fun k=>hb k.2)]
  ·rw[q0n ha,q0n (fun k=>ha k.1)]
 ·rw[q0n (show ¬(WidP w/\RngP a b) from fun k=>h k.2)];by_cases h1:a<0
  ·rw[q0z h1]
  rw[q0n h1];by_cases h2:35184372088832<b
  ·rw[q0z h2]
  rw[q0n h2,q0z (by unfold RngP at h;omega)]
theorem d1g (n:Nat)(a b w:Int):j0m (n+3) a b w=some (s0t a b w):=by
 rw[i2y,i1y,wi_in,obs,obs,tfn,tfd];by_cases h:WidP w
 ·rw[q0z (show 1<=w/\w<=1099511627776 from h)];exact p2d a b h
 ·rw[q0n (show ¬(1<=w/\w<=1099511627776) from h)];unfold s0t;rw[q0n (fun k=>h k.1)]
noncomputable def oneV (s:Sta)(k a b:Int):Int :=
 if (s0t a b (k0o s.1 k)).2.2=0 then (if (s0t a b (k0o s.1 k)).1<(oldV s.2.1 (k0o s.1 k) (tierN s.1 k)).1 then 11 else 0) else (s0t a b (k0o s.1 k)).2.2
theorem kept_ok {s:Sta}(h:StaOk s){k:Int}(h0:0<=k)(h2:k<=2):keptV s k=((oldV s.2.1 (k0o s.1 k) (tierN s.1 k)).1,(s.2.1 / k0o s.1 k,0)):=by
 unfold keptV;rw[q0z h,q0n (by omega)]
theorem tier3 {t:Int}(h1:1<=t)(h3:t<=3):wrap .i64 (t-1)=t-1:=w64 (by omega) (by omega)
theorem b1t (n:Nat){s:Sta}(hw:StaW s)(h:StaOk s){t:Int}(h1:1<=t)(h3:t<=3)(a b:Int):b1u (n+17) s t a b=some (oneV s (t-1) a b):=by
 rw[x1x,tier3 h1 h3];have hk:=kept_ok h (k:=t-1) (by omega) (by omega);unfold oneV;rcases (by omega:t=1\/t=2\/t=3) with e | e | e<;>subst e
 ·rw[show ((1:Int)-1)=0 from rfl] at hk ⊢;rw[q2g (show (0:Int)=0 from rfl),tft]
  change a0a (j0m _ a b (k0o s.1 0)) _=_
  rw[d1g (n+13),obs,tfn,tfd,u1z n hw 0,hk,obs];by_cases hs:(s0t a b (k0o s.1 0)).2.2=0
  ·rw[q0z hs,q0z hs,q2g rfl,tft,tfd];split<;>rfl
  ·rw[q0n hs,q0n hs]
 ·rw[show ((2:Int)-1)=1 from rfl] at hk ⊢;rw[q1z (show ¬((1:Int)=0) by decide),tff];rw[q2g (show (1:Int)=1 from rfl),tft]
  change a0a (j0m _ a b (k0o s.1 1)) _=_
  rw[d1g (n+13),obs,tfn,tfd,u1z n hw 1,hk,obs];by_cases hs:(s0t a b (k0o s.1 1)).2.2=0
  ·rw[q0z hs,q0z hs,q2g rfl,tft,tfd];split<;>rfl
  ·rw[q0n hs,q0n hs]
 ·rw[show ((3:Int)-1)=2 from rfl] at hk ⊢;rw[q1z (show ¬((2:Int)=0) by decide),tff];rw[q1z (show ¬((2:Int)=1) by decide),tff];rw[q2g (show (2:Int)=2 from rfl),tft]
  change a0a (j0m _ a b (k0o s.1 2)) _=_
  rw[d1g (n+13),obs,tfn,tfd,u1z n hw 2,hk,obs];by_cases hs:(s0t a b (k0o s.1 2)).2.2=0
  ·rw[q0z hs,q0z hs,q2g rfl,tft,tfd];split<;>rfl
  ·rw[q0n hs,q0n hs]
theorem span_why (a b w:Int):(s0t a b w).2.2=0\/(s0t a b w).2.2=1\/(s0t a b w).2.2=10:=by
 unfold s0t;split
 ·split
  ·exact .inl rfl
  ·exact .inr (.inr rfl)
 ·exact .inr (.inl rfl)
theorem q2s (s:Sta)(k a b:Int):oneV s k a b=0\/oneV s k a b=1\/oneV s k a b=10\/oneV s k a b=11:=by
 unfold oneV;rcases span_why a b (k0o s.1 k) with h | h | h<;>rw[h]
 ·rw[q0z rfl];split
  ·exact .inr (.inr (.inr rfl))
  ·exact .inl rfl
 ·exact .inr (.inl rfl)
 ·exact .inr (.inr (.inl rfl))
noncomputable def f0b (s:Sta)(a b:Int):Nat->Int->Int->Int×Int
 | 0,_,why=>(0,why)
 | d+1,t,why=>if oneV s (t-1) a b=0 then (t,0) else if oneV s (t-1) a b=1 then (0,1) else f0b s a b d (t+1) (if oneV s (t-1) a b=11 then 11 else why)
theorem o2a {s:Sta}{a b t:Int}(e:oneV s (t-1) a b=0)(d:Nat)(why:Int):f0b s a b (d+1) t why=(t,0):=by
 conv=>lhs;unfold f0b
 rw[q0z e]
theorem n2z {s:Sta}{a b t:Int}(e:oneV s (t-1) a b=1)(d:Nat)(why:Int):f0b s a b (d+1) t why=(0,1):=by
 conv=>lhs;unfold f0b
 rw[q0n (by omega),q0z e]
theorem f2x {s:Sta}{a b t:Int}(e:oneV s (t-1) a b=10)(d:Nat)(why:Int):f0b s a b (d+1) t why=f0b s a b d (t+1) why:=by
 conv=>lhs;unfold f0b
 rw[q0n (by omega),q0n (by omega),q0n (by omega)]
theorem f2w {s:Sta}{a b t:Int}(e:oneV s (t-1) a b=11)(d:Nat)(why:Int):f0b s a b (d+1) t why=f0b s a b d (t+1) 11:=by
 conv=>lhs;unfold f0b
 rw[q0n (by omega),q0n (by omega),q0z e]
theorem m1v (n:Nat){s:Sta}(hw:StaW s)(h:StaOk s)(a b:Int):∀(d f:Nat) (t why:Int),1<=t->t+d=4->d<f ->
  d0l (n+17) f (a,b,s,why,t,())=some (if (f0b s a b d t why).2=0 then .inr (f0b s a b d t why) else if (f0b s a b d t why).2=1 then .inr (f0b s a b d t why) else .inl ((f0b s a b d t why).2,()))\/(why≠10/\why≠11):=by
 intro d;induction d with
 | zero =>
  intro f t why h1 ht hf;obtain ⟨f,rfl⟩:∃g,f=g+1:=⟨f-1,by omega⟩;by_cases hy:why≠10/\why≠11
  ·exact .inr hy
  refine .inl ?_;rw[l0y,q1z (by omega),tff];unfold f0b;rw[q0n (by simp only;omega),q0n (by simp only;omega)]
 | succ d ih =>
  intro f t why h1 ht hf;obtain ⟨f,rfl⟩:∃g,f=g+1:=⟨f-1,by omega⟩;by_cases hy:why≠10/\why≠11
  ·exact .inr hy
  refine .inl ?_;rw[l0y,q2g (by omega),tft,b1t n hw h h1 (by omega),obs,w64 (by omega) (by omega)];simp only[tfd];rcases q2s s (t-1) a b with e | e | e | e
  ·rw[o2a e,e,q0z rfl,q0z rfl]
  ·rw[n2z e,e,q0n (by decide),q0n (by decide),q0n (by decide),q0n (by decide),q0z rfl]
  ·rw[f2x e,e,q0n (by decide),q0z rfl];exact (ih f (t+1) why (by omega) (by omega) (by omega)).resolve_right hy
  ·rw[f2w e,e,q0n (by decide),q0n (by decide),q0z rfl];exact (ih f (t+1) 11 (by omega) (by omega) (by omega)).resolve_right (by decide)
theorem d2g (n:Nat){s:Sta}(hw:StaW s)(h:StaOk s)(a b:Int):o0u (n+18) s a b=some (f0b s a b 3 1 10):=by
 rw[b1s]
 change a0a (d0l (n+17) a0b (a,b,s,10,1,())) _=_
 rw[(m1v n hw h a b 3 a0b 1 10 (by decide) rfl (by unfold a0b;omega)).resolve_right (by decide),obs];split
 ·rfl
 ·split
  ·rfl
  ·rename_i h0 h1;rw[a0r];have hz:(f0b s a b 3 1 10).1=0:=by
    have key:∀(d:Nat) (t why:Int),(f0b s a b d t why).2≠0->(f0b s a b d t why).1=0:=by
     intro d;induction d with
     | zero=>intro t why _;rfl
     | succ d ih =>
      intro t why;unfold f0b;split
      ·intro k;exact absurd rfl k
      ·split
       ·intro _;rfl
       ·exact ih _ _
    exact key 3 1 10 h0
   exact congrArg some (Prod.ext hz.symm rfl)
noncomputable def f0p (s:Sta)(t a b:Int):Int×Int :=
 if StaOk s then (if t<0\/3<t then (0,1) else if t=0 then f0b s a b 3 1 10 else if oneV s (t-1) a b=0 then (t,0) else (0,oneV s (t-1) a b)) else (0,2)
theorem p1e (n:Nat){s:Sta}(hw:StaW s)(t a b:Int):x0c (n+19) s t a b=some (f0p s t a b):=by
 rw[s1x,f0e (n+4) hw,obs,tfn,tfd];unfold f0p;by_cases h:StaOk s
 case neg=>rw[q0n h,q0n h];rfl
 rw[q0z h,q0z h,q0z rfl];simp only[tfd,tfn];by_cases h0:t<0
 ·rw[q0z h0,q0z (.inl h0)]
 by_cases h3:3<t
 ·rw[q0n h0,q0z h3,q0z (.inr h3)]
 rw[q0n h0,q0n h3,q0n (show ¬(t<0\/3<t) by omega)];by_cases hz:t=0
 ·rw[q0z hz,q0z hz,d2g n hw h,obs]
 ·rw[q0n hz,q0n hz,b1t (n+1) hw h (by omega) (by omega),obs];by_cases ho:oneV s (t-1) a b=0
  ·rw[q0z ho,q0z ho]
  ·rw[q0n ho,q0n ho]
end Go.Proofs.YtagnkfbpgkckiaaGreatDoor
