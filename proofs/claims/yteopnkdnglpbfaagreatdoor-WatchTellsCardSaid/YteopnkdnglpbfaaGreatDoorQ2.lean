/-
 Plain proofs about the functions of this seat, part 2 of 4.
-/
import Derived.Test.YteopnkdnglpbfaaGreatDoorQ1
import Derived.IntWalk
import Derived.Test.YteopnkdnglpbfaaGreatDoorTr
import Derived.Test.YteopnkdnglpbfaaGreatDoorFlatM4
open Go.IntKind (wrap)
namespace Go.Proofs.YteopnkdnglpbfaaGreatDoor
open Go.Flat Go.Plim
set_option linter.unusedVariables false
set_option linter.unusedSimpArgs false
abbrev Rw:=Int×(Int×List Ev)
structure RawOk (r:Rw) (room:Int):Prop where
 m0:1<=room
 m1:room<=4096
 len:(r.2.2.length:Int)<=room
 l0:0<=r.1
 l1:r.1<=70368744177664
 f:Foll r.2.2
 z:r.1=0->r.2.1=0
 p:r.1≠0->(r.2.2.length:Int)=room/\0<=r.2.1/\∀x,r.2.2.head? = some x->r.2.1<x.1
noncomputable instance (r room):Decidable (RawOk r room):=Classical.propDecidable _
def RawW (r:Rw):Prop:=∀e∈r.2.2,EvW e
theorem last_at {l pre rest:List Ev} {x:Ev} {i:Int} (hl:l=pre++x::rest) (hi:i=pre.length) (hL:l.length<=1000000) (h:0<i):∃q,pre.getLast? = some q/\at? l (wrap .i64 (i-1))=some q:=by
 rcases List.eq_nil_or_concat pre with rfl | ⟨q,y,rfl⟩
 ·simp at hi;omega
 rw[List.concat_eq_append] at *
 have hlen:=congrArg List.length hl;simp at hlen hi;refine ⟨y,by simp,?_⟩;rw[w64 (by omega) (by omega)];exact c0e (pre:=q) (rest:=x::rest) (by rw[hl];simp) (by omega)
theorem u1u {pre rest:List Ev} {x:Ev} (hp:Foll pre):(EvOk x/\(∀q,pre.getLast? = some q->q.1<x.1))↔Foll (pre++[x]):=by
 constructor
 ·rintro ⟨h1,h2⟩;refine u1t.2 ⟨hp,h1,?_⟩;rcases List.eq_nil_or_concat pre with rfl | ⟨q,y,rfl⟩
  ·simp
  ·rw[List.concat_eq_append] at *
   exact last_all hp (y:=y) (by simp) (h2 y (by simp))
 ·intro h;obtain ⟨h1,h2,h3⟩:=u1t.1 h;exact ⟨h2,fun q hq=>h3 q (List.mem_of_getLast? hq)⟩
theorem b2p {l pre rest:List Ev} {x:Ev} (hl:l=pre++x::rest) (h:Foll l):Foll (pre++[x]):=by
 rw[idxl hl] at h;exact (q0i.1 h).1
theorem r1u (n:Nat) (l:List Ev) (hL:l.length<=1000000) (hw:∀e∈l,EvW e):∀(rest pre:List Ev) (f:Nat) (i len:Int),l=pre++rest->i=pre.length->len=l.length->rest.length<f->Foll pre ->
  (Foll l->g0c (n+3) f (l,l,len,i,())=some (.inl ()))/\(¬Foll l->g0c (n+3) f (l,l,len,i,())=some (.inr false)):=by
 intro rest;induction rest with
 | nil =>
  intro pre f i len hl hi hn hf hp;obtain ⟨f,rfl⟩:∃g,f=g+1:=⟨f-1,by simp at hf;omega⟩;rw[q0q];have e:l=pre:=by rw[hl,q2v]
  exact ⟨fun _=>by simp only[tfd,q0n (idxe hl hi hn)],fun k=>absurd (e ▸ hp) k⟩
 | cons x rest ih =>
  intro pre f i len hl hi hn hf hp;obtain ⟨f,rfl⟩:∃g,f=g+1:=⟨f-1,by simp at hf;omega⟩;rw[q0q];have hx:EvW x:=hw x (by rw[hl];simp);have ih':=ih (pre++[x]) f (i+1) len (idxl hl) (idxs hi) hn (by simp at hf;omega);simp only[tfd,tfn,q0z (idx hl hi hn),c0e hl hi,obs,v0i _ hx,z02,idxw hl hi (by omega)];have nx:=u1u (rest:=rest) (x:=x) hp;by_cases c1:EvOk x
  case neg=>rw[q0n c1];exact ⟨fun k=>absurd (k.ok x (by rw[hl];simp)) c1,fun _=>rfl⟩
  rw[q0z c1];by_cases c2:0<i
  ·obtain ⟨q,hq,hat⟩:=last_at hl hi hL c2;have hqo:EvOk q:=hp.ok q (List.mem_of_getLast? hq);rw[q0z c2,hat,obs,b1e n (.of hqo) hx];simp only[obs,tfd];by_cases c3:q.1<x.1
   ·rw[q0z ⟨hqo,c1,c3⟩];exact ih' (nx.1 ⟨c1,fun z hz=>by rw[hq] at hz;injection hz with hz;rw[<-hz];exact c3⟩)
   ·rw[q0n (fun k=>c3 k.2.2)];exact ⟨fun k=>absurd ((nx.2 (b2p hl k)).2 q hq) c3,fun _=>rfl⟩
  ·have hpe:pre=[]:=List.length_eq_zero_iff.1 (by omega);rw[q0n c2];exact ih' (nx.1 ⟨c1,fun z hz=>by rw[hpe] at hz;cases hz⟩)
noncomputable instance (l:List Ev):Decidable (Foll l):=Classical.propDecidable _
theorem f1t (n:Nat) (l:List Ev) (hL:l.length<=1000000) (hw:∀e∈l,EvW e):z0c (n+4) l=some (decide (Foll l)):=by
 rw[m1v];have h:=r1u n l hL hw l [] a0b 0 l.length rfl rfl rfl (by unfold a0b;omega) Foll.nil;by_cases c:Foll l
 ·rw[h.1 c,q2a c];rfl
 ·rw[h.2 c,q1z c];rfl
theorem k2f (l:List Ev):at? l (0:Int)=l.head? := by cases l<;>rfl
theorem h2s (n:Nat) (r:Rw) (room:Int) (hw:RawW r):d1m (n+5) r room=some (if RawOk r room then 0 else 2):=by
 rw[r1v];simp only[tfd];by_cases h1:room<1
 ·rw[q0z h1,q0n (fun k:RawOk r room=>by have:=k.m0;omega)]
 by_cases h2:4096<room
 ·rw[q0n h1,q0z h2,q0n (fun k:RawOk r room=>by have:=k.m1;omega)]
 by_cases h3:room<r.2.2.length
 ·rw[q0n h1,q0n h2,q0z h3,q0n (fun k:RawOk r room=>by have:=k.len;omega)]
 by_cases h4:r.1<0
 ·rw[q0n h1,q0n h2,q0n h3,q0z h4,q0n (fun k:RawOk r room=>by have:=k.l0;omega)]
 by_cases h5:70368744177664<r.1
 ·rw[q0n h1,q0n h2,q0n h3,q0n h4,q0z h5,q0n (fun k:RawOk r room=>by have:=k.l1;omega)]
 rw[q0n h1,q0n h2,q0n h3,q0n h4,q0n h5,f1t n r.2.2 (by omega) hw,m1w];simp only[obs,tfn,tfd];by_cases h6:Foll r.2.2
 case neg=>rw[q0n h6,q0n (fun k:RawOk r room=>h6 k.f)]
 rw[q0z h6];by_cases h7:r.1=0
 ·rw[q0z h7,obs];simp only[tfd];by_cases h8:r.2.1=0
  ·rw[q0z h8,q0z (⟨by omega,by omega,by omega,by omega,by omega,h6,fun _=>h8,fun k=>absurd h7 k⟩:RawOk r room)]
  ·rw[q0n h8,q0n (fun k:RawOk r room=>h8 (k.z h7))]
 rw[q0n h7];by_cases h8:(r.2.2.length:Int)=room
 case neg=>rw[q0n h8,q0n (fun k:RawOk r room=>h8 (k.p h7).1)];rfl
 rw[q0z h8];by_cases h9:(0:Int)<=r.2.1
 case neg=>rw[q0n h9,q0n (fun k:RawOk r room=>h9 (k.p h7).2.1)];rfl
 rw[q0z h9,k2f];obtain ⟨x,hx⟩:∃x,r.2.2.head? = some x:=by
  cases hh:r.2.2 with
  | nil=>rw[hh] at h8;simp at h8;omega
  | cons x l=>exact ⟨x,rfl⟩
 rw[hx,obs,obs];simp only[tfd];by_cases h10:r.2.1<x.1
 ·rw[q0z h10,q0z (⟨by omega,by omega,by omega,by omega,by omega,h6,fun k=>absurd k h7,fun _=>⟨h8,h9,fun y hy=>by rw[hx] at hy;injection hy with hy;rw[<-hy];exact h10⟩⟩:RawOk r room)]
 ·rw[q0n h10,q0n (fun k:RawOk r room=>h10 ((k.p h7).2.2 x hx))]
theorem x1s (n:Nat) (room:Int) (r:Rw) (hL:r.2.2.length<=1000000) (hw:RawW r):∀(rest pre:List Ev) (f:Nat) (i len:Int),r.2.2=pre++rest->i=pre.length->len=r.2.2.length->rest.length<f->Foll pre ->
  (Foll r.2.2->g0z (n+1) f (room,r,r.2.2,len,i,())=some (.inl (room,r,())))/\(¬Foll r.2.2->g0z (n+1) f (room,r,r.2.2,len,i,())=some (.inr 2)):=by
 intro rest;induction rest with
 | nil =>
  intro pre f i len hl hi hn hf hp;obtain ⟨f,rfl⟩:∃g,f=g+1:=⟨f-1,by simp at hf;omega⟩;rw[r0u];have e:r.2.2=pre:=by rw[hl,q2v]
  exact ⟨fun _=>by simp only[tfd,q0n (idxe hl hi hn)],fun k=>absurd (e ▸ hp) k⟩
 | cons x rest ih =>
  intro pre f i len hl hi hn hf hp;obtain ⟨f,rfl⟩:∃g,f=g+1:=⟨f-1,by simp at hf;omega⟩;rw[r0u];have hx:EvW x:=hw x (by rw[hl];simp);have ih':=ih (pre++[x]) f (i+1) len (idxl hl) (idxs hi) hn (by simp at hf;omega);simp only[tfd,tfn,q0z (idx hl hi hn),c0e hl hi,obs,r0y _ hx,z02,idxw hl hi (by omega)];have nx:=u1u (rest:=rest) (x:=x) hp;by_cases c1:EvOk x
  case neg=>rw[q0n c1];exact ⟨fun k=>absurd (k.ok x (by rw[hl];simp)) c1,fun _=>rfl⟩
  rw[q0z c1];by_cases c2:0<i
  ·obtain ⟨q,hq,hat⟩:=last_at hl hi hL c2;rw[q0z c2,hat,obs];by_cases c3:x.1<=q.1
   ·rw[q0z c3];exact ⟨fun k=>by have:=(nx.2 (b2p hl k)).2 q hq;omega,fun _=>rfl⟩
   ·rw[q0n c3];exact ih' (nx.1 ⟨c1,fun z hz=>by rw[hq] at hz;injection hz with hz;rw[<-hz];omega⟩)
  ·have hpe:pre=[]:=List.length_eq_zero_iff.1 (by omega);rw[q0n c2];exact ih' (nx.1 ⟨c1,fun z hz=>by rw[hpe] at hz;cases hz⟩)
theorem i2d (n:Nat) (r:Rw) (room:Int) (hw:RawW r):d1v (n+2) r room=some (if RawOk r room then 0 else 2):=by
 rw[s1n];simp only[tfd];by_cases h1:room<1
 ·rw[q0z h1,q0n (fun k:RawOk r room=>by have:=k.m0;omega)]
 by_cases h2:4096<room
 ·rw[q0n h1,q0z h2,q0n (fun k:RawOk r room=>by have:=k.m1;omega)]
 by_cases h3:room<r.2.2.length
 ·rw[q0n h1,q0n h2,q0z h3,q0n (fun k:RawOk r room=>by have:=k.len;omega)]
 by_cases h4:r.1<0
 ·rw[q0n h1,q0n h2,q0n h3,q0z h4,q0n (fun k:RawOk r room=>by have:=k.l0;omega)]
 by_cases h5:70368744177664<r.1
 ·rw[q0n h1,q0n h2,q0n h3,q0n h4,q0z h5,q0n (fun k:RawOk r room=>by have:=k.l1;omega)]
 rw[q0n h1,q0n h2,q0n h3,q0n h4,q0n h5];have hl:=x1s n room r (by omega) hw r.2.2 [] a0b 0 _ rfl rfl rfl (by unfold a0b;omega) Foll.nil;by_cases h6:Foll r.2.2
 case neg=>rw[hl.2 h6,q0n (fun k:RawOk r room=>h6 k.f)];rfl
 rw[hl.1 h6];simp only[obs,a0t,tfn,tfd];by_cases h7:r.1=0
 ·rw[q0z h7];by_cases h8:r.2.1=0
  ·rw[q0z h8,q0z (⟨by omega,by omega,by omega,by omega,by omega,h6,fun _=>h8,fun k=>absurd h7 k⟩:RawOk r room)]
  ·rw[q0n h8,q0n (fun k:RawOk r room=>h8 (k.z h7))]
 rw[q0n h7];by_cases h9:r.2.1<0
 ·rw[q0z h9,q0n (fun k:RawOk r room=>by have:=(k.p h7).2.1;omega)]
 rw[q0n h9];have hd:∀k:RawOk r room,∃x,r.2.2.head? = some x/\EvOk x:=fun k=>by
  have h8:=(k.p h7).1;have:=k.m0;cases hh:r.2.2 with
  | nil=>rw[hh] at h8;simp at h8;omega
  | cons x l=>exact ⟨x,rfl,h6.ok x (by rw[hh];simp)⟩
 by_cases h10:(35184372088832:Int)<=r.2.1
 ·rw[q0z h10,q0n];intro k;obtain ⟨x,hx,hxo⟩:=hd k;have:=(k.p h7).2.2 x hx;have:=hxo.t1;omega
 rw[q0n h10];by_cases h8:(r.2.2.length:Int)=room
 case neg=>rw[q0n h8,q0n (fun k:RawOk r room=>h8 (k.p h7).1)]
 rw[q0z h8,k2f];obtain ⟨x,hx⟩:∃x,r.2.2.head? = some x:=by
  cases hh:r.2.2 with
  | nil=>rw[hh] at h8;simp at h8;omega
  | cons x l=>exact ⟨x,rfl⟩
 rw[hx,obs];by_cases h11:x.1<=r.2.1
 ·rw[q0z h11,q0n (fun k:RawOk r room=>by have:=(k.p h7).2.2 x hx;omega)]
 ·rw[q0n h11,q0z (⟨by omega,by omega,by omega,by omega,by omega,h6,fun k=>absurd k h7,fun _=>⟨h8,by omega,fun y hy=>by rw[hx] at hy;injection hy with hy;rw[<-hy];omega⟩⟩:RawOk r room)]
theorem raw_last (n:Nat) (r:Rw) (hL:r.2.2.length<=1000000):m1x (n+1) r=some (match r.2.2.getLast? with | some e=>(e,0) | none=>(e0,3)):=by
 rw[w1z];simp only[tfd];rcases List.eq_nil_or_concat r.2.2 with h | ⟨q,y,h⟩
 ·rw[h,q0z (by simp)];rfl
 ·rw[List.concat_eq_append] at h;have hlen:=congrArg List.length h;simp at hlen;rw[q0n (by omega),w64 (by omega) (by omega),c0e (pre:=q) (rest:=[]) h (by omega),h];simp
theorem r12_last (n:Nat) (r:Rw) (hL:r.2.2.length<=1000000):n1t (n+1) r=some (match r.2.2.getLast? with | some e=>(e,0) | none=>(e0,3)):=by
 rw[x1u];simp only[tfd];rcases List.eq_nil_or_concat r.2.2 with h | ⟨q,y,h⟩
 ·rw[h,q0z (by simp)];rfl
 ·rw[List.concat_eq_append] at h;have hlen:=congrArg List.length h;simp at hlen;rw[q0n (by omega),w64 (by omega) (by omega),c0e (pre:=q) (rest:=[]) h (by omega),h];simp
def r0w:Rw:=(0,(0,[]))
end Go.Proofs.YteopnkdnglpbfaaGreatDoor
namespace Go.Proofs.YteopnkdnglpbfaaGreatDoor
open Go.Flat Go.Plim
end Go.Proofs.YteopnkdnglpbfaaGreatDoor

namespace Go.Plim
set_option linter.unusedVariables false
variable {α:Type}
def Srt (key:α->Int) (d:List α) (a b:Nat):Prop:=∀i j x y,a<=i->i<j->j<b->d[i]? = some x->d[j]? = some y->key x<=key y
structure Mv (d d':List α) (a b:Nat):Prop where
 perm:d'.Perm d
 out:∀i,(i<a\/b<=i)->d'[i]? = d[i]?
 ins:∀i x,a<=i->i<b->d'[i]? = some x->∃j,a<=j/\j<b/\d[j]? = some x
theorem Mv.len {d d':List α} {a b:Nat} (h:Mv d d' a b):d'.length=d.length:=h.perm.length_eq
theorem Mv.refl (d:List α) (a b:Nat):Mv d d a b:=⟨.refl _,fun _ _=>rfl,fun i x h1 h2 h=>⟨i,h1,h2,h⟩⟩
theorem Mv.trans {d d' d'':List α} {a b:Nat} (h:Mv d d' a b) (g:Mv d' d'' a b):Mv d d'' a b :=
 ⟨g.perm.trans h.perm,fun i hi=>(g.out i hi).trans (h.out i hi),fun i x h1 h2 hx=>by
  obtain ⟨j,j1,j2,hj⟩:=g.ins i x h1 h2 hx
  exact h.ins j x j1 j2 hj⟩
theorem Mv.mono {d d':List α} {a b a' b':Nat} (h:Mv d d' a b) (ha:a'<=a) (hb:b<=b'):Mv d d' a' b' :=
 ⟨h.perm,fun i hi=>h.out i (by omega),fun i x h1 h2 hx=>by
  by_cases k:a<=i/\i<b
  ·obtain ⟨j,j1,j2,hj⟩:=h.ins i x k.1 k.2 hx;exact ⟨j,by omega,by omega,hj⟩
  ·rw[h.out i (by omega)] at hx
   exact ⟨i,h1,h2,hx⟩⟩
theorem Srt.mono {key:α->Int} {d:List α} {a b a' b':Nat} (h:Srt key d a b) (ha:a<=a') (hb:b'<=b):Srt key d a' b' :=
 fun i j x y h1 h2 h3=>h i j x y (by omega) h2 (by omega)
theorem Srt.keep {key:α->Int} {d d':List α} {a b p q:Nat} (h:Srt key d p q) (m:Mv d d' a b) (hd:q<=a\/b<=p):Srt key d' p q :=
 fun i j x y h1 h2 h3 hx hy=>h i j x y h1 h2 h3 (by rw[<-m.out i (by omega)];exact hx) (by rw[<-m.out j (by omega)];exact hy)
theorem Srt.one (key:α->Int) (d:List α) {a b:Nat} (h:b<=a+1):Srt key d a b:=fun i j _ _ h1 h2 h3=>by omega
theorem p0d {d:List α} {i j:Nat} {x y:α} (hi:d[i]? = some x) (hj:d[j]? = some y) (k:Nat) :
  ((d.set i y).set j x)[k]? = if k=j then some x else if k=i then some y else d[k]? := by
 have li:=(q2p.1 hi).1;have lj:=(q2p.1 hj).1;simp only[List.getElem?_set,List.length_set];by_cases e:j=k
 ·subst e;simp[lj]
 ·by_cases e':i=k
  ·subst e';simp[e,li,Ne.symm e]
  ·simp[e,e',Ne.symm e,Ne.symm e']
theorem w1g {d:List α} {i j a b:Nat} {x y:α} (hi:d[i]? = some x) (hj:d[j]? = some y) (i1:a<=i) (i2:i<b) (j1:a<=j) (j2:j<b):Mv d ((d.set i y).set j x) a b:=by
 have li:=(q2p.1 hi);have lj:=(q2p.1 hj);obtain ⟨li,rfl⟩:=li;obtain ⟨lj,rfl⟩:=lj;refine ⟨List.set_set_perm li lj,fun k hk => ?_,fun k z k1 k2 hz => ?_⟩
 ·rw[p0d hi hj,q0n (by omega),q0n (by omega)]
 ·rw[p0d hi hj] at hz;by_cases e:k=j
  ·rw[q0z e] at hz;exact ⟨i,i1,i2,by rw[<-hz,hi]⟩
  ·rw[q0n e] at hz;by_cases e':k=i
   ·rw[q0z e'] at hz;exact ⟨j,j1,j2,by rw[<-hz,hj]⟩
   ·rw[q0n e'] at hz;exact ⟨k,k1,k2,hz⟩
structure Turned (d d':List α) (a m b:Nat):Prop where
 mv:Mv d d' a b
 lo:∀i,a<=i->i<a+(b-m)->d'[i]? = d[i+(m-a)]?
 hi:∀i,a+(b-m)<=i->i<b->d'[i]? = d[i-(b-m)]?
theorem q1v {P U V S d d':List α} {a m b:Nat} (hd:d=P++(U++(V++S))) (hd':d'=P++(V++(U++S))) (ha:P.length=a) (hm:a+U.length=m) (hb:m+V.length=b):Turned d d' a m b:=by
 subst hd hd' ha hm hb;have perm:(P++(V++(U++S))).Perm (P++(U++(V++S))):=by
  refine List.Perm.append_left P ?_;rw[<-q2g,<-q2g];exact List.Perm.append_right S List.perm_append_comm
 have out:∀i,(i<P.length\/P.length+U.length+V.length<=i)->(P++(V++(U++S)))[i]? = (P++(U++(V++S)))[i]? := by
  intro i hi;rcases hi with hi | hi
  ·rw[q3a hi,q3a hi]
  ·rw[q2h (by omega),q2h (by omega),q2h (by omega),q2h (by omega),q2h (by omega),q2h (by omega)];congr 1;omega
 have lo:∀i,P.length<=i->i<P.length+(P.length+U.length+V.length-(P.length+U.length))->(P++(V++(U++S)))[i]? = (P++(U++(V++S)))[i+(P.length+U.length-P.length)]? := by
  intro i h1 h2;rw[q2h (by omega),q3a (by omega),q2h (by omega),q2h (by omega),q3a (by omega)];congr 1;omega
 have hi:∀i,P.length+(P.length+U.length+V.length-(P.length+U.length))<=i->i<P.length+U.length+V.length->(P++(V++(U++S)))[i]? = (P++(U++(V++S)))[i-(P.length+U.length+V.length-(P.length+U.length))]? := by
  intro i h1 h2;rw[q2h (by omega),q2h (by omega),q3a (by omega),q2h (by omega),q3a (by omega)];congr 1;omega
 refine ⟨⟨perm,out,fun i x h1 h2 hx => ?_⟩,lo,hi⟩;by_cases k:i<P.length+(P.length+U.length+V.length-(P.length+U.length))
 ·rw[lo i h1 k] at hx;exact ⟨_,by omega,by omega,hx⟩
 ·rw[hi i (by omega) h2] at hx;exact ⟨_,by omega,by omega,hx⟩
theorem turned_refl (d:List α) {a m b:Nat} (h:(a<=m/\m=b)\/(a=m/\m<=b)):Turned d d a m b:=by
 rcases h with ⟨h1,rfl⟩ | ⟨rfl,h1⟩
 ·exact ⟨.refl _ _ _,fun i h2 h3=>by omega,fun i h2 h3=>by simp⟩
 ·exact ⟨.refl _ _ _,fun i h2 h3=>by simp,fun i h2 h3=>by omega⟩
theorem cut4 (d:List α) {a m b:Nat} (h1:a<=m) (h2:m<=b) (h3:b<=d.length) :
  ∃P U V S,d=P++(U++(V++S))/\P.length=a/\a+U.length=m/\m+V.length=b:=by
 refine ⟨d.take a,(d.drop a).take (m-a),(d.drop m).take (b-m),d.drop b,?_,?_,?_,?_⟩
 ·have e1:(d.drop m).take (b-m)++d.drop b=d.drop m:=by
   conv=>rhs;rw[<-q3b (b-m) (d.drop m),List.drop_drop]
   rw[show m+(b-m)=b by omega]
  have e2:(d.drop a).take (m-a)++d.drop m=d.drop a:=by
   conv=>rhs;rw[<-q3b (m-a) (d.drop a),List.drop_drop]
   rw[show a+(m-a)=m by omega]
  rw[e1,e2,q3b]
 all_goals simp
 all_goals omega
theorem halves {key:α->Int} {d d':List α} {a m b mid s e:Nat} (h1:Srt key d a m) (h2:Srt key d m b) (t:Turned d d' s m e)
  (k1:a<=s) (k2:s<=m) (k3:m<=e) (k4:e<=b) (k5:e+s=mid+m) (hb:b<=d.length)
  (c1:∀x y,a<s->e<b->d[s-1]? = some x->d[e]? = some y->key x<=key y)
  (c2:∀x y,s<m->m<e->d[e-1]? = some x->d[s]? = some y->key x<=key y) :
  (Srt key d' a s/\Srt key d' s mid/\Srt key d' mid e/\Srt key d' e b) /\
  ∀i j x y,a<=i->i<mid->mid<=j->j<b->d'[i]? = some x->d'[j]? = some y->key x<=key y:=by
 have lo:=t.lo;have hi:=t.hi;have out:=t.mv.out;have e1:s+(e-m)=mid:=by omega
 rw[e1] at lo hi;have le1:∀ {i j x y},a<=i->i<=j->j<m->d[i]? = some x->d[j]? = some y->key x<=key y:=by
  intro i j x y q1 q2 q3 hx hy;rcases Nat.lt_or_eq_of_le q2 with q | q
  ·exact h1 i j x y q1 q q3 hx hy
  ·subst q;rw[hx] at hy;injection hy with hy;subst hy;exact Int.le_refl _
 have le2:∀ {i j x y},m<=i->i<=j->j<b->d[i]? = some x->d[j]? = some y->key x<=key y:=by
  intro i j x y q1 q2 q3 hx hy;rcases Nat.lt_or_eq_of_le q2 with q | q
  ·exact h2 i j x y q1 q q3 hx hy
  ·subst q;rw[hx] at hy;injection hy with hy;subst hy;exact Int.le_refl _
 have getm:∀i,i<d.length->∃x,d[i]? = some x:=fun i h=>⟨d[i],q2b h⟩
 refine ⟨⟨?_,?_,?_,?_⟩,?_⟩
 ·intro i j x y q1 q2 q3 hx hy;rw[out i (by omega)] at hx;rw[out j (by omega)] at hy;exact h1 i j x y q1 q2 (by omega) hx hy
 ·intro i j x y q1 q2 q3 hx hy;rw[lo i (by omega) (by omega)] at hx;rw[lo j (by omega) (by omega)] at hy;exact h2 _ _ x y (by omega) (by omega) (by omega) hx hy
 ·intro i j x y q1 q2 q3 hx hy;rw[hi i (by omega) (by omega)] at hx;rw[hi j (by omega) (by omega)] at hy;exact h1 _ _ x y (by omega) (by omega) (by omega) hx hy
 ·intro i j x y q1 q2 q3 hx hy;rw[out i (by omega)] at hx;rw[out j (by omega)] at hy;exact h2 i j x y (by omega) q2 q3 hx hy
 ·intro i j x y q1 q2 q3 q4 hx hy;by_cases r1:i<s
  ·rw[out i (by omega)] at hx;by_cases r2:j<e
   ·rw[hi j (by omega) (by omega)] at hy;exact le1 (by omega) (by omega) (by omega) hx hy
   ·rw[out j (by omega)] at hy;obtain ⟨u,hu⟩:=getm (s-1) (by omega);obtain ⟨v,hv⟩:=getm e (by omega);have:=c1 u v (by omega) (by omega) hu hv;have:=le1 (i:=i) (j:=s-1) (by omega) (by omega) (by omega) hx hu;have:=le2 (i:=e) (j:=j) (by omega) (by omega) (by omega) hv hy;omega
  ·rw[lo i (by omega) (by omega)] at hx;by_cases r2:j<e
   ·rw[hi j (by omega) (by omega)] at hy;obtain ⟨u,hu⟩:=getm (e-1) (by omega);obtain ⟨v,hv⟩:=getm s (by omega);have:=c2 u v (by omega) (by omega) hu hv;have:=le2 (i:=i+(m-s)) (j:=e-1) (by omega) (by omega) (by omega) hx hu;have:=le1 (i:=s) (j:=j-(e-m)) (by omega) (by omega) (by omega) hv hy;omega
   ·rw[out j (by omega)] at hy;exact le2 (by omega) (by omega) (by omega) hx hy
theorem Srt.join {key:α->Int} {d:List α} {a m b:Nat} (h1:Srt key d a m) (h2:Srt key d m b) (h:∀i j x y,a<=i->i<m->m<=j->j<b->d[i]? = some x->d[j]? = some y->key x<=key y):Srt key d a b:=by
 intro i j x y q1 q2 q3 hx hy;by_cases r1:j<m
 ·exact h1 i j x y q1 q2 r1 hx hy
 ·by_cases r2:m<=i
  ·exact h2 i j x y r2 q2 q3 hx hy
  ·exact h i j x y q1 (by omega) (by omega) q3 hx hy
theorem b2x {key:α->Int} {d d':List α} {a m b:Nat} (h:∀i j x y,a<=i->i<m->m<=j->j<b->d[i]? = some x->d[j]? = some y->key x<=key y)
  (t:Mv d d' a m\/Mv d d' m b):∀i j x y,a<=i->i<m->m<=j->j<b->d'[i]? = some x->d'[j]? = some y->key x<=key y:=by
 intro i j x y q1 q2 q3 q4 hx hy;rcases t with t | t
 ·obtain ⟨k,k1,k2,hk⟩:=t.ins i x q1 q2 hx;rw[t.out j (by omega)] at hy;exact h k j x y k1 k2 q3 q4 hk hy
 ·obtain ⟨k,k1,k2,hk⟩:=t.ins j y q3 q4 hy;rw[t.out i (by omega)] at hx;exact h i k x y q1 q2 k1 k2 hx hk
end Go.Plim

namespace Go.Proofs.YteopnkdnglpbfaaGreatDoor
open Go.Flat Go.Plim
set_option linter.unusedVariables false
set_option linter.unusedSimpArgs false
theorem b1k {α:Type} (xs:List α) (i:Nat):at? xs (i:Int)=xs[i]? := by simp[at?]
theorem at_some {α:Type} {xs:List α} {i:Nat} (h:i<xs.length):at? xs (i:Int)=some xs[i]:=by simp[at?,h]
theorem wn {x:Int} {k:Nat} (h:x=k) (hk:k<=4000000000000):wrap .i64 x=(k:Int):=by rw[w64 (by omega) (by omega),h]
theorem c1l (a b:Nat) (h:a+b<=4000000000000):wrap .i64 (shrI .u64 (wrap .u64 (wrap .i64 ((a:Int)+(b:Int)))) 1)=(((a+b) / 2:Nat):Int):=by
 rw[w64 (x:=(a:Int)+b) (by omega) (by omega),wu64 (by omega) (by omega)];have e:shrI .u64 ((a:Int)+(b:Int)) 1=(((a+b) / 2:Nat):Int):=by
  show Int.fdiv ((a:Int)+b) (2^(min 1 64))=_;rw[show ((2:Int)^(min 1 64))=2 from by decide,Int.fdiv_eq_ediv_of_nonneg _ (by decide)];omega
 rw[e,w64 (by omega) (by omega)]
theorem tif_tif {α:Type} (p q:Prop) [Decidable p] [Decidable q] (x y:α):tif (decide p) (tif (decide q) x y) y=if p/\q then x else y:=by
 by_cases hp:p<;>by_cases hq:q<;>simp[hp,hq]
def Cmp (cmp:(a0c×(a0c×Unit))->Option Int) (key:a0c->Int):Prop:=∀x y,∃c,cmp (x,(y,()))=some c/\(c<0↔key x<key y)
section
variable {cmp:(a0c×(a0c×Unit))->Option Int} {key:a0c->Int} (hc:Cmp cmp key)
include hc
theorem ins_l4 (n:Nat) (a b:Int) (an i:Nat) (ha:a=an):∀(k f:Nat) (d:List a0c),k<=i-an->an+k<=i->k<f->i<d.length->d.length<=1000000000000 ->
  (∀p q x y,an<=p->p<q->q<=i->p≠an+k->q≠an+k->d[p]? = some x->d[q]? = some y->key x<=key y) ->
  (∀q x y,an+k<q->q<=i->d[an+k]? = some x->d[q]? = some y->key x<=key y) ->
  ∃d',s0z n f (d,a,b,cmp,(i:Int),((an+k:Nat):Int),())=some (.inl (d',a,b,cmp,(i:Int),()))/\Mv d d' an (i+1)/\Srt key d' an (i+1):=by
 subst ha;intro k;induction k with
 | zero =>
  intro f d hk hi hf hl hL h1 h2;obtain ⟨f,rfl⟩:∃g,f=g+1:=⟨f-1,by omega⟩;rw[w0l];simp only[tfd,q0n (show ¬((an:Int)<((an+0:Nat):Int)) by omega)];refine ⟨d,rfl,.refl _ _ _,fun p q x y q1 q2 q3 hx hy => ?_⟩;by_cases e:p=an+0
  ·subst e;exact h2 q x y q2 (by omega) hx hy
  ·exact h1 p q x y q1 q2 (by omega) e (by omega) hx hy
 | succ k ih =>
  intro f d hk hi hf hl hL h1 h2;obtain ⟨f,rfl⟩:∃g,f=g+1:=⟨f-1,by omega⟩;rw[w0l];have e1:wrap .i64 (((an+(k+1):Nat):Int)-1)=((an+k:Nat):Int):=wn (by omega) (by omega);have lj:an+(k+1)<d.length:=by omega
  have lk:an+k<d.length:=by omega
  obtain ⟨c,hcm,hlt⟩:=hc d[an+(k+1)] d[an+k];have gj:d[an+(k+1)]? = some d[an+(k+1)]:=q2b lj;have gk:d[an+k]? = some d[an+k]:=q2b lk;simp only[tfd,q0z (show ((an:Int)<((an+(k+1):Nat):Int)) by omega),e1,b1k,q2i,gj,gk,obs,hcm];by_cases hlt':c<0
  ·have kl:=hlt.1 hlt';have g1:(d.set (an+(k+1)) d[an+k])[an+k]? = some d[an+k]:=by rw[q3e (by omega)];exact gk
   simp only[q0z hlt',g1,obs];have sg:=p0d (d:=d) gj gk;have mv:=w1g (d:=d) (a:=an) (b:=i+1) gj gk (by omega) (by omega) (by omega) (by omega);obtain ⟨d',r1,r2,r3⟩:=ih f ((d.set (an+(k+1)) d[an+k]).set (an+k) d[an+(k+1)]) (by omega) (by omega) (by omega) (by simpa using hl) (by simpa using hL)
    (fun p q x y q1 q2 q3 p1 p2 hx hy=>by
     rw[sg] at hx hy;rw[q0n p1] at hx;rw[q0n p2] at hy;by_cases ep:p=an+(k+1)
     ·rw[q0z ep] at hx;rw[q0n (by omega)] at hy;have:d[an+k]? = some x:=by rw[gk];exact hx
      exact h1 (an+k) q x y (by omega) (by omega) q3 (by omega) (by omega) this hy
     ·rw[q0n ep] at hx;by_cases eq:q=an+(k+1)
      ·rw[q0z eq] at hy;have:d[an+k]? = some y:=by rw[gk];exact hy
       exact h1 p (an+k) x y q1 (by omega) (by omega) ep (by omega) hx this
      ·rw[q0n eq] at hy
       exact h1 p q x y q1 q2 q3 ep eq hx hy)
    (fun q x y q1 q2 hx hy=>by
     rw[sg] at hx hy;rw[q0z rfl] at hx;injection hx with hx;subst hx;rw[q0n (by omega)] at hy;by_cases eq:q=an+(k+1)
     ·rw[q0z eq] at hy;injection hy with hy;subst hy;omega
     ·rw[q0n eq] at hy
      exact h2 q _ y (by omega) q2 gj hy)
   exact ⟨d',r1,mv.trans r2,r3⟩
  ·simp only[q0n hlt'];refine ⟨d,rfl,.refl _ _ _,fun p q x y q1 q2 q3 hx hy => ?_⟩;have kl:key d[an+k]<=key d[an+(k+1)]:=by
    have:=mt hlt.2 hlt';omega
   by_cases ep:p=an+(k+1)
   ·subst ep;exact h2 q x y q2 (by omega) hx hy
   ·by_cases eq:q=an+(k+1)
    ·subst eq;rw[gj] at hy;injection hy with hy;subst hy;by_cases e3:p=an+k
     ·subst e3;rw[gk] at hx;injection hx with hx;subst hx;exact kl
     ·have:=h1 p (an+k) x _ q1 (by omega) (by omega) ep (by omega) hx gk;omega
    ·exact h1 p q x y q1 q2 (by omega) ep eq hx hy
theorem ins_l1 (n:Nat) (a b:Int) (an bn:Nat) (ha:a=an) (hb:b=bn):∀(k f:Nat) (i:Nat) (d:List a0c),bn-i<=k->k<f->an<i->(i<=bn\/bn<=an+1)->bn<=d.length->d.length<=1000000000000->Srt key d an i ->
  ∃d',t0a n f (d,a,b,cmp,(i:Int),())=some (.inl (d',()))/\Mv d d' an bn/\Srt key d' an bn:=by
 intro k;induction k with
 | zero =>
  intro f i d hk hf hi hib hl hL hs;obtain ⟨f,rfl⟩:∃g,f=g+1:=⟨f-1,by omega⟩;rw[w0m];subst ha hb;simp only[tfd,q0n (show ¬((i:Int)<(bn:Int)) by omega)];exact ⟨d,rfl,.refl _ _ _,hs.mono (by omega) (by omega)⟩
 | succ k ih =>
  intro f i d hk hf hi hib hl hL hs;obtain ⟨f,rfl⟩:∃g,f=g+1:=⟨f-1,by omega⟩;rw[w0m];by_cases hlt:i<bn
  ·obtain ⟨d',r1,r2,r3⟩:=ins_l4 hc n a b an i ha (i-an) a0b d (by omega) (by omega) (by unfold a0b;omega) (by omega) hL
    (fun p q x y q1 q2 q3 p1 p2 hx hy=>hs p q x y q1 q2 (by omega) hx hy) (fun q x y q1 q2=>by omega)
   rw[show an+(i-an)=i by omega] at r1;subst ha hb;simp only[tfd,q0z (show ((i:Int)<(bn:Int)) by omega),r1,obs,a0t];rw[wn (k:=i+1) (by omega) (by omega)];have ml:=r2.len;obtain ⟨d'',s1,s2,s3⟩:=ih f (i+1) d' (by omega) (by omega) (by omega) (by omega) (by omega) (by omega) r3;exact ⟨d'',s1,(r2.mono (by omega) (by omega)).trans s2,s3⟩
  ·subst ha hb;simp only[tfd,q0n (show ¬((i:Int)<(bn:Int)) by omega)];exact ⟨d,rfl,.refl _ _ _,hs.mono (by omega) (by omega)⟩
theorem ins_ok (n:Nat) (a b:Int) (an bn:Nat) (ha:a=an) (hb:b=bn) (d:List a0c) (hab:an<=bn) (hl:bn<=d.length) (hL:d.length<=1000000000000) :
  ∃d',m1o (n+1) d a b cmp=some d'/\Mv d d' an bn/\Srt key d' an bn:=by
 rw[d2k];have e:wrap .i64 (a+1)=((an+1:Nat):Int):=wn (by omega) (by omega);rw[e];obtain ⟨d',r1,r2,r3⟩:=ins_l1 hc n a b an bn ha hb bn a0b (an+1) d (by omega) (by unfold a0b;omega) (by omega) (by omega) hl hL (Srt.one _ _ (by omega));rw[r1];exact ⟨d',by simp,r2,r3⟩
omit hc in
theorem r1e (n:Nat) (a b m:Int) (P:List a0c):∀(k f i:Nat) (X X' M Y Y' S:List a0c),X'.length=k->Y'.length=k->X.length=i->Y.length=i->k<f ->
  a=P.length->b=P.length+X.length+X'.length+M.length->m=i+k->b+m<=2000000000000 ->
  s0x n f (P++(Y++(X'++(M++(X++(Y'++S))))),a,b,m,(i:Int),())=some (.inl (P++(Y++(Y'++(M++(X++(X'++S))))),())):=by
 intro k;induction k with
 | zero =>
  intro f i X X' M Y Y' S h1 h2 h3 h4 hf ha hb hm hs;obtain ⟨f,rfl⟩:∃g,f=g+1:=⟨f-1,by omega⟩;obtain rfl:=List.length_eq_zero_iff.1 h1;obtain rfl:=List.length_eq_zero_iff.1 h2;rw[w0h];simp only[tfd,q0n (show ¬((i:Int)<m) by omega)]
 | succ k ih =>
  intro f i X X' M Y Y' S h1 h2 h3 h4 hf ha hb hm hs;obtain ⟨f,rfl⟩:∃g,f=g+1:=⟨f-1,by omega⟩
  match X',Y' with
  | x::X',y::Y' =>
   simp only[q2k] at h1 h2 hb;rw[w0h];have ea:wrap .i64 (a+(i:Int))=((P.length+i:Nat):Int):=wn (by omega) (by omega);have eb:wrap .i64 (b+(i:Int))=((P.length+i+(k+1)+M.length+i:Nat):Int):=wn (by omega) (by omega);have g1:(P++(Y++(x::X'++(M++(X++(y::Y'++S))))))[P.length+i]? = some x:=by
    rw[q2h (by omega),q2h (by omega)];rw[show P.length+i-P.length-Y.length=0 by omega];rfl
   have g2:(P++(Y++(x::X'++(M++(X++(y::Y'++S))))))[P.length+i+(k+1)+M.length+i]? = some y:=by
    rw[q2h (by omega),q2h (by omega),q2h (by simp;omega),q2h (by simp;omega),q2h (by simp;omega)];simp only[q2k];rw[show P.length+i+(k+1)+M.length+i-P.length-Y.length-(X'.length+1)-M.length-X.length=0 by omega];rfl
   have s1:(P++(Y++(x::X'++(M++(X++(y::Y'++S)))))).set (P.length+i) y=P++(Y++(y::X'++(M++(X++(y::Y'++S))))):=by
    rw[q3o _ _ (by omega),q3o _ _ (by omega),show P.length+i-P.length-Y.length=0 by omega];rfl
   have s2:(P++(Y++(y::X'++(M++(X++(y::Y'++S)))))).set (P.length+i+(k+1)+M.length+i) x=P++(Y++(y::X'++(M++(X++(x::Y'++S))))):=by
    rw[q3o _ _ (by omega),q3o _ _ (by omega),q3o _ _ (by simp;omega),q3o _ _ (by simp;omega),q3o _ _ (by simp;omega)];simp only[q2k];rw[show P.length+i+(k+1)+M.length+i-P.length-Y.length-(X'.length+1)-M.length-X.length=0 by omega];rfl
   have g3:(P++(Y++(y::X'++(M++(X++(y::Y'++S))))))[P.length+i+(k+1)+M.length+i]? = some y:=by
    rw[q2h (by omega),q2h (by omega),q2h (by simp;omega),q2h (by simp;omega),q2h (by simp;omega)];simp only[q2k];rw[show P.length+i+(k+1)+M.length+i-P.length-Y.length-(X'.length+1)-M.length-X.length=0 by omega];rfl
   simp only[tfd,q0z (show ((i:Int)<m) by omega),ea,eb,b1k,q2i,g1,g2,s1,g3,s2,obs];have e6:wrap .i64 ((i:Int)+1)=((i+1:Nat):Int):=wn (by omega) (by omega);rw[e6];have:=ih f (i+1) (X++[x]) X' M (Y++[y]) Y' S (by omega) (by omega) (by simp;omega) (by simp;omega) (by omega) ha (by simp;omega) (by omega) hs;simp only[q2g,List.singleton_append,List.cons_append] at this ⊢;exact this
omit hc in
theorem r0a (n:Nat) (a b m:Int) (P X M Y S:List a0c) (h:X.length=Y.length) (ha:a=P.length) (hb:b=P.length+X.length+M.length) (hm:m=X.length) (hs:b+m<=2000000000000) (d:List a0c) (hd:d=P++(X++(M++(Y++S)))) :
  d1f (n+1) d a b m cmp=some (P++(Y++(M++(X++S)))):=by
 subst hd;rw[d2h];have:=r1e n a b m P X.length a0b 0 [] X M [] Y S rfl h.symm rfl rfl (by unfold a0b;omega) ha (by simp;omega) (by omega) hs;simp only[List.nil_append] at this;rw[show (0:Int)=((0:Nat):Int) from rfl,this];simp
omit hc in
theorem h2p (n:Nat) (m:Int):∀(k f:Nat) (P U V S d:List a0c) (i j:Int),U.length+V.length<=k->k<f->U≠[]->V≠[]->i=U.length->j=V.length->m=P.length+U.length->m+j<=1000000000000->d=P++(U++(V++S)) ->
  ∃P' U' V' S' d',n0u (n+1) f (d,m,cmp,i,j,())=some (.inl (d',m,cmp,(U'.length:Int),()))/\U'.length=V'.length/\m=P'.length+U'.length/\d'=P'++(U'++(V'++S'))/\P'++(V'++(U'++S'))=P++(V++(U++S)):=by
 intro k;induction k with
 | zero =>
  intro f P U V S d i j hk hf hu hv;exact absurd (List.length_eq_zero_iff.1 (show U.length=0 by omega)) hu
 | succ k ih =>
  intro f P U V S d i j hk hf hu hv hi hj hm hmj hd;obtain ⟨f,rfl⟩:∃g,f=g+1:=⟨f-1,by omega⟩;have lu:=List.length_pos_iff.2 hu;have lv:=List.length_pos_iff.2 hv;rw[m1n];by_cases e:i=j
  ·simp only[tfn,tfd,q0z e];exact ⟨P,U,V,S,d,by rw[hi],by omega,hm,hd,rfl⟩
  ·by_cases lt:j<i
   ·-- the front of U with V
    have hU:U=U.take V.length++U.drop V.length:=(q3b _ _).symm;have l1:(U.take V.length).length=V.length:=by simp;omega
    have l2:(U.drop V.length).length=U.length-V.length:=by simp
    have hs:=r0a (cmp:=cmp) n (P.length:Int) m j P (U.take V.length) (U.drop V.length) V S l1 rfl (by omega) (by omega) (by omega) d (by rw[hd,<-q2g (U.take V.length),<-hU]);have e1:wrap .i64 (m-i)=(P.length:Int):=wn (by omega) (by omega);have e2:wrap .i64 (i-j)=((U.drop V.length).length:Int):=wn (by omega) (by omega);simp only[tfn,tfd,q0n e,q0z lt,e1,e2,hs,obs]
    obtain ⟨P',U',V',S',d',r1,r2,r3,r4,r5⟩:=ih f (P++V) (U.drop V.length) (U.take V.length) S (P++(V++(U.drop V.length++(U.take V.length++S)))) ((U.drop V.length).length:Int) j (by omega) (by omega)
     (by intro h;rw[h] at l2;simp at l2;omega) (by intro h;rw[h] at l1;simp at l1;omega) rfl (by omega) (by simp;omega) hmj (by simp only[q2g])
    exact ⟨P',U',V',S',d',r1,r2,r3,r4,by rw[r5];rw[q2g,<-q2g (U.take V.length),<-hU]⟩
   ·have hV:V=V.take (V.length-U.length)++V.drop (V.length-U.length):=(q3b _ _).symm;have l1:(V.take (V.length-U.length)).length=V.length-U.length:=by simp
    have l2:(V.drop (V.length-U.length)).length=U.length:=by simp;omega
    have hs:=r0a (cmp:=cmp) n (P.length:Int) (m+j-i) i P U (V.take (V.length-U.length)) (V.drop (V.length-U.length)) S l2.symm rfl (by omega) (by omega) (by omega) d (by rw[hd,<-q2g (V.take _) (V.drop _) S,<-hV]);have e1:wrap .i64 (m-i)=(P.length:Int):=wn (by omega) (by omega);have e2:wrap .i64 (j-i)=((V.take (V.length-U.length)).length:Int):=wn (by omega) (by omega);have e3:wrap .i64 (wrap .i64 (m+j)-i)=m+j-i:=by rw[w64 (x:=m+j) (by omega) (by omega),w64 (by omega) (by omega)]
    simp only[tfn,tfd,q0n e,q0n lt,e1,e2,e3,hs,obs];obtain ⟨P',U',V',S',d',r1,r2,r3,r4,r5⟩:=ih f P (V.drop (V.length-U.length)) (V.take (V.length-U.length)) (U++S) _ i ((V.take (V.length-U.length)).length:Int) (by omega) (by omega)
     (by intro h;rw[h] at l2;simp at l2;omega) (by intro h;rw[h] at l1;simp at l1;omega) (by omega) rfl (by omega) (by omega) rfl
    exact ⟨P',U',V',S',d',r1,r2,r3,r4,by rw[r5];rw[<-q2g (V.take _) (V.drop _),<-hV]⟩
omit hc in
theorem h2o (n:Nat) (a m b:Int) (an mn bn:Nat) (ha:a=an) (hm:m=mn) (hb:b=bn) (d:List a0c) (h1:an<mn) (h2:mn<bn) (hl:bn<=d.length) (hL:d.length<=1000000000000) :
  ∃d',d1g (n+2) d a m b cmp=some d'/\Turned d d' an mn bn:=by
 obtain ⟨P,U,V,S,hd,la,lm,lb⟩:=cut4 d (a:=an) (m:=mn) (b:=bn) (by omega) (by omega) hl;rw[d2j];have e1:wrap .i64 (m-a)=(U.length:Int):=wn (by omega) (by omega);have e2:wrap .i64 (b-m)=(V.length:Int):=wn (by omega) (by omega);have hfl:U.length+V.length<a0b:=by
  have:d.length=P.length+(U.length+(V.length+S.length)):=by rw[hd];simp
  unfold a0b;omega
 have hu:U≠[]:=by intro h;rw[h] at lm;simp at lm;omega
 have hv:V≠[]:=by intro h;rw[h] at lb;simp at lb;omega
 obtain ⟨P',U',V',S',d',r1,r2,r3,r4,r5⟩:=h2p (cmp:=cmp) n m (U.length+V.length) a0b P U V S d (U.length:Int) (V.length:Int) (by omega) hfl hu hv rfl rfl (by omega) (by omega) hd;have ld:d'.length=d.length:=by
  have:=congrArg List.length r5;rw[r4,hd];simp at this ⊢;omega
 have hs:=r0a (cmp:=cmp) n (P'.length:Int) m (U'.length:Int) P' U' [] V' S' r2 rfl (by simp;omega) rfl (by rw[r4] at ld;simp at ld;omega) d' (by rw[r4];simp);simp only[e1,e2,r1,obs,a0t,wn (x:=m-(U'.length:Int)) (k:=P'.length) (by omega) (by rw[r4] at ld;simp at ld;omega),hs];simp only[List.nil_append];exact ⟨_,rfl,q1v (P:=P) (U:=U) (V:=V) (S:=S) hd r5 la lm lb⟩
theorem sym_l3 (n:Nat) (a:Int) (an:Nat) (ha:a=an) (d:List a0c) (x:a0c) (hx:d[an]? = some x) (hL:d.length<=1000000000000) (lo hi:Nat) (hs:Srt key d lo hi) (hh:hi<=d.length):∀(k f i j:Nat),j-i<=k->k<f->i<=j->lo<=i->j<=hi ->
  (∀p y,lo<=p->p<i->d[p]? = some y->key y<key x)->(∀p y,j<=p->p<hi->d[p]? = some y->key x<=key y) ->
  ∃r:Nat,n0s n f (d,a,cmp,(i:Int),(j:Int),())=some (.inl (d,a,(r:Int),()))/\lo<=r/\r<=hi /\
   (∀p y,lo<=p->p<r->d[p]? = some y->key y<key x)/\(∀p y,r<=p->p<hi->d[p]? = some y->key x<=key y):=by
 subst ha;intro k;induction k with
 | zero =>
  intro f i j hk hf hij hi hj h1 h2;obtain ⟨f,rfl⟩:∃g,f=g+1:=⟨f-1,by omega⟩;rw[w0g];simp only[tfd,q0n (show ¬((i:Int)<(j:Int)) by omega)];have e:i=j:=by omega
  subst e;exact ⟨i,rfl,by omega,by omega,h1,h2⟩
 | succ k ih =>
  intro f i j hk hf hij hi hj h1 h2;obtain ⟨f,rfl⟩:∃g,f=g+1:=⟨f-1,by omega⟩;rw[w0g];by_cases lt:i<j
  ·have e1:=c1l i j (by omega);have lh:(i+j) / 2<d.length:=by omega
   obtain ⟨c,hcm,hlt⟩:=hc d[(i+j) / 2] x;have gh:d[(i+j) / 2]? = some d[(i+j) / 2]:=q2b lh;simp only[tfd,q0z (show ((i:Int)<(j:Int)) by omega),e1,b1k,q2i,gh,hx,obs,hcm];by_cases hlt':c<0
   ·have kl:=hlt.1 hlt';simp only[q0z hlt'];rw[wn (x:=(((i+j) / 2:Nat):Int)+1) (k:=(i+j) / 2+1) (by omega) (by omega)];refine ih f ((i+j) / 2+1) j (by omega) (by omega) (by omega) (by omega) hj (fun p y p1 p2 hy => ?_) h2;by_cases ep:p=(i+j) / 2
    ·subst ep;rw[gh] at hy;injection hy with hy;subst hy;exact kl
    ·have:=hs p ((i+j) / 2) y _ p1 (by omega) (by omega) hy gh;omega
   ·have kl:key x<=key d[(i+j) / 2]:=by have:=mt hlt.2 hlt';omega
    simp only[q0n hlt'];refine ih f i ((i+j) / 2) (by omega) (by omega) (by omega) hi (by omega) h1 (fun p y p1 p2 hy => ?_);by_cases ep:p=(i+j) / 2
    ·subst ep;rw[gh] at hy;injection hy with hy;subst hy;exact kl
    ·have:=hs ((i+j) / 2) p _ y (by omega) (by omega) (by omega) gh hy;omega
  ·simp only[tfd,q0n (show ¬((i:Int)<(j:Int)) by omega)];have e:i=j:=by omega
   subst e;exact ⟨i,rfl,by omega,by omega,h1,h2⟩
theorem sym_l15 (n:Nat) (m:Int) (mn:Nat) (hm:m=mn) (d:List a0c) (x:a0c) (hx:d[mn]? = some x) (hL:d.length<=1000000000000) (lo hi:Nat) (hs:Srt key d lo hi) (hh:hi<=d.length):∀(k f i j:Nat),j-i<=k->k<f->i<=j->lo<=i->j<=hi ->
  (∀p y,lo<=p->p<i->d[p]? = some y->key y<=key x)->(∀p y,j<=p->p<hi->d[p]? = some y->key x<key y) ->
  ∃r:Nat,l0k n f (d,m,cmp,(i:Int),(j:Int),())=some (.inl (d,m,(r:Int),()))/\lo<=r/\r<=hi /\
   (∀p y,lo<=p->p<r->d[p]? = some y->key y<=key x)/\(∀p y,r<=p->p<hi->d[p]? = some y->key x<key y):=by
 subst hm;intro k;induction k with
 | zero =>
  intro f i j hk hf hij hi hj h1 h2;obtain ⟨f,rfl⟩:∃g,f=g+1:=⟨f-1,by omega⟩;rw[t0y];simp only[tfd,q0n (show ¬((i:Int)<(j:Int)) by omega)];have e:i=j:=by omega
  subst e;exact ⟨i,rfl,by omega,by omega,h1,h2⟩
 | succ k ih =>
  intro f i j hk hf hij hi hj h1 h2;obtain ⟨f,rfl⟩:∃g,f=g+1:=⟨f-1,by omega⟩;rw[t0y];by_cases lt:i<j
  ·have e1:=c1l i j (by omega);have lh:(i+j) / 2<d.length:=by omega
   obtain ⟨c,hcm,hlt⟩:=hc x d[(i+j) / 2];have gh:d[(i+j) / 2]? = some d[(i+j) / 2]:=q2b lh;simp only[tfn,tfd,q0z (show ((i:Int)<(j:Int)) by omega),e1,b1k,q2i,gh,hx,obs,hcm];by_cases hlt':c<0
   ·have kl:=hlt.1 hlt';simp only[q0z hlt'];refine ih f i ((i+j) / 2) (by omega) (by omega) (by omega) hi (by omega) h1 (fun p y p1 p2 hy => ?_);by_cases ep:p=(i+j) / 2
    ·subst ep;rw[gh] at hy;injection hy with hy;subst hy;exact kl
    ·have:=hs ((i+j) / 2) p _ y (by omega) (by omega) (by omega) gh hy;omega
   ·have kl:key d[(i+j) / 2]<=key x:=by have:=mt hlt.2 hlt';omega
    simp only[q0n hlt'];rw[wn (x:=(((i+j) / 2:Nat):Int)+1) (k:=(i+j) / 2+1) (by omega) (by omega)];refine ih f ((i+j) / 2+1) j (by omega) (by omega) (by omega) (by omega) hj (fun p y p1 p2 hy => ?_) h2;by_cases ep:p=(i+j) / 2
    ·subst ep;rw[gh] at hy;injection hy with hy;subst hy;exact kl
    ·have:=hs p ((i+j) / 2) y _ p1 (by omega) (by omega) hy gh;omega
  ·simp only[tfd,q0n (show ¬((i:Int)<(j:Int)) by omega)];have e:i=j:=by omega
   subst e;exact ⟨i,rfl,by omega,by omega,h1,h2⟩
end
def Exc (key:a0c->Int) (d:List a0c) (a b k:Nat):Prop:=∀p q x y,a<=p->p<q->q<b->p≠k->q≠k->d[p]? = some x->d[q]? = some y->key x<=key y
def Place (key:a0c->Int) (d:List a0c) (a b k i:Nat) (x:a0c):Prop :=
 (∀p z,a<=p->p<i->p≠k->d[p]? = some z->key z<=key x)/\(∀p z,i<=p->p<b->p≠k->d[p]? = some z->key x<=key z)
theorem b2s {key:a0c->Int} {d:List a0c} {a b k j:Nat} {x y:a0c} (hj:j=k+1\/k=j+1) (ja:a<=j) (jb:j<b) (hx:d[k]? = some x) (hy:d[j]? = some y) (h:Exc key d a b k):Exc key ((d.set k y).set j x) a b j:=by
 intro p q u v q1 q2 q3 p1 p2 hu hv;rw[p0d hx hy,q0n p1] at hu;rw[p0d hx hy,q0n p2] at hv;by_cases ep:p=k
 ·rw[q0z ep] at hu;rw[q0n (by omega)] at hv;injection hu with hu;subst hu;exact h j q y v (by omega) (by omega) q3 (by omega) (by omega) hy hv
 ·rw[q0n ep] at hu;by_cases eq:q=k
  ·rw[q0z eq] at hv;injection hv with hv;subst hv;exact h p j u y q1 (by omega) (by omega) (by omega) (by omega) hu hy
  ·rw[q0n eq] at hv;exact h p q u v q1 q2 q3 ep eq hu hv
theorem k2q {key:a0c->Int} {d:List a0c} {a b k i:Nat} {x:a0c} (h:Exc key d a b k) (hp:Place key d a b k i x) (hx:d[k]? = some x) (hk:k=i\/k+1=i):Srt key d a b:=by
 intro p q u v q1 q2 q3 hu hv;by_cases ep:p=k
 ·subst ep;rw[hx] at hu;injection hu with hu;subst hu;exact hp.2 q v (by omega) q3 (by omega) hv
 ·by_cases eq:q=k
  ·subst eq;rw[hx] at hv;injection hv with hv;subst hv;exact hp.1 p u q1 (by omega) ep hu
  ·exact h p q u v q1 q2 q3 ep eq hu hv
theorem sym_l9 {key:a0c->Int} (n:Nat) (a b i:Nat) (x:a0c):∀(c f k:Nat) (d:List a0c),k+c+1=i->c<f->a<=k->i<=b->b<=d.length->d.length<=1000000000000->d[k]? = some x->Exc key d a b k->Place key d a b k i x ->
  ∃d',s0w n f (d,(i:Int),(k:Int),())=some (.inl (d',()))/\Mv d d' a b/\Srt key d' a b:=by
 intro c;induction c with
 | zero =>
  intro f k d hk hf ha hi hb hL hx h1 h2;obtain ⟨f,rfl⟩:∃g,f=g+1:=⟨f-1,by omega⟩;rw[w0f];rw[wn (x:=(i:Int)-1) (k:=k) (by omega) (by omega)];simp only[tfd,q0n (show ¬((k:Int)<(k:Int)) by omega)];exact ⟨d,rfl,.refl _ _ _,k2q h1 h2 hx (by omega)⟩
 | succ c ih =>
  intro f k d hk hf ha hi hb hL hx h1 h2;obtain ⟨f,rfl⟩:∃g,f=g+1:=⟨f-1,by omega⟩;rw[w0f];have lk:k+1<d.length:=by omega
  have gy:d[k+1]? = some d[k+1]:=q2b lk;have g1:(d.set k d[k+1])[k+1]? = some d[k+1]:=by rw[q3e (by omega)];exact gy
  rw[wn (x:=(i:Int)-1) (k:=i-1) (by omega) (by omega),wn (x:=(k:Int)+1) (k:=k+1) (by omega) (by omega)];simp only[tfd,q0z (show ((k:Int)<((i-1:Nat):Int)) by omega),b1k,q2i,gy,hx,g1,obs];have sg:=p0d hx gy;have mv:=w1g (a:=a) (b:=b) hx gy (by omega) (by omega) (by omega) (by omega);obtain ⟨d',r1,r2,r3⟩:=ih f (k+1) ((d.set k d[k+1]).set (k+1) x) (by omega) (by omega) (by omega) hi (by simpa using hb) (by simpa using hL)
   (by rw[sg,q0z rfl]) (b2s (.inl rfl) (by omega) (by omega) hx gy h1)
   ⟨fun p z p1 p2 p3 hz=>by
    rw[sg,q0n p3] at hz;by_cases e:p=k
    ·rw[q0z e] at hz;injection hz with hz;subst hz;exact h2.1 (k+1) _ (by omega) (by omega) (by omega) gy
    ·rw[q0n e] at hz;exact h2.1 p z p1 p2 e hz,
    fun p z p1 p2 p3 hz=>by
     rw[sg,q0n p3,q0n (by omega)] at hz
     exact h2.2 p z p1 p2 (by omega) hz⟩
  exact ⟨d',r1,mv.trans r2,r3⟩
theorem sym_l21 {key:a0c->Int} (n:Nat) (a b i:Nat) (x:a0c):∀(c f k:Nat) (d:List a0c),i+c=k->c<f->a<=i->k<b->b<=d.length->d.length<=1000000000000->d[k]? = some x->Exc key d a b k->Place key d a b k i x ->
  ∃d',p0h n f (d,(i:Int),(k:Int),())=some (.inl (d',()))/\Mv d d' a b/\Srt key d' a b:=by
 intro c;induction c with
 | zero =>
  intro f k d hk hf ha hi hb hL hx h1 h2;obtain ⟨f,rfl⟩:∃g,f=g+1:=⟨f-1,by omega⟩;rw[t0x];simp only[tfd,q0n (show ¬((i:Int)<(k:Int)) by omega)];exact ⟨d,rfl,.refl _ _ _,k2q h1 h2 hx (by omega)⟩
 | succ c ih =>
  intro f k d hk hf ha hi hb hL hx h1 h2;obtain ⟨f,rfl⟩:∃g,f=g+1:=⟨f-1,by omega⟩;obtain ⟨k,rfl⟩:∃g,k=g+1:=⟨k-1,by omega⟩;rw[t0x];have lk:k<d.length:=by omega
  have gy:d[k]? = some d[k]:=q2b lk;have g1:(d.set (k+1) d[k])[k]? = some d[k]:=by rw[q3e (by omega)];exact gy
  rw[wn (x:=((k+1:Nat):Int)-1) (k:=k) (by omega) (by omega)];simp only[tfd,q0z (show ((i:Int)<((k+1:Nat):Int)) by omega),b1k,q2i,gy,hx,g1,obs];have sg:=p0d hx gy;have mv:=w1g (a:=a) (b:=b) hx gy (by omega) (by omega) (by omega) (by omega);obtain ⟨d',r1,r2,r3⟩:=ih f k ((d.set (k+1) d[k]).set k x) (by omega) (by omega) (by omega) (by omega) (by simpa using hb) (by simpa using hL)
   (by rw[sg,q0z rfl]) (b2s (.inr rfl) (by omega) (by omega) hx gy h1)
   ⟨fun p z p1 p2 p3 hz=>by
    rw[sg,q0n p3,q0n (by omega)] at hz;exact h2.1 p z p1 p2 (by omega) hz,
    fun p z p1 p2 p3 hz=>by
     rw[sg,q0n p3] at hz;by_cases e:p=k+1
     ·rw[q0z e] at hz;injection hz with hz;subst hz;exact h2.2 k _ (by omega) (by omega) (by omega) gy
     ·rw[q0n e] at hz;exact h2.2 p z p1 p2 e hz⟩
  exact ⟨d',r1,mv.trans r2,r3⟩
section
variable {cmp:(a0c×(a0c×Unit))->Option Int} {key:a0c->Int} (hc:Cmp cmp key)
include hc
theorem g2t (n:Nat) (a b mid n_:Int) (m p:Int) (mn bn pn:Nat) (an:Nat) (hp:p=pn) (d:List a0c) (hL:d.length<=1000000000000) (h1:Srt key d an mn) (h2:Srt key d mn bn) (hb:bn<=d.length) (lo hi:Nat)
  (hlo:an<=lo) (hhi:hi<=mn) (hq:∀c,lo<=c->c<hi->c<=pn/\mn<=pn-c/\pn-c<bn):∀(k f i j:Nat),j-i<=k->k<f->i<=j->lo<=i->j<=hi ->
  (∀c x y,lo<=c->c<i->d[c]? = some x->d[pn-c]? = some y->key x<=key y)->(∀c x y,j<=c->c<hi->d[c]? = some x->d[pn-c]? = some y->key y<key x) ->
  ∃r:Nat,i0l n f (d,a,m,b,cmp,mid,n_,(i:Int),(j:Int),p,())=some (.inl (d,a,m,b,cmp,mid,n_,(r:Int),()))/\lo<=r/\r<=hi /\
   (∀c x y,lo<=c->c<r->d[c]? = some x->d[pn-c]? = some y->key x<=key y)/\(∀c x y,r<=c->c<hi->d[c]? = some x->d[pn-c]? = some y->key y<key x):=by
 subst hp;have le1:∀ {i j x y},an<=i->i<=j->j<mn->d[i]? = some x->d[j]? = some y->key x<=key y:=by
  intro i j x y q1 q2 q3 hx hy;rcases Nat.lt_or_eq_of_le q2 with q | q
  ·exact h1 i j x y q1 q q3 hx hy
  ·subst q;rw[hx] at hy;injection hy with hy;subst hy;exact Int.le_refl _
 have le2:∀ {i j x y},mn<=i->i<=j->j<bn->d[i]? = some x->d[j]? = some y->key x<=key y:=by
  intro i j x y q1 q2 q3 hx hy;rcases Nat.lt_or_eq_of_le q2 with q | q
  ·exact h2 i j x y q1 q q3 hx hy
  ·subst q;rw[hx] at hy;injection hy with hy;subst hy;exact Int.le_refl _
 intro k;induction k with
 | zero =>
  intro f i j hk hf hij hi' hj g1 g2;obtain ⟨f,rfl⟩:∃g,f=g+1:=⟨f-1,by omega⟩;rw[t0w];simp only[tfd,q0n (show ¬((i:Int)<(j:Int)) by omega)];have e:i=j:=by omega
  subst e;exact ⟨i,rfl,hi',hj,g1,g2⟩
 | succ k ih =>
  intro f i j hk hf hij hi' hj g1 g2;obtain ⟨f,rfl⟩:∃g,f=g+1:=⟨f-1,by omega⟩;rw[t0w];by_cases lt:i<j
  ·generalize hcc:(i+j) / 2=c;have hq':=hq c (by omega) (by omega);have e1:=c1l i j (by omega);rw[hcc] at e1;have e2:wrap .i64 ((pn:Int)-(c:Int))=((pn-c:Nat):Int):=wn (by omega) (by omega);obtain ⟨v,hcm,hlt⟩:=hc d[pn-c] d[c];have gc:d[c]? = some d[c]:=q2b (by omega);have gp:d[pn-c]? = some d[pn-c]:=q2b (by omega);simp only[tfn,tfd,q0z (show ((i:Int)<(j:Int)) by omega),e1,e2,b1k,q2i,gc,gp,obs,hcm];by_cases hlt':v<0
   ·have kl:=hlt.1 hlt';simp only[q0z hlt'];refine ih f i c (by omega) (by omega) (by omega) hi' (by omega) g1 (fun q x y p1 p2 hx hy => ?_);have hq2:=hq q (by omega) (by omega);have:=le1 (i:=c) (j:=q) (by omega) p1 (by omega) gc hx;have:=le2 (i:=pn-q) (j:=pn-c) (by omega) (by omega) (by omega) hy gp;omega
   ·have kl:key d[c]<=key d[pn-c]:=by have:=mt hlt.2 hlt';omega
    simp only[q0n hlt'];rw[wn (x:=(c:Int)+1) (k:=c+1) (by omega) (by omega)];refine ih f (c+1) j (by omega) (by omega) (by omega) (by omega) hj (fun q x y p1 p2 hx hy => ?_) g2;have hq2:=hq q (by omega) (by omega);have:=le1 (i:=q) (j:=c) (by omega) (by omega) (by omega) hx gc;have:=le2 (i:=pn-c) (j:=pn-q) (by omega) (by omega) (by omega) gp hy;omega
  ·simp only[tfd,q0n (show ¬((i:Int)<(j:Int)) by omega)];have e:i=j:=by omega
   subst e;exact ⟨i,rfl,hi',hj,g1,g2⟩
theorem d1c:∀(dd n:Nat) (a m b:Int) (an mn bn:Nat) (d:List a0c),a=an->m=mn->b=bn->an<mn->mn<bn->bn<=d.length->d.length<=1000000000000->bn-an<=2^dd->Srt key d an mn->Srt key d mn bn ->
  ∃d',b0z (n+dd+2) d a m b cmp=some d'/\Mv d d' an bn/\Srt key d' an bn:=by
 intro dd;induction dd with
 | zero=>intro n a m b an mn bn d ha hm hb h1 h2 hl hL hd;simp at hd;omega
 | succ dd ih =>
  intro n a m b an mn bn d ha hm hb h1 h2 hl hL hd s1 s2;subst ha hm hb;rw[show n+(dd+1)+2=(n+dd+2)+1 by omega,d2g];rw[wn (x:=(mn:Int)-an) (k:=mn-an) (by omega) (by omega),wn (x:=(bn:Int)-mn) (k:=bn-mn) (by omega) (by omega)];simp only[tif_tif];simp only[tfd];have gm:d[mn]? = some d[mn]:=q2b (by omega);have ga:d[an]? = some d[an]:=q2b (by omega);by_cases c1:((mn-an:Nat):Int)=1
  ·rw[q0z c1];have e:mn=an+1:=by omega
   obtain ⟨r,r1,r2,r3,r4,r5⟩:=sym_l3 hc (n+dd+2) (an:Int) an rfl d d[an] ga hL mn bn s2 hl (bn-mn) a0b mn bn (by omega) (by unfold a0b;omega) (by omega) (by omega) (by omega) (fun p y p1 p2=>by omega) (fun p y p1 p2=>by omega);rw[r1];simp only[obs,a0t];obtain ⟨d',t1,t2,t3⟩:=sym_l9 (key:=key) (n+dd+2) an bn r d[an] (r-an-1) a0b an d (by omega) (by unfold a0b;omega) (by omega) r3 hl hL ga
    (fun p q x y p1 p2 p3 p4 p5 hx hy=>s2 p q x y (by omega) p2 p3 hx hy)
    ⟨fun p z p1 p2 p3 hz=>Int.le_of_lt (r4 p z (by omega) p2 hz),fun p z p1 p2 p3 hz=>r5 p z p1 p2 hz⟩
   rw[t1];exact ⟨d',by simp,t2,t3⟩
  rw[q0n c1];by_cases c2:((bn-mn:Nat):Int)=1
  ·rw[q0z c2];obtain ⟨r,r1,r2,r3,r4,r5⟩:=sym_l15 hc (n+dd+2) (mn:Int) mn rfl d d[mn] gm hL an mn s1 (by omega) (mn-an) a0b an mn (by omega) (by unfold a0b;omega) (by omega) (by omega) (by omega) (fun p y p1 p2=>by omega) (fun p y p1 p2=>by omega);rw[r1];simp only[obs,a0t];obtain ⟨d',t1,t2,t3⟩:=sym_l21 (key:=key) (n+dd+2) an bn r d[mn] (mn-r) a0b mn d (by omega) (by unfold a0b;omega) (by omega) (by omega) hl hL gm
    (fun p q x y p1 p2 p3 p4 p5 hx hy=>s1 p q x y (by omega) p2 (by omega) hx hy)
    ⟨fun p z p1 p2 p3 hz=>r4 p z p1 p2 hz,fun p z p1 p2 p3 hz=>Int.le_of_lt (r5 p z p1 (by omega) hz)⟩
   rw[t1];exact ⟨d',by simp,t2,t3⟩
  rw[q0n c2,c1l an bn (by omega)];generalize hmid:(an+bn) / 2=mid;have hpow:2^(dd+1)=2^dd*2:=Nat.pow_succ 2 dd;generalize 2^dd=P at *
  rw[wn (x:=(mid:Int)+mn) (k:=mid+mn) (by omega) (by omega)];have fin:∀s:Nat,an<=s->s<=mn->mn<=mid+mn-s->mid+mn-s<=bn->s<=mid ->
    (∀x y,an<s->mid+mn-s<bn->d[s-1]? = some x->d[mid+mn-s]? = some y->key x<=key y) ->
    (∀x y,s<mn->mn<mid+mn-s->d[mid+mn-s-1]? = some x->d[s]? = some y->key x<=key y) ->
    ∃d',(if (s:Int)<(mn:Int)/\(mn:Int)<((mid+mn-s:Nat):Int) then
      a0a (d1g (n+dd+2) d (s:Int) (mn:Int) ((mid+mn-s:Nat):Int) cmp) fun r14 =>
       if (an:Int)<(s:Int)/\(s:Int)<(mid:Int) then
        a0a (b0z (n+dd+2) r14 (an:Int) (s:Int) (mid:Int) cmp) fun r15 =>
         if (mid:Int)<((mid+mn-s:Nat):Int)/\((mid+mn-s:Nat):Int)<(bn:Int) then a0a (b0z (n+dd+2) r15 (mid:Int) ((mid+mn-s:Nat):Int) (bn:Int) cmp) fun r16=>some r16
         else some r15
       else if (mid:Int)<((mid+mn-s:Nat):Int)/\((mid+mn-s:Nat):Int)<(bn:Int) then a0a (b0z (n+dd+2) r14 (mid:Int) ((mid+mn-s:Nat):Int) (bn:Int) cmp) fun r17=>some r17
        else some r14
     else if (an:Int)<(s:Int)/\(s:Int)<(mid:Int) then
       a0a (b0z (n+dd+2) d (an:Int) (s:Int) (mid:Int) cmp) fun r15 =>
        if (mid:Int)<((mid+mn-s:Nat):Int)/\((mid+mn-s:Nat):Int)<(bn:Int) then a0a (b0z (n+dd+2) r15 (mid:Int) ((mid+mn-s:Nat):Int) (bn:Int) cmp) fun r16=>some r16
        else some r15
       else if (mid:Int)<((mid+mn-s:Nat):Int)/\((mid+mn-s:Nat):Int)<(bn:Int) then a0a (b0z (n+dd+2) d (mid:Int) ((mid+mn-s:Nat):Int) (bn:Int) cmp) fun r17=>some r17
        else some d)=some d'/\Mv d d' an bn/\Srt key d' an bn:=by
   intro s k1 k2 k3 k4 k5 q1 q2;generalize he:mid+mn-s=e at *
   have tail : ∀ d1, Turned d d1 s mn e -> ∃ d', (if (an : Int) < (s : Int) /\ (s : Int) < (mid : Int) then
             a0a (b0z (n+dd+2) d1 (an:Int) (s:Int) (mid:Int) cmp) fun r15 =>
              if (mid:Int)<((e:Nat):Int)/\((e:Nat):Int)<(bn:Int) then a0a (b0z (n+dd+2) r15 (mid:Int) ((e:Nat):Int) (bn:Int) cmp) fun r16=>some r16
              else some r15
     else if (mid:Int)<((e:Nat):Int)/\((e:Nat):Int)<(bn:Int) then a0a (b0z (n+dd+2) d1 (mid:Int) ((e:Nat):Int) (bn:Int) cmp) fun r17=>some r17
      else some d1)=some d'/\Mv d d' an bn/\Srt key d' an bn:=by
    intro d1 t;obtain ⟨⟨w1,w2,w3,w4⟩,cr⟩:=halves (a:=an) (b:=bn) (mid:=mid) s1 s2 t k1 k2 k3 k4 (by omega) hl q1 q2;have l1:=t.mv.len;have m1:Mv d d1 an bn:=t.mv.mono k1 k4;have half1:∃d2,(((an:Int)<(s:Int)/\(s:Int)<(mid:Int))->b0z (n+dd+2) d1 (an:Int) (s:Int) (mid:Int) cmp=some d2)/\(¬((an:Int)<(s:Int)/\(s:Int)<(mid:Int))->d2=d1)/\Mv d1 d2 an mid/\Srt key d2 an mid:=by
     by_cases c:(an:Int)<(s:Int)/\(s:Int)<(mid:Int)
     ·obtain ⟨d2,t1,t2,t3⟩:=ih n (an:Int) (s:Int) (mid:Int) an s mid d1 rfl rfl rfl (by omega) (by omega) (by omega) (by omega) (by omega) w1 w2;exact ⟨d2,fun _=>t1,fun h=>absurd c h,t2,t3⟩
     ·refine ⟨d1,fun h=>absurd h c,fun _=>rfl,.refl _ _ _,?_⟩;by_cases c':an<s
      ·have:s=mid:=by omega
       subst this;exact w1
      ·have:s=an:=by omega
       subst this;exact w2
    obtain ⟨d2,u1,u2,u3,u4⟩:=half1;have l2:=u3.len;have w3':=w3.keep u3 (.inr (q2e _));have w4':=w4.keep u3 (.inr (by omega));have cr2:=b2x cr (.inl u3);have half2:∃d3,(((mid:Int)<(e:Int)/\(e:Int)<(bn:Int))->b0z (n+dd+2) d2 (mid:Int) (e:Int) (bn:Int) cmp=some d3)/\(¬((mid:Int)<(e:Int)/\(e:Int)<(bn:Int))->d3=d2)/\Mv d2 d3 mid bn/\Srt key d3 mid bn:=by
     by_cases c:(mid:Int)<(e:Int)/\(e:Int)<(bn:Int)
     ·obtain ⟨d3,t1,t2,t3⟩:=ih n (mid:Int) (e:Int) (bn:Int) mid e bn d2 rfl rfl rfl (by omega) (by omega) (by omega) (by omega) (by omega) w3' w4';exact ⟨d3,fun _=>t1,fun h=>absurd c h,t2,t3⟩
     ·refine ⟨d2,fun h=>absurd h c,fun _=>rfl,.refl _ _ _,?_⟩;by_cases c':mid<e
      ·have:e=bn:=by omega
       rw[this] at w3';exact w3'
      ·have:e=mid:=by omega
       rw[this] at w4';exact w4'
    obtain ⟨d3,v1,v2,v3,v4⟩:=half2;have fin3:Mv d d3 an bn/\Srt key d3 an bn :=
     ⟨(m1.trans (u3.mono (q2e _) (by omega))).trans (v3.mono (by omega) (q2e _)),Srt.join (u4.keep v3 (.inl (q2e _))) v4 (b2x cr2 (.inr v3))⟩
    refine ⟨d3,?_,fin3⟩;by_cases c:(an:Int)<(s:Int)/\(s:Int)<(mid:Int)
    ·rw[q0z c,u1 c,obs];by_cases c':(mid:Int)<(e:Int)/\(e:Int)<(bn:Int)
     ·rw[q0z c',v1 c',obs]
     ·rw[q0n c',v2 c']
    ·rw[q0n c];obtain rfl:=u2 c;by_cases c':(mid:Int)<(e:Int)/\(e:Int)<(bn:Int)
     ·rw[q0z c',v1 c',obs]
     ·rw[q0n c',v2 c']
   by_cases c:(s:Int)<(mn:Int)/\(mn:Int)<(e:Int)
   ·obtain ⟨d1,t1,t2⟩:=h2o (cmp:=cmp) (n+dd) (s:Int) (mn:Int) (e:Int) s mn e rfl rfl rfl d (by omega) (by omega) (by omega) hL;rw[q0z c,t1,obs];exact tail d1 t2
   ·rw[q0n c];exact tail d (turned_refl d (by omega))
  by_cases c3:(mid:Int)<(mn:Int)
  ·rw[q0z c3,wn (x:=((mid+mn:Nat):Int)-bn) (k:=mid+mn-bn) (by omega) (by omega),wn (x:=((mid+mn:Nat):Int)-1) (k:=mid+mn-1) (by omega) (by omega)];obtain ⟨r,r1,r2,r3,r4,r5⟩:=g2t hc (n+dd+2) (an:Int) (bn:Int) (mid:Int) ((mid+mn:Nat):Int) (mn:Int) ((mid+mn-1:Nat):Int) mn bn (mid+mn-1) an rfl d hL s1 s2 hl (mid+mn-bn) mid (by omega) (by omega)
    (fun c h1 h2=>by omega) (mid-(mid+mn-bn)) a0b (mid+mn-bn) mid (by omega) (by unfold a0b;omega) (by omega) (by omega) (by omega) (fun c x y h1 h2=>by omega) (fun c x y h1 h2=>by omega)
   rw[r1];simp only[obs,a0t,wn (x:=((mid+mn:Nat):Int)-(r:Int)) (k:=mid+mn-r) (by omega) (by omega)];refine fin r (by omega) (by omega) (by omega) (by omega) (by omega) (fun x y h1 h2 hx hy => ?_) (fun x y h1 h2 hx hy => ?_)
   ·refine r4 (r-1) x y (by omega) (by omega) hx ?_;rw[show mid+mn-1-(r-1)=mid+mn-r by omega];exact hy
   ·refine Int.le_of_lt (r5 r y x (by omega) (by omega) hy ?_);rw[show mid+mn-1-r=mid+mn-r-1 by omega];exact hx
  ·rw[q0n c3,wn (x:=((mid+mn:Nat):Int)-1) (k:=mid+mn-1) (by omega) (by omega)];obtain ⟨r,r1,r2,r3,r4,r5⟩:=g2t hc (n+dd+2) (an:Int) (bn:Int) (mid:Int) ((mid+mn:Nat):Int) (mn:Int) ((mid+mn-1:Nat):Int) mn bn (mid+mn-1) an rfl d hL s1 s2 hl an mn (by omega) (by omega)
    (fun c h1 h2=>by omega) (mn-an) a0b an mn (by omega) (by unfold a0b;omega) (by omega) (by omega) (by omega) (fun c x y h1 h2=>by omega) (fun c x y h1 h2=>by omega)
   rw[r1];simp only[obs,a0t,wn (x:=((mid+mn:Nat):Int)-(r:Int)) (k:=mid+mn-r) (by omega) (by omega)];refine fin r (by omega) (by omega) (by omega) (by omega) (by omega) (fun x y h1 h2 hx hy => ?_) (fun x y h1 h2 hx hy => ?_)
   ·refine r4 (r-1) x y (by omega) (by omega) hx ?_;rw[show mid+mn-1-(r-1)=mid+mn-r by omega];exact hy
   ·refine Int.le_of_lt (r5 r y x (by omega) (by omega) hy ?_);rw[show mid+mn-1-r=mid+mn-r-1 by omega];exact hx
end
def Runs (key:a0c->Int) (d:List a0c) (B N:Nat):Prop:=∀c,B ∣ c->Srt key d c (min (c+B) N)
theorem k0m {B a c:Nat} (ha:B ∣ a) (hc:B ∣ c) (h:a<c):a+B<=c:=by
 obtain ⟨x,rfl⟩:=ha;obtain ⟨y,rfl⟩:=hc;have:x<y:=Nat.lt_of_mul_lt_mul_left h
 calc B*x+B=B*(x+1):=by rw[Nat.mul_succ]
  _<=B*y:=Nat.mul_le_mul_left B this
section
variable {cmp:(a0c×(a0c×Unit))->Option Int} {key:a0c->Int} (hc:Cmp cmp key)
include hc
theorem h2a (n:Nat) (N:Nat) (n_:Int) (hn:n_=N):∀(k f a:Nat) (d:List a0c),N-a<=k->k<f->20 ∣ a->a<=N->N=d.length->d.length<=100000000000->(∀c,20 ∣ c->c<a->Srt key d c (min (c+20) N)) ->
  ∃d' a',n0t (n+1) f (d,n_,cmp,(20:Int),(a:Int),((a+20:Nat):Int),())=some (.inl (d',n_,cmp,(20:Int),((a':Nat):Int),()))/\20 ∣ a'/\a'<=N/\N<a'+20/\Mv d d' 0 N /\
   (∀c,20 ∣ c->c<a'->Srt key d' c (min (c+20) N)):=by
 subst hn;intro k;induction k with
 | zero =>
  intro f a d hk hf h20 haN hN hL hs;obtain ⟨f,rfl⟩:∃g,f=g+1:=⟨f-1,by omega⟩;rw[w0k];simp only[tfd,q0n (show ¬(((a+20:Nat):Int)<=(N:Int)) by omega)];exact ⟨d,a,rfl,h20,haN,by omega,.refl _ _ _,hs⟩
 | succ k ih =>
  intro f a d hk hf h20 haN hN hL hs;obtain ⟨f,rfl⟩:∃g,f=g+1:=⟨f-1,by omega⟩;rw[w0k];by_cases hle:a+20<=N
  ·obtain ⟨d1,r1,r2,r3⟩:=ins_ok hc n (a:Int) ((a+20:Nat):Int) a (a+20) rfl rfl d (by omega) (by omega) (by omega);have l1:=r2.len;simp only[tfd,q0z (show (((a+20:Nat):Int)<=(N:Int)) by omega),r1,obs];rw[wn (x:=((a+20:Nat):Int)+20) (k:=a+20+20) (by omega) (by omega)];obtain ⟨d',a',s1,s2,s3,s4,s5,s6⟩:=ih f (a+20) d1 (by omega) (by omega) (by omega) (by omega) (by omega) (by omega) (fun c c1 c2=>by
    by_cases e:c<a
    ·have:=k0m c1 h20 e;exact (hs c c1 e).keep r2 (.inl (by omega))
    ·have:c=a:=by
      rcases Nat.lt_or_eq_of_le (Nat.le_of_not_lt e) with h | h
      ·have:=k0m h20 c1 h;omega
      ·exact h.symm
     subst this;rw[Nat.min_eq_left (by omega)]
     exact r3)
   exact ⟨d',a',s1,s2,s3,s4,(r2.mono (by omega) (by omega)).trans s5,s6⟩
  ·simp only[tfd,q0n (show ¬(((a+20:Nat):Int)<=(N:Int)) by omega)];exact ⟨d,a,rfl,h20,haN,by omega,.refl _ _ _,hs⟩
theorem g2y (n dd:Nat) (N B:Nat) (n_:Int) (hn:n_=N) (hB:0<B) (hBN:B<N) (hdd:N<=2^dd):∀(k f a:Nat) (d:List a0c),N-a<=k->k<f->2*B ∣ a->a<=N->N=d.length->d.length<=100000000000 ->
  (∀c,2*B ∣ c->c<a->Srt key d c (min (c+2*B) N))->(∀c,B ∣ c->a<=c->Srt key d c (min (c+B) N)) ->
  ∃d' a',s0y (n+dd+2) f (d,n_,cmp,(B:Int),(a:Int),((a+2*B:Nat):Int),())=some (.inl (d',n_,cmp,(B:Int),((a':Nat):Int),()))/\2*B ∣ a'/\a'<=N/\N<a'+2*B/\Mv d d' 0 N /\
   (∀c,2*B ∣ c->c<a'->Srt key d' c (min (c+2*B) N))/\(∀c,B ∣ c->a'<=c->Srt key d' c (min (c+B) N)):=by
 subst hn;have dB:B ∣ 2*B:=⟨2,by omega⟩;intro k;induction k with
 | zero =>
  intro f a d hk hf h20 haN hN hL hs hs';obtain ⟨f,rfl⟩:∃g,f=g+1:=⟨f-1,by omega⟩;rw[w0i];simp only[tfd,q0n (show ¬(((a+2*B:Nat):Int)<=(N:Int)) by omega)];exact ⟨d,a,rfl,h20,haN,by omega,.refl _ _ _,hs,hs'⟩
 | succ k ih =>
  intro f a d hk hf h20 haN hN hL hs hs';obtain ⟨f,rfl⟩:∃g,f=g+1:=⟨f-1,by omega⟩;rw[w0i];by_cases hle:a+2*B<=N
  ·have ba:B ∣ a:=Nat.dvd_trans dB h20;have q1:=hs' a ba (q2e _);have q2:=hs' (a+B) (Nat.dvd_add ba (Nat.dvd_refl _)) (by omega);rw[Nat.min_eq_left (by omega)] at q1 q2;rw[wn (x:=(a:Int)+B) (k:=a+B) (by omega) (by omega)];obtain ⟨d1,r1,r2,r3⟩:=d1c hc dd n (a:Int) ((a+B:Nat):Int) ((a+2*B:Nat):Int) a (a+B) (a+2*B) d rfl rfl rfl (by omega) (by omega) (by omega) (by omega) (by omega) q1 (q2.mono (by omega) (by omega));have l1:=r2.len;simp only[tfd,q0z (show (((a+2*B:Nat):Int)<=(N:Int)) by omega),r1,obs]
   rw[wn (x:=2*(B:Int)) (k:=2*B) (by omega) (by omega),wn (x:=((a+2*B:Nat):Int)+((2*B:Nat):Int)) (k:=a+2*B+2*B) (by omega) (by omega)];obtain ⟨d',a',s1,s2,s3,s4,s5,s6,s7⟩:=ih f (a+2*B) d1 (by omega) (by omega) (Nat.dvd_add h20 (Nat.dvd_refl _)) (by omega) (by omega) (by omega) (fun c c1 c2=>by
    by_cases e:c<a
    ·have:=k0m c1 h20 e;exact (hs c c1 e).keep r2 (.inl (by omega))
    ·have:c=a:=by
      rcases Nat.lt_or_eq_of_le (Nat.le_of_not_lt e) with h | h
      ·have:=k0m h20 c1 h;omega
      ·exact h.symm
     subst this;rw[Nat.min_eq_left (by omega)]
     exact r3)
    (fun c c1 c2=>(hs' c c1 (by omega)).keep r2 (.inr (by omega)))
   exact ⟨d',a',s1,s2,s3,s4,(r2.mono (by omega) (by omega)).trans s5,s6,s7⟩
  ·simp only[tfd,q0n (show ¬(((a+2*B:Nat):Int)<=(N:Int)) by omega)];exact ⟨d,a,rfl,h20,haN,by omega,.refl _ _ _,hs,hs'⟩
theorem g2z (n dd:Nat) (N:Nat) (n_:Int) (hn:n_=N) (hdd:N<=2^dd):∀(k f B:Nat) (d:List a0c),N-B<=k->k<f->0<B->B<=200000000000->N=d.length->d.length<=100000000000->Runs key d B N ->
  ∃d',k0r (n+dd+2) f (d,n_,cmp,(B:Int),())=some (.inl (d',()))/\Mv d d' 0 N/\Srt key d' 0 N:=by
 subst hn;intro k;induction k with
 | zero =>
  intro f B d hk hf hB hBl hN hL hs;obtain ⟨f,rfl⟩:∃g,f=g+1:=⟨f-1,by omega⟩;rw[w0j];simp only[tfd,q0n (show ¬((B:Int)<(N:Int)) by omega)];have:=hs 0 (Nat.dvd_zero _);rw[Nat.min_eq_right (by omega)] at this;exact ⟨d,rfl,.refl _ _ _,this⟩
 | succ k ih =>
  intro f B d hk hf hB hBl hN hL hs;obtain ⟨f,rfl⟩:∃g,f=g+1:=⟨f-1,by omega⟩;rw[w0j];by_cases hlt:B<N
  ·obtain ⟨d1,a,r1,r2,r3,r4,r5,r6,r7⟩:=g2y hc n dd N B (N:Int) rfl hB hlt hdd N a0b 0 d (by omega) (by unfold a0b;omega) (Nat.dvd_zero _) (by omega) hN hL (fun c _ h=>by omega) (fun c h _=>hs c h);have l1:=r5.len;rw[Nat.zero_add] at r1;simp only[tfd,q0z (show ((B:Int)<(N:Int)) by omega),wn (x:=2*(B:Int)) (k:=2*B) (by omega) (by omega)];rw[show (0:Int)=((0:Nat):Int) from rfl,r1];simp only[obs,a0t,wn (x:=(a:Int)+B) (k:=a+B) (by omega) (by omega),wn (x:=(B:Int)*2) (k:=2*B) (by omega) (by omega)];have dB:B ∣ 2*B:=⟨2,by omega⟩;have ba:B ∣ a:=Nat.dvd_trans dB r2
   by_cases hm:a+B<N
   ·have q1:=r7 a ba (q2e _);have q2:=r7 (a+B) (Nat.dvd_add ba (Nat.dvd_refl _)) (by omega);rw[Nat.min_eq_left (by omega)] at q1;rw[Nat.min_eq_right (by omega)] at q2;obtain ⟨d2,t1,t2,t3⟩:=d1c hc dd n (a:Int) ((a+B:Nat):Int) (N:Int) a (a+B) N d1 rfl rfl rfl (by omega) (by omega) (by omega) (by omega) (by omega) q1 q2;have l2:=t2.len;simp only[q0z (show (((a+B:Nat):Int)<(N:Int)) by omega),t1,obs];obtain ⟨d3,u1,u2,u3⟩:=ih f (2*B) d2 (by omega) (by omega) (by omega) (by omega) (by omega) (by omega) (fun c hcd=>by
     by_cases e:c<a
     ·have:=k0m hcd r2 e;exact (r6 c hcd e).keep t2 (.inl (by omega))
     ·by_cases e':c=a
      ·subst e';exact t3.mono (q2e _) (by omega)
      ·have:=k0m r2 hcd (by omega)
       exact Srt.one _ _ (by omega))
    exact ⟨d3,u1,(r5.trans (t2.mono (by omega) (by omega))).trans u2,u3⟩
   ·simp only[q0n (show ¬(((a+B:Nat):Int)<(N:Int)) by omega)];obtain ⟨d3,u1,u2,u3⟩:=ih f (2*B) d1 (by omega) (by omega) (by omega) (by omega) (by omega) (by omega) (fun c hcd=>by
     by_cases e:c<a
     ·exact r6 c hcd e
     ·by_cases e':c=a
      ·subst e';have q1:=r7 c ba (q2e _);exact q1.mono (q2e _) (by omega)
      ·have:=k0m r2 hcd (by omega)
       exact Srt.one _ _ (by omega))
    exact ⟨d3,u1,r5.trans u2,u3⟩
  ·simp only[tfd,q0n (show ¬((B:Int)<(N:Int)) by omega)];have:=hs 0 (Nat.dvd_zero _);rw[Nat.min_eq_right (by omega)] at this;exact ⟨d,rfl,.refl _ _ _,this⟩
theorem m1m (n dd:Nat) (d:List a0c) (hL:d.length<=2^dd) (hL':d.length<=100000000000) :
  ∃d',f0k (n+dd+4) d cmp=some d'/\d'.Perm d/\Srt key d' 0 d.length:=by
 rw[m0x,d2i];obtain ⟨d1,a,r1,r2,r3,r4,r5,r6⟩:=h2a hc (n+dd+1) d.length (d.length:Int) rfl d.length a0b 0 d (by omega) (by unfold a0b;omega) (Nat.dvd_zero _) (by omega) rfl hL' (fun c _ h=>by omega);have l1:=r5.len;obtain ⟨d2,s1,s2,s3⟩:=ins_ok hc (n+dd+1) (a:Int) (d.length:Int) a d.length rfl rfl d1 r3 (by omega) (by omega);have l2:=s2.len;obtain ⟨d3,t1,t2,t3⟩:=g2z hc n dd d.length (d.length:Int) rfl hL d.length a0b 20 d2 (by omega) (by unfold a0b;omega) (by omega) (by omega) (by omega) (by omega) (fun c hcd=>by
  by_cases e:c<a
  ·have:=k0m hcd r2 e;exact (r6 c hcd e).keep s2 (.inl (by omega))
  ·by_cases e':c=a
   ·subst e';exact s3.mono (q2e _) (by omega)
   ·have:=k0m r2 hcd (by omega)
    exact Srt.one _ _ (by omega))
 have r1':n0t (n+dd+2) a0b (d,((d.length:Nat):Int),cmp,(20:Int),(0:Int),(20:Int),())=_:=r1;rw[r1'];simp only[obs,a0t,s1];have t1':k0r (n+dd+2) a0b (d2,((d.length:Nat):Int),cmp,(20:Int),())=_:=t1;rw[t1'];exact ⟨d3,by simp,(t2.perm.trans s2.perm).trans r5.perm,t3⟩
end
end Go.Proofs.YteopnkdnglpbfaaGreatDoor

namespace Go.Plim
set_option linter.unusedVariables false
abbrev Slo:=Int×Cel
instance decSlo:DecidableEq Slo := @instDecidableEqProd _ _ _ decCel
def s0:Slo:=(0,z0)
structure FitsP (c:Cel) (w i:Int):Prop where
 n:CellN c
 w0:1<=w
 w1:w<=1099511627776
 f:c.2.1.1 / w=i
 l:c.2.2.1.1 / w=i
theorem FitsP.i0 {c:Cel} {w i:Int} (h:FitsP c w i):0<=i/\i<35184372088832:=by
 obtain ⟨n,w0,w1,f,l⟩:=h;have h1:=n.f.t0;have h2:=n.f.t1;have:0<=c.2.1.1 / w:=Int.ediv_nonneg h1 (by omega);have:c.2.1.1 / w<=c.2.1.1:=Int.ediv_le_self _ h1;omega
structure TierOk (l:List Slo) (w:Int):Prop where
 l0:1<=l.length
 l1:l.length<=4096
 w0:1<=w
 w1:w<=1099511627776
 s:∀(j:Nat) s,l[j]? = some s->s=s0\/(s.1 % (l.length:Int)=j/\FitsP s.2 w s.1)
noncomputable instance (c w i):Decidable (FitsP c w i):=Classical.propDecidable _
noncomputable instance (l w):Decidable (TierOk l w):=Classical.propDecidable _
def tget (l:List Slo) (i:Int):Cel :=
 if i<0 then z0 else match l[(i % (l.length:Int)).toNat]? with | some s=>if s.1=i then s.2 else z0 | none=>z0
def Up (l:List Slo):Prop:=l.Pairwise fun a b=>a.1<b.1
theorem up_perm:∀ {a b:List Slo},Up a->Up b->a.Perm b->a=b:=by
 intro a;induction a with
 | nil=>intro b _ _ h;exact h.nil_eq
 | cons x a ih =>
  intro b ha hb h;cases b with
  | nil=>exact absurd h.length_eq (by simp)
  | cons y b =>
   unfold Up at *
   rw[List.pairwise_cons] at ha hb;have hx:x∈y::b:=h.subset (by simp);have hy:y∈x::a:=h.symm.subset (by simp);have e:x=y:=by
    rcases q2l.1 hx with e | hx
    ·exact e
    ·rcases q2l.1 hy with e | hy
     ·exact e.symm
     ·have:=hb.1 x hx;have:=ha.1 y hy;omega
   subst e;rw[ih ha.2 hb.2 (List.Perm.cons_inv h)]
def g0w (l:List Slo):List Slo:=l.filter fun s=>decide (s≠s0)
theorem TierOk.apart {l:List Slo} {w:Int} (h:TierOk l w):(g0w l).Pairwise fun a b=>a.1≠b.1:=by
 have key:∀(m:List Slo) (k:Nat),(∀(j:Nat) s,m[j]? = some s->s=s0\/s.1 % (l.length:Int)=((k+j:Nat):Int))->(g0w m).Pairwise fun a b=>a.1≠b.1:=by
  intro m;induction m with
  | nil=>intro k _;exact .nil
  | cons x m ih =>
   intro k hm;have ih':=ih (k+1) (fun j s hs=>by
    have:=hm (j+1) s hs
    rwa [show k+(j+1)=k+1+j by omega] at this)
   unfold g0w at *
   by_cases hx:x=s0
   ·rw[List.filter_cons_of_neg (by simp[hx])];exact ih'
   ·rw[List.filter_cons_of_pos (by simp[hx])];refine List.pairwise_cons.2 ⟨fun y hy => ?_,ih'⟩;have hy':=q3l.1 hy;obtain ⟨j,hj⟩:=List.getElem?_of_mem hy'.1;have h1:=(hm 0 x rfl).resolve_left hx;have h2:=(hm (j+1) y hj).resolve_left (by simpa using hy'.2);intro e;rw[e,h2] at h1;omega
 exact key l 0 (fun j s hs=>by
  rcases h.s j s hs with e | e
  ·exact .inl e
  ·exact .inr (by rw[e.1,Nat.zero_add]))
def tall (l:List Slo):List Slo:=(g0w l).mergeSort fun a b=>decide (a.1<=b.1)
theorem w0b (l:List Slo):(tall l).Perm (g0w l):=List.mergeSort_perm _ _
theorem up_of {l:List Slo} (h:l.Pairwise fun a b=>a.1<=b.1) (h':l.Pairwise fun a b=>a.1≠b.1):Up l:=by
 have:=h.and h';exact this.imp (fun {a b} k=>by have:=k.1;have:=k.2;omega)
theorem m1f {l:List Slo} {w:Int} (h:TierOk l w):Up (tall l):=by
 refine up_of ?_ ((w0b l).pairwise_iff (fun {a b} k=>k.symm) |>.2 h.apart);have:=List.pairwise_mergeSort (le:=fun a b:Slo=>decide (a.1<=b.1)) (fun a b c h1 h2=>by simp at *;omega) (fun a b=>by simp;omega) (g0w l);exact this.imp (fun {a b} k=>by simpa using k)
theorem g2s {l r:List Slo} {w:Int} (h:TierOk l w) (hp:r.Perm (g0w l)) (hs:r.Pairwise fun a b=>a.1<=b.1):r=tall l:=by
 refine up_perm (up_of hs (hp.pairwise_iff (fun {a b} k=>k.symm) |>.2 h.apart)) (m1f h) (hp.trans (w0b l).symm)
theorem o1q {l:List Slo} {s:Slo}:s∈tall l↔s∈l/\s≠s0:=by
 rw[(w0b l).mem_iff];simp[g0w]
theorem l0i {l:List Slo} {w:Int} (h:TierOk l w) {s:Slo} (hs:s∈tall l):FitsP s.2 w s.1/\l[(s.1 % (l.length:Int)).toNat]? = some s:=by
 obtain ⟨h1,h2⟩:=o1q.1 hs;obtain ⟨j,hj⟩:=List.getElem?_of_mem h1;obtain ⟨h3,h4⟩:=(h.s j s hj).resolve_left h2;refine ⟨h4,?_⟩;rw[h3];exact hj
theorem tget_mem {l:List Slo} {w:Int} (h:TierOk l w) {s:Slo} (hs:s∈tall l):tget l s.1=s.2:=by
 obtain ⟨h1,h2⟩:=l0i h hs;unfold tget;rw[q0n (by have:=h1.i0;omega),h2];simp
def within (l:List Slo) (i k:Int):List Cel:=((tall l).filter fun s=>decide (i<=s.1/\s.1<k)).map (·.2)
def g0m (l:List Slo) (i k:Int):Cel×Int:=if i<0\/k<i then (z0,1) else allE z0 (within l i k)
end Go.Plim

namespace Go.Proofs.YteopnkdnglpbfaaGreatDoor
open Go.Flat Go.Plim
set_option linter.unusedVariables false
set_option linter.unusedSimpArgs false
structure SloW (s:Slo):Prop where
 i:I64 s.1
 c:CelW s.2
theorem h2h (a b:Slo):((decide (a.1=b.1))&&((decide (a.2.1=b.2.1))&&((decide (a.2.2.1.1=b.2.2.1.1))&&((decide (a.2.2.1.2.1=b.2.2.1.2.1))&&((decide (a.2.2.1.2.2.1=b.2.2.1.2.2.1))&&((a.2.2.1.2.2.2==b.2.2.1.2.2.2)&&((decide (a.2.2.2.1.1=b.2.2.2.1.1))&&((decide (a.2.2.2.1.2.1=b.2.2.2.1.2.1))&&((decide (a.2.2.2.1.2.2.1=b.2.2.2.1.2.2.1))&&((a.2.2.2.1.2.2.2==b.2.2.2.1.2.2.2)&&((decide (a.2.2.2.2.1.1=b.2.2.2.2.1.1))&&((decide (a.2.2.2.2.1.2=b.2.2.2.2.1.2))&&((decide (a.2.2.2.2.2.1=b.2.2.2.2.2.1))&&((decide (a.2.2.2.2.2.2.1=b.2.2.2.2.2.2.1))&&(decide (a.2.2.2.2.2.2.2=b.2.2.2.2.2.2.2))))))))))))))))=decide (a=b):=by
 rw[celEq a.2 b.2,Bool.eq_iff_iff];simp[Prod.ext_iff]
theorem r1p (a:Slo):((decide (a.1=(0:Int)))&&((decide (a.2.1=(0:Int)))&&((decide (a.2.2.1.1=(0:Int)))&&((decide (a.2.2.1.2.1=(0:Int)))&&((decide (a.2.2.1.2.2.1=(0:Int)))&&((a.2.2.1.2.2.2==false)&&((decide (a.2.2.2.1.1=(0:Int)))&&((decide (a.2.2.2.1.2.1=(0:Int)))&&((decide (a.2.2.2.1.2.2.1=(0:Int)))&&((a.2.2.2.1.2.2.2==false)&&((decide (a.2.2.2.2.1.1=(0:Int)))&&((decide (a.2.2.2.2.1.2=(0:Int)))&&((decide (a.2.2.2.2.2.1=(0:Int)))&&((decide (a.2.2.2.2.2.2.1=(0:Int)))&&(decide (a.2.2.2.2.2.2.2=(0:Int)))))))))))))))))=decide (a=s0):=h2h a s0
theorem wi_in (n:Nat) (x a b:Int):p0a (n+1) x a b=some (decide (a<=x/\x<=b)):=by
 rw[f1n];by_cases h1:a<=x<;>by_cases h2:x<=b<;>simp[h1,h2]
def OfP (t w:Int):Prop:=0<=t/\t<35184372088832/\1<=w/\w<=1099511627776
instance (t w:Int):Decidable (OfP t w):=by unfold OfP;infer_instance
theorem x0l {t w:Int} (h:OfP t w):0<=t / w/\t / w<35184372088832:=by
 obtain ⟨h1,h2,h3,h4⟩:=h;have:0<=t / w:=Int.ediv_nonneg h1 (by omega);have:t / w<=t:=Int.ediv_le_self _ h1;omega
theorem wi_of (n:Nat) (t w:Int):c2r (n+3) t w=some (if OfP t w then (t / w,0) else (0,1)):=by
 rw[wi_Of_eq,c1s,wi_in,wi_in];simp only[obs,tfn,tfd];by_cases h:OfP t w
 ·have hq:=x0l h;rw[q0z h];obtain ⟨h1,h2,h3,h4⟩:=h;rw[q0z (show (0:Int)<=t/\t<=35184372088831 by omega),q0z (And.intro h3 h4),q0n (show ¬(w=0) by omega),i0k h1,w64 (by omega) (by omega)]
 ·rw[q0n h];by_cases h1:(0:Int)<=t/\t<=35184372088831
  ·rw[q0z h1,q0n (fun k=>h ⟨h1.1,by omega,k.1,k.2⟩)]
  ·rw[q0n h1]
theorem s1s (n:Nat) (t w:Int):d0g (n+2) t w=some (if OfP t w then (t / w,0) else (0,1)):=by
 rw[i2e,a1v];simp only[tfd];by_cases h:OfP t w
 ·have hq:=x0l h;rw[q0z h];obtain ⟨h1,h2,h3,h4⟩:=h;rw[q0n (show ¬(t<0) by omega),q0n (show ¬((35184372088832:Int)<=t) by omega),q0z h3,q2a h4];simp only[obs,q2s,tff];rw[q0n (show ¬(w=0) by omega),e0w h1];have e:t-t % w=w*(t / w):=by have:=Int.mul_ediv_add_emod t w;omega
  have m0:=Int.emod_nonneg t (show w≠0 by omega);have m1:t % w<=t:=by
   have:=Int.mul_nonneg (show 0<=w by omega) hq.1;omega
  rw[w64 (x:=t-t % w) (by omega) (by omega),i0k (by omega),e,Int.mul_ediv_cancel_left _ (show w≠0 by omega),w64 (by omega) (by omega),q0n (show ¬(w=0) by omega)]
 ·rw[q0n h];by_cases h1:t<0
  ·rw[q0z h1]
  by_cases h2:(35184372088832:Int)<=t
  ·rw[q0n h1,q0z h2]
  rw[q0n h1,q0n h2];by_cases h3:(1:Int)<=w
  ·have h4:¬(w<=1099511627776):=fun k=>h ⟨by omega,by omega,h3,k⟩
   rw[q0z h3,q1z h4];rfl
  ·rw[q0n h3];rfl
def w0e (i n:Int):Int:=if i<0 then 0 else if n<1 then 0 else i % n
theorem wi_slot (n:Nat) (i m:Int):v1w (n+1) i m=some (w0e i m):=by
 rw[c2p];simp only[tfd];unfold w0e;by_cases h1:i<0
 ·rw[q0z h1,q0z h1]
 by_cases h2:m<1
 ·rw[q0n h1,q0n h1,q0z h2,q0z h2]
 rw[q0n h1,q0n h1,q0n h2,q0n h2,q0n (by omega),e0w (by omega)]
theorem a2n (n:Nat) (i m:Int):c1f (n+1) i m=some (w0e i m):=by
 rw[x1y];simp only[tfd];unfold w0e;by_cases h1:i<0
 ·rw[q0z h1,q0z h1]
 by_cases h2:m<1
 ·rw[q0n h1,q0n h1,q0z h2,q0z h2]
 rw[q0n h1,q0n h1,q0n h2,q0n h2,q0n (by omega),e0w (by omega)]
theorem y0y {i n:Int} (hi:0<=i) (hn:1<=n):w0e i n=i % n:=by
 unfold w0e;rw[q0n (by omega),q0n (by omega)]
theorem u1w (c:Cel) (w i:Int):FitsP c w i↔c≠z0/\c0g c/\OfP c.2.1.1 w/\c.2.1.1 / w=i/\OfP c.2.2.1.1 w/\c.2.2.1.1 / w=i:=by
 constructor
 ·rintro ⟨n,w0,w1,f,l⟩;exact ⟨n.ne,n.ok,⟨n.f.t0,n.f.t1,w0,w1⟩,f,⟨n.l.t0,n.l.t1,w0,w1⟩,l⟩
 ·rintro ⟨h1,h2,h3,h4,h5,h6⟩;exact ⟨h2.n h1,h3.2.2.1,h3.2.2.2,h4,h6⟩
theorem of01 (p:Prop) [Decidable p] (x:Int):((if p then (x,(0:Int)) else (0,1)).2=0)↔p:=by by_cases h:p<;>simp[h]
theorem k2l (n f:Nat) (w i:Int) (s:Int×Int):f0p n (f+1) (w,i,s,(2:Int),())=some (.inl ()):=by
 rw[l0h,show (decide ((2:Int)<2))=false from rfl,tff]
theorem k2m (n f:Nat) (w i:Int) (s:Int×Int):f0p (n+3) (f+2) (w,i,s,(1:Int),())=some (if OfP s.2 w/\s.2 / w=i then .inl () else .inr false):=by
 rw[l0h,show (decide ((1:Int)<2))=true from rfl,tft,show (decide ((1:Int)=0))=false from rfl,tff,show (decide ((1:Int)=1))=true from rfl,tft,wi_of];simp only[tfd,tfn,obs,of01];rw[show wrap .i64 ((1:Int)+1)=2 from rfl,k2l];by_cases h3:OfP s.2 w
 ·rw[q0z h3,q0z h3];by_cases h4:s.2 / w=i
  ·rw[q0z h4,q0z (And.intro h3 h4)]
  ·rw[q0n h4,q0n (fun k=>h4 k.2)]
 ·rw[q0n h3,q0n (fun k=>h3 k.1)]
theorem k2n (n f:Nat) (w i:Int) (s:Int×Int):f0p (n+3) (f+3) (w,i,s,(0:Int),())=some (if (OfP s.1 w/\s.1 / w=i)/\(OfP s.2 w/\s.2 / w=i) then .inl () else .inr false):=by
 rw[l0h,show (decide ((0:Int)<2))=true from rfl,tft,show (decide ((0:Int)=0))=true from rfl,tft,wi_of];simp only[tfd,tfn,obs,of01];rw[show wrap .i64 ((0:Int)+1)=1 from rfl,k2m];by_cases h3:OfP s.1 w
 ·rw[q0z h3,q0z h3];by_cases h4:s.1 / w=i
  ·rw[q0z h4];by_cases h5:OfP s.2 w/\s.2 / w=i
   ·rw[q0z h5,q0z (And.intro (And.intro h3 h4) h5)]
   ·rw[q0n h5,q0n (fun k=>h5 k.2)]
  ·rw[q0n h4,q0n (fun k=>h4 k.1.2)]
 ·rw[q0n h3,q0n (fun k=>h3 k.1.1)]
theorem q1y (n:Nat) {c:Cel} (hc:CelW c) (w i:Int):v0z (n+6) c w i=some (decide (FitsP c w i)):=by
 rw[r1c,a1f n hc];simp only[tfd,obs,tfn,z02];have e:a0b=(2^70-3)+3:=by decide
 rw[e,k2n];have hiff:=u1w c w i;by_cases h1:c.1=0
 ·rw[q0z h1,q1z];intro k;have:=k.n.n1;omega
 rw[q0n h1];by_cases h2:c0g c
 case neg=>rw[q0n h2,q1z (fun k=>h2 (hiff.1 k).2.1)]
 rw[q0z h2];by_cases h3:(OfP c.2.1.1 w/\c.2.1.1 / w=i)/\(OfP c.2.2.1.1 w/\c.2.2.1.1 / w=i)
 ·rw[q0z h3,q2a (hiff.2 ⟨mt h2.count.1.2 h1,h2,h3.1.1,h3.1.2,h3.2.1,h3.2.2⟩)];rfl
 ·rw[q0n h3,q1z (fun k=>h3 (by have:=hiff.1 k;exact ⟨⟨this.2.2.1,this.2.2.2.1⟩,this.2.2.2.2⟩))];rfl
theorem a2l (n:Nat) {c:Cel} (hc:CelW c) (w i:Int):c1e (n+5) c w i=some (decide (FitsP c w i)):=by
 rw[x1r,d1y n hc,s1s,s1s];simp only[tfd,obs,tfn,z02,of01];have hiff:=u1w c w i;by_cases h2:c0g c
 case neg=>rw[q0n h2,q1z (fun k=>h2 (hiff.1 k).2.1)]
 rw[q0z h2];by_cases h1:c.1=0
 ·rw[q0z h1,q1z];intro k;have:=k.n.n1;omega
 rw[q0n h1];by_cases h3:OfP c.2.1.1 w
 case neg=>rw[q0n h3,q1z (fun k=>h3 (hiff.1 k).2.2.1)]
 rw[q0z h3,q0z h3];by_cases h5:OfP c.2.2.1.1 w
 case neg=>rw[q0n h5,q1z (fun k=>h5 (hiff.1 k).2.2.2.2.1)]
 rw[q0z h5,q0z h5];by_cases h4:c.2.1.1 / w=i
 case neg=>rw[q0n h4,q1z (fun k=>h4 (hiff.1 k).2.2.2.1)]
 rw[q0z h4];congr 1;exact q2r.2 ⟨fun h6=>hiff.2 ⟨mt h2.count.1.2 h1,h2,h3,h4,h5,h6⟩,fun k=>(hiff.1 k).2.2.2.2.2⟩
theorem v0y (n:Nat) (s:Slo):q0v (n+1) s=some (decide (s=s0)):=by rw[q1x,r1p]
def v0r (m w:Int) (j:Int) (s:Slo):Prop:=s=s0\/(w0e s.1 m=j/\FitsP s.2 w s.1)
theorem r1a (n:Nat) (l:List Slo) (w:Int) (hL:l.length<=4096) (hw:∀s∈l,SloW s):∀(rest pre:List Slo) (f:Nat) (i len:Int),l=pre++rest->i=pre.length->len=l.length->rest.length<f ->
  ((∀(j:Nat) s,rest[j]? = some s->v0r l.length w (i+j) s)->f0x (n+6) f (l,w,l,len,i,())=some (.inl ())) /\
  (¬(∀(j:Nat) s,rest[j]? = some s->v0r l.length w (i+j) s)->f0x (n+6) f (l,w,l,len,i,())=some (.inr 2)):=by
 intro rest;induction rest with
 | nil =>
  intro pre f i len hl hi hn hf;obtain ⟨f,rfl⟩:∃g,f=g+1:=⟨f-1,by simp at hf;omega⟩;rw[q0p];refine ⟨fun _=>by simp only[tfd,q0n (idxe hl hi hn)],fun h=>absurd ?_ h⟩;intro j s hs;simp at hs
 | cons x rest ih =>
  intro pre f i len hl hi hn hf;obtain ⟨f,rfl⟩:∃g,f=g+1:=⟨f-1,by simp at hf;omega⟩;rw[q0p];have hx:SloW x:=hw x (by rw[hl];simp);have ih':=ih (pre++[x]) f (i+1) len (idxl hl) (idxs hi) hn (by simp at hf;omega);simp only[tfd,tfn,q0z (idx hl hi hn),c0e hl hi,obs,v0y,wi_slot,q1y n hx.c,idxw hl hi (by omega)];have split:(∀(j:Nat) s,(x::rest)[j]? = some s->v0r l.length w (i+j) s)↔v0r l.length w i x/\(∀(j:Nat) s,rest[j]? = some s->v0r l.length w (i+1+j) s):=by
   constructor
   ·intro h;refine ⟨by simpa using h 0 x rfl,fun j s hs => ?_⟩;have:=h (j+1) s hs
    rwa [show i+((j+1:Nat):Int)=i+1+j by omega] at this
   ·rintro ⟨h1,h2⟩ j s hs;cases j with
    | zero=>simp at hs;subst hs;simpa using h1
    | succ j =>
     have:=h2 j s hs
     rwa [show i+((j+1:Nat):Int)=i+1+j by omega]
  rw[split];by_cases h0:x=s0
  ·rw[q0z h0];have hp:v0r l.length w i x := .inl h0;exact ⟨fun h=>ih'.1 h.2,fun h=>ih'.2 (fun k=>h ⟨hp,k⟩)⟩
  ·rw[q0n h0];by_cases h1:w0e x.1 l.length=i
   ·rw[q0z h1];by_cases h2:FitsP x.2 w x.1
    ·rw[q0z h2];have hp:v0r l.length w i x := .inr ⟨h1,h2⟩;exact ⟨fun h=>ih'.1 h.2,fun h=>ih'.2 (fun k=>h ⟨hp,k⟩)⟩
    ·rw[q0n h2];exact ⟨fun h=>absurd (h.1.resolve_left h0).2 h2,fun _=>rfl⟩
   ·rw[q0n h1];exact ⟨fun h=>absurd (h.1.resolve_left h0).1 h1,fun _=>rfl⟩
theorem x1o (n:Nat) (l:List Slo) (w:Int) (hL:l.length<=4096) (hw:∀s∈l,SloW s):∀(rest pre:List Slo) (f:Nat) (i len:Int),l=pre++rest->i=pre.length->len=l.length->rest.length<f ->
  ((∀(j:Nat) s,rest[j]? = some s->v0r l.length w (i+j) s)->g0y (n+5) f (l,w,l,len,i,())=some (.inl ())) /\
  (¬(∀(j:Nat) s,rest[j]? = some s->v0r l.length w (i+j) s)->g0y (n+5) f (l,w,l,len,i,())=some (.inr 2)):=by
 intro rest;induction rest with
 | nil =>
  intro pre f i len hl hi hn hf;obtain ⟨f,rfl⟩:∃g,f=g+1:=⟨f-1,by simp at hf;omega⟩;rw[r0r];refine ⟨fun _=>by simp only[tfd,q0n (idxe hl hi hn)],fun h=>absurd ?_ h⟩;intro j s hs;simp at hs
 | cons x rest ih =>
  intro pre f i len hl hi hn hf;obtain ⟨f,rfl⟩:∃g,f=g+1:=⟨f-1,by simp at hf;omega⟩;rw[r0r];have hx:SloW x:=hw x (by rw[hl];simp);have ih':=ih (pre++[x]) f (i+1) len (idxl hl) (idxs hi) hn (by simp at hf;omega);simp only[tfd,tfn,q0z (idx hl hi hn),c0e hl hi,obs,r1p,a2n,a2l n hx.c,idxw hl hi (by omega)];have split:(∀(j:Nat) s,(x::rest)[j]? = some s->v0r l.length w (i+j) s)↔v0r l.length w i x/\(∀(j:Nat) s,rest[j]? = some s->v0r l.length w (i+1+j) s):=by
   constructor
   ·intro h;refine ⟨by simpa using h 0 x rfl,fun j s hs => ?_⟩;have:=h (j+1) s hs
    rwa [show i+((j+1:Nat):Int)=i+1+j by omega] at this
   ·rintro ⟨h1,h2⟩ j s hs;cases j with
    | zero=>simp at hs;subst hs;simpa using h1
    | succ j =>
     have:=h2 j s hs
     rwa [show i+((j+1:Nat):Int)=i+1+j by omega]
  rw[split];by_cases h0:x=s0
  ·rw[q0z h0];have hp:v0r l.length w i x := .inl h0;exact ⟨fun h=>ih'.1 h.2,fun h=>ih'.2 (fun k=>h ⟨hp,k⟩)⟩
  ·rw[q0n h0];by_cases h2:FitsP x.2 w x.1
   ·rw[q0z h2];by_cases h1:w0e x.1 l.length=i
    ·rw[q0z h1];have hp:v0r l.length w i x := .inr ⟨h1,h2⟩;exact ⟨fun h=>ih'.1 h.2,fun h=>ih'.2 (fun k=>h ⟨hp,k⟩)⟩
    ·rw[q0n h1];exact ⟨fun h=>absurd (h.1.resolve_left h0).1 h1,fun _=>rfl⟩
   ·rw[q0n h2];exact ⟨fun h=>absurd (h.1.resolve_left h0).2 h2,fun _=>rfl⟩
theorem r1o {l:List Slo} {w:Int} (h0:1<=l.length):(∀(j:Nat) s,l[j]? = some s->v0r l.length w (0+j) s)↔(∀(j:Nat) s,l[j]? = some s->s=s0\/(s.1 % (l.length:Int)=j/\FitsP s.2 w s.1)):=by
 constructor
 ·intro h j s hs;rcases h j s hs with e | ⟨e,f⟩
  ·exact .inl e
  ·rw[y0y f.i0.1 (by omega)] at e;exact .inr ⟨by omega,f⟩
 ·intro h j s hs;rcases h j s hs with e | ⟨e,f⟩
  ·exact .inl e
  ·exact .inr ⟨by rw[y0y f.i0.1 (by omega)];omega,f⟩
theorem y0t (n:Nat) (l:List Slo) (w:Int) (hw:∀s∈l,SloW s):n0r (n+7) l w=some (if TierOk l w then 0 else 2):=by
 rw[m1a];simp only[tfd];by_cases h1:(l.length:Int)=0
 ·rw[q0z h1,q0n (fun k=>by have:=k.l0;omega)]
 by_cases h2:(4096:Int)<l.length
 ·rw[q0n h1,q0z h2,q0n (fun k=>by have:=k.l1;omega)]
 by_cases h3:w<1
 ·rw[q0n h1,q0n h2,q0z h3,q0n (fun k=>by have:=k.w0;omega)]
 by_cases h4:(1099511627776:Int)<w
 ·rw[q0n h1,q0n h2,q0n h3,q0z h4,q0n (fun k=>by have:=k.w1;omega)]
 rw[q0n h1,q0n h2,q0n h3,q0n h4];have hl:=r1a n l w (by omega) hw l [] a0b 0 l.length rfl rfl rfl (by unfold a0b;omega);rw[r1o (by omega)] at hl;by_cases h5:∀(j:Nat) s,l[j]? = some s->s=s0\/(s.1 % (l.length:Int)=j/\FitsP s.2 w s.1)
 ·rw[hl.1 h5,q0z ⟨by omega,by omega,by omega,by omega,h5⟩];rfl
 ·rw[hl.2 h5,q0n (fun k=>h5 k.s)];rfl
theorem d1s (n:Nat) (l:List Slo) (w:Int) (hw:∀s∈l,SloW s):r0s (n+6) l w=some (if TierOk l w then 0 else 2):=by
 rw[s1m];simp only[tfd];by_cases h1:(l.length:Int)<1
 ·rw[q0z h1,q0n (fun k=>by have:=k.l0;omega)]
 by_cases h2:(4096:Int)<l.length
 ·rw[q0n h1,q0z h2,q0n (fun k=>by have:=k.l1;omega)]
 by_cases h3:w<1
 ·rw[q0n h1,q0n h2,q0z h3,q0n (fun k=>by have:=k.w0;omega)]
 by_cases h4:(1099511627776:Int)<w
 ·rw[q0n h1,q0n h2,q0n h3,q0z h4,q0n (fun k=>by have:=k.w1;omega)]
 rw[q0n h1,q0n h2,q0n h3,q0n h4];have hl:=x1o n l w (by omega) hw l [] a0b 0 l.length rfl rfl rfl (by unfold a0b;omega);rw[r1o (by omega)] at hl;by_cases h5:∀(j:Nat) s,l[j]? = some s->s=s0\/(s.1 % (l.length:Int)=j/\FitsP s.2 w s.1)
 ·rw[hl.1 h5,q0z ⟨by omega,by omega,by omega,by omega,h5⟩];rfl
 ·rw[hl.2 h5,q0n (fun k=>h5 k.s)];rfl
theorem f2v (n:Nat) (l:List Slo) (h:l.length<=1000000):p0k (n+1) l=some l:=by
 rw[b1q];simp only[tfd,q0z (show (0+l.length)*120<=140737488355328 by omega),List.nil_append];by_cases h0:l.length=0
 ·obtain rfl:=List.length_eq_zero_iff.1 h0;simp
 ·rw[q0n h0]
section
variable {del:a0c×Unit->Option Bool} {p:Slo->Bool} (hd:∀x,del (x,())=some (p x))
include hd
theorem k2b (n:Nat) (l:List Slo) (hL:l.length<=1000000):∀(rest pre:List Slo) (f:Nat) (i len:Int),l=pre++rest->i=pre.length->len=l.length->rest.length<f ->
  (d0e n f (l,del,len,i,())=some (.inl ())/\∀x∈rest,p x=false) \/
  (∃A x B,rest=A++x::B/\(∀y∈A,p y=false)/\p x=true/\d0e n f (l,del,len,i,())=some (.inr (i+A.length))):=by
 intro rest;induction rest with
 | nil =>
  intro pre f i len hl hi hn hf;obtain ⟨f,rfl⟩:∃g,f=g+1:=⟨f-1,by simp at hf;omega⟩;rw[h0m];exact .inl ⟨by simp only[tfd,q0n (idxe hl hi hn)],by simp⟩
 | cons x rest ih =>
  intro pre f i len hl hi hn hf;obtain ⟨f,rfl⟩:∃g,f=g+1:=⟨f-1,by simp at hf;omega⟩;rw[h0m];simp only[tfd,q0z (idx hl hi hn),c0e hl hi,obs,hd,idxw hl hi (by omega)];cases hp:p x with
  | true=>exact .inr ⟨[],x,rest,rfl,by simp,hp,by simp⟩
  | false =>
   rw[tff];rcases ih (pre++[x]) f (i+1) len (idxl hl) (idxs hi) hn (by simp at hf;omega) with ⟨h1,h2⟩ | ⟨A,y,B,h1,h2,h3,h4⟩
   ·exact .inl ⟨h1,by intro z hz;rcases q2l.1 hz with rfl | hz;exact hp;exact h2 z hz⟩
   ·refine .inr ⟨x::A,y,B,by rw[h1];rfl,?_,h3,by rw[h4,q2k,show i+1+(A.length:Int)=i+((A.length+1:Nat):Int) by omega]⟩;intro z hz;rcases q2l.1 hz with rfl | hz
    ·exact hp
    ·exact h2 z hz
theorem delete_l (n:Nat) (l0:List Slo) (hL:l0.length<=1000000):∀(rest F G:List Slo) (f:Nat) (i j:Int),(F++(G++rest)).length=l0.length->G≠[]->i=F.length->j=F.length+G.length->rest.length<f ->
  ∃G',c0z n f (F++(G++rest),del,i,j,())=some (.inl (F++rest.filter (fun x => !p x)++G',(F++rest.filter (fun x => !p x)).length,()))/\(F++rest.filter (fun x => !p x)++G').length=l0.length:=by
 intro rest;induction rest with
 | nil =>
  intro F G f i j hl hg hi hj hf;obtain ⟨f,rfl⟩:∃g,f=g+1:=⟨f-1,by simp at hf;omega⟩;rw[g0x];have:¬(j<((F++(G++[])).length:Int)):=by simp;omega
  simp only[tfd,q0n this];exact ⟨G,by simp[hi],by simpa using hl⟩
 | cons x rest ih =>
  intro F G f i j hl hg hi hj hf;obtain ⟨f,rfl⟩:∃g,f=g+1:=⟨f-1,by simp at hf;omega⟩;rw[g0x];simp only[q2d,q2k] at hl;have hlt:j<((F++(G++x::rest)).length:Int):=by simp;omega
  have hat:at? (F++(G++x::rest)) j=some x:=c0e (pre:=F++G) (rest:=rest) (by simp) (by simp;omega);have hget:(F++(G++x::rest))[j.toNat]? = some x:=by
   rw[show j.toNat=F.length+G.length by omega,q2h (by omega),q2h (by omega)];simp
  simp only[tfd,q0z hlt,hat,hget,obs,hd];have wj:wrap .i64 (j+1)=j+1:=by rw[w64 (by omega) (by omega)]
  have wi:wrap .i64 (i+1)=i+1:=by rw[w64 (by omega) (by omega)]
  rw[wj,wi]
  match G,hg with
  | g::G,_ =>
  cases hp:p x with
  | false =>
   have hat':at? (F++(g::G++x::rest)) i=some g:=c0e (pre:=F) (rest:=G++x::rest) (by simp) hi;have hget':(F++(g::G++x::rest))[i.toNat]? = some g:=by
    rw[show i.toNat=F.length by omega];simp
   have hset:(F++(g::G++x::rest)).set i.toNat x=(F++[x])++((G++[x])++rest):=by
    rw[show i.toNat=F.length by omega,q3o _ _ (by omega)];simp
   simp only[q3c,tft,hat',hget',obs,hset];obtain ⟨G',h1,h2⟩:=ih (F++[x]) (G++[x]) f (i+1) (j+1) (by simp at hl ⊢;omega) (by simp) (by simp;omega) (by simp at hj ⊢;omega) (by simp at hf;omega);refine ⟨G',?_,?_⟩
   ·rw[h1];simp[List.filter_cons,hp]
   ·rw[<-h2];simp[List.filter_cons,hp]
  | true =>
   simp only[q2s,tff];obtain ⟨G',h1,h2⟩:=ih F (g::G++[x]) f i (j+1) (by simp at hl ⊢;omega) (by simp) hi (by simp at hj ⊢;omega) (by simp at hf;omega);simp only[q2g,List.singleton_append] at h1;refine ⟨G',?_,?_⟩
   ·rw[h1];simp[List.filter_cons,hp]
   ·rw[<-h2];simp[List.filter_cons,hp]
theorem z1r (n:Nat) (l:List Slo) (hL:l.length<=1000000):h0p (n+2) l del=some (l.filter fun x => !p x):=by
 rw[r0c,j0y];rcases k2b hd n l hL l [] a0b 0 l.length rfl rfl rfl (by unfold a0b;omega) with ⟨h1,h2⟩ | ⟨A,x,B,h1,h2,h3,h4⟩
 ·rw[h1];simp only[obs,a0t,tfd,q0z trivial];exact congrArg some (List.filter_eq_self.2 fun y hy=>by simp[h2 y hy]).symm
 ·rw[h4];have hl:l.length=A.length+(B.length+1):=by rw[h1];simp
  simp only[obs,f0r,tfd,Int.zero_add];rw[q0n (by omega),w64 (x:=(A.length:Int)+1) (by omega) (by omega)];obtain ⟨G',g1,g2⟩:=delete_l hd (n+1) l hL B A [x] a0b (A.length:Int) (A.length+1) (by rw[h1];simp) (by simp) rfl (by simp) (by unfold a0b;omega);rw[show A++([x]++B)=l by rw[h1];simp] at g1;rw[g1];have hF:A++B.filter (fun x => !p x)=l.filter fun x => !p x:=by
   rw[h1,List.filter_append,List.filter_cons];have:A.filter (fun x => !p x)=A:=List.filter_eq_self.2 fun y hy=>by simp[h2 y hy]
   simp[h3,this]
  rw[hF] at g2 ⊢;generalize (l.filter fun x => !p x)=F at *
  simp only[obs,a0t,c1z,tfd,q2i];have hle:F.length<=(F++G').length:=by simp
  have k1:putRow (F++G') F.length (List.replicate ((F++G').length-F.length) s0)=F++List.replicate ((F++G').length-F.length) s0:=by
   unfold putRow;rw[List.drop_of_length_le (by simp)];simp
  have k2:=k1;simp only[s0,z0,e0] at k2;rw[k2,q0z (by omega),q0z hle,q0z (by omega),q0z (by omega),q0z (by simp;omega)];simp
end
theorem l2g (n:Nat) (x y:Int):i0v (n+2) x y=some (if x<y then -1 else if y<x then 1 else 0):=by
 rw[t0q,m0s,m0s];simp only[decide_true,q2s,obs,tff,tfd];by_cases h1:x<y
 ·rw[q0z h1,q0z h1]
 ·rw[q0n h1,q0n h1];by_cases h2:y<x
  ·rw[q0z h2,q0z h2]
  ·rw[q0n h2,q0n h2]
theorem l2h (n:Nat):Cmp (fun y3=>s0u (n+3) y3.1 y3.2.1) (fun s=>s.1):=by
 intro x y;refine ⟨if x.1<y.1 then -1 else if y.1<x.1 then 1 else 0,?_,?_⟩
 ·show s0u (n+3) x y=_;rw[m1b,l2g];rfl
 ·by_cases h1:x.1<y.1
  ·simp[h1]
  ·by_cases h2:y.1<x.1
   ·simp[h1,h2]
   ·simp[h1,h2]
theorem e1f {l:List Slo} (h:Srt (fun s=>s.1) l 0 l.length):l.Pairwise fun a b=>a.1<=b.1:=by
 rw[List.pairwise_iff_getElem];intro i j hi hj hij;exact h i j _ _ (by omega) hij hj (q2b hi) (q2b hj)
theorem tier_all (n:Nat) {l:List Slo} {w:Int} (h:TierOk l w):m1c (n+17) l=some (tall l):=by
 have hl:=h.l1;rw[w1c,f2v _ l (by omega)];simp only[obs];rw[z1r (del:=fun y1=>q0v (n+16) y1.1) (p:=fun s=>decide (s=s0)) (fun x=>v0y (n+15) x) (n+14) l (by omega)];simp only[obs];have e:(l.filter fun x => !decide (x=s0))=g0w l:=by unfold g0w;congr 1;funext x;simp
 rw[e];have hle:(g0w l).length<=l.length:=List.length_filter_le _ _;obtain ⟨d',r1,r2,r3⟩:=m1m (l2h (n+13)) n 12 (g0w l) (by omega) (by omega);rw[r1];rw[<-r2.length_eq] at r3;rw[g2s h r2 (e1f r3)];rfl
theorem d2z (n:Nat) (out:List Slo) (s:Slo) (s8:List Slo) (s9 s10:Int) (hL:out.length<=1000000) (hs:out.Pairwise fun a b=>a.1<=b.1):∀(k f:Nat),k<=out.length->k<f->(∀x∈out.drop k,s.1<x.1) ->
  ∃k':Nat,t0d n f (out,s,(k:Int),s8,s9,s10,())=some (.inl (out,s,(k':Int),s8,s9,s10,()))/\k'<=out.length/\(∀x∈out.take k',x.1<=s.1)/\(∀x∈out.drop k',s.1<x.1):=by
 intro k;induction k with
 | zero =>
  intro f hk hf h;obtain ⟨f,rfl⟩:∃g,f=g+1:=⟨f-1,by omega⟩;rw[w0z];simp only[tfd,q0n (show ¬((0:Int)<((0:Nat):Int)) by omega)];exact ⟨0,rfl,by omega,by simp,h⟩
 | succ k ih =>
  intro f hk hf h;obtain ⟨f,rfl⟩:∃g,f=g+1:=⟨f-1,by omega⟩;rw[w0z];have lk:k<out.length:=by omega
  rw[wn (x:=((k+1:Nat):Int)-1) (k:=k) (by omega) (by omega)];simp only[tfd,q0z (show ((0:Int)<((k+1:Nat):Int)) by omega),at_some lk,q2i,q2b lk,obs];by_cases hc:s.1<out[k].1
  ·rw[q0z hc];refine ih f (by omega) (by omega) (fun x hx => ?_);rw[q2y lk] at hx;rcases q2l.1 hx with rfl | hx
   ·exact hc
   ·exact h x hx
  ·rw[q0n hc];refine ⟨k+1,rfl,hk,fun x hx => ?_,h⟩;obtain ⟨j,hj,rfl⟩:=List.mem_iff_getElem.1 hx;have hj':j<k+1:=by simp at hj;omega
   rw[List.getElem_take];rcases Nat.lt_or_eq_of_le (Nat.le_of_lt_succ hj') with hjk | rfl
   ·have:=List.pairwise_iff_getElem.1 hs j k (by omega) lk hjk;omega
   ·omega
theorem insert_sorted {out:List Slo} {s:Slo} {k:Nat} (hs:out.Pairwise fun a b=>a.1<=b.1) (h1:∀x∈out.take k,x.1<=s.1) (h2:∀x∈out.drop k,s.1<x.1) :
  (out.take k++s::out.drop k).Pairwise fun a b=>a.1<=b.1:=by
 rw[List.pairwise_append];refine ⟨hs.sublist (List.take_sublist _ _),List.pairwise_cons.2 ⟨fun x hx=>Int.le_of_lt (h2 x hx),hs.sublist (List.drop_sublist _ _)⟩,fun a ha b hb => ?_⟩;rcases q2l.1 hb with rfl | hb
 ·exact h1 a ha
 ·have:=h1 a ha;have:=h2 b hb;omega
theorem e2a (n:Nat) (l:List Slo) (hL:l.length<=1000000):∀(rest pre:List Slo) (f:Nat) (out:List Slo) (i len:Int),l=pre++rest->i=pre.length->len=l.length->rest.length<f->out.Pairwise (fun a b=>a.1<=b.1)->out.Perm (g0w pre) ->
  ∃out',n0y n f (out,l,len,i,())=some (.inl (out',()))/\out'.Pairwise (fun a b=>a.1<=b.1)/\out'.Perm (g0w l):=by
 intro rest;induction rest with
 | nil =>
  intro pre f out i len hl hi hn hf hs hp;obtain ⟨f,rfl⟩:∃g,f=g+1:=⟨f-1,by simp at hf;omega⟩;rw[x0b];rw[q2v] at hl;exact ⟨out,by simp only[tfd,q0n (idxe (pre:=pre) (by rw[hl,q2v]) hi hn)],hs,by rw[hl];exact hp⟩
 | cons x rest ih =>
  intro pre f out i len hl hi hn hf hs hp;obtain ⟨f,rfl⟩:∃g,f=g+1:=⟨f-1,by simp at hf;omega⟩;rw[x0b];have hlen:out.length<=l.length:=by
   rw[hp.length_eq,hl];have:(g0w pre).length<=pre.length:=List.length_filter_le _ _;simp;omega
  simp only[tfd,q0z (idx hl hi hn),c0e hl hi,obs,r1p];by_cases h0:x=s0
  ·rw[q0z h0,idxw hl hi (by omega)];exact ih (pre++[x]) f out (i+1) len (idxl hl) (idxs hi) hn (by simp at hf;omega) hs (by simpa [g0w,List.filter_append,h0] using hp)
  ·rw[q0n h0];obtain ⟨k,r1,r2,r3,r4⟩:=d2z n out x l len i (by omega) hs out.length a0b (q2e _) (by unfold a0b;omega) (by simp);rw[r1];have t1:(List.take ((k:Int).toNat-0) (List.drop 0 out))=out.take k:=by simp
   have t2:(List.take (out.length-(k:Int).toNat) (List.drop (k:Int).toNat out))=out.drop k:=by
    rw[q2i,List.take_of_length_le (by simp)]
   simp only[obs,a0t,c1z,tfd];rw[t1,t2,List.nil_append];have l1:(out.take k).length=k:=by simp;omega
   rw[q0z (by omega),q0z (by omega),q0z (by rw[l1];omega),q0z (by rw[l1];omega),q0z (by omega),q0z (by simp;omega),q0z (by simp;omega),idxw hl hi (by omega)];have e:out.take k++[x]++out.drop k=out.take k++x::out.drop k:=by simp
   rw[e];refine ih (pre++[x]) f _ (i+1) len (idxl hl) (idxs hi) hn (by simp at hf;omega) (insert_sorted hs r3 r4) ?_;have e2:g0w (pre++[x])=g0w pre++[x]:=by simp[g0w,List.filter_append,h0]
   rw[e2];refine (List.perm_middle).trans ?_;rw[q3b];exact (List.Perm.cons x hp).trans (List.perm_append_comm (l₁:=[x]))
theorem v0d (n:Nat) {l:List Slo} {w:Int} (h:TierOk l w):p0v (n+1) l=some (tall l):=by
 have hl:=h.l1;rw[e2d];obtain ⟨out,r1,r2,r3⟩:=e2a n l (by omega) l [] a0b [] 0 l.length rfl rfl rfl (by unfold a0b;omega) .nil (by simp[g0w]);rw[r1];simp only[obs,a0t];rw[g2s h r3 r2]
theorem ev_wf {e:Ev} (h:Wf a0s e):EvW e:=by
 obtain ⟨h1,h2,h3,_⟩:=h;exact ⟨h1,h2,h3⟩
theorem cel_wf {c:Cel} (h:Wf a0w c):CelW c:=by
 obtain ⟨h1,h2,h3,⟨h4,h5⟩,h6,h7,h8⟩:=h;exact ⟨h1,ev_wf h2,ev_wf h3,⟨h4,h5⟩,h6,h7,h8⟩
theorem slo_wf {s:Slo} (h:Wf a0d s):SloW s:=by
 obtain ⟨h1,h2⟩:=h;exact ⟨h1,cel_wf h2⟩
theorem w1o {l:List Slo} (h:Wf (.slice a0d) l):∀s∈l,SloW s:=fun s hs=>slo_wf (h.2 s hs)
theorem n1s (n:Nat) {l:List Slo} (h0:1<=l.length) (i:Int):z0h (n+2) l i=some (tget l i):=by
 rw[e2c];simp only[tfd,tfn];unfold tget;by_cases h1:i<0
 ·rw[q0z h1,q0z h1];rfl
 rw[q0n h1,q0n h1,q0n (by omega),a2n,y0y (by omega) (by omega)];have hm:=Int.emod_nonneg i (show (l.length:Int)≠0 by omega);have hm':=Int.emod_lt_of_pos i (show (0:Int)<l.length by omega);have e:at? l (i % (l.length:Int))=l[(i % (l.length:Int)).toNat]? := by
  obtain ⟨k,hk⟩:=Int.eq_ofNat_of_zero_le hm;rw[hk];exact b1k l k
 have hlt:(i % (l.length:Int)).toNat<l.length:=by omega
 simp only[obs,e,q2b hlt];by_cases h2:l[(i % (l.length:Int)).toNat].1=i
 ·rw[q0z h2,q0z h2]
 ·rw[q0n h2,q0n h2];rfl
def inW (i k:Int) (s:Slo):Bool:=decide (i<=s.1/\s.1<k)
theorem w1b (n:Nat) (i k:Int) (s6:Cel) (l:List Slo) (hL:l.length<=1000000):∀(rest pre:List Slo) (f:Nat) (cells:List Cel) (ix len:Int),l=pre++rest->ix=pre.length->len=l.length->rest.length<f->cells.length<=pre.length ->
  g0v n f (i,k,s6,cells,l,len,ix,())=some (.inl (s6,cells++(rest.filter (inW i k)).map (·.2),())):=by
 intro rest;induction rest with
 | nil =>
  intro pre f cells ix len hl hi hn hf hc;obtain ⟨f,rfl⟩:∃g,f=g+1:=⟨f-1,by simp at hf;omega⟩;rw[q0x];simp only[tfd,q0n (idxe hl hi hn),List.filter_nil,List.map_nil,q2v]
 | cons x rest ih =>
  intro pre f cells ix len hl hi hn hf hc;obtain ⟨f,rfl⟩:∃g,f=g+1:=⟨f-1,by simp at hf;omega⟩;rw[q0x];have hp:pre.length+1<=l.length:=by have:=congrArg List.length hl;simp at this;omega
  simp only[tfd,q0z (idx hl hi hn),c0e hl hi,obs,idxw hl hi (by omega)];by_cases h1:i<=x.1
  ·rw[q0z h1];by_cases h2:x.1<k
   ·rw[q0z h2,q0z (by omega),ih (pre++[x]) f _ (ix+1) len (idxl hl) (idxs hi) hn (by simp at hf;omega) (by simp;omega)];have:inW i k x=true:=by simp[inW,h1,h2]
    rw[List.filter_cons_of_pos this];simp
   ·rw[q0n h2,ih (pre++[x]) f _ (ix+1) len (idxl hl) (idxs hi) hn (by simp at hf;omega) (by simp;omega)];rw[List.filter_cons_of_neg (by simp[inW,h2])]
  ·rw[q0n h1,ih (pre++[x]) f _ (ix+1) len (idxl hl) (idxs hi) hn (by simp at hf;omega) (by simp;omega)];rw[List.filter_cons_of_neg (by simp[inW,h1])]
theorem a2c {l:List Slo} {w:Int} (h:TierOk l w) (i k:Int):∀c∈within l i k,CellN c:=by
 intro c hc;simp only[within,q3g,q3l] at hc;obtain ⟨s,⟨hs,_⟩,rfl⟩:=hc;exact (l0i h hs).1.n
theorem s0v {l:List Slo}:(tall l).length<=l.length:=by
 rw[(w0b l).length_eq];exact List.length_filter_le _ _
theorem j1v (l:List Slo) (i k:Int):(within l i k).length<=l.length:=by
 unfold within;rw[List.length_map];exact Nat.le_trans (List.length_filter_le _ _) s0v
theorem q0w (n:Nat) {l:List Slo} {w:Int} (h:TierOk l w) (i k:Int):l0g (n+18) l i k=some (g0m l i k):=by
 have l1:=h.l1;have ht:=s0v (l:=l);rw[r1b];simp only[tfd];unfold g0m;by_cases h1:i<0
 ·rw[q0z h1,q0z (.inl h1)];rfl
 by_cases h2:k<i
 ·rw[q0n h1,q0z h2,q0z (.inr h2)];rfl
 rw[q0n h1,q0n h2,q0n (by omega),tier_all n h];simp only[obs];rw[w1b (n+17) i k _ (tall l) (by omega) (tall l) [] a0b [] 0 _ rfl rfl rfl (by unfold a0b;omega) (by simp)];simp only[obs,a0t,List.nil_append];have e:List.map (·.2) (List.filter (inW i k) (tall l))=within l i k:=rfl;rw[e,cell_all (n+10) _ (by have:=j1v l i k;omega) (fun c hc => .ofN (a2c h i k c hc))];rfl
theorem d2y (n:Nat) (i k:Int) (s6:Cel) (l0:List Slo) (hl0:1<=l0.length) (l:List Slo) (hL:l.length<=1000000) (hg:∀s∈l,tget l0 s.1=s.2):∀(rest pre:List Slo) (f:Nat) (cells:List Cel) (ix len:Int),l=pre++rest->ix=pre.length->len=l.length->rest.length<f->cells.length<=pre.length ->
  g0t (n+2) f (l0,i,k,s6,cells,l,len,ix,())=some (.inl (s6,cells++(rest.filter (inW i k)).map (·.2),())):=by
 intro rest;induction rest with
 | nil =>
  intro pre f cells ix len hl hi hn hf hc;obtain ⟨f,rfl⟩:∃g,f=g+1:=⟨f-1,by simp at hf;omega⟩;rw[u0f];simp only[tfd,q0n (idxe hl hi hn),List.filter_nil,List.map_nil,q2v]
 | cons x rest ih =>
  intro pre f cells ix len hl hi hn hf hc;obtain ⟨f,rfl⟩:∃g,f=g+1:=⟨f-1,by simp at hf;omega⟩;rw[u0f];have hp:pre.length+1<=l.length:=by have:=congrArg List.length hl;simp at this;omega
  have hx:=hg x (by rw[hl];simp);simp only[tfd,q0z (idx hl hi hn),c0e hl hi,obs,idxw hl hi (by omega),n1s n hl0,hx,celEq];by_cases h1:i<=x.1
  ·rw[q0z h1];by_cases h2:x.1<k
   ·rw[q0z h2,q0z trivial,q0z (by omega),ih (pre++[x]) f _ (ix+1) len (idxl hl) (idxs hi) hn (by simp at hf;omega) (by simp;omega)];have:inW i k x=true:=by simp[inW,h1,h2]
    rw[List.filter_cons_of_pos this];simp
   ·rw[q0n h2,ih (pre++[x]) f _ (ix+1) len (idxl hl) (idxs hi) hn (by simp at hf;omega) (by simp;omega)];rw[List.filter_cons_of_neg (by simp[inW,h2])]
  ·rw[q0n h1,ih (pre++[x]) f _ (ix+1) len (idxl hl) (idxs hi) hn (by simp at hf;omega) (by simp;omega)];rw[List.filter_cons_of_neg (by simp[inW,h1])]
theorem w0x (n:Nat) {l:List Slo} {w:Int} (h:TierOk l w) (i k:Int):p0u (n+7) l i k=some (g0m l i k):=by
 have l1:=h.l1;have ht:=s0v (l:=l);rw[x1q];simp only[tfd];unfold g0m;by_cases h1:i<0
 ·rw[q0z h1,q0z (.inl h1)];rfl
 by_cases h2:k<i
 ·rw[q0n h1,q0z h2,q0z (.inr h2)];rfl
 rw[q0n h1,q0n h2,q0n (by omega),v0d _ h];simp only[obs];rw[d2y (n+4) i k _ l h.l0 (tall l) (by omega) (fun s hs=>tget_mem h hs) (tall l) [] a0b [] 0 _ rfl rfl rfl (by unfold a0b;omega) (by simp)];simp only[obs,a0t,List.nil_append];have e:List.map (·.2) (List.filter (inW i k) (tall l))=within l i k:=rfl;rw[e,r08_all n _ (by have:=j1v l i k;omega) (fun c hc => .ofN (a2c h i k c hc))];rfl
theorem slow_s0:SloW s0:=⟨by simp[I64,s0],v0o⟩
theorem m1d {l:List Slo} {w:Int} (h:TierOk l w):∀s∈l,SloW s:=by
 intro s hs;obtain ⟨j,hj⟩:=List.getElem?_of_mem hs;rcases h.s j s hj with rfl | ⟨_,hf⟩
 ·exact slow_s0
 ·have:=hf.i0;exact ⟨by unfold I64;omega,.ofN hf.n⟩
theorem k1r {e:Ev} (h:EvOk e) {w:Int} (hw:1<=w):wrap .i64 (Int.tdiv e.1 w)=e.1 / w:=by
 have h0:=h.t0;have h1:=h.t1;have:0<=e.1 / w:=Int.ediv_nonneg h0 (by omega);have:e.1 / w<=e.1:=Int.ediv_le_self _ h0;rw[i0k h0,w64 (by omega) (by omega)]
end Go.Proofs.YteopnkdnglpbfaaGreatDoor

namespace Go.Plim
set_option linter.unusedVariables false
def rng (w:Int) (l:List Ev) (i k:Int):List Ev:=l.filter fun e=>decide (i<=e.1 / w/\e.1 / w<k)
def win (w:Int) (l:List Ev) (i:Int):List Ev:=l.filter fun e=>decide (e.1 / w=i)
theorem tall_N {l:List Slo} {w:Int} (h:TierOk l w) {s:Slo} (hs:s∈tall l):CellN s.2:=(l0i h hs).1.n
structure TierInv (t:List Slo) (w:Int) (l:List Ev):Prop where
 ok:TierOk t w
 cells:∀s∈tall t,s.2=cellOf (win w l s.1)
 kept:∀i,(∃e∈l,e.1 / w=i)->(∀e∈l,e.1 / w<i+(t.length:Int))->(i,cellOf (win w l i))∈tall t
end Go.Plim

namespace Go.Proofs.YteopnkdnglpbfaaGreatDoor
open Go.Flat
abbrev Conf:=Int×((Int×(Int×Int))×((Int×(Int×Int))×(Int×Int)))
def prt (n e:Int):Int:=(n+e-1) / e
def plc (c:Conf):Int:=1+prt c.1 16+prt c.2.2.1.1 4+prt c.2.2.1.2.1 4+prt c.2.2.1.2.2 4
structure Rng (c:Conf):Prop where
 raw:1<=c.1/\c.1<=4096
 cap:1<=c.2.2.2.1/\c.2.2.2.1<=65536
 log:1<=c.2.2.2.2/\c.2.2.2.2<=8192
 w0:1<=c.2.1.1/\c.2.1.1<=1099511627776
 w1:1<=c.2.1.2.1/\c.2.1.2.1<=1099511627776
 w2:1<=c.2.1.2.2/\c.2.1.2.2<=1099511627776
 n0:1<=c.2.2.1.1/\c.2.2.1.1<=4096
 n1:1<=c.2.2.1.2.1/\c.2.2.1.2.1<=4096
 n2:1<=c.2.2.1.2.2/\c.2.2.1.2.2<=4096
structure OkC (c:Conf):Prop where
 rng:Rng c
 m1:c.2.1.2.1 % c.2.1.1=0
 d1:c.2.1.2.1 / c.2.1.1<=c.2.2.1.1
 m2:c.2.1.2.2 % c.2.1.2.1=0
 d2:c.2.1.2.2 / c.2.1.2.1<=c.2.2.1.2.1
 pl:plc c<c.2.2.2.2
theorem x0r (n:Nat) (x e:Int) (he:1<=e) (he':e<=1000) (hx:0<=x) (hx':x<=1000000000):k0y (n+1) x e=some (prt x e):=by
 rw[p1y];have h1:¬(e=0):=by omega
 simp only[tfd,q0n h1];rw[w64 (x:=x+e) (by omega) (by omega),w64 (x:=x+e-1) (by omega) (by omega),i0k (by omega)];have h2:0<=(x+e-1) / e:=Int.ediv_nonneg (by omega) (by omega);have h3:(x+e-1) / e<=x+e-1:=Int.ediv_le_self _ (by omega);rw[w64 (by omega) (by omega)];rfl
theorem prt_step (x e:Int) (he:1<=e):prt x e=1+prt (x-e) e:=by
 unfold prt;rw[show x+e-1=(x-e+e-1)+1*e by omega,Int.add_mul_ediv_right _ _ (by omega)];omega
theorem a2s (x e:Int) (h1 : -e<x) (hx:x<=0):prt x e=0:=Int.ediv_eq_zero_of_lt (by omega) (by omega)
theorem g1c (n:Nat) (e:Int) (he:1<=e) (he':e<=1000):∀(m f:Nat) (x k:Int),x<=m -> -e<x->m<f->0<=k->k+m<=1000000000->m<=1000000000->m0n n f (x,e,k,())=some (.inl (k+prt x e,())):=by
 intro m;induction m with
 | zero =>
  intro f x k hx hx' hf hk hkm hm;obtain ⟨f,rfl⟩:∃g,f=g+1:=⟨f-1,by omega⟩;rw[r0v];have h1:¬((0:Int)<x):=by omega
  simp only[tfd,q0n h1];rw[a2s x e hx' (by omega),Int.add_zero]
 | succ m ih =>
  intro f x k hx hx' hf hk hkm hm;obtain ⟨f,rfl⟩:∃g,f=g+1:=⟨f-1,by omega⟩;rw[r0v];by_cases h1:(0:Int)<x
  ·simp only[tfd,q0z h1];rw[w64 (x:=x-e) (by omega) (by omega),w64 (x:=k+1) (by omega) (by omega),ih f (x-e) (k+1) (by omega) (by omega) (by omega) (by omega) (by omega) (by omega),prt_step x e he];congr 3;omega
  ·simp only[tfd,q0n h1];rw[a2s x e hx' (by omega),Int.add_zero]
theorem k0h (n:Nat) (x e:Int) (he:1<=e) (he':e<=1000) (hx:0<=x) (hx':x<=100000000):n0z (n+1) x e=some (prt x e):=by
 rw[s1p,g1c n e he he' x.toNat a0b x 0 (by omega) (by omega) (by unfold a0b;omega) (by omega) (by omega) (by omega)];simp
theorem f0f {x e:Int} (he:1<=e) (hx:0<=x):0<=prt x e/\prt x e<=x:=by
 unfold prt;refine ⟨Int.ediv_nonneg (by omega) (by omega),?_⟩;have:x+e-1<(x+1)*e:=by
  have:=Int.mul_le_mul_of_nonneg_left he (show 0<=x by omega);rw[Int.add_mul];omega
 have:=Int.ediv_lt_of_lt_mul (by omega) this;omega
theorem plc_range {c:Conf} (h:Rng c):1<=plc c/\plc c<=20000:=by
 have a:=f0f (x:=c.1) (e:=16) (by omega) (by have:=h.raw;omega);have b:=f0f (x:=c.2.2.1.1) (e:=4) (by omega) (by have:=h.n0;omega);have d:=f0f (x:=c.2.2.1.2.1) (e:=4) (by omega) (by have:=h.n1;omega);have f:=f0f (x:=c.2.2.1.2.2) (e:=4) (by omega) (by have:=h.n2;omega);have:=h.raw;have:=h.n0;have:=h.n1;have:=h.n2;unfold plc;omega
theorem t1l (n:Nat) {c:Conf} (h:Rng c):k0x (n+2) c=some (plc c):=by
 have h0:=h.raw;have h1:=h.n0;have h2:=h.n1;have h3:=h.n2;rw[p1x,x0r n _ 16 (by omega) (by omega) (by omega) (by omega),x0r n _ 4 (by omega) (by omega) (by omega) (by omega),x0r n _ 4 (by omega) (by omega) (by omega) (by omega),x0r n _ 4 (by omega) (by omega) (by omega) (by omega)];simp only[obs];have a:=f0f (x:=c.1) (e:=16) (by omega) (by omega);have b:=f0f (x:=c.2.2.1.1) (e:=4) (by omega) (by omega);have d:=f0f (x:=c.2.2.1.2.1) (e:=4) (by omega) (by omega);have f:=f0f (x:=c.2.2.1.2.2) (e:=4) (by omega) (by omega)
 rw[w64 (x:=1+_) (by omega) (by omega),w64 (x:=1+_+_) (by omega) (by omega),w64 (x:=1+_+_+_) (by omega) (by omega),w64 (by omega) (by omega)];rfl
theorem x0c (n:Nat) {c:Conf} (h:Rng c):d1w (n+2) c=some (plc c):=by
 have h0:=h.raw;have h1:=h.n0;have h2:=h.n1;have h3:=h.n2;rw[s1o,k0h n _ 16 (by omega) (by omega) (by omega) (by omega),k0h n _ 4 (by omega) (by omega) (by omega) (by omega),k0h n _ 4 (by omega) (by omega) (by omega) (by omega),k0h n _ 4 (by omega) (by omega) (by omega) (by omega)];simp only[obs];have a:=f0f (x:=c.1) (e:=16) (by omega) (by omega);have b:=f0f (x:=c.2.2.1.1) (e:=4) (by omega) (by omega);have d:=f0f (x:=c.2.2.1.2.1) (e:=4) (by omega) (by omega);have f:=f0f (x:=c.2.2.1.2.2) (e:=4) (by omega) (by omega)
 rw[w64 (x:=1+_) (by omega) (by omega),w64 (x:=1+_+_) (by omega) (by omega),w64 (x:=1+_+_+_) (by omega) (by omega),w64 (by omega) (by omega)];rfl
theorem in_int (n:Nat) (x a b:Int):f0w (n+1) x a b=some (decide (a<=x/\x<=b)):=by
 rw[j1r];by_cases h1:a<=x<;>by_cases h2:x<=b<;>simp[h1,h2]
theorem b2k (n:Nat) (x a b:Int):i0d (n+1) x a b=some (decide (a<=x/\x<=b)):=by
 rw[b1v];by_cases h1:a<=x<;>by_cases h2:x<=b<;>simp[h1,h2]
theorem b1t {a b:Int} (ha:1<=a/\a<=1099511627776) (hb:1<=b):wrap .i64 (Int.tdiv a b)=a / b:=by
 rw[i0k (by omega)];have h2:0<=a / b:=Int.ediv_nonneg (by omega) (by omega);have h3:a / b<=a:=Int.ediv_le_self _ (by omega);rw[w64 (by omega) (by omega)]
theorem check_ok (n:Nat) {c:Conf} (h:OkC c):i0u (n+3) c=some 0:=by
 obtain ⟨hr,m1,d1,m2,d2,pl⟩:=h;have hp:=t1l n hr;obtain ⟨raw,cap,log,w0,w1,w2,n0,n1,n2⟩:=hr;rw[y0l];simp only[in_int,b2k,obs,tfd,q0z raw,q0z cap,q0z log,q0z w0,q0z w1,q0z w2,q0z n0,q0z n1,q0z n2];have z0:¬(c.2.1.1=0):=by omega
 have z1:¬(c.2.1.2.1=0):=by omega
 rw[b1t w1 w0.1,b1t w2 w1.1,e0w (a:=c.2.1.2.1) (by omega),e0w (a:=c.2.1.2.2) (by omega)];have l:¬(c.2.2.2.2<=plc c):=by omega
 simp only[q0n z0,q0n z1,q0z m1,q0z d1,q0z m2,q0z d2,tfn,tfd,hp,obs,q0n l]
theorem check_no (n:Nat) {c:Conf} (h:¬OkC c):i0u (n+3) c=some 2:=by
 rw[y0l];simp only[in_int,b2k,obs,tfd,tfn];by_cases raw:1<=c.1/\c.1<=4096
 case neg=>rw[q0n raw]
 rw[q0z raw];by_cases cap:1<=c.2.2.2.1/\c.2.2.2.1<=65536
 case neg=>rw[q0n cap]
 rw[q0z cap];by_cases log:1<=c.2.2.2.2/\c.2.2.2.2<=8192
 case neg=>rw[q0n log]
 rw[q0z log];by_cases w0:1<=c.2.1.1/\c.2.1.1<=1099511627776
 case neg=>rw[q0n w0]
 rw[q0z w0];by_cases n0:1<=c.2.2.1.1/\c.2.2.1.1<=4096
 case neg=>rw[q0n n0]
 rw[q0z n0];by_cases w1:1<=c.2.1.2.1/\c.2.1.2.1<=1099511627776
 case neg=>rw[q0n w1]
 rw[q0z w1];by_cases n1:1<=c.2.2.1.2.1/\c.2.2.1.2.1<=4096
 case neg=>rw[q0n n1]
 rw[q0z n1];by_cases w2:1<=c.2.1.2.2/\c.2.1.2.2<=1099511627776
 case neg=>rw[q0n w2]
 rw[q0z w2];by_cases n2:1<=c.2.2.1.2.2/\c.2.2.1.2.2<=4096
 case neg=>rw[q0n n2,q0n n2]
 rw[q0z n2];have hr:Rng c:=⟨raw,cap,log,w0,w1,w2,n0,n1,n2⟩;have hp:=t1l n hr;have z0:¬(c.2.1.1=0):=by omega
 have z1:¬(c.2.1.2.1=0):=by omega
 rw[b1t w1 w0.1,b1t w2 w1.1,e0w (a:=c.2.1.2.1) (by omega),e0w (a:=c.2.1.2.2) (by omega)];rw[q0n z0,q0n z0];by_cases m1:c.2.1.2.1 % c.2.1.1=0
 case neg=>rw[q0n m1]
 rw[q0z m1];by_cases d1:c.2.1.2.1 / c.2.1.1<=c.2.2.1.1
 case neg=>rw[q0n d1,q0n d1]
 rw[q0z d1,q0n z1,q0n z1];by_cases m2:c.2.1.2.2 % c.2.1.2.1=0
 case neg=>rw[q0n m2]
 rw[q0z m2];by_cases d2:c.2.1.2.2 / c.2.1.2.1<=c.2.2.1.2.1
 case neg=>rw[q0n d2,q0n d2]
 rw[q0z d2,q0z d2,hp];simp only[obs];by_cases pl:c.2.2.2.2<=plc c
 ·rw[q0z pl]
 ·exact absurd ⟨hr,m1,d1,m2,d2,by omega⟩ h
theorem s1q (n:Nat) {c:Conf} (h:OkC c):h0w (n+3) c=some 0:=by
 obtain ⟨hr,m1,d1,m2,d2,pl⟩:=h;have hp:=x0c n hr;obtain ⟨raw,cap,log,w0,w1,w2,n0,n1,n2⟩:=hr;rw[a1u];rw[b1t w1 w0.1,b1t w2 w1.1,e0w (a:=c.2.1.2.1) (by omega),e0w (a:=c.2.1.2.2) (by omega)];have l:¬(c.2.2.2.2<=plc c):=by omega
 simp only[tfd,tfn,hp,obs];rw[q0n (by omega),q0n (by omega),q0n (by omega),q0n (by omega),q0n (by omega),q0n (by omega),q0n (by omega),q0n (by omega),q0n (by omega),q0n (by omega),q0n (by omega),q0n (by omega),q0n (by omega),q0n (by omega),q0n (by omega)];rw[q0z m1,q0n (by omega),q0n (by omega),q0n (by omega),q0n (by omega),q0n (by omega),q0n (by omega),q0n (by omega)];rw[q0z m2,q0n (by omega),q0n (by omega),q0n l]
theorem s1r (n:Nat) {c:Conf} (h:¬OkC c):h0w (n+3) c=some 2:=by
 rw[a1u];simp only[tfd,tfn];by_cases raw:1<=c.1/\c.1<=4096
 case neg =>
  by_cases z:c.1<1
  ·rw[q0z z]
  ·rw[q0n z,q0z (by omega)]
 rw[q0n (by omega),q0n (by omega)];by_cases cap:1<=c.2.2.2.1/\c.2.2.2.1<=65536
 case neg =>
  by_cases z:c.2.2.2.1<1
  ·rw[q0z z]
  ·rw[q0n z,q0z (by omega)]
 rw[q0n (by omega),q0n (by omega)];by_cases log:1<=c.2.2.2.2/\c.2.2.2.2<=8192
 case neg =>
  by_cases z:c.2.2.2.2<1
  ·rw[q0z z]
  ·rw[q0n z,q0z (by omega)]
 rw[q0n (by omega),q0n (by omega)];by_cases w0:1<=c.2.1.1/\c.2.1.1<=1099511627776
 case neg =>
  by_cases z:c.2.1.1<1
  ·rw[q0z z]
  ·rw[q0n z,q0z (by omega)]
 rw[q0n (by omega),q0n (by omega)];by_cases n0:1<=c.2.2.1.1/\c.2.2.1.1<=4096
 case neg =>
  by_cases z:c.2.2.1.1<1
  ·rw[q0z z]
  ·rw[q0n z,q0z (by omega)]
 rw[q0n (by omega),q0n (by omega)];by_cases w1:1<=c.2.1.2.1/\c.2.1.2.1<=1099511627776
 case neg =>
  by_cases z:c.2.1.2.1<1
  ·rw[q0z z]
  ·rw[q0n z,q0z (by omega)]
 rw[q0n (by omega),q0n (by omega)];by_cases n1:1<=c.2.2.1.2.1/\c.2.2.1.2.1<=4096
 case neg =>
  by_cases z:c.2.2.1.2.1<1
  ·rw[q0z z]
  ·rw[q0n z,q0z (by omega)]
 rw[q0n (by omega),q0n (by omega),q0n (by omega)];rw[e0w (a:=c.2.1.2.1) (by omega),b1t w1 w0.1];by_cases m1:c.2.1.2.1 % c.2.1.1=0
 case neg=>rw[q0n m1]
 rw[q0z m1,q0n (by omega)];by_cases d1:c.2.1.2.1 / c.2.1.1<=c.2.2.1.1
 case neg=>rw[q0z (by omega)]
 rw[q0n (by omega)];by_cases w2:1<=c.2.1.2.2/\c.2.1.2.2<=1099511627776
 case neg =>
  by_cases z:c.2.1.2.2<1
  ·rw[q0z z]
  ·rw[q0n z,q0z (by omega)]
 rw[q0n (by omega),q0n (by omega)];by_cases n2:1<=c.2.2.1.2.2/\c.2.2.1.2.2<=4096
 case neg =>
  by_cases z:c.2.2.1.2.2<1
  ·rw[q0z z]
  ·rw[q0n z,q0z (by omega)]
 rw[q0n (by omega),q0n (by omega),q0n (by omega)];rw[e0w (a:=c.2.1.2.2) (by omega),b1t w2 w1.1];by_cases m2:c.2.1.2.2 % c.2.1.2.1=0
 case neg=>rw[q0n m2]
 rw[q0z m2,q0n (by omega)];by_cases d2:c.2.1.2.2 / c.2.1.2.1<=c.2.2.1.2.1
 case neg=>rw[q0z (by omega)]
 rw[q0n (by omega)];have hr:Rng c:=⟨raw,cap,log,w0,w1,w2,n0,n1,n2⟩;rw[x0c n hr];simp only[obs];by_cases pl:c.2.2.2.2<=plc c
 ·rw[q0z pl]
 ·exact absurd ⟨hr,m1,d1,m2,d2,by omega⟩ h
end Go.Proofs.YteopnkdnglpbfaaGreatDoor
namespace Go.Proofs.YteopnkdnglpbfaaGreatDoor
open Go.Flat Go.Plim
set_option linter.unusedVariables false
abbrev Trs:=List Slo×(List Slo×List Slo)
noncomputable instance (c:Conf):Decidable (OkC c):=Classical.propDecidable _
structure FoldOk (c:Conf) (s:Trs):Prop where
 cok:OkC c
 n0:(s.1.length:Int)=c.2.2.1.1
 n1:(s.2.1.length:Int)=c.2.2.1.2.1
 n2:(s.2.2.length:Int)=c.2.2.1.2.2
 t0:TierOk s.1 c.2.1.1
 t1:TierOk s.2.1 c.2.1.2.1
 t2:TierOk s.2.2 c.2.1.2.2
noncomputable instance (c:Conf) (s:Trs):Decidable (FoldOk c s):=Classical.propDecidable _
def mk1 (c:Conf) (s:Trs) (i:Int):Cel×Int:=g0m s.1 (i*(c.2.1.2.1 / c.2.1.1)) ((i+1)*(c.2.1.2.1 / c.2.1.1))
theorem e2x {a w m:Int} (hw:1<=w) (h:a<=m / w):a*w<=m :=
 Int.le_trans (Int.mul_le_mul_of_nonneg_right h (by omega)) (Int.ediv_mul_le m (by omega))
def Begins (w i:Int):Prop:=0<=i/\i<=35184372088831 / w
theorem Begins.mul {w i:Int} (hw:1<=w) (h:Begins w i):0<=i*w/\i*w<=35184372088831:=⟨Int.mul_nonneg h.1 (by omega),e2x hw h.2⟩
end Go.Proofs.YteopnkdnglpbfaaGreatDoor
namespace Go.Proofs.YteopnkdnglpbfaaGreatDoor
open Go.Flat Go.Plim
set_option linter.unusedVariables false
set_option linter.unusedSimpArgs false
structure TrsW (s:Trs):Prop where
 a:∀x∈s.1,SloW x
 b:∀x∈s.2.1,SloW x
 c:∀x∈s.2.2,SloW x
theorem FoldOk.w {c:Conf} {s:Trs} (h:FoldOk c s):TrsW s:=⟨m1d h.t0,m1d h.t1,m1d h.t2⟩
theorem a1d (n:Nat) (c:Conf):i0u (n+3) c=some (if OkC c then 0 else 2):=by
 by_cases h:OkC c
 ·rw[q0z h,check_ok n h]
 ·rw[q0n h,check_no n h]
theorem o0a (n:Nat) (c:Conf):h0w (n+3) c=some (if OkC c then 0 else 2):=by
 by_cases h:OkC c
 ·rw[q0z h,s1q n h]
 ·rw[q0n h,s1r n h]
theorem p1f (n:Nat) (c:Conf) {s:Trs} (hw:TrsW s):e1s (n+8) c s=some (if FoldOk c s then (some (c,s),0) else (none,2)):=by
 rw[u1v,a1d (n+4),y0t n _ _ hw.a,y0t n _ _ hw.b,y0t n _ _ hw.c];simp only[obs,tfn,tfd];by_cases h0:OkC c
 case neg=>rw[q0n (mt (z02 _).1 h0),q0n h0,q0n (fun k:FoldOk c s=>h0 k.cok)]
 rw[q0z ((z02 _).2 h0)];by_cases h1:(s.1.length:Int)=c.2.2.1.1
 case neg=>rw[q0n h1,q0n (fun k:FoldOk c s=>h1 k.n0)]
 rw[q0z h1];by_cases h2:TierOk s.1 c.2.1.1
 case neg=>rw[q0n (mt (z02 _).1 h2),q0n (fun k:FoldOk c s=>h2 k.t0)]
 rw[q0z ((z02 _).2 h2)];by_cases h3:(s.2.1.length:Int)=c.2.2.1.2.1
 case neg=>rw[q0n h3,q0n (fun k:FoldOk c s=>h3 k.n1)]
 rw[q0z h3];by_cases h4:TierOk s.2.1 c.2.1.2.1
 case neg=>rw[q0n (mt (z02 _).1 h4),q0n (fun k:FoldOk c s=>h4 k.t1)]
 rw[q0z ((z02 _).2 h4)];by_cases h5:(s.2.2.length:Int)=c.2.2.1.2.2
 case neg=>rw[q0n h5,q0n (fun k:FoldOk c s=>h5 k.n2)]
 rw[q0z h5];by_cases h6:TierOk s.2.2 c.2.1.2.2
 case neg=>rw[q0n (mt (z02 _).1 h6),q0n (fun k:FoldOk c s=>h6 k.t2)]
 rw[q0z ((z02 _).2 h6),q0z (⟨h0,h1,h3,h5,h2,h4,h6⟩:FoldOk c s)]
theorem i2c (n:Nat) (c:Conf) {s:Trs} (hw:TrsW s):d1r (n+7) c s=some (if FoldOk c s then 0 else 2):=by
 rw[s1l,o0a (n+3),d1s n _ _ hw.a,d1s n _ _ hw.b,d1s n _ _ hw.c];simp only[obs,tfn,tfd];by_cases h0:OkC c
 case neg=>rw[q0n (mt (z02 _).1 h0),q0n (fun k:FoldOk c s=>h0 k.cok)]
 rw[q0z ((z02 _).2 h0)];by_cases h1:(s.1.length:Int)=c.2.2.1.1
 case neg=>rw[q0n h1,q0n (fun k:FoldOk c s=>h1 k.n0)]
 rw[q0z h1];by_cases h2:TierOk s.1 c.2.1.1
 case neg=>rw[q0n (mt (z02 _).1 h2),q0n (fun k:FoldOk c s=>h2 k.t0)]
 rw[q0z ((z02 _).2 h2)];by_cases h3:(s.2.1.length:Int)=c.2.2.1.2.1
 case neg=>rw[q0n h3,q0n (fun k:FoldOk c s=>h3 k.n1)]
 rw[q0z h3];by_cases h4:TierOk s.2.1 c.2.1.2.1
 case neg=>rw[q0n (mt (z02 _).1 h4),q0n (fun k:FoldOk c s=>h4 k.t1)]
 rw[q0z ((z02 _).2 h4)];by_cases h5:(s.2.2.length:Int)=c.2.2.1.2.2
 case neg=>rw[q0n h5,q0n (fun k:FoldOk c s=>h5 k.n2)]
 rw[q0z h5];by_cases h6:TierOk s.2.2 c.2.1.2.2
 case neg=>rw[q0n (mt (z02 _).1 h6),q0n (fun k:FoldOk c s=>h6 k.t2)]
 rw[q0z ((z02 _).2 h6),q0z (⟨h0,h1,h3,h5,h2,h4,h6⟩:FoldOk c s)]
theorem f2k (n:Nat) (c:Conf) {s:Trs} (hw:TrsW s):z0z (n+9) c s=some (if FoldOk c s then 0 else 2):=by
 rw[p1g,p1f n c hw];by_cases h:FoldOk c s
 ·rw[q0z h,q0z h];rfl
 ·rw[q0n h,q0n h];rfl
noncomputable def emp (c:Conf):Trs:=if OkC c then (List.replicate c.2.2.1.1.toNat s0,(List.replicate c.2.2.1.2.1.toNat s0,List.replicate c.2.2.1.2.2.toNat s0)) else ([],([],[]))
theorem allE_okc (l:List Cel):∀c,c0g c->c0g (allE c l).1:=by
 induction l with
 | nil=>intro c h;exact h
 | cons x l ih =>
  intro c h;simp only[allE];split
  ·rename_i k;exact ih _ (j2e k).2.2.2.2
  ·exact x0t
theorem w0a (l:List Slo) (i k:Int):c0g (g0m l i k).1:=by
 unfold g0m;split
 ·exact x0t
 ·exact allE_okc _ _ x0t
theorem x1w (n:Nat) {c:Conf} (h:OkC c):o0b (n+4) c 1=some (c.2.1.2.1 / c.2.1.1):=by
 have hr:=h.rng;rw[x0d,o0a n c,q0z h];rw[show wrap .i64 ((1:Int)-1)=0 from rfl];simp only[obs,decide_true,q2s,tff];rw[show (decide ((1:Int)<1))=false from rfl,tff,show (decide ((2:Int)<1))=false from rfl,tff,show (decide ((1:Int)=0))=false from rfl,tff];simp only[tft,tfd,q0n (show ¬(c.2.1.1=0) by have:=hr.w0;omega),b1t hr.w1 hr.w0.1]
theorem x1v (n:Nat) {c:Conf} (h:OkC c):o0b (n+4) c 2=some (c.2.1.2.2 / c.2.1.2.1):=by
 have hr:=h.rng;rw[x0d,o0a n c,q0z h];rw[show wrap .i64 ((2:Int)-1)=1 from rfl];simp only[obs,decide_true,q2s,tff];rw[show (decide ((2:Int)<1))=false from rfl,tff,show (decide ((2:Int)<2))=false from rfl,tff,show (decide ((2:Int)=0))=false from rfl,tff,show (decide ((2:Int)=1))=false from rfl,tff,show (decide ((1:Int)=0))=false from rfl,tff];simp only[decide_true,tft,tfd,q0n (show ¬(c.2.1.2.1=0) by have:=hr.w1;omega),b1t hr.w2 hr.w1.1]
theorem FoldOk.lens {c:Conf} {s:Trs} (h:FoldOk c s):s.1.length<=1000000/\s.2.1.length<=1000000/\s.2.2.length<=1000000:=by
 have:=h.t0.l1;have:=h.t1.l1;have:=h.t2.l1;omega
theorem trs_wf {s:Trs} (h:Wf (.wrap (.pair (.slice a0d) (.pair (.slice a0d) (.slice a0d)))) s):TrsW s:=by
 obtain ⟨h1,h2,h3⟩:=h;exact ⟨w1o h1,w1o h2,w1o h3⟩
abbrev Ser:=List Lab×(Int×(Rw×(Trs×Slo)))
structure SerW (s:Ser):Prop where
 last:I64 s.2.1
 raw:RawW s.2.2.1
 trs:TrsW s.2.2.2.1
 opn:SloW s.2.2.2.2
def b0i (l:List Slo) (i:Int):Prop:=∀s∈l,0<s.2.1->s.1<i
noncomputable instance (l i):Decidable (b0i l i):=Classical.propDecidable _
structure Fresh (s:Ser):Prop where
 raw:s.2.2.1.2.2=[]
 opn:s.2.2.2.2=s0
 b0:b0i s.2.2.2.1.1 0
 b1:b0i s.2.2.2.1.2.1 0
 b2:b0i s.2.2.2.1.2.2 0
structure EndsP (c:Conf) (s:Ser):Prop where
 last:∃e,s.2.2.1.2.2.getLast? = some e/\e.1=s.2.1
 ol:s.2.2.2.2.2.2.2.1.1=s.2.1
 fit:FitsP s.2.2.2.2.2 c.2.1.1 s.2.2.2.2.1
 b0:b0i s.2.2.2.1.1 (s.2.1 / c.2.1.1)
 b1:b0i s.2.2.2.1.2.1 (s.2.1 / c.2.1.2.1)
 b2:b0i s.2.2.2.1.2.2 (s.2.1 / c.2.1.2.2)
structure SerOk (c:Conf) (s:Ser):Prop where
 fold:FoldOk c s.2.2.2.1
 lab:LabOk s.1
 raw:RawOk s.2.2.1 c.1
 st:(s.2.1 = -1/\Fresh s)\/(s.2.1 ≠ -1/\EndsP c s)
noncomputable instance (s):Decidable (Fresh s):=Classical.propDecidable _
noncomputable instance (c s):Decidable (EndsP c s):=Classical.propDecidable _
noncomputable instance (c s):Decidable (SerOk c s):=Classical.propDecidable _
theorem p1v (n:Nat) {del:a0c×Unit->Option Bool} {p:Slo->Bool} (hd:∀x,del (x,())=some (p x)) (l:List Slo) (hL:l.length<=1000000):g0k (n+2) l del=some (l.any p):=by
 rw[p0j,j0y];rcases k2b hd n l hL l [] a0b 0 l.length rfl rfl rfl (by unfold a0b;omega) with ⟨h1,h2⟩ | ⟨A,x,B,h1,h2,h3,h4⟩
 ·rw[h1];have:l.any p=false:=by rw[List.any_eq_false];intro x hx;simp[h2 x hx]
  rw[this];rfl
 ·rw[h4];have:l.any p=true:=List.any_eq_true.2 ⟨x,by rw[h1];simp,h3⟩;simp only[obs,f0r,this,Int.zero_add];rw[q2a (by omega)]
theorem d0p (n:Nat) (l:List Slo) (i:Int) (hL:l.length<=1000000):d0y (n+3) l i=some (!decide (b0i l i)):=by
 rw[b1r,p1v (p:=fun s=>decide (0<s.2.1/\i<=s.1)) n (fun x=>by
  show l0m (n+1+1) x i=_;rw[w0n]
  by_cases h1:0<x.2.1<;>by_cases h2:i<=x.1<;>simp[h1,h2]) l hL]
 simp only[obs];refine congrArg some ?_;by_cases h:b0i l i
 ·rw[q2a h];rw[List.any_eq_false.2]
  ·rfl
  ·intro x hx k;have:=of_decide_eq_true k;have:=h x hx this.1;omega
 ·rw[q1z h];have:∃x∈l,0<x.2.1/\i<=x.1:=Classical.byContradiction fun k=>h fun x hx hc=>by
   rcases Int.lt_or_le x.1 i with q | q
   ·exact q
   ·exact absurd ⟨x,hx,hc,q⟩ k
  obtain ⟨x,hx,hq⟩:=this;rw[List.any_eq_true.2 ⟨x,hx,q2a hq⟩];rfl
theorem f2g (n:Nat) (c:Conf) {s:Ser} (hf:FoldOk c s.2.2.2.1):d1d (n+4) (c,s)=some (decide (Fresh s)):=by
 obtain ⟨l0,l1,l2⟩:=hf.lens;rw[r1l,r1p,d0p n _ _ l0,d0p n _ _ l1,d0p n _ _ l2];simp only[obs,Bool.not_not,tfd];by_cases h1:(s.2.2.1.2.2.length:Int)=0
 case neg=>rw[q0n h1,q1z (fun k:Fresh s=>h1 (by rw[k.raw];rfl))]
 rw[q0z h1];by_cases h2:s.2.2.2.2=s0
 case neg=>rw[q0n h2,q1z (fun k:Fresh s=>h2 k.opn)]
 rw[q0z h2];by_cases h3:b0i s.2.2.2.1.1 0
 case neg=>rw[q0n h3,q1z (fun k:Fresh s=>h3 k.b0)]
 rw[q0z h3];by_cases h4:b0i s.2.2.2.1.2.1 0
 case neg=>rw[q0n h4,q1z (fun k:Fresh s=>h4 k.b1)]
 rw[q0z h4];refine congrArg some (q2r.2 ⟨fun k=>⟨List.length_eq_zero_iff.1 (by omega),h2,h3,h4,k⟩,fun k=>k.b2⟩)
theorem z1c {c:Conf} {s:Ser} (hr:RawOk s.2.2.1 c.1) {e:Ev} (he:s.2.2.1.2.2.getLast? = some e):EvOk e:=hr.f.ok e (List.mem_of_getLast? he)
theorem j2x (n:Nat) (c:Conf) {s:Ser} (hf:FoldOk c s.2.2.2.1) (hr:RawOk s.2.2.1 c.1) (hw:SerW s):c1d (n+7) (c,s)=some (decide (EndsP c s)):=by
 obtain ⟨l0,l1,l2⟩:=hf.lens;have hg:=hf.cok.rng;have hlen:=hr.len;have hm1:=hr.m1;rw[w1l,raw_last (n+5) s.2.2.1 (by omega)];cases hl:s.2.2.1.2.2.getLast? with
 | none =>
  simp only[obs];rw[show (decide ((3:Int)=0))=false from rfl,tff,q1z];intro k;obtain ⟨e,he,_⟩:=k.last;rw[hl] at he;cases he
 | some e =>
  have heo:=z1c hr hl;simp only[obs,decide_true,tft,tfd,if_true];by_cases h1:e.1=s.2.1
  case neg =>
   rw[q0n h1,q1z];intro k;obtain ⟨e',he,hq⟩:=k.last;rw[hl] at he;injection he with he;subst he;exact h1 hq
  rw[q0z h1];by_cases h2:s.2.2.2.2.2.2.2.1.1=s.2.1
  case neg=>rw[q0n h2,q1z (fun k:EndsP c s=>h2 k.ol)]
  have q0:=k1r heo hg.w0.1;have q1:=k1r heo hg.w1.1;have q2:=k1r heo hg.w2.1;rw[h1] at q0 q1 q2;rw[q0z h2,q1y n hw.opn.c];simp only[obs,tfd,q0,q1,q2,d0p (n+3) _ _ l0,d0p (n+3) _ _ l1,d0p (n+3) _ _ l2,Bool.not_not,q0n (show ¬(c.2.1.1=0) by have:=hg.w0;omega),q0n (show ¬(c.2.1.2.1=0) by have:=hg.w1;omega),q0n (show ¬(c.2.1.2.2=0) by have:=hg.w2;omega)];by_cases h3:FitsP s.2.2.2.2.2 c.2.1.1 s.2.2.2.2.1
  case neg=>rw[q0n h3,q1z (fun k:EndsP c s=>h3 k.fit)]
  rw[q0z h3];by_cases h4:b0i s.2.2.2.1.1 (s.2.1 / c.2.1.1)
  case neg=>rw[q0n h4,q1z (fun k:EndsP c s=>h4 k.b0)]
  rw[q0z h4];by_cases h5:b0i s.2.2.2.1.2.1 (s.2.1 / c.2.1.2.1)
  case neg=>rw[q0n h5,q1z (fun k:EndsP c s=>h5 k.b1)]
  rw[q0z h5];refine congrArg some (q2r.2 ⟨fun k=>⟨⟨e,hl,h1⟩,h2,h3,h4,h5,k⟩,fun k=>k.b2⟩)
theorem z08 (p:Prop) [Decidable p]:((if p then (0:Int) else 8)=0)↔p:=by by_cases h:p<;>simp[h]
theorem h0q (n:Nat) (c:Conf) {s:Ser} (hw:SerW s):p0m (n+10) c s=some (if SerOk c s then (some (c,s),0) else (none,2)):=by
 rw[f1q,f2k n c hw.trs,e1o (n+3),h2s (n+4) _ _ hw.raw];simp only[obs,tfn,tfd];by_cases h1:FoldOk c s.2.2.2.1
 case neg=>rw[q0n (mt (z02 _).1 h1),q0n (fun k:SerOk c s=>h1 k.fold)]
 by_cases h2:LabOk s.1
 case neg=>rw[q0z ((z02 _).2 h1),q0n (mt (z08 _).1 h2),q0n (fun k:SerOk c s=>h2 k.lab)]
 by_cases h3:RawOk s.2.2.1 c.1
 case neg=>rw[q0z ((z02 _).2 h1),q0z ((z08 _).2 h2),q0n (mt (z02 _).1 h3),q0n (fun k:SerOk c s=>h3 k.raw)]
 rw[q0z ((z02 _).2 h1),q0z ((z08 _).2 h2),q0z ((z02 _).2 h3),f2g (n+5) c h1,j2x (n+2) c h1 h3 hw];simp only[obs,tfd];by_cases h4:s.2.1 = -1
 ·rw[q0z h4];by_cases h5:Fresh s
  ·rw[q0z h5,q0z (⟨h1,h2,h3,.inl ⟨h4,h5⟩⟩:SerOk c s)]
  ·rw[q0n h5,q0z h4,q0n (fun k:SerOk c s=>by
    rcases k.st with q | q
    ·exact h5 q.2
    ·exact q.1 h4)]
 ·rw[q0n h4,q0n h4];by_cases h5:EndsP c s
  ·rw[q0z h5,q0z (⟨h1,h2,h3,.inr ⟨h4,h5⟩⟩:SerOk c s)]
  ·rw[q0n h5,q0n (fun k:SerOk c s=>by
    rcases k.st with q | q
    ·exact h4 q.1
    ·exact h5 q.2)]
theorem h0d {l:List Slo} {w:Int} (h:TierOk l w) (i:Int):b0i l i↔∀s∈tall l,s.1<i:=by
 constructor
 ·intro k s hs;have:=(tall_N h hs).n1;exact k s (o1q.1 hs).1 (by omega)
 ·intro k s hs hc;exact k s (o1q.2 ⟨hs,fun e=>by rw[e] at hc;simp[s0,z0] at hc⟩)
theorem e1j {l:List Slo} {w:Int} (h:TierOk l w):b0i l 0↔tall l=[]:=by
 rw[h0d h];constructor
 ·intro k;by_cases e:tall l=[]
  ·exact e
  ·obtain ⟨s,hs⟩:=List.exists_mem_of_ne_nil _ e;have:=(l0i h hs).1.i0;have:=k s hs;omega
 ·intro e s hs;rw[e] at hs;cases hs
theorem r15_l7_3 (n f:Nat) (s:Ser):f0t n (f+1) (s,(3:Int),())=some (.inl ()):=by
 rw[h0u,show (decide ((3:Int)<3))=false from rfl,tff]
theorem r15_l7 (n f:Nat) (c:Conf) {s:Ser} (h:FoldOk c s.2.2.2.1):f0t (n+1) (f+4) (s,(0:Int),())=some (if b0i s.2.2.2.1.1 0/\b0i s.2.2.2.1.2.1 0/\b0i s.2.2.2.1.2.2 0 then .inl () else .inr 2):=by
 have n0:=e1j h.t0;have n1:=e1j h.t1;have n2:=e1j h.t2;have len:∀ {l:List Slo},((0:Int)<(tall l).length)↔tall l≠[]:=fun {l}=>by
  have:=List.length_pos_iff (l:=tall l);constructor
  ·intro k;exact this.1 (by omega)
  ·intro k;have:=this.2 k;omega
 rw[h0u,show (decide ((0:Int)<3))=true from rfl,tft,show (decide ((0:Int)=0))=true from rfl,tft,v0d n h.t0];simp only[obs,tfd];by_cases c0:b0i s.2.2.2.1.1 0
 case neg=>rw[q0z (len.2 (mt n0.2 c0)),q0n (fun k=>c0 k.1)]
 rw[q0n (fun k=>(len.1 k) (n0.1 c0)),show wrap .i64 ((0:Int)+1)=1 from rfl,h0u,show (decide ((1:Int)<3))=true from rfl,tft,show (decide ((1:Int)=0))=false from rfl,tff,show (decide ((1:Int)=1))=true from rfl,tft,v0d n h.t1];simp only[obs,tfd];by_cases c1:b0i s.2.2.2.1.2.1 0
 case neg=>rw[q0z (len.2 (mt n1.2 c1)),q0n (fun k=>c1 k.2.1)]
 rw[q0n (fun k=>(len.1 k) (n1.1 c1)),show wrap .i64 ((1:Int)+1)=2 from rfl,h0u,show (decide ((2:Int)<3))=true from rfl,tft,show (decide ((2:Int)=0))=false from rfl,tff,show (decide ((2:Int)=1))=false from rfl,tff,show (decide ((2:Int)=2))=true from rfl,tft,v0d n h.t2];simp only[obs,tfd];by_cases c2:b0i s.2.2.2.1.2.2 0
 case neg=>rw[q0z (len.2 (mt n2.2 c2)),q0n (fun k=>c2 k.2.2)]
 rw[q0n (fun k=>(len.1 k) (n2.1 c2)),show wrap .i64 ((2:Int)+1)=3 from rfl,r15_l7_3,q0z ⟨c0,c1,c2⟩]
theorem i2a (n:Nat) (c:Conf) (s:Ser) (at_:Int) (hw:1<=c.2.1.1) (hq:wrap .i64 (Int.tdiv s.2.1 c.2.1.1)=at_) (l:List Slo) (hL:l.length<=1000000):∀(rest pre:List Slo) (f:Nat) (ix len:Int),l=pre++rest->ix=pre.length->len=l.length->rest.length<f ->
  ((∀x∈rest,x.1<at_)->c0i n f (c,s,(0:Int),l,len,ix,())=some (.inl (c,s,(0:Int),())))/\(¬(∀x∈rest,x.1<at_)->c0i n f (c,s,(0:Int),l,len,ix,())=some (.inr 2)):=by
 intro rest;induction rest with
 | nil =>
  intro pre f ix len hl hi hn hf;obtain ⟨f,rfl⟩:∃g,f=g+1:=⟨f-1,by simp at hf;omega⟩;rw[d0v];exact ⟨fun _=>by simp only[tfd,q0n (idxe hl hi hn)],fun k=>absurd (by simp) k⟩
 | cons x rest ih =>
  intro pre f ix len hl hi hn hf;obtain ⟨f,rfl⟩:∃g,f=g+1:=⟨f-1,by simp at hf;omega⟩;rw[d0v,q2a (idx hl hi hn),tft,c0e hl hi,obs];rw[show (decide ((0:Int)=0))=true from rfl,tft];simp only[tfd,q0n (show ¬(c.2.1.1=0) by omega),hq,idxw hl hi (show l.length<=1000000000000 by omega)];have ih':=ih (pre++[x]) f (ix+1) len (idxl hl) (idxs hi) hn (by simp at hf;omega);by_cases h1:at_<=x.1
  ·rw[q0z h1];exact ⟨fun k=>by have:=k x (by simp);omega,fun _=>rfl⟩
  ·rw[q0n h1];exact ⟨fun k=>ih'.1 fun y hy=>k y (by simp[hy]),fun k=>ih'.2 fun q=>k fun y hy=>by
    rcases q2l.1 hy with rfl | hy
    ·omega
    ·exact q y hy⟩
theorem h2y (n:Nat) (c:Conf) (s:Ser) (at_:Int) (hw:1<=c.2.1.2.1) (hq:wrap .i64 (Int.tdiv s.2.1 c.2.1.2.1)=at_) (l:List Slo) (hL:l.length<=1000000):∀(rest pre:List Slo) (f:Nat) (ix len:Int),l=pre++rest->ix=pre.length->len=l.length->rest.length<f ->
  ((∀x∈rest,x.1<at_)->c0i n f (c,s,(1:Int),l,len,ix,())=some (.inl (c,s,(1:Int),())))/\(¬(∀x∈rest,x.1<at_)->c0i n f (c,s,(1:Int),l,len,ix,())=some (.inr 2)):=by
 intro rest;induction rest with
 | nil =>
  intro pre f ix len hl hi hn hf;obtain ⟨f,rfl⟩:∃g,f=g+1:=⟨f-1,by simp at hf;omega⟩;rw[d0v];exact ⟨fun _=>by simp only[tfd,q0n (idxe hl hi hn)],fun k=>absurd (by simp) k⟩
 | cons x rest ih =>
  intro pre f ix len hl hi hn hf;obtain ⟨f,rfl⟩:∃g,f=g+1:=⟨f-1,by simp at hf;omega⟩;rw[d0v,q2a (idx hl hi hn),tft,c0e hl hi,obs];rw[show (decide ((1:Int)=0))=false from rfl,tff,show (decide ((1:Int)=1))=true from rfl,tft];simp only[tfd,q0n (show ¬(c.2.1.2.1=0) by omega),hq,idxw hl hi (show l.length<=1000000000000 by omega)];have ih':=ih (pre++[x]) f (ix+1) len (idxl hl) (idxs hi) hn (by simp at hf;omega);by_cases h1:at_<=x.1
  ·rw[q0z h1];exact ⟨fun k=>by have:=k x (by simp);omega,fun _=>rfl⟩
  ·rw[q0n h1];exact ⟨fun k=>ih'.1 fun y hy=>k y (by simp[hy]),fun k=>ih'.2 fun q=>k fun y hy=>by
    rcases q2l.1 hy with rfl | hy
    ·omega
    ·exact q y hy⟩
theorem h2w (n:Nat) (c:Conf) (s:Ser) (at_:Int) (hw:1<=c.2.1.2.2) (hq:wrap .i64 (Int.tdiv s.2.1 c.2.1.2.2)=at_) (l:List Slo) (hL:l.length<=1000000):∀(rest pre:List Slo) (f:Nat) (ix len:Int),l=pre++rest->ix=pre.length->len=l.length->rest.length<f ->
  ((∀x∈rest,x.1<at_)->c0i n f (c,s,(2:Int),l,len,ix,())=some (.inl (c,s,(2:Int),())))/\(¬(∀x∈rest,x.1<at_)->c0i n f (c,s,(2:Int),l,len,ix,())=some (.inr 2)):=by
 intro rest;induction rest with
 | nil =>
  intro pre f ix len hl hi hn hf;obtain ⟨f,rfl⟩:∃g,f=g+1:=⟨f-1,by simp at hf;omega⟩;rw[d0v];exact ⟨fun _=>by simp only[tfd,q0n (idxe hl hi hn)],fun k=>absurd (by simp) k⟩
 | cons x rest ih =>
  intro pre f ix len hl hi hn hf;obtain ⟨f,rfl⟩:∃g,f=g+1:=⟨f-1,by simp at hf;omega⟩;rw[d0v,q2a (idx hl hi hn),tft,c0e hl hi,obs];rw[show (decide ((2:Int)=0))=false from rfl,tff,show (decide ((2:Int)=1))=false from rfl,tff,show (decide ((2:Int)=2))=true from rfl,tft];simp only[tfd,q0n (show ¬(c.2.1.2.2=0) by omega),hq,idxw hl hi (show l.length<=1000000000000 by omega)];have ih':=ih (pre++[x]) f (ix+1) len (idxl hl) (idxs hi) hn (by simp at hf;omega);by_cases h1:at_<=x.1
  ·rw[q0z h1];exact ⟨fun k=>by have:=k x (by simp);omega,fun _=>rfl⟩
  ·rw[q0n h1];exact ⟨fun k=>ih'.1 fun y hy=>k y (by simp[hy]),fun k=>ih'.2 fun q=>k fun y hy=>by
    rcases q2l.1 hy with rfl | hy
    ·omega
    ·exact q y hy⟩
theorem i2b (n f:Nat) (c:Conf) (s:Ser):f0b n (f+1) (c,s,(3:Int),())=some (.inl ()):=by
 rw[g0s,show (decide ((3:Int)<3))=false from rfl,tff]
theorem r15_l16 (n f:Nat) (c:Conf) {s:Ser} (h:FoldOk c s.2.2.2.1) {e:Ev} (he:EvOk e) (hes:e.1=s.2.1):f0b (n+1) (f+4) (c,s,(0:Int),()) =
  some (if b0i s.2.2.2.1.1 (s.2.1 / c.2.1.1)/\b0i s.2.2.2.1.2.1 (s.2.1 / c.2.1.2.1)/\b0i s.2.2.2.1.2.2 (s.2.1 / c.2.1.2.2) then .inl () else .inr 2):=by
 have n0:=h0d h.t0 (s.2.1 / c.2.1.1);have n1:=h0d h.t1 (s.2.1 / c.2.1.2.1);have n2:=h0d h.t2 (s.2.1 / c.2.1.2.2);have hg:=h.cok.rng;have q0:=k1r he hg.w0.1;have q1:=k1r he hg.w1.1;have q2:=k1r he hg.w2.1;rw[hes] at q0 q1 q2;obtain ⟨l0,l1,l2⟩:=h.lens;have t0:=s0v (l:=s.2.2.2.1.1);have t1:=s0v (l:=s.2.2.2.1.2.1);have t2:=s0v (l:=s.2.2.2.1.2.2);have k0:=i2a (n+1) c s _ hg.w0.1 q0 (tall s.2.2.2.1.1) (by omega) (tall s.2.2.2.1.1) [] a0b 0 ((tall s.2.2.2.1.1).length:Int) rfl rfl rfl (by unfold a0b;omega)
 have k1:=h2y (n+1) c s _ hg.w1.1 q1 (tall s.2.2.2.1.2.1) (by omega) (tall s.2.2.2.1.2.1) [] a0b 0 ((tall s.2.2.2.1.2.1).length:Int) rfl rfl rfl (by unfold a0b;omega);have k2:=h2w (n+1) c s _ hg.w2.1 q2 (tall s.2.2.2.1.2.2) (by omega) (tall s.2.2.2.1.2.2) [] a0b 0 ((tall s.2.2.2.1.2.2).length:Int) rfl rfl rfl (by unfold a0b;omega);rw[<-n0] at k0;rw[<-n1] at k1;rw[<-n2] at k2;rw[g0s,show (decide ((0:Int)<3))=true from rfl,tft,show (decide ((0:Int)=0))=true from rfl,tft,v0d n h.t0,obs];by_cases c0:b0i s.2.2.2.1.1 (s.2.1 / c.2.1.1)
 case neg=>rw[k0.2 c0,q0n (fun k=>c0 k.1)];rfl
 rw[k0.1 c0];simp only[obs,a0t];rw[show wrap .i64 ((0:Int)+1)=1 from rfl,g0s,show (decide ((1:Int)<3))=true from rfl,tft,show (decide ((1:Int)=0))=false from rfl,tff,show (decide ((1:Int)=1))=true from rfl,tft,v0d n h.t1,obs];by_cases c1:b0i s.2.2.2.1.2.1 (s.2.1 / c.2.1.2.1)
 case neg=>rw[k1.2 c1,q0n (fun k=>c1 k.2.1)];rfl
 rw[k1.1 c1];simp only[obs,a0t];rw[show wrap .i64 ((1:Int)+1)=2 from rfl,g0s,show (decide ((2:Int)<3))=true from rfl,tft,show (decide ((2:Int)=0))=false from rfl,tff,show (decide ((2:Int)=1))=false from rfl,tff,show (decide ((2:Int)=2))=true from rfl,tft,v0d n h.t2,obs];by_cases c2:b0i s.2.2.2.1.2.2 (s.2.1 / c.2.1.2.2)
 case neg=>rw[k2.2 c2,q0n (fun k=>c2 k.2.2)];rfl
 rw[k2.1 c2];simp only[obs,a0t];rw[show wrap .i64 ((2:Int)+1)=3 from rfl,i2b,q0z ⟨c0,c1,c2⟩]
theorem w0v (n:Nat) (c:Conf) {s:Ser} (hw:SerW s):n0x (n+8) c s=some (if SerOk c s then 0 else 2):=by
 rw[s1k,o0a (n+4),s1x (n+5),i2d (n+5) _ _ hw.raw,i2c n c hw.trs];simp only[obs,tfn,tfd,r1p];by_cases h0:OkC c
 case neg=>rw[q0n (mt (z02 _).1 h0),q0n (fun k:SerOk c s=>h0 k.fold.cok)]
 by_cases h2:LabOk s.1
 case neg=>rw[q0z ((z02 _).2 h0),q0n (mt (z08 _).1 h2),q0n (fun k:SerOk c s=>h2 k.lab)]
 by_cases h3:RawOk s.2.2.1 c.1
 case neg=>rw[q0z ((z02 _).2 h0),q0z ((z08 _).2 h2),q0n (mt (z02 _).1 h3),q0n (fun k:SerOk c s=>h3 k.raw)]
 by_cases h1:FoldOk c s.2.2.2.1
 case neg=>rw[q0z ((z02 _).2 h0),q0z ((z08 _).2 h2),q0z ((z02 _).2 h3),q0n (mt (z02 _).1 h1),q0n (fun k:SerOk c s=>h1 k.fold)]
 have hlen:=h3.len;have hm1:=h3.m1;rw[q0z ((z02 _).2 h0),q0z ((z08 _).2 h2),q0z ((z02 _).2 h3),q0z ((z02 _).2 h1),show a0b=(2^70-4)+4 from by decide,r15_l7 (n+6) _ c h1,r12_last _ _ (by omega),a2l (n+2) hw.opn.c];by_cases h4:s.2.1 = -1
 ·rw[q0z h4];by_cases h5:(0:Int)<s.2.2.1.2.2.length
  ·rw[q0z h5,q0n (fun k:SerOk c s=>by
    rcases k.st with q | q
    ·rw[q.2.raw] at h5;simp at h5
    ·exact q.1 h4)]
  rw[q0n h5];by_cases h6:s.2.2.2.2=s0
  case neg=>rw[q0n h6,q0n (fun k:SerOk c s=>by
    rcases k.st with q | q
    ·exact h6 q.2.opn
    ·exact q.1 h4)]
  rw[q0z h6,obs];by_cases h7:b0i s.2.2.2.1.1 0/\b0i s.2.2.2.1.2.1 0/\b0i s.2.2.2.1.2.2 0
  ·rw[q0z h7,q0z (⟨h1,h2,h3,.inl ⟨h4,⟨List.length_eq_zero_iff.1 (by omega),h6,h7.1,h7.2.1,h7.2.2⟩⟩⟩:SerOk c s)];rfl
  ·rw[q0n h7,q0n (fun k:SerOk c s=>by
    rcases k.st with q | q
    ·exact h7 ⟨q.2.b0,q.2.b1,q.2.b2⟩
    ·exact q.1 h4)];rfl
 ·rw[q0n h4];have no:∀ {p:Prop},(EndsP c s->p)->¬p->(if SerOk c s then (0:Int) else 2)=2:=fun hp hn=>q0n (fun k:SerOk c s=>by
   rcases k.st with q | q
   ·exact h4 q.1
   ·exact hn (hp q.2))
  cases hl:s.2.2.1.2.2.getLast? with
  | none =>
   simp only[obs];rw[q0n (by decide),no (fun k=>k.last) (fun ⟨e,he,_⟩=>by rw[hl] at he;cases he)]
  | some e =>
   have heo:=z1c h3 hl;simp only[obs,if_true,tfd];by_cases h5:e.1=s.2.1
   case neg=>rw[q0n h5,no (fun k=>k.last) (fun ⟨e',he,hq⟩=>by rw[hl] at he;injection he with he;subst he;exact h5 hq)]
   rw[q0z h5];by_cases h6:FitsP s.2.2.2.2.2 c.2.1.1 s.2.2.2.2.1
   case neg=>rw[q0n h6,no (fun k=>k.fit) h6]
   rw[q0z h6];by_cases h7:s.2.2.2.2.2.2.2.1.1=s.2.1
   case neg=>rw[q0n h7,no (fun k=>k.ol) h7]
   rw[q0z h7,r15_l16 (n+6) _ c h1 heo h5,obs];by_cases h8:b0i s.2.2.2.1.1 (s.2.1 / c.2.1.1)/\b0i s.2.2.2.1.2.1 (s.2.1 / c.2.1.2.1)/\b0i s.2.2.2.1.2.2 (s.2.1 / c.2.1.2.2)
   ·rw[q0z h8,q0z (⟨h1,h2,h3,.inr ⟨h4,⟨⟨e,hl,h5⟩,h7,h6,h8.1,h8.2.1,h8.2.2⟩⟩⟩:SerOk c s)];rfl
   ·rw[q0n h8,no (fun k=>And.intro k.b0 (And.intro k.b1 k.b2)) h8];rfl
theorem nn {α:Type} {a b:α} (h:a=b):¬(a≠b):=fun k=>k h
def ser0:Ser:=([],(0,(r0w,(([],([],[])),s0))))
end Go.Proofs.YteopnkdnglpbfaaGreatDoor

namespace Go.Plim
set_option linter.unusedVariables false
def below (w:Int) (l:List Ev) (t:Int):List Ev:=l.filter fun e=>decide (e.1 / w<t / w)
structure EndsAt (l:List Ev) (t:Int):Prop where
 foll:Foll l
 le:∀e∈l,e.1<=t
 last:∃e∈l,e.1=t
theorem edvm {t a b:Int} (ha:1<=a) (hb:1<=b) (hm:b % a=0):t / a*a / b=t / b/\t / a / (b / a)=t / b:=by
 have e:a*(b / a)=b:=by have:=Int.mul_ediv_add_emod b a;omega
 have h1:t / a / (b / a)=t / b:=by rw[Int.ediv_ediv_of_nonneg (by omega),e]
 refine ⟨?_,h1⟩;rw[<-h1]
 conv=>lhs;rw[<-e,Int.mul_comm (t / a) a]
 exact Int.mul_ediv_mul_of_pos _ _ (by omega)
end Go.Plim
namespace Go.Proofs.YteopnkdnglpbfaaGreatDoor
open Go.Flat Go.Plim
structure FInv (c:Conf) (s:Trs) (l:List Ev) (t:Int):Prop where
 ok:FoldOk c s
 i0:TierInv s.1 c.2.1.1 (below c.2.1.1 l t)
 i1:TierInv s.2.1 c.2.1.2.1 (below c.2.1.2.1 l t)
 i2:TierInv s.2.2 c.2.1.2.2 (below c.2.1.2.2 l t)
end Go.Proofs.YteopnkdnglpbfaaGreatDoor
namespace Go.Proofs.YteopnkdnglpbfaaGreatDoor
open Go.Flat Go.Plim
set_option linter.unusedVariables false
set_option linter.unusedSimpArgs false
theorem allE_up {w:Int}:∀(L:List Slo) (c:Cel) (lo:Int),Up L->(∀s∈L,FitsP s.2 w s.1/\lo<=s.1)->c0g c->(c=z0\/c.2.2.1.1 / w<lo)->(allE c (L.map (·.2))).2=0:=by
 intro L;induction L with
 | nil=>intro c lo _ _ _ _;rfl
 | cons s L ih =>
  intro c lo hu hs hc hl;unfold Up at hu;rw[List.pairwise_cons] at hu;obtain ⟨hf,h1⟩:=hs s (by simp);have ha:Ahead c s.2:=by
   rcases hl with h | h
   ·exact .inl h
   ·refine .inr (.inr ?_);have e:=hf.f;rcases Int.lt_or_le c.2.2.1.1 s.2.2.1.1 with q | q
    ·exact q
    ·have:=Int.ediv_le_ediv (c:=w) (by have:=hf.w0;omega) q;omega
  have em:mrgE c s.2=(mrg c s.2,0):=by unfold mrgE;rw[q0z (And.intro hc hf.n.ok),q0z ha]
  simp only[q3h,allE];rw[em,q0z rfl];refine ih _ (s.1+1) hu.2 (fun x hx=>⟨(hs x (by simp[hx])).1,by have:=hu.1 x hx;omega⟩) (u1b hc hf.n.ok ha) (.inr ?_);have el:(mrg c s.2).2.2.1.1=s.2.2.2.1.1:=by
   unfold mrg;by_cases k:c=z0
   ·rw[q0z k]
   ·rw[q0n k,q0n hf.n.ne]
  rw[el,hf.l];omega
theorem d0u {l:List Slo} {w i k:Int} (h:TierOk l w) (h0:0<=i) (hik:i<=k):(g0m l i k).2=0:=by
 unfold g0m;rw[q0n (by omega)];unfold within;refine allE_up (w:=w) _ z0 0 ((m1f h).filter _) (fun s hs => ?_) x0t (.inl rfl);have:=(l0i h (q3l.1 hs).1).1;exact ⟨this,this.i0.1⟩
theorem d1b {l:List Slo} {w a i j:Int} (h:TierOk l w) (hb:b0i l a) (h0:0<=i) (hij:i<=j):g0m l i (if i<(if a<j then a else j) then (if a<j then a else j) else i)=g0m l i j:=by
 have hn:=(h0d h a).1 hb;have e:∀k k':Int,(∀x:Int,x<a->i<=x->(x<k↔x<k'))->within l i k=within l i k':=by
  intro k k' hk;unfold within;refine congrArg _ (List.filter_congr fun s hs=>q2r.2 ?_);have:=hk s.1 (hn s hs);constructor<;>rintro ⟨q1,q2⟩
  ·exact ⟨q1,(this q1).1 q2⟩
  ·exact ⟨q1,(this q1).2 q2⟩
 unfold g0m;rw[q0n (show ¬(i<0\/j<i) by omega),q0n (by split<;>split at * <;> omega)];refine congrArg _ (e _ _ fun x h1 h2 => ?_);split<;>split at * <;> omega
noncomputable def now1 (c:Conf) (s:Ser):Cel×Int:=mrgE (g0m s.2.2.2.1.1 (s.2.1 / c.2.1.2.1*(c.2.1.2.1 / c.2.1.1)) (s.2.1 / c.2.1.1)).1 s.2.2.2.2.2
noncomputable def now2 (c:Conf) (s:Ser):Cel×Int :=
 if (now1 c s).2≠0 then (z0,(now1 c s).2) else mrgE (g0m s.2.2.2.1.2.1 (s.2.1 / c.2.1.2.2*(c.2.1.2.2 / c.2.1.2.1)) (s.2.1 / c.2.1.2.1)).1 (now1 c s).1
theorem m0u (l:List Slo) (i k:Int):CelW (g0m l i k).1 := .of (w0a l i k)
theorem n0w {c:Conf} {s:Ser} (h:SerOk c s) (hn:¬(s.2.1 = -1)):EndsP c s/\∃e,EvOk e/\e.1=s.2.1:=by
 rcases h.st with q | q
 ·exact absurd q.1 hn
 ·obtain ⟨e,he,h1⟩:=q.2.last;exact ⟨q.2,e,z1c h.raw he,h1⟩
theorem t0j {a b t:Int} (ha:1<=a/\a<=1099511627776) (hb:1<=b/\b<=1099511627776) (hm:b % a=0) (ht:0<=t/\t<35184372088832) :
  0<=t / b*(b / a)/\t / b*(b / a)<=t / a/\t / a<35184372088832/\0<=t / a:=by
 have h1:=(edvm (t:=t) ha.1 hb.1 hm).2;have h2:0<=t / b:=Int.ediv_nonneg ht.1 (by omega);have h3:0<=b / a:=Int.ediv_nonneg (by omega) (by omega);have h4:0<=t / a:=Int.ediv_nonneg ht.1 (by omega);have h5:t / a<=t:=Int.ediv_le_self _ ht.1;refine ⟨Int.mul_nonneg h2 h3,?_,by omega,h4⟩;have h6:1<=b / a:=by
  have e:a*(b / a)=b:=by have:=Int.mul_ediv_add_emod b a;omega
  rcases Int.lt_or_le 0 (b / a) with q | q
  ·omega
  ·have:b / a=0:=by omega
   rw[this] at e;omega
 rw[<-h1];exact Int.ediv_mul_le _ (by omega)
structure At (c:Conf) (s:Ser):Prop where
 l0:0<=s.2.1
 l1:s.2.1<35184372088832
theorem g0q {c:Conf} {s:Ser} (h:SerOk c s) (hn:¬(s.2.1 = -1)):0<=s.2.1/\s.2.1<35184372088832:=by
 obtain ⟨_,e,he,h1⟩:=n0w h hn;rw[<-h1];exact ⟨he.t0,he.t1⟩
theorem h0y {t:Int} (ht:0<=t/\t<35184372088832) {w:Int} (hw:1<=w):wrap .i64 (Int.tdiv t w)=t / w:=by
 have:0<=t / w:=Int.ediv_nonneg ht.1 (by omega);have:t / w<=t:=Int.ediv_le_self _ ht.1;rw[i0k ht.1,w64 (by omega) (by omega)]
theorem nz {w:Int} (h:1<=w):¬(w=0):=by omega
theorem u1p (n:Nat) (c:Conf) (s:Ser):l0j (n+1) (c,s) 0=some (s.2.2.2.2.2,0):=by rw[r1k]
theorem mrgE_nn (a b:Cel):0<=(mrgE a b).2:=by
 unfold mrgE;split
 ·split<;>simp
 ·simp
theorem u1o (n:Nat) (c:Conf) {s:Ser} (h:SerOk c s) (hw:SerW s) (hn:¬(s.2.1 = -1)):l0j (n+19) (c,s) 1=some (now1 c s):=by
 have hr:=h.fold.cok.rng;have ht:=g0q h hn;obtain ⟨o1,o2,o3,o4⟩:=t0j hr.w0 hr.w1 h.fold.cok.m1 ht;rw[r1j];simp only[tfd,tfn,q0n (nz hr.w0.1),q0n (nz hr.w1.1),h0y ht hr.w0.1,h0y ht hr.w1.1,b1t hr.w1 hr.w0.1];rw[w64 (by omega) (by omega),q0w n h.fold.t0,u1p (n+17)];simp only[obs,d0u h.fold.t0 o1 o2,if_true,k0z (n+12) (m0u _ _ _) hw.opn.c];rfl
theorem a2x (c:Conf) (s:Ser):CelW (now1 c s).1:=a2y _ _
theorem j2w (n:Nat) (c:Conf) {s:Ser} (h:SerOk c s) (hw:SerW s) (hn:¬(s.2.1 = -1)):l0j (n+20) (c,s) 2=some (now2 c s):=by
 have hr:=h.fold.cok.rng;have ht:=g0q h hn;obtain ⟨o1,o2,o3,o4⟩:=t0j hr.w1 hr.w2 h.fold.cok.m2 ht;rw[r1i];simp only[tfd,tfn,q0n (nz hr.w1.1),q0n (nz hr.w2.1),h0y ht hr.w1.1,h0y ht hr.w2.1,b1t hr.w2 hr.w1.1];rw[w64 (by omega) (by omega),q0w (n+1) h.fold.t1,u1o n c h hw hn];simp only[obs,d0u h.fold.t1 o1 o2,if_true,k0z (n+13) (m0u _ _ _) (a2x c s)];unfold now2;by_cases k:(now1 c s).2=0
 ·rw[q0z k,q0n (nn k)]
 ·have:0<=(now1 c s).2:=mrgE_nn _ _;rw[q0n k,q0z k,q0z (by omega)];rfl
theorem one0 (n:Nat) (c:Conf) {s:Ser} (h:SerOk c s) (hn:¬(s.2.1 = -1)) (i:Int) (hi:0<=i):l0t (n+3) c s 0 i=some (if s.2.1 / c.2.1.1<i then (z0,0) else if i<s.2.1 / c.2.1.1 then (tget s.2.2.2.1.1 i,0) else (s.2.2.2.2.2,0)):=by
 have hr:=h.fold.cok.rng;have ht:=g0q h hn;rw[s1j];simp only[tfd,q0n hn,q0n (nz hr.w0.1),h0y ht hr.w0.1,n1s n h.fold.t0.l0,obs];split
 ·rfl
 ·split<;>rfl
theorem one1 (n:Nat) (c:Conf) {s:Ser} (h:SerOk c s) (hw:SerW s) (hn:¬(s.2.1 = -1)) (i:Int) (hi:0<=i):l0t (n+8) c s 1 i=some (if s.2.1 / c.2.1.2.1<i then (z0,0) else if i<s.2.1 / c.2.1.2.1 then (tget s.2.2.2.1.2.1 i,0) else now1 c s):=by
 have hr:=h.fold.cok.rng;have ht:=g0q h hn;obtain ⟨o1,o2,o3,o4⟩:=t0j hr.w0 hr.w1 h.fold.cok.m1 ht;rw[s1i];simp only[tfd,tfn,q0n hn,q0n (nz hr.w0.1),q0n (nz hr.w1.1),h0y ht hr.w0.1,h0y ht hr.w1.1,n1s (n+5) h.fold.t1.l0,obs];by_cases k1:s.2.1 / c.2.1.2.1<i
 ·rw[q0z k1,q0z k1];rfl
 rw[q0n k1,q0n k1];by_cases k2:i<s.2.1 / c.2.1.2.1
 ·rw[q0z k2,q0z k2]
 rw[q0n k2,q0n k2];have e:i=s.2.1 / c.2.1.2.1:=by omega
 subst e;rw[x1w (n+3) h.fold.cok];simp only[obs];rw[w64 (by omega) (by omega),w0x n h.fold.t0];simp only[obs,d0u h.fold.t0 o1 o2,if_true];rw[one0 (n+4) c h hn _ o4,q0n (by omega),q0n (by omega)];simp only[obs,if_true,o0c (n+2) (m0u _ _ _) hw.opn.c];rfl
theorem one2 (n:Nat) (c:Conf) {s:Ser} (h:SerOk c s) (hw:SerW s) (hn:¬(s.2.1 = -1)) (i:Int) (hi:0<=i):l0t (n+9) c s 2 i=some (if s.2.1 / c.2.1.2.2<i then (z0,0) else if i<s.2.1 / c.2.1.2.2 then (tget s.2.2.2.1.2.2 i,0) else now2 c s):=by
 have hr:=h.fold.cok.rng;have ht:=g0q h hn;obtain ⟨o1,o2,o3,o4⟩:=t0j hr.w1 hr.w2 h.fold.cok.m2 ht;rw[s1h];simp only[tfd,tfn,q0n hn,q0n (nz hr.w1.1),q0n (nz hr.w2.1),h0y ht hr.w1.1,h0y ht hr.w2.1,n1s (n+6) h.fold.t2.l0,obs];by_cases k1:s.2.1 / c.2.1.2.2<i
 ·rw[q0z k1,q0z k1];rfl
 rw[q0n k1,q0n k1];by_cases k2:i<s.2.1 / c.2.1.2.2
 ·rw[q0z k2,q0z k2]
 rw[q0n k2,q0n k2];have e:i=s.2.1 / c.2.1.2.2:=by omega
 subst e;rw[x1v (n+4) h.fold.cok];simp only[obs];rw[w64 (by omega) (by omega),w0x (n+1) h.fold.t1];simp only[obs,d0u h.fold.t1 o1 o2,if_true];rw[one1 n c h hw hn _ o4,q0n (by omega),q0n (by omega)];simp only[obs,o0c (n+3) (m0u _ _ _) (a2x c s)];unfold now2;by_cases k:(now1 c s).2=0
 ·rw[q0z k,q0n (nn k)]
 ·rw[q0n k,q0z k];rfl
noncomputable def d0f (ok:Prop) [Decidable ok] (i j last w:Int) (t:List Slo) (now:Cel×Int):Cel×Int :=
 if ok then (if i<0 then (z0,1) else if j<i then (z0,1) else if last = -1 then (z0,0) else if last / w<i then g0m t i j else if j<=last / w then g0m t i j else if now.2≠0 then (z0,now.2) else mrgE (g0m t i j).1 now.1) else (z0,2)
theorem now2_w (c:Conf) (s:Ser):CelW (now2 c s).1:=by
 unfold now2;split
 ·exact v0o
 ·exact a2y _ _
theorem f2f (n:Nat) (c:Conf) {s:Ser} (h:SerOk c s) (hw:SerW s) {i j:Int} (h0:¬i<0) (hij:¬j<i):p0g (n+21) (c,s) 0 i j=some (d0f (SerOk c s) i j s.2.1 c.2.1.1 s.2.2.2.1.1 (s.2.2.2.2.2,0)):=by
 rw[m1l];unfold d0f;rw[q0z h,q0n h0,q0n hij];simp only[tfd,tfn];by_cases hn:s.2.1 = -1
 ·rw[q0z hn,q0z hn];rfl
 have hr:=h.fold.cok.rng;have ht:=g0q h hn;rw[q0n hn,q0n hn,q0n (nz hr.w0.1),h0y ht hr.w0.1,q0w (n+2) h.fold.t0];simp only[obs,d0u h.fold.t0 (show 0<=i by omega) (show i<=j by omega),if_true];by_cases h2:s.2.1 / c.2.1.1<i
 ·rw[q0z h2,q0z h2]
 rw[q0n h2,q0n h2];by_cases h3:j<=s.2.1 / c.2.1.1
 ·rw[q0z h3,q0z h3]
 rw[q0n h3,q0n h3,u1p (n+19) c s];simp only[obs,k0z (n+14) (m0u _ _ _) hw.opn.c];rw[q0z trivial,q0n (nn rfl)]
theorem d2x (n:Nat) (c:Conf) {s:Ser} (hw:SerW s) (i j:Int):f0s (n+10) c s 0 i j=some (d0f (SerOk c s) i j s.2.1 c.2.1.1 s.2.2.2.1.1 (s.2.2.2.2.2,0)):=by
 rw[g1b,w0v (n+1) c hw];unfold d0f;by_cases h:SerOk c s
 case neg=>rw[q0n h,q0n h];rfl
 rw[q0z h,q0z h];simp only[obs,decide_true,q2s,tff,tfd,tfn];by_cases h1:i<0
 ·rw[q0z h1,q0z h1];rfl
 rw[q0n h1,q0n h1];by_cases h2:j<i
 ·rw[q0z h2,q0z h2];rfl
 rw[q0n h2,q0n h2];by_cases hn:s.2.1 = -1
 ·rw[q0z hn,q0z hn];rfl
 have hr:=h.fold.cok.rng;have ht:=g0q h hn;have hq:0<=s.2.1 / c.2.1.1:=Int.ediv_nonneg ht.1 (by have:=hr.w0.1;omega);rw[q0n hn,q0n hn,q0n (nz hr.w0.1),h0y ht hr.w0.1,w0x (n+2) h.fold.t0,d1b h.fold.t0 (n0w h hn).1.b0 (show 0<=i by omega) (show i<=j by omega)];simp only[obs,d0u h.fold.t0 (show 0<=i by omega) (show i<=j by omega),if_true];by_cases h3:s.2.1 / c.2.1.1<i
 ·rw[q0z h3,q0z h3]
 rw[q0n h3,q0n h3];by_cases h4:j<=s.2.1 / c.2.1.1
 ·rw[q0z h4,q0z h4]
 rw[q0n h4,q0n h4,one0 (n+6) c h hn _ hq,q0n (Int.lt_irrefl _),q0n (Int.lt_irrefl _)];simp only[obs,o0c (n+4) (m0u _ _ _) hw.opn.c];rw[q0z trivial,q0n (nn rfl)]
theorem m1r (n:Nat) (c:Conf) {s:Ser} (hw:SerW s) (i j:Int):d0z (n+22) c s 0 i j=some (d0f (SerOk c s) i j s.2.1 c.2.1.1 s.2.2.2.1.1 (s.2.2.2.2.2,0)):=by
 rw[l0o,h0q (n+11) c hw];by_cases h:SerOk c s
 case neg=>unfold d0f;rw[q0n h,q0n h];rfl
 rw[q0z h];simp only[obs,z0s,decide_true,q2s,tff,tfd,q0n (show ¬((0:Int)<0) by omega),q0n (show ¬((3:Int)<=0) by omega)];by_cases h1:i<0
 ·unfold d0f;rw[q0z h1,q0z h,q0z h1];rfl
 by_cases h2:j<i
 ·unfold d0f;rw[q0n h1,q0z h2,q0z h,q0n h1,q0z h2];rfl
 rw[q0n h1,q0n h2,f2f n c h hw h1 h2];rfl
theorem f2e (n:Nat) (c:Conf) {s:Ser} (h:SerOk c s) (hw:SerW s) {i j:Int} (h0:¬i<0) (hij:¬j<i):p0g (n+21) (c,s) 1 i j=some (d0f (SerOk c s) i j s.2.1 c.2.1.2.1 s.2.2.2.1.2.1 (now1 c s)):=by
 rw[m1k];unfold d0f;rw[q0z h,q0n h0,q0n hij];simp only[tfd,tfn];by_cases hn:s.2.1 = -1
 ·rw[q0z hn,q0z hn];rfl
 have hr:=h.fold.cok.rng;have ht:=g0q h hn;rw[q0n hn,q0n hn,q0n (nz hr.w1.1),h0y ht hr.w1.1,q0w (n+2) h.fold.t1];simp only[obs,d0u h.fold.t1 (show 0<=i by omega) (show i<=j by omega),if_true];by_cases h2:s.2.1 / c.2.1.2.1<i
 ·rw[q0z h2,q0z h2]
 rw[q0n h2,q0n h2];by_cases h3:j<=s.2.1 / c.2.1.2.1
 ·rw[q0z h3,q0z h3]
 rw[q0n h3,q0n h3,u1o (n+1) c h hw hn];simp only[obs,k0z (n+14) (m0u _ _ _) (a2x c s)];by_cases h4:(now1 c s).2=0
 ·rw[q0z h4,q0n (nn h4)]
 ·rw[q0n h4,q0z h4];rfl
theorem d2w (n:Nat) (c:Conf) {s:Ser} (hw:SerW s) (i j:Int):f0s (n+10) c s 1 i j=some (d0f (SerOk c s) i j s.2.1 c.2.1.2.1 s.2.2.2.1.2.1 (now1 c s)):=by
 rw[g1a,w0v (n+1) c hw];unfold d0f;by_cases h:SerOk c s
 case neg=>rw[q0n h,q0n h];rfl
 rw[q0z h,q0z h];simp only[obs,decide_true,q2s,tff,tfd,tfn];by_cases h1:i<0
 ·rw[q0z h1,q0z h1];rfl
 rw[q0n h1,q0n h1];by_cases h2:j<i
 ·rw[q0z h2,q0z h2];rfl
 rw[q0n h2,q0n h2];by_cases hn:s.2.1 = -1
 ·rw[q0z hn,q0z hn];rfl
 have hr:=h.fold.cok.rng;have ht:=g0q h hn;have hq:0<=s.2.1 / c.2.1.2.1:=Int.ediv_nonneg ht.1 (by have:=hr.w1.1;omega);rw[q0n hn,q0n hn,q0n (nz hr.w1.1),h0y ht hr.w1.1,w0x (n+2) h.fold.t1,d1b h.fold.t1 (n0w h hn).1.b1 (show 0<=i by omega) (show i<=j by omega)];simp only[obs,d0u h.fold.t1 (show 0<=i by omega) (show i<=j by omega),if_true];by_cases h3:s.2.1 / c.2.1.2.1<i
 ·rw[q0z h3,q0z h3]
 rw[q0n h3,q0n h3];by_cases h4:j<=s.2.1 / c.2.1.2.1
 ·rw[q0z h4,q0z h4]
 rw[q0n h4,q0n h4,one1 (n+1) c h hw hn _ hq,q0n (Int.lt_irrefl _),q0n (Int.lt_irrefl _)];simp only[obs,o0c (n+4) (m0u _ _ _) (a2x c s)];by_cases h4:(now1 c s).2=0
 ·rw[q0z h4,q0n (nn h4)]
 ·rw[q0n h4,q0z h4];rfl
theorem m1q (n:Nat) (c:Conf) {s:Ser} (hw:SerW s) (i j:Int):d0z (n+22) c s 1 i j=some (d0f (SerOk c s) i j s.2.1 c.2.1.2.1 s.2.2.2.1.2.1 (now1 c s)):=by
 rw[l0o,h0q (n+11) c hw];by_cases h:SerOk c s
 case neg=>unfold d0f;rw[q0n h,q0n h];rfl
 rw[q0z h];simp only[obs,z0s,decide_true,q2s,tff,tfd,q0n (show ¬((1:Int)<0) by omega),q0n (show ¬((3:Int)<=1) by omega)];by_cases h1:i<0
 ·unfold d0f;rw[q0z h1,q0z h,q0z h1];rfl
 by_cases h2:j<i
 ·unfold d0f;rw[q0n h1,q0z h2,q0z h,q0n h1,q0z h2];rfl
 rw[q0n h1,q0n h2,f2e n c h hw h1 h2];rfl
theorem f2d (n:Nat) (c:Conf) {s:Ser} (h:SerOk c s) (hw:SerW s) {i j:Int} (h0:¬i<0) (hij:¬j<i):p0g (n+21) (c,s) 2 i j=some (d0f (SerOk c s) i j s.2.1 c.2.1.2.2 s.2.2.2.1.2.2 (now2 c s)):=by
 rw[m1j];unfold d0f;rw[q0z h,q0n h0,q0n hij];simp only[tfd,tfn];by_cases hn:s.2.1 = -1
 ·rw[q0z hn,q0z hn];rfl
 have hr:=h.fold.cok.rng;have ht:=g0q h hn;rw[q0n hn,q0n hn,q0n (nz hr.w2.1),h0y ht hr.w2.1,q0w (n+2) h.fold.t2];simp only[obs,d0u h.fold.t2 (show 0<=i by omega) (show i<=j by omega),if_true];by_cases h2:s.2.1 / c.2.1.2.2<i
 ·rw[q0z h2,q0z h2]
 rw[q0n h2,q0n h2];by_cases h3:j<=s.2.1 / c.2.1.2.2
 ·rw[q0z h3,q0z h3]
 rw[q0n h3,q0n h3,j2w n c h hw hn];simp only[obs,k0z (n+14) (m0u _ _ _) (now2_w c s)];by_cases h4:(now2 c s).2=0
 ·rw[q0z h4,q0n (nn h4)]
 ·rw[q0n h4,q0z h4];rfl
theorem d2v (n:Nat) (c:Conf) {s:Ser} (hw:SerW s) (i j:Int):f0s (n+10) c s 2 i j=some (d0f (SerOk c s) i j s.2.1 c.2.1.2.2 s.2.2.2.1.2.2 (now2 c s)):=by
 rw[f1z,w0v (n+1) c hw];unfold d0f;by_cases h:SerOk c s
 case neg=>rw[q0n h,q0n h];rfl
 rw[q0z h,q0z h];simp only[obs,decide_true,q2s,tff,tfd,tfn];by_cases h1:i<0
 ·rw[q0z h1,q0z h1];rfl
 rw[q0n h1,q0n h1];by_cases h2:j<i
 ·rw[q0z h2,q0z h2];rfl
 rw[q0n h2,q0n h2];by_cases hn:s.2.1 = -1
 ·rw[q0z hn,q0z hn];rfl
 have hr:=h.fold.cok.rng;have ht:=g0q h hn;have hq:0<=s.2.1 / c.2.1.2.2:=Int.ediv_nonneg ht.1 (by have:=hr.w2.1;omega);rw[q0n hn,q0n hn,q0n (nz hr.w2.1),h0y ht hr.w2.1,w0x (n+2) h.fold.t2,d1b h.fold.t2 (n0w h hn).1.b2 (show 0<=i by omega) (show i<=j by omega)];simp only[obs,d0u h.fold.t2 (show 0<=i by omega) (show i<=j by omega),if_true];by_cases h3:s.2.1 / c.2.1.2.2<i
 ·rw[q0z h3,q0z h3]
 rw[q0n h3,q0n h3];by_cases h4:j<=s.2.1 / c.2.1.2.2
 ·rw[q0z h4,q0z h4]
 rw[q0n h4,q0n h4,one2 n c h hw hn _ hq,q0n (Int.lt_irrefl _),q0n (Int.lt_irrefl _)];simp only[obs,o0c (n+4) (m0u _ _ _) (now2_w c s)];by_cases h4:(now2 c s).2=0
 ·rw[q0z h4,q0n (nn h4)]
 ·rw[q0n h4,q0z h4];rfl
theorem m1p (n:Nat) (c:Conf) {s:Ser} (hw:SerW s) (i j:Int):d0z (n+22) c s 2 i j=some (d0f (SerOk c s) i j s.2.1 c.2.1.2.2 s.2.2.2.1.2.2 (now2 c s)):=by
 rw[l0o,h0q (n+11) c hw];by_cases h:SerOk c s
 case neg=>unfold d0f;rw[q0n h,q0n h];rfl
 rw[q0z h];simp only[obs,z0s,decide_true,q2s,tff,tfd,q0n (show ¬((2:Int)<0) by omega),q0n (show ¬((3:Int)<=2) by omega)];by_cases h1:i<0
 ·unfold d0f;rw[q0z h1,q0z h,q0z h1];rfl
 by_cases h2:j<i
 ·unfold d0f;rw[q0n h1,q0z h2,q0z h,q0n h1,q0z h2];rfl
 rw[q0n h1,q0n h2,f2d n c h hw h1 h2];rfl
end Go.Proofs.YteopnkdnglpbfaaGreatDoor
