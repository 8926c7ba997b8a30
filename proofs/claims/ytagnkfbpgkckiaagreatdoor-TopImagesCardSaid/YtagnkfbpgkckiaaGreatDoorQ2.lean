/-
 Plain proofs about the functions of this seat, part 2 of 4.
-/
import Derived.Test.YtagnkfbpgkckiaaGreatDoorQ1
set_option linter.unusedVariables false
set_option linter.unusedSimpArgs false
open Go.IntKind (wrap)
namespace Go.Proofs.YtagnkfbpgkckiaaGreatDoor
open Go.Flat Go.Plim
abbrev Rw:=Int×(Int×List Ev)
structure RawOk (r:Rw)(room:Int):Prop where
 m0:1<=room
 m1:room<=4096
 len:(r.2.2.length:Int)<=room
 l0:0<=r.1
 l1:r.1<=70368744177664
 f:Foll r.2.2
 z:r.1=0->r.2.1=0
 p:r.1≠0->(r.2.2.length:Int)=room/\0<=r.2.1/\∀x,r.2.2.head? = some x->r.2.1<x.1
noncomputable instance (r room):Decidable (RawOk r room):=Classical.propDecidable _
def RawW (r:Rw):Prop:=∀e∈r.2.2,EvW e
theorem last_at {l pre rest:List Ev}{x:Ev}{i:Int}(hl:l=pre++x::rest)(hi:i=pre.length)(hL:l.length<=1000000)(h:0<i):∃q,pre.getLast? = some q/\at? l (wrap .i64 (i-1))=some q:=by
 rcases List.eq_nil_or_concat pre with rfl | ⟨q,y,rfl⟩
 ·simp at hi;omega
 rw[List.concat_eq_append] at *
 have hlen:=congrArg List.length hl;simp at hlen hi;refine ⟨y,by simp,?_⟩;rw[w64 (by omega) (by omega)];exact c0c (pre:=q) (rest:=x::rest) (by rw[hl];simp) (by omega)
theorem s2n {pre rest:List Ev}{x:Ev}(hp:Foll pre):(EvOk x/\(∀q,pre.getLast? = some q->q.1<x.1))↔Foll (pre++[x]):=by
 constructor
 ·rintro ⟨h1,h2⟩;refine z1o.2 ⟨hp,h1,?_⟩;rcases List.eq_nil_or_concat pre with rfl | ⟨q,y,rfl⟩
  ·simp
  ·rw[List.concat_eq_append] at *
   exact last_all hp (y:=y) (by simp) (h2 y (by simp))
 ·intro h;obtain ⟨h1,h2,h3⟩:=z1o.1 h;exact ⟨h2,fun q hq=>h3 q (List.mem_of_getLast? hq)⟩
theorem foll_pre {l pre rest:List Ev}{x:Ev}(hl:l=pre++x::rest)(h:Foll l):Foll (pre++[x]):=by
 rw[idxl hl] at h;exact (e0a.1 h).1
theorem x1o (n:Nat)(l:List Ev)(hL:l.length<=1000000)(hw:∀e∈l,EvW e):∀(rest pre:List Ev) (f:Nat) (i len:Int),l=pre++rest->i=pre.length->len=l.length->rest.length<f->Foll pre ->
  (Foll l->h0s (n+3) f (l,l,len,i,())=some (.inl ()))/\(¬Foll l->h0s (n+3) f (l,l,len,i,())=some (.inr false)):=by
 intro rest;induction rest with
 | nil =>
  intro pre f i len hl hi hn hf hp;obtain ⟨f,rfl⟩:=FSu hf;rw[u0n];have e:l=pre:=by rw[hl,q3v]
  exact ⟨fun _=>by simp only[tfd,q0n (idxe hl hi hn)],fun k=>absurd (e ▸ hp) k⟩
 | cons x rest ih =>
  intro pre f i len hl hi hn hf hp;obtain ⟨f,rfl⟩:=FSu hf;rw[u0n];have hx:EvW x:=hw x (by rw[hl];simp);have ih':=ih (pre++[x]) f (i+1) len (idxl hl) (idxs hi) hn (by simp at hf;omega);simp only[tfd,tfn,q0z (idx hl hi hn),c0c hl hi,obs,i0z _ hx,z02,idxw hl hi (by omega)];have nx:=s2n (rest:=rest) (x:=x) hp;by_cases c1:EvOk x
  case neg=>rw[q0n c1];exact ⟨fun k=>absurd (k.ok x (by rw[hl];simp)) c1,fun _=>rfl⟩
  rw[q0z c1];by_cases c2:0<i
  ·obtain ⟨q,hq,hat⟩:=last_at hl hi hL c2;have hqo:EvOk q:=hp.ok q (List.mem_of_getLast? hq);rw[q0z c2,hat,obs,w0d n (.of hqo) hx];simp only[obs,tfd];by_cases c3:q.1<x.1
   ·rw[q0z ⟨hqo,c1,c3⟩];exact ih' (nx.1 ⟨c1,fun z hz=>by rw[hq] at hz;injection hz with hz;rw[<-hz];exact c3⟩)
   ·rw[q0n (fun k=>c3 k.2.2)];exact ⟨fun k=>absurd ((nx.2 (foll_pre hl k)).2 q hq) c3,fun _=>rfl⟩
  ·have hpe:pre=[]:=List.length_eq_zero_iff.1 (by omega);rw[q0n c2];exact ih' (nx.1 ⟨c1,fun z hz=>by rw[hpe] at hz;cases hz⟩)
noncomputable instance (l:List Ev):Decidable (Foll l):=Classical.propDecidable _
theorem m1t (n:Nat)(l:List Ev)(hL:l.length<=1000000)(hw:∀e∈l,EvW e):e1e (n+4) l=some (decide (Foll l)):=by
 rw[s1l];have h:=x1o n l hL hw l [] a0b 0 l.length rfl rfl rfl (by unfold a0b;omega) Foll.nil;by_cases c:Foll l
 ·rw[h.1 c,q2g c];rfl
 ·rw[h.2 c,q1z c];rfl
theorem head_at (l:List Ev):at? l (0:Int)=l.head? := by cases l<;>rfl
theorem x1q (n:Nat)(r:Rw)(room:Int)(hw:RawW r):b1q (n+5) r room=some (if RawOk r room then 0 else 2):=by
 rw[x1r];simp only[tfd];by_cases h1:room<1
 ·rw[q0z h1,q0n (fun k:RawOk r room=>by have:=k.m0;omega)]
 by_cases h2:4096<room
 ·rw[q0n h1,q0z h2,q0n (fun k:RawOk r room=>by have:=k.m1;omega)]
 by_cases h3:room<r.2.2.length
 ·rw[q0n h1,q0n h2,q0z h3,q0n (fun k:RawOk r room=>by have:=k.len;omega)]
 by_cases h4:r.1<0
 ·rw[q0n h1,q0n h2,q0n h3,q0z h4,q0n (fun k:RawOk r room=>by have:=k.l0;omega)]
 by_cases h5:70368744177664<r.1
 ·rw[q0n h1,q0n h2,q0n h3,q0n h4,q0z h5,q0n (fun k:RawOk r room=>by have:=k.l1;omega)]
 rw[q0n h1,q0n h2,q0n h3,q0n h4,q0n h5,m1t n r.2.2 (by omega) hw,s1n];simp only[obs,tfn,tfd];by_cases h6:Foll r.2.2
 case neg=>rw[q0n h6,q0n (fun k:RawOk r room=>h6 k.f)]
 rw[q0z h6];by_cases h7:r.1=0
 ·rw[q0z h7,obs];simp only[tfd];by_cases h8:r.2.1=0
  ·rw[q0z h8,q0z (⟨by omega,by omega,by omega,by omega,by omega,h6,fun _=>h8,fun k=>absurd h7 k⟩:RawOk r room)]
  ·rw[q0n h8,q0n (fun k:RawOk r room=>h8 (k.z h7))]
 rw[q0n h7];by_cases h8:(r.2.2.length:Int)=room
 case neg=>rw[q0n h8,q0n (fun k:RawOk r room=>h8 (k.p h7).1)];rfl
 rw[q0z h8];by_cases h9:(0:Int)<=r.2.1
 case neg=>rw[q0n h9,q0n (fun k:RawOk r room=>h9 (k.p h7).2.1)];rfl
 rw[q0z h9,head_at];obtain ⟨x,hx⟩:∃x,r.2.2.head? = some x:=by
  cases hh:r.2.2 with
  | nil=>rw[hh] at h8;simp at h8;omega
  | cons x l=>exact ⟨x,rfl⟩
 rw[hx,obs,obs];simp only[tfd];by_cases h10:r.2.1<x.1
 ·rw[q0z h10,q0z (⟨by omega,by omega,by omega,by omega,by omega,h6,fun k=>absurd k h7,fun _=>⟨h8,h9,fun y hy=>by rw[hx] at hy;injection hy with hy;rw[<-hy];exact h10⟩⟩:RawOk r room)]
 ·rw[q0n h10,q0n (fun k:RawOk r room=>h10 ((k.p h7).2.2 x hx))]
theorem g2n (n:Nat)(r:Rw)(hL:r.2.2.length<=1000000):i1i (n+1) r=some (match r.2.2.getLast? with | some e=>(e,0) | none=>(e0,3)):=by
 rw[d2a];simp only[tfd];rcases List.eq_nil_or_concat r.2.2 with h | ⟨q,y,h⟩
 ·rw[h,q0z (by simp)];rfl
 ·rw[List.concat_eq_append] at h;have hlen:=congrArg List.length h;simp at hlen;rw[q0n (by omega),w64 (by omega) (by omega),c0c (pre:=q) (rest:=[]) h (by omega),h];simp
def After (l:List Ev)(e:Ev):Prop:=∀q,l.getLast? = some q->q.1<e.1
noncomputable instance (l e):Decidable (After l e):=Classical.propDecidable _
def r0w:Rw:=(0,(0,[]))
def t0g (r:Rw)(room:Int)(e:Ev):Rw :=
 if (r.2.2.length:Int)<room then (r.1,(r.2.1,r.2.2++[e])) else (r.1+1,((r.2.2.headD e0).1,r.2.2.drop 1++[e]))
noncomputable def v0k (r:Rw)(room:Int)(e:Ev):Rw×Int :=
 if RawOk r room/\EvOk e then (if After r.2.2 e then (if (r.2.2.length:Int)=room/\r.1=70368744177664 then (r0w,1) else (t0g r room e,0)) else (r0w,9)) else (r0w,2)
theorem k2r (n:Nat)(room:Int)(l:List Ev)(hL:l.length<=1000000)(hr:(l.length:Int)<=room):∀(rest pre:List Ev) (f:Nat) (i len:Int),l=pre++rest->i=pre.length->len=l.length->rest.length<f ->
  t0e (n+1) f ((room,(pre,(0,0))),l,len,i,())=some (.inl ((room,(l,(0,0))),())):=by
 intro rest;induction rest with
 | nil =>
  intro pre f i len hl hi hn hf;obtain ⟨f,rfl⟩:=FSu hf;rw[y0o];have e:l=pre:=by rw[hl,q3v]
  simp only[tfd,q0n (idxe hl hi hn),e]
 | cons x rest ih =>
  intro pre f i len hl hi hn hf;obtain ⟨f,rfl⟩:=FSu hf;have hp:pre.length+1<=l.length:=by have:=congrArg List.length hl;simp at this;omega
  rw[y0o];simp only[tfd,q0z (idx hl hi hn),c0c hl hi,obs,idxw hl hi (show l.length<=1000000000000 by omega),x1m,q0z (show (pre.length:Int)<room by omega),q0z (show (pre.length+1)*32<=140737488355328 by omega)];exact ih (pre++[x]) f (i+1) len (idxl hl) (idxs hi) hn (by simp at hf;omega)
theorem x1p (n:Nat)(room:Int)(l:List Ev)(h1:1<=room)(h2:room<=4096)(hr:(l.length:Int)<=room):t0f (n+2) l room=some (some (room,(l,(0,0))),0):=by
 rw[c2x,e1c];simp only[tfd,q0n (show ¬(room<1) by omega),q0n (show ¬(65536<room) by omega),obs,k0y,tfn,if_true];rw[k2r n room l (by omega) hr l [] a0b 0 _ rfl rfl rfl (by unfold a0b;omega)];rfl
theorem s1i (n:Nat)(room lost:Int)(l:List Ev)(k:Nat)(hk:k<=l.length)(hL:l.length<=1000000):p0u (n+1) (room,(l,((k:Int),lost)))=some (l.drop k++l.take k,(room,(l,((k:Int),lost)))):=by
 rw[p2u];have t1:(l.drop k).take (l.length-k)=l.drop k:=List.take_of_length_le (by simp);have t2:(List.drop 0 l).take (k-0)=l.take k:=by simp
 simp only[u0z,tft,q3g,t1,t2];simp only[tfd];rw[q0z (by omega),q0z (by omega),q0z (by omega),q0z hk,q0z (by simp;omega),q0z (by omega),q0z (by omega),q0z (by simp;omega)];simp
theorem x1l (n:Nat)(room:Int)(l:List Ev)(e:Ev)(h1:1<=room)(h2:room<=4096)(hr:(l.length:Int)<=room) :
  ∃q:Ev×(Bool×(Int×(List Ev×(Int×Int)))),f1w (n+2) (room,(l,(0,0))) e=some q /\
   (((l.length:Int)<room->q.2.1=false/\∃q',p0u (n+2) q.2.2=some (l++[e],q'))/\(¬(l.length:Int)<room->q.2.1=true/\q.1=l.headD e0/\∃q',p0u (n+2) q.2.2=some (l.drop 1++[e],q'))):=by
 rw[x1m];simp only[tfd];by_cases h:(l.length:Int)<room
 ·rw[q0z h,q0z (by omega)];refine ⟨_,rfl,fun _=>⟨rfl,?_⟩,fun k=>absurd h k⟩;have:=s1i (n+1) room 0 (l++[e]) 0 (by omega) (by simp;omega);exact ⟨_,by simpa using this⟩
 ·rw[q0n h]
  match l with
  | []=>simp at h;omega
  | x::l =>
   have e1:at? (x::l) (0:Int)=some x:=rfl;have e2:(x::l)[Int.toNat 0]? = some x:=rfl;have e3:(x::l).set (Int.toNat 0) e=e::l:=rfl;simp only[q3i] at hr h;rw[e1,e2,e3];simp only[obs];rw[c2u];simp only[tfd];rw[q0n (show ¬(((e::l).length:Int)=0) by simp;omega),w64 (x:=(0:Int)+1) (by omega) (by omega),obs];refine ⟨_,rfl,fun k=>absurd k (by simpa using h),fun _=>⟨rfl,rfl,?_⟩⟩;by_cases hl:l=[]
   ·subst hl;have em:Int.tmod (0+1) (((e::([]:List Ev)).length:Nat):Int)=((0:Nat):Int):=by
     rw[q0j (by decide)];show ((0:Int)+1) % ((1:Nat):Int)=_;decide
    rw[em];have:=s1i (n+1) room (wrap .u64 (0+1)) [e] 0 (by simp) (by simp);exact ⟨_,by simpa using this⟩
   ·have hp:=List.length_pos_iff.2 hl;have em:Int.tmod (0+1) (((e::l).length:Nat):Int)=((1:Nat):Int):=by
     rw[q0j (by omega),q3i];exact Int.emod_eq_of_lt (by omega) (by omega)
    rw[em];have:=s1i (n+1) room (wrap .u64 (0+1)) (e::l) 1 (by simp) (by simp;omega);exact ⟨_,by simpa using this⟩
theorem raw_tail (n:Nat){r:Rw}{room:Int}(e:Ev)(h:RawOk r room) :
  (a0a (t0f (n+2) r.2.2 room) fun r4 =>
   h1m (r4.1) (tif (!(decide (r4.2=(0:Int)))) (some (((0:Int),((0:Int),[])),r4.2)) none) fun r5 =>
    tif (!(decide (r4.2=(0:Int)))) (some (((0:Int),((0:Int),[])),r4.2))
     (a0a (f1w (n+2) r5 e) fun r6 =>
      tif (r6.2.1) (a0a (p0u (n+2) r6.2.2) fun r7=>some (((wrap .i64 (r.1+(1:Int))),(r6.1.1,r7.1)),(0:Int)))
       (a0a (p0u (n+2) r6.2.2) fun r8=>some ((r.1,(r.2.1,r8.1)),(0:Int)))))=some (t0g r room e,0):=by
 rw[x1p n room r.2.2 h.m0 h.m1 h.len];simp only[obs,k0y,decide_true,q3s,tff];obtain ⟨q,h1,h2,h3⟩:=x1l n room r.2.2 e h.m0 h.m1 h.len;rw[h1];have l0:=h.l0;have l1:=h.l1;simp only[obs];unfold t0g;by_cases hc:(r.2.2.length:Int)<room
 ·obtain ⟨k1,q',k2⟩:=h2 hc;rw[k1,tff,k2,q0z hc];rfl
 ·obtain ⟨k1,k2,q',k3⟩:=h3 hc;rw[k1,tft,k3,q0n hc,w64 (by omega) (by omega),k2];rfl
theorem n2r {l:List Ev}(h:l.getLast? = none)(e:Ev):After l e:=fun q hq=>by rw[h] at hq;cases hq
theorem raw_put (n:Nat){r:Rw}(room:Int){e:Ev}(hw:RawW r)(he:EvW e):c2z (n+6) r room e=some (v0k r room e):=by
 rw[k2s,x1q n r room hw,i0z _ he];simp only[obs,tfn,tfd,z02];unfold v0k;by_cases h1:RawOk r room
 case neg=>rw[q0n h1,q0n (fun k=>h1 k.1)];rfl
 by_cases h2:EvOk e
 case neg=>rw[q0z h1,q0n h2,q0n (fun k=>h2 k.2)];rfl
 have hl:=h1.len;have hm:=h1.m1;rw[q0z h1,q0z h2,q0z (And.intro h1 h2),g2n _ r (by omega)];have tl:=raw_tail (n+3) e h1;simp only[tfn,tfd] at tl;simp only[obs];rw[tl];have fin:(if (r.2.2.length:Int)=room then (if r.1=70368744177664 then some (((0:Int),((0:Int),([]:List Ev))),(1:Int)) else some (t0g r room e,0)) else some (t0g r room e,0))=some (if (r.2.2.length:Int)=room/\r.1=70368744177664 then (r0w,1) else (t0g r room e,0)):=by
  by_cases a:(r.2.2.length:Int)=room
  ·rw[q0z a];by_cases b:r.1=70368744177664
   ·rw[q0z b,q0z (And.intro a b)];rfl
   ·rw[q0n b,q0n (fun k=>b k.2)]
  ·rw[q0n a,q0n (fun k=>a k.1)]
 rw[fin];cases hg:r.2.2.getLast? with
 | none =>
  simp only;rw[q0n (by decide),q0z (n2r hg e)]
 | some q =>
  have hq:EvOk q:=h1.f.ok q (List.mem_of_getLast? hg);simp only[if_true];rw[w0d (n+2) (.of hq) he,obs];by_cases c:q.1<e.1
  ·have ha:After r.2.2 e:=fun z hz=>by rw[hg] at hz;injection hz with hz;rw[<-hz];exact c
   rw[q2g ⟨hq,h2,c⟩,q0z ha];rfl
  ·have ha:¬After r.2.2 e:=fun k=>c (k q hg)
   rw[q1z (fun k=>c k.2.2),q0n ha];rfl
theorem s0e (n:Nat)(l:List Slo)(h:l.length<=1000000):f0v (n+1) l=some l:=by
 rw[h1e];simp only[tfd,q0z (show (0+l.length)*120<=140737488355328 by omega),q3p];by_cases h0:l.length=0
 ·obtain rfl:=List.length_eq_zero_iff.1 h0;simp
 ·rw[q0n h0]
section
variable {del:a0c×Unit->Option Bool}{p:Slo->Bool}(hd:∀x,del (x,())=some (p x))
include hd
theorem s2f (n:Nat)(l:List Slo)(hL:l.length<=1000000):∀(rest pre:List Slo) (f:Nat) (i len:Int),l=pre++rest->i=pre.length->len=l.length->rest.length<f ->
  (d0o n f (l,del,len,i,())=some (.inl ())/\∀x∈rest,p x=false) \/
  (∃A x B,rest=A++x::B/\(∀y∈A,p y=false)/\p x=true/\d0o n f (l,del,len,i,())=some (.inr (i+A.length))):=by
 intro rest;induction rest with
 | nil =>
  intro pre f i len hl hi hn hf;obtain ⟨f,rfl⟩:=FSu hf;rw[j0r];exact .inl ⟨by simp only[tfd,q0n (idxe hl hi hn)],by simp⟩
 | cons x rest ih =>
  intro pre f i len hl hi hn hf;obtain ⟨f,rfl⟩:=FSu hf;rw[j0r];simp only[tfd,q0z (idx hl hi hn),c0c hl hi,obs,hd,idxw hl hi (by omega)];cases hp:p x with
  | true=>exact .inr ⟨[],x,rest,rfl,by simp,hp,by simp⟩
  | false =>
   rw[tff];rcases ih (pre++[x]) f (i+1) len (idxl hl) (idxs hi) hn (by simp at hf;omega) with ⟨h1,h2⟩ | ⟨A,y,B,h1,h2,h3,h4⟩
   ·exact .inl ⟨h1,by intro z hz;rcases q3k.1 hz with rfl | hz;exact hp;exact h2 z hz⟩
   ·refine .inr ⟨x::A,y,B,by rw[h1];rfl,?_,h3,by rw[h4,q3i,show i+1+(A.length:Int)=i+((A.length+1:Nat):Int) by omega]⟩;intro z hz;rcases q3k.1 hz with rfl | hz
    ·exact hp
    ·exact h2 z hz
theorem delete_l (n:Nat)(l0:List Slo)(hL:l0.length<=1000000):∀(rest F G:List Slo) (f:Nat) (i j:Int),(F++(G++rest)).length=l0.length->G≠[]->i=F.length->j=F.length+G.length->rest.length<f ->
  ∃G',d0j n f (F++(G++rest),del,i,j,())=some (.inl (F++rest.filter (fun x => !p x)++G',(F++rest.filter (fun x => !p x)).length,()))/\(F++rest.filter (fun x => !p x)++G').length=l0.length:=by
 intro rest;induction rest with
 | nil =>
  intro F G f i j hl hg hi hj hf;obtain ⟨f,rfl⟩:=FSu hf;rw[j0h];have:¬(j<((F++(G++[])).length:Int)):=by simp;omega
  simp only[tfd,q0n this];exact ⟨G,by simp[hi],by simpa using hl⟩
 | cons x rest ih =>
  intro F G f i j hl hg hi hj hf;obtain ⟨f,rfl⟩:=FSu hf;rw[j0h];simp only[q3b,q3i] at hl;have hlt:j<((F++(G++x::rest)).length:Int):=by simp;omega
  have hat:at? (F++(G++x::rest)) j=some x:=c0c (pre:=F++G) (rest:=rest) (by simp) (by simp;omega);have hget:(F++(G++x::rest))[j.toNat]? = some x:=by
   rw[show j.toNat=F.length+G.length by omega,q3f (by omega),q3f (by omega)];simp
  simp only[tfd,q0z hlt,hat,hget,obs,hd];have wj:wrap .i64 (j+1)=j+1:=by rw[w64 (by omega) (by omega)]
  have wi:wrap .i64 (i+1)=i+1:=by rw[w64 (by omega) (by omega)]
  rw[wj,wi]
  match G,hg with
  | g::G,_ =>
  cases hp:p x with
  | false =>
   have hat':at? (F++(g::G++x::rest)) i=some g:=c0c (pre:=F) (rest:=G++x::rest) (by simp) hi;have hget':(F++(g::G++x::rest))[i.toNat]? = some g:=by
    rw[show i.toNat=F.length by omega];simp
   have hset:(F++(g::G++x::rest)).set i.toNat x=(F++[x])++((G++[x])++rest):=by
    rw[show i.toNat=F.length by omega,q4q _ _ (by omega)];simp
   simp only[Bool.not_false,tft,hat',hget',obs,hset];obtain ⟨G',h1,h2⟩:=ih (F++[x]) (G++[x]) f (i+1) (j+1) (by simp at hl ⊢;omega) (by simp) (by simp;omega) (by simp at hj ⊢;omega) (by simp at hf;omega);refine ⟨G',?_,?_⟩
   ·rw[h1];simp[List.filter_cons,hp]
   ·rw[<-h2];simp[List.filter_cons,hp]
  | true =>
   simp only[q3s,tff];obtain ⟨G',h1,h2⟩:=ih F (g::G++[x]) f i (j+1) (by simp at hl ⊢;omega) (by simp) hi (by simp at hj ⊢;omega) (by simp at hf;omega);simp only[q3e,List.singleton_append] at h1;refine ⟨G',?_,?_⟩
   ·rw[h1];simp[List.filter_cons,hp]
   ·rw[<-h2];simp[List.filter_cons,hp]
theorem f2a (n:Nat)(l:List Slo)(hL:l.length<=1000000):j0v (n+2) l del=some (l.filter fun x => !p x):=by
 rw[v0g,m0s];rcases s2f hd n l hL l [] a0b 0 l.length rfl rfl rfl (by unfold a0b;omega) with ⟨h1,h2⟩ | ⟨A,x,B,h1,h2,h3,h4⟩
 ·rw[h1];simp only[obs,a0r,tfd,q0z trivial];exact congrArg some (List.filter_eq_self.2 fun y hy=>by simp[h2 y hy]).symm
 ·rw[h4];have hl:l.length=A.length+(B.length+1):=by rw[h1];simp
  simp only[obs,l0w,tfd,Int.zero_add];rw[q0n (by omega),w64 (x:=(A.length:Int)+1) (by omega) (by omega)];obtain ⟨G',g1,g2⟩:=delete_l hd (n+1) l hL B A [x] a0b (A.length:Int) (A.length+1) (by rw[h1];simp) (by simp) rfl (by simp) (by unfold a0b;omega);rw[show A++([x]++B)=l by rw[h1];simp] at g1;rw[g1];have hF:A++B.filter (fun x => !p x)=l.filter fun x => !p x:=by
   rw[h1,List.filter_append,List.filter_cons];have:A.filter (fun x => !p x)=A:=List.filter_eq_self.2 fun y hy=>by simp[h2 y hy]
   simp[h3,this]
  rw[hF] at g2 ⊢;generalize (l.filter fun x => !p x)=F at *
  simp only[obs,a0r,u0z,tfd,q3g];have hle:F.length<=(F++G').length:=by simp
  have k1:putRow (F++G') F.length (List.replicate ((F++G').length-F.length) s0)=F++List.replicate ((F++G').length-F.length) s0:=by
   unfold putRow;rw[List.drop_of_length_le (by simp)];simp
  have k2:=k1;simp only[s0,z0,e0] at k2;rw[k2,q0z (by omega),q0z hle,q0z (by omega),q0z (by omega),q0z (by simp;omega)];simp
end
theorem t2y (n:Nat)(x y:Int):l0h (n+2) x y=some (if x<y then -1 else if y<x then 1 else 0):=by
 rw[y0a,q0f,q0f];simp only[decide_true,q3s,obs,tff,tfd];by_cases h1:x<y
 ·rw[q0z h1,q0z h1]
 ·rw[q0n h1,q0n h1];by_cases h2:y<x
  ·rw[q0z h2,q0z h2]
  ·rw[q0n h2,q0n h2]
theorem t2z (n:Nat):Cmp (fun y3=>w0r (n+3) y3.1 y3.2.1) (fun s=>s.1):=by
 intro x y;refine ⟨if x.1<y.1 then -1 else if y.1<x.1 then 1 else 0,?_,?_⟩
 ·show w0r (n+3) x y=_;rw[r1h,t2y];rfl
 ·by_cases h1:x.1<y.1
  ·simp[h1]
  ·by_cases h2:y.1<x.1
   ·simp[h1,h2]
   ·simp[h1,h2]
theorem k1l {l:List Slo}(h:Srt (fun s=>s.1) l 0 l.length):l.Pairwise fun a b=>a.1<=b.1:=by
 rw[List.pairwise_iff_getElem];intro i j hi hj hij;exact h i j _ _ (by omega) hij hj (q2z hi) (q2z hj)
theorem tier_all (n:Nat){l:List Slo}{w:Int}(h:TierOk l w):r1i (n+17) l=some (tall l):=by
 have hl:=h.l1;rw[b2l,s0e _ l (by omega)];simp only[obs];rw[f2a (del:=fun y1=>v0a (n+16) y1.1) (p:=fun s=>decide (s=s0)) (fun x=>a1q (n+15) x) (n+14) l (by omega)];simp only[obs];have e:(l.filter fun x => !decide (x=s0))=u0k l:=by unfold u0k;congr 1;funext x;simp
 rw[e];have hle:(u0k l).length<=l.length:=List.length_filter_le _ _;obtain ⟨d',r1,r2,r3⟩:=r1y (t2z (n+13)) n 12 (u0k l) (by omega) (by omega);rw[r1];rw[<-r2.length_eq] at r3;rw[tall_eq h r2 (k1l r3)];rfl
theorem ev_wf {e:Ev}(h:Wf a0j e):EvW e:=by
 obtain ⟨h1,h2,h3,_⟩:=h;exact ⟨h1,h2,h3⟩
theorem cel_wf {c:Cel}(h:Wf c0f c):CelW c:=by
 obtain ⟨h1,h2,h3,⟨h4,h5⟩,h6,h7,h8⟩:=h;exact ⟨h1,ev_wf h2,ev_wf h3,⟨h4,h5⟩,h6,h7,h8⟩
theorem slo_wf {s:Slo}(h:Wf a0d s):SloW s:=by
 obtain ⟨h1,h2⟩:=h;exact ⟨h1,cel_wf h2⟩
theorem c2h {l:List Slo}(h:Wf (.slice a0d) l):∀s∈l,SloW s:=fun s hs=>slo_wf (h.2 s hs)
theorem r1f (n:Nat){l:List Slo}(w i:Int){c:Cel}(hw:∀s∈l,SloW s)(hc:CelW c):a1s (n+8) l w i c=some (if TierOk l w/\FitsP c w i then (tput l i c,0) else ([],2)):=by
 rw[b2j,w0q n l w hw,a1r (n+1) hc];simp only[obs,tfn,tfd,z02];by_cases h1:TierOk l w
 case neg=>rw[q0n h1,q0n (fun k=>h1 k.1)]
 by_cases h2:FitsP c w i
 case neg=>rw[q0z h1,q0n h2,q0n (fun k=>h2 k.2)]
 have l0:=h1.l0;have l1:=h1.l1;have hi:=h2.i0;rw[q0z h1,q0z h2,q0z (And.intro h1 h2),s0e _ l (by omega)];simp only[obs,n2x,d1r hi.1 (show (1:Int)<=l.length by omega)];have hm:=Int.emod_nonneg i (show (l.length:Int)≠0 by omega);have hm':=Int.emod_lt_of_pos i (show (0:Int)<l.length by omega);have e:at? l (i % (l.length:Int))=l[(i % (l.length:Int)).toNat]? := by
  obtain ⟨k,hk⟩:=Int.eq_ofNat_of_zero_le hm;rw[hk];exact g1t l k
 have hlt:(i % (l.length:Int)).toNat<l.length:=by omega
 simp only[e,q2z hlt,obs];rfl
theorem tier_new (n:Nat)(m:Int):a1t (n+1) m=some (if 1<=m/\m<=4096 then List.replicate m.toNat s0 else []):=by
 rw[b2k];simp only[tfd,u0z];by_cases h1:m<1
 ·rw[q0z h1,q0n (by omega)]
 by_cases h2:4096<m
 ·rw[q0n h1,q0z h2,q0n (by omega)]
 rw[q0n h1,q0n h2,q0z (by omega),q0z (by omega),q0z (by omega),q0z (by omega)];rfl
def inW (i k:Int)(s:Slo):Bool:=decide (i<=s.1/\s.1<k)
theorem b2i (n:Nat)(i k:Int)(s6:Cel)(l:List Slo)(hL:l.length<=1000000):∀(rest pre:List Slo) (f:Nat) (cells:List Cel) (ix len:Int),l=pre++rest->ix=pre.length->len=l.length->rest.length<f->cells.length<=pre.length ->
  j0f n f (i,k,s6,cells,l,len,ix,())=some (.inl (s6,cells++(rest.filter (inW i k)).map (·.2),())):=by
 intro rest;induction rest with
 | nil =>
  intro pre f cells ix len hl hi hn hf hc;obtain ⟨f,rfl⟩:=FSu hf;rw[v0b];simp only[tfd,q0n (idxe hl hi hn),List.filter_nil,List.map_nil,q3v]
 | cons x rest ih =>
  intro pre f cells ix len hl hi hn hf hc;obtain ⟨f,rfl⟩:=FSu hf;rw[v0b];have hp:pre.length+1<=l.length:=by have:=congrArg List.length hl;simp at this;omega
  simp only[tfd,q0z (idx hl hi hn),c0c hl hi,obs,idxw hl hi (by omega)];by_cases h1:i<=x.1
  ·rw[q0z h1];by_cases h2:x.1<k
   ·rw[q0z h2,q0z (by omega),ih (pre++[x]) f _ (ix+1) len (idxl hl) (idxs hi) hn (by simp at hf;omega) (by simp;omega)];have:inW i k x=true:=by simp[inW,h1,h2]
    rw[List.filter_cons_of_pos this];simp
   ·rw[q0n h2,ih (pre++[x]) f _ (ix+1) len (idxl hl) (idxs hi) hn (by simp at hf;omega) (by simp;omega)];rw[List.filter_cons_of_neg (by simp[inW,h2])]
  ·rw[q0n h1,ih (pre++[x]) f _ (ix+1) len (idxl hl) (idxs hi) hn (by simp at hf;omega) (by simp;omega)];rw[List.filter_cons_of_neg (by simp[inW,h1])]
theorem within_w {l:List Slo}{w:Int}(h:TierOk l w)(i k:Int):∀c∈within l i k,CellN c:=by
 intro c hc;simp only[within,q4g,q4m] at hc;obtain ⟨s,⟨hs,_⟩,rfl⟩:=hc;exact (j0o h hs).1.n
theorem g2c {l:List Slo}:(tall l).length<=l.length:=by
 rw[(a1u l).length_eq];exact List.length_filter_le _ _
theorem i2v (l:List Slo)(i k:Int):(within l i k).length<=l.length:=by
 unfold within;rw[List.length_map];exact q4n (List.length_filter_le _ _) g2c
theorem o0c (n:Nat){l:List Slo}{w:Int}(h:TierOk l w)(i k:Int):j0n (n+18) l i k=some (k0i l i k):=by
 have l1:=h.l1;have ht:=g2c (l:=l);rw[w1q];simp only[tfd];unfold k0i;by_cases h1:i<0
 ·rw[q0z h1,q0z (.inl h1)];rfl
 by_cases h2:k<i
 ·rw[q0n h1,q0z h2,q0z (.inr h2)];rfl
 rw[q0n h1,q0n h2,q0n (by omega),tier_all n h];simp only[obs];rw[b2i (n+17) i k _ (tall l) (by omega) (tall l) [] a0b [] 0 _ rfl rfl rfl (by unfold a0b;omega) (by simp)];simp only[obs,a0r,q3p];have e:List.map (·.2) (List.filter (inW i k) (tall l))=within l i k:=rfl;rw[e,cell_all (n+10) _ (by have:=i2v l i k;omega) (fun c hc => .ofN (within_w h i k c hc))];rfl
theorem z0h:SloW s0:=⟨by simp[I64,s0],f1i⟩
theorem w0s {l:List Slo}{w:Int}(h:TierOk l w):∀s∈l,SloW s:=by
 intro s hs;obtain ⟨j,hj⟩:=List.getElem?_of_mem hs;rcases h.s j s hj with rfl | ⟨_,hf⟩
 ·exact z0h
 ·have:=hf.i0;exact ⟨by unfold I64;omega,.ofN hf.n⟩
theorem g2p {e:Ev}(h:EvOk e){w:Int}(hw:1<=w):wrap .i64 (Int.tdiv e.1 w)=e.1 / w:=by
 have h0:=h.t0;have h1:=h.t1;have:0<=e.1 / w:=Int.ediv_nonneg h0 (by omega);have:e.1 / w<=e.1:=Int.ediv_le_self _ h0;rw[s0o h0,w64 (by omega) (by omega)]
theorem x1w {e:Ev}(h:EvOk e){w:Int}(hw:1<=w):0<=e.1 / w/\e.1 / w<35184372088832:=by
 have h0:=h.t0;have h1:=h.t1;have:0<=e.1 / w:=Int.ediv_nonneg h0 (by omega);have:e.1 / w<=e.1:=Int.ediv_le_self _ h0;omega
end Go.Proofs.YtagnkfbpgkckiaaGreatDoor
namespace Go.Plim
def rng (w:Int)(l:List Ev)(i k:Int):List Ev:=l.filter fun e=>decide (i<=e.1 / w/\e.1 / w<k)
def win (w:Int)(l:List Ev)(i:Int):List Ev:=l.filter fun e=>decide (e.1 / w=i)
theorem q1l {w:Int}{l:List Ev}(h:Foll l)(i:Int):Foll (win w l i):=h.sub List.filter_sublist
theorem o2c {w:Int}(hw:1<=w){a b:Ev}(h:a.1<b.1):a.1 / w<=b.1 / w:=Int.ediv_le_ediv (by omega) (by omega)
theorem foll_wd {w:Int}(hw:1<=w){l:List Ev}(h:Foll l):l.Pairwise fun a b=>a.1 / w<=b.1 / w:=h.inc.imp fun k=>o2c hw k
theorem p0y {l:List Slo}{w:Int}(h:TierOk l w){s:Slo}:s∈tall l↔s≠s0/\l[(s.1 % (l.length:Int)).toNat]? = some s:=by
 constructor
 ·intro hs;exact ⟨(x0h.1 hs).2,(j0o h hs).2⟩
 ·rintro ⟨h1,h2⟩;exact x0h.2 ⟨q3y h2,h1⟩
theorem tall_N {l:List Slo}{w:Int}(h:TierOk l w){s:Slo}(hs:s∈tall l):CellN s.2:=(j0o h hs).1.n
theorem rest_ne {a b n:Int}(hn:1<=n)(h1:a<b)(h2:b<a+n):a % n≠b % n:=by
 intro e;have:(b-a) % n=0:=by rw[Int.sub_emod,e];simp
 have h3:(b-a) % n=b-a:=Int.emod_eq_of_lt (by omega) (by omega);omega
theorem win_snoc (w:Int)(l:List Ev)(e:Ev)(i:Int):win w (l++[e]) i=if e.1 / w=i then win w l i++[e] else win w l i:=by
 unfold win;rw[List.filter_append];by_cases h:e.1 / w=i
 ·simp[h]
 ·simp[h]
theorem e1p {w:Int}{l:List Ev}{i:Int}{e:Ev}:e∈win w l i↔e∈l/\e.1 / w=i:=by simp[win]
structure TierInv (t:List Slo)(w:Int)(l:List Ev):Prop where
 ok:TierOk t w
 cells:∀s∈tall t,s.2=cellOf (win w l s.1)
 kept:∀i,(∃e∈l,e.1 / w=i)->(∀e∈l,e.1 / w<i+(t.length:Int))->(i,cellOf (win w l i))∈tall t
theorem z0f {n:Nat}{w:Int}(h0:1<=n)(h1:n<=4096)(w0:1<=w)(w1:w<=1099511627776):TierInv (List.replicate n s0) w []:=by
 have all:∀(j:Nat) s,(List.replicate n s0)[j]? = some s->s=s0:=fun j s hs=>List.eq_of_mem_replicate (q3y hs)
 refine ⟨⟨by simpa using h0,by simpa using h1,w0,w1,fun j s hs => .inl (all j s hs)⟩,fun s hs => ?_,fun i ⟨e,he,_⟩=>by cases he⟩;have:=x0h.1 hs;obtain ⟨j,hj⟩:=List.getElem?_of_mem this.1;exact absurd (all j s hj) this.2
theorem f2o {w i:Int}{l:List Ev}(h:Foll l)(hn:l≠[])(hi:∀e∈l,e.1 / w=i)(w0:1<=w)(w1:w<=1099511627776):FitsP (cellOf l) w i:=by
 have hs:=i2j h hn;exact ⟨hs.n,w0,w1,hi _ (List.mem_of_head? hs.first),hi _ (List.mem_of_getLast? hs.last)⟩
theorem tput_len (t:List Slo)(i:Int)(c:Cel):(tput t i c).length=t.length:=by simp[tput]
theorem j1d {t:List Slo}{w:Int}{l:List Ev}{e:Ev}(h:TierInv t w l)(hl:Foll (l++[e])):FitsP (cellOf (win w l (e.1 / w)++[e])) w (e.1 / w)/\TierInv (tput t (e.1 / w) (cellOf (win w l (e.1 / w)++[e]))) w (l++[e]):=by
 obtain ⟨hok,hcells,hkept⟩:=h;have w0:=hok.w0;have hl':=(e0a.1 hl).1;have hlt:∀x∈l,x.1<e.1:=fun x hx=>(e0a.1 hl).2.2 x hx e (by simp)
 have hle:∀x∈l,x.1 / w<=e.1 / w:=fun x hx=>o2c w0 (hlt x hx)
 have ews:win w (l++[e]) (e.1 / w)=win w l (e.1 / w)++[e]:=by rw[win_snoc,q0z rfl]
 have hwf:Foll (win w l (e.1 / w)++[e]):=by rw[<-ews];exact q1l hl _
 have hfit:FitsP (cellOf (win w l (e.1 / w)++[e])) w (e.1 / w):=by
  refine f2o hwf (by simp) (fun x hx => ?_) w0 hok.w1;rcases q3m.1 hx with hx | hx
  ·exact (e1p.1 hx).2
  ·simp at hx;rw[hx]
 generalize hi:e.1 / w=i at *
 generalize hc:cellOf (win w l i++[e])=c at *
 have hok':=q1y hok hfit;have hlen:=tput_len t i c;have hn:=hok.l0;have i0:=hfit.i0;have hm:=Int.emod_nonneg i (show (t.length:Int)≠0 by omega);have hm':=Int.emod_lt_of_pos i (show (0:Int)<t.length by omega);have cne:(i,c)≠s0:=fun k=>hfit.n.ne (congrArg Prod.snd k)
 have here:(tput t i c)[(i % (t.length:Int)).toNat]? = some (i,c):=by
  unfold tput;rw[List.getElem?_set,q0z rfl,q0z (by omega)]
 have there:∀j:Nat,j≠(i % (t.length:Int)).toNat->(tput t i c)[j]? = t[j]? := fun j hj=>by
  unfold tput;rw[List.getElem?_set,q0n (Ne.symm hj)]
 refine ⟨hfit,hok',fun s hs => ?_,fun j ⟨x,hx,hxj⟩ hall => ?_⟩
 ·rw[p0y hok',hlen] at hs;obtain ⟨s1,s2⟩:=hs;by_cases hj:(s.1 % (t.length:Int)).toNat=(i % (t.length:Int)).toNat
  ·rw[hj,here] at s2;injection s2 with s2;subst s2;rw[ews,hc]
  ·rw[there _ hj] at s2;have:=hcells s ((p0y hok).2 ⟨s1,s2⟩);rw[win_snoc,q0n (fun k=>hj (by rw[<-k,hi])),this]
 ·rw[hlen] at hall;rw[p0y hok',hlen];rcases q3m.1 hx with hx | hx
  ·by_cases hji:j=i
   ·subst hji;rw[ews,hc];exact ⟨cne,here⟩
   ·have hxi:=hle x hx;have hil:=hall e (by simp);have hjlt:j<i:=by omega
    have:=hkept j ⟨x,hx,hxj⟩ (fun y hy=>hall y (by simp[hy]));rw[p0y hok] at this;rw[win_snoc,q0n (by omega)];refine ⟨this.1,?_⟩;rw[there _ ?_]
    ·exact this.2
    ·intro k;have k:(j % (t.length:Int)).toNat=(i % (t.length:Int)).toNat:=k;have hjm:=Int.emod_nonneg j (show (t.length:Int)≠0 by omega);exact rest_ne (n:=(t.length:Int)) (by omega) hjlt (by omega) (by omega)
  ·simp at hx;subst hx;rw[hi] at hxj;subst hxj;rw[ews,hc];exact ⟨cne,here⟩
end Go.Plim
namespace Go.Proofs.YtagnkfbpgkckiaaGreatDoor
open Go.Flat Go.Plim
abbrev Trs:=List Slo×(List Slo×List Slo)
noncomputable instance (c:Conf):Decidable (OkC c):=Classical.propDecidable _
structure FoldOk (c:Conf)(s:Trs):Prop where
 cok:OkC c
 n0:(s.1.length:Int)=c.2.2.1.1
 n1:(s.2.1.length:Int)=c.2.2.1.2.1
 n2:(s.2.2.length:Int)=c.2.2.1.2.2
 t0:TierOk s.1 c.2.1.1
 t1:TierOk s.2.1 c.2.1.2.1
 t2:TierOk s.2.2 c.2.1.2.2
noncomputable instance (c:Conf) (s:Trs):Decidable (FoldOk c s):=Classical.propDecidable _
def mk1 (c:Conf)(s:Trs)(i:Int):Cel×Int:=k0i s.1 (i*(c.2.1.2.1 / c.2.1.1)) ((i+1)*(c.2.1.2.1 / c.2.1.1))
def mk2 (c:Conf)(s:Trs)(i:Int):Cel×Int:=k0i s.2.1 (i*(c.2.1.2.2 / c.2.1.2.1)) ((i+1)*(c.2.1.2.2 / c.2.1.2.1))
noncomputable def up1 (c:Conf)(s:Trs)(i j:Int):Trs :=
 if i*c.2.1.1 / c.2.1.2.1=j*c.2.1.1 / c.2.1.2.1 then s
 else if (mk1 c s (i*c.2.1.1 / c.2.1.2.1)).2=0/\FitsP (mk1 c s (i*c.2.1.1 / c.2.1.2.1)).1 c.2.1.2.1 (i*c.2.1.1 / c.2.1.2.1) then (s.1,(tput s.2.1 (i*c.2.1.1 / c.2.1.2.1) (mk1 c s (i*c.2.1.1 / c.2.1.2.1)).1,s.2.2))
 else s
noncomputable def up2 (c:Conf)(s:Trs)(i j:Int):Trs :=
 if i*c.2.1.1 / c.2.1.2.2=j*c.2.1.1 / c.2.1.2.2 then s
 else if (mk2 c s (i*c.2.1.1 / c.2.1.2.2)).2=0/\FitsP (mk2 c s (i*c.2.1.1 / c.2.1.2.2)).1 c.2.1.2.2 (i*c.2.1.1 / c.2.1.2.2) then (s.1,(s.2.1,tput s.2.2 (i*c.2.1.1 / c.2.1.2.2) (mk2 c s (i*c.2.1.1 / c.2.1.2.2)).1))
 else s
noncomputable def upw (c:Conf)(s:Trs)(i j:Int):Trs:=up2 c (up1 c s i j) i j
theorem up1_ok {c:Conf}{s:Trs}(h:FoldOk c s)(i j:Int):FoldOk c (up1 c s i j):=by
 unfold up1;split
 ·exact h
 ·split
  ·rename_i k;exact ⟨h.cok,h.n0,by simpa [tput] using h.n1,h.n2,h.t0,q1y h.t1 k.2,h.t2⟩
  ·exact h
theorem up2_ok {c:Conf}{s:Trs}(h:FoldOk c s)(i j:Int):FoldOk c (up2 c s i j):=by
 unfold up2;split
 ·exact h
 ·split
  ·rename_i k;exact ⟨h.cok,h.n0,h.n1,by simpa [tput] using h.n2,h.t0,h.t1,q1y h.t2 k.2⟩
  ·exact h
theorem upw_ok {c:Conf}{s:Trs}(h:FoldOk c s)(i j:Int):FoldOk c (upw c s i j):=up2_ok (up1_ok h i j) i j
theorem l2o {a w m:Int}(hw:1<=w)(h:a<=m / w):a*w<=m :=
 Int.le_trans (Int.mul_le_mul_of_nonneg_right h (by omega)) (Int.ediv_mul_le m (by omega))
def k0g (w i:Int):Prop:=0<=i/\i<=35184372088831 / w
instance (w i:Int):Decidable (k0g w i):=by unfold k0g;infer_instance
theorem k0g.mul {w i:Int}(hw:1<=w)(h:k0g w i):0<=i*w/\i*w<=35184372088831:=⟨Int.mul_nonneg h.1 (by omega),l2o hw h.2⟩
theorem q1c {x w:Int}(hw:1<=w)(h:0<=x/\x<=35184372088831):k0g w (x / w):=⟨Int.ediv_nonneg h.1 (by omega),Int.ediv_le_ediv (by omega) h.2⟩
theorem a2s {w i:Int}(hw:1<=w)(h:k0g w i):i<=35184372088831:=by
 have:=Int.ediv_le_self w (a:=35184372088831) (by decide);have:=h.2;omega
theorem l2q {a b i:Int}(ha:1<=a/\a<=1099511627776)(hb:1<=b/\b<=1099511627776)(hm:b % a=0)(h:k0g b i) :
  1<=b / a/\b / a<=1099511627776/\b / a*a=b/\0<=i*(b / a)/\i*(b / a)<=35184372088831/\(i+1)*(b / a)=i*(b / a)+b / a:=by
 have e:b / a*a=b:=by have:=Int.mul_ediv_add_emod b a;rw[Int.mul_comm];omega
 have h0:0<=b / a:=Int.ediv_nonneg (by omega) (by omega);have h1:b / a<=b:=Int.ediv_le_self _ (by omega);have h2:1<=b / a:=by
  rcases Int.lt_or_le 0 (b / a) with k | k
  ·omega
  ·have:b / a=0:=by omega
   rw[this] at e;omega
 have hi:=h.mul hb.1;have h3:0<=i*(b / a):=Int.mul_nonneg h.1 h0;have h4:i*(b / a)<=i*b:=Int.mul_le_mul_of_nonneg_left h1 h.1;exact ⟨h2,by omega,e,h3,by omega,by rw[Int.add_mul,Int.one_mul]⟩
structure TrsW (s:Trs):Prop where
 a:∀x∈s.1,SloW x
 b:∀x∈s.2.1,SloW x
 c:∀x∈s.2.2,SloW x
theorem FoldOk.w {c:Conf}{s:Trs}(h:FoldOk c s):TrsW s:=⟨w0s h.t0,w0s h.t1,w0s h.t2⟩
theorem s0d (n:Nat)(c:Conf):c0l (n+3) c=some (if OkC c then 0 else 2):=by
 by_cases h:OkC c
 ·rw[q0z h,n0m n h]
 ·rw[q0n h,v1j n h]
theorem c1p (n:Nat)(c:Conf){s:Trs}(hw:TrsW s):c1q (n+8) c s=some (if FoldOk c s then (some (c,s),0) else (none,2)):=by
 rw[z1p,s0d (n+4),w0q n _ _ hw.a,w0q n _ _ hw.b,w0q n _ _ hw.c];simp only[obs,tfn,tfd];by_cases h0:OkC c
 case neg=>rw[q0n (mt (z02 _).1 h0),q0n h0,q0n (fun k:FoldOk c s=>h0 k.cok)]
 rw[q0z ((z02 _).2 h0)];by_cases h1:(s.1.length:Int)=c.2.2.1.1
 case neg=>rw[q0n h1,q0n (fun k:FoldOk c s=>h1 k.n0)]
 rw[q0z h1];by_cases h2:TierOk s.1 c.2.1.1
 case neg=>rw[q0n (mt (z02 _).1 h2),q0n (fun k:FoldOk c s=>h2 k.t0)]
 rw[q0z ((z02 _).2 h2)];by_cases h3:(s.2.1.length:Int)=c.2.2.1.2.1
 case neg=>rw[q0n h3,q0n (fun k:FoldOk c s=>h3 k.n1)]
 rw[q0z h3];by_cases h4:TierOk s.2.1 c.2.1.2.1
 case neg=>rw[q0n (mt (z02 _).1 h4),q0n (fun k:FoldOk c s=>h4 k.t1)]
 rw[q0z ((z02 _).2 h4)];by_cases h5:(s.2.2.length:Int)=c.2.2.1.2.2
 case neg=>rw[q0n h5,q0n (fun k:FoldOk c s=>h5 k.n2)]
 rw[q0z h5];by_cases h6:TierOk s.2.2 c.2.1.2.2
 case neg=>rw[q0n (mt (z02 _).1 h6),q0n (fun k:FoldOk c s=>h6 k.t2)]
 rw[q0z ((z02 _).2 h6),q0z (⟨h0,h1,h3,h5,h2,h4,h6⟩:FoldOk c s)]
theorem m2m (n:Nat)(c:Conf){s:Trs}(hw:TrsW s):f1b (n+9) c s=some (if FoldOk c s then 0 else 2):=by
 rw[u1g,c1p n c hw];by_cases h:FoldOk c s
 ·rw[q0z h,q0z h];rfl
 ·rw[q0n h,q0n h];rfl
noncomputable def emp (c:Conf):Trs:=if OkC c then (List.replicate c.2.2.1.1.toNat s0,(List.replicate c.2.2.1.2.1.toNat s0,List.replicate c.2.2.1.2.2.toNat s0)) else ([],([],[]))
theorem m2k (n:Nat)(c:Conf):e1y (n+4) c=some (emp c):=by
 rw[u1e,s0d n];simp only[obs,tfn,tfd,tier_new];unfold emp;by_cases h:OkC c
 ·have h0:=h.rng.n0;have h1:=h.rng.n1;have h2:=h.rng.n2;rw[q0z ((z02 _).2 h),q0z h,q0z h0,q0z h1,q0z h2]
 ·rw[q0n (mt (z02 _).1 h),q0n h]
theorem quo_top {w:Int}(hw:1<=w):wrap .i64 (Int.tdiv 35184372088831 w)=35184372088831 / w:=by
 have:0<=(35184372088831:Int) / w:=Int.ediv_nonneg (by decide) (by omega);have:(35184372088831:Int) / w<=35184372088831:=Int.ediv_le_self _ (by decide);rw[s0o (by decide),w64 (by omega) (by omega)]
theorem begins_0 (n:Nat)(c:Conf)(s:Trs)(h:1<=c.2.1.1)(i:Int):t0z (n+1) (c,s) 0 i=some (decide (k0g c.2.1.1 i),(c,s)):=by
 rw[h1u];simp only[tfd,q0n (show ¬(c.2.1.1=0) by omega),quo_top h];by_cases h0:(0:Int)<=i
 ·rw[q0z h0];refine congrArg (fun b=>some (b,(c,s))) (q3r.2 ⟨fun k=>⟨h0,k⟩,fun k=>k.2⟩)
 ·rw[q0n h0,q1z (fun k:k0g c.2.1.1 i=>h0 k.1)]
theorem allE_okc (l:List Cel):∀c,c0d c->c0d (allE c l).1:=by
 induction l with
 | nil=>intro c h;exact h
 | cons x l ih =>
  intro c h;simp only[allE];split
  ·rename_i k;exact ih _ (d2v k).2.2.2.2
  ·exact t0o
theorem r0d (l:List Slo)(i k:Int):c0d (k0i l i k).1:=by
 unfold k0i;split
 ·exact t0o
 ·exact allE_okc _ _ t0o
theorem p1m {a b i:Int}(ha:1<=a/\a<=1099511627776)(hb:1<=b/\b<=1099511627776)(hm:b % a=0)(h:k0g b i) :
  wrap .i64 (i*(b / a))=i*(b / a)/\wrap .i64 ((wrap .i64 (i+1))*(b / a))=(i+1)*(b / a):=by
 obtain ⟨h1,h2,h3,h4,h5,h6⟩:=l2q ha hb hm h;have:=a2s hb.1 h;have:=h.1;rw[w64 (x:=i+1) (by omega) (by omega),h6,w64 (by omega) (by omega),w64 (by omega) (by omega)];exact ⟨rfl,rfl⟩
theorem m2j (n:Nat){c:Conf}{s:Trs}(h:FoldOk c s){i:Int}(hb:k0g c.2.1.2.1 i):i0s (n+19) (c,s) 1 i=some ((mk1 c s i).1,((mk1 c s i).2,(c,s))):=by
 have hr:=h.cok.rng;obtain ⟨e1,e2⟩:=p1m hr.w0 hr.w1 h.cok.m1 hb;rw[n1w];simp only[tfd,q0n (show ¬(c.2.1.1=0) by have:=hr.w0;omega),x1u hr.w1 hr.w0.1,e1,e2,o0c n h.t0,obs];rfl
theorem m2i (n:Nat){c:Conf}{s:Trs}(h:FoldOk c s){i:Int}(hb:k0g c.2.1.2.2 i):i0s (n+19) (c,s) 2 i=some ((mk2 c s i).1,((mk2 c s i).2,(c,s))):=by
 have hr:=h.cok.rng;obtain ⟨e1,e2⟩:=p1m hr.w1 hr.w2 h.cok.m2 hb;rw[n1v];simp only[tfd,q0n (show ¬(c.2.1.2.1=0) by have:=hr.w1;omega),x1u hr.w2 hr.w1.1,e1,e2,o0c n h.t1,obs];rfl
theorem s2r (n:Nat){c:Conf}{s:Trs}(h:FoldOk c s)(i:Int){x:Cel}(hx:CelW x):g0o (n+9) (c,s) 0 i x=some (if FitsP x c.2.1.1 i then (0,(c,(tput s.1 i x,s.2))) else (2,(c,s))):=by
 rw[u1l,r1f n _ _ (w0s h.t0) hx];simp only[obs,tfd];by_cases hf:FitsP x c.2.1.1 i
 ·rw[q0z (And.intro h.t0 hf),q0z hf];rfl
 ·have hn:¬(TierOk s.1 c.2.1.1/\FitsP x c.2.1.1 i):=fun k=>hf k.2
  rw[q0n hn,q0n hf];rfl
theorem s2q (n:Nat){c:Conf}{s:Trs}(h:FoldOk c s)(i:Int){x:Cel}(hx:CelW x):g0o (n+9) (c,s) 1 i x=some (if FitsP x c.2.1.2.1 i then (0,(c,(s.1,(tput s.2.1 i x,s.2.2)))) else (2,(c,s))):=by
 rw[u1k,r1f n _ _ (w0s h.t1) hx];simp only[obs,tfd];by_cases hf:FitsP x c.2.1.2.1 i
 ·rw[q0z (And.intro h.t1 hf),q0z hf];rfl
 ·have hn:¬(TierOk s.2.1 c.2.1.2.1/\FitsP x c.2.1.2.1 i):=fun k=>hf k.2
  rw[q0n hn,q0n hf];rfl
theorem s2p (n:Nat){c:Conf}{s:Trs}(h:FoldOk c s)(i:Int){x:Cel}(hx:CelW x):g0o (n+9) (c,s) 2 i x=some (if FitsP x c.2.1.2.2 i then (0,(c,(s.1,(s.2.1,tput s.2.2 i x)))) else (2,(c,s))):=by
 rw[u1j,r1f n _ _ (w0s h.t2) hx];simp only[obs,tfd];by_cases hf:FitsP x c.2.1.2.2 i
 ·rw[q0z (And.intro h.t2 hf),q0z hf];rfl
 ·have hn:¬(TierOk s.2.2 c.2.1.2.2/\FitsP x c.2.1.2.2 i):=fun k=>hf k.2
  rw[q0n hn,q0n hf];rfl
theorem x0g {a w i j:Int}(ha:1<=a)(hw:1<=w)(h0:0<=i)(hij:i<=j)(hj:k0g a j) :
  wrap .i64 (Int.tdiv (wrap .i64 (i*a)) w)=i*a / w/\k0g w (i*a / w):=by
 have hm:=hj.mul ha;have h1:0<=i*a:=Int.mul_nonneg h0 (by omega);have h2:i*a<=j*a:=Int.mul_le_mul_of_nonneg_right hij (by omega);have h3:0<=i*a / w:=Int.ediv_nonneg h1 (by omega);have h4:i*a / w<=i*a:=Int.ediv_le_self _ h1;rw[w64 (x:=i*a) (by omega) (by omega),s0o h1,w64 (by omega) (by omega)];exact ⟨rfl,q1c hw ⟨h1,by omega⟩⟩
theorem o2x (n:Nat){c:Conf}{s:Trs}(h:FoldOk c s){i j:Int}(h0:0<=i)(hij:i<=j)(hj:k0g c.2.1.1 j) :
  (tif (decide (wrap .i64 (Int.tdiv (wrap .i64 (i*c.2.1.1)) c.2.1.2.2)=wrap .i64 (Int.tdiv (wrap .i64 (j*c.2.1.1)) c.2.1.2.2))) (some (c,s))
   (a0a (i0s (n+19) (c,s) (2:Int) (wrap .i64 (Int.tdiv (wrap .i64 (i*c.2.1.1)) c.2.1.2.2))) fun r0 =>
    tif (decide (r0.2.1=(0:Int))) (tif (decide ((0:Int)<r0.1.1)) (a0a (g0o (n+19) r0.2.2 (2:Int) (wrap .i64 (Int.tdiv (wrap .i64 (i*c.2.1.1)) c.2.1.2.2)) r0.1) fun r1=>some r1.2) (some r0.2.2)) (some r0.2.2)))=some (c,up2 c s i j):=by
 have hr:=h.cok.rng;have hjj:0<=j:=hj.1;obtain ⟨e1,b1⟩:=x0g hr.w0.1 hr.w2.1 h0 hij hj;obtain ⟨e2,_⟩:=x0g hr.w0.1 hr.w2.1 hjj (Int.le_refl j) hj;rw[e1,e2,m2i n h b1];simp only[obs,tfd];unfold up2;by_cases c1:i*c.2.1.1 / c.2.1.2.2=j*c.2.1.1 / c.2.1.2.2
 ·rw[q0z c1,q0z c1]
 rw[q0n c1,q0n c1];generalize i*c.2.1.1 / c.2.1.2.2=a at *
 have hok:c0d (mk2 c s a).1:=r0d _ _ _;by_cases c2:(mk2 c s a).2=0
 ·rw[q0z c2];by_cases c3:0<(mk2 c s a).1.1
  ·rw[q0z c3,s2p (n+10) h a (CelW.of hok)];by_cases c4:FitsP (mk2 c s a).1 c.2.1.2.2 a
   ·rw[q0z c4,q0z (And.intro c2 c4)];rfl
   ·rw[q0n c4,q0n (fun k=>c4 k.2)];rfl
  ·rw[q0n c3,q0n (fun k=>c3 (by have:=k.2.n.n1;omega))]
 ·rw[q0n c2,q0n (fun k=>c2 k.1)]
theorem fold_up (n:Nat){c:Conf}{s:Trs}(h:FoldOk c s){i j:Int}(h0:0<=i)(hij:i<=j)(hj:k0g c.2.1.1 j):u1i (n+20) (c,s) i j=some (c,upw c s i j):=by
 have hr:=h.cok.rng;have hjj:0<=j:=hj.1;obtain ⟨e1,b1⟩:=x0g hr.w0.1 hr.w1.1 h0 hij hj;obtain ⟨e2,_⟩:=x0g hr.w0.1 hr.w1.1 hjj (Int.le_refl j) hj;have z1:¬(c.2.1.2.1=0):=by have:=hr.w1;omega
 have z2:¬(c.2.1.2.2=0):=by have:=hr.w2;omega
 rw[m2s];simp only[e1,e2,q1z z1,q1z z2,tff,m2j n h b1,obs,o2x n h h0 hij hj];unfold upw;simp only[tfd];by_cases c1:i*c.2.1.1 / c.2.1.2.1=j*c.2.1.1 / c.2.1.2.1
 ·have:up1 c s i j=s:=by unfold up1;rw[q0z c1]
  rw[q0z c1,this]
 rw[q0n c1];have e3:up1 c s i j=if (mk1 c s (i*c.2.1.1 / c.2.1.2.1)).2=0/\FitsP (mk1 c s (i*c.2.1.1 / c.2.1.2.1)).1 c.2.1.2.1 (i*c.2.1.1 / c.2.1.2.1) then (s.1,(tput s.2.1 (i*c.2.1.1 / c.2.1.2.1) (mk1 c s (i*c.2.1.1 / c.2.1.2.1)).1,s.2.2)) else s:=by
  unfold up1;rw[q0n c1]
 have hk:=up1_ok h i j;rw[e3] at hk ⊢;generalize i*c.2.1.1 / c.2.1.2.1=a at *
 have hok:c0d (mk1 c s a).1:=r0d _ _ _;by_cases c2:(mk1 c s a).2=0
 ·rw[q0z c2];by_cases c3:0<(mk1 c s a).1.1
  ·rw[q0z c3,s2q (n+10) h a (CelW.of hok)];by_cases c4:FitsP (mk1 c s a).1 c.2.1.2.1 a
   ·rw[q0z (And.intro c2 c4)] at hk ⊢;rw[q0z c4];have:=o2x n hk h0 hij hj;simp only[obs,q0n z2];simp only[tfd] at this ⊢;exact this
   ·have hn1:¬((mk1 c s a).2=0/\FitsP (mk1 c s a).1 c.2.1.2.1 a):=fun k=>c4 k.2
    rw[q0n hn1] at hk ⊢;rw[q0n c4];have:=o2x n hk h0 hij hj;simp only[obs,q0n z2];simp only[tfd] at this ⊢;exact this
  ·rw[q0n c3,q0n (fun k=>c3 (by have:=k.2.n.n1;omega))]
 ·rw[q0n c2,q0n (fun k=>c2 k.1)]
noncomputable def g1n (c:Conf)(s:Trs)(was:Slo)(j:Int):Trs×Int :=
 if FoldOk c s then
  (if was=s0 then (s,0)
   else if FitsP was.2 c.2.1.1 was.1 then
    (if was.1=j then (s,0) else if was.1<=j/\k0g c.2.1.1 j then (upw c (tput s.1 was.1 was.2,s.2) was.1 j,0) else (([],([],[])),1))
   else (([],([],[])),2))
 else (([],([],[])),2)
theorem l1f {c:Conf}{s:Trs}(h:FoldOk c s){i:Int}{x:Cel}(hf:FitsP x c.2.1.1 i):FoldOk c (tput s.1 i x,s.2) :=
 ⟨h.cok,by simpa [tput] using h.n0,h.n1,h.n2,q1y h.t0 hf,h.t1,h.t2⟩
theorem m2l (n:Nat)(c:Conf){s:Trs}(hw:TrsW s){was:Slo}(hx:SloW was)(j:Int):e1z (n+21) c s was j=some (g1n c s was j):=by
 rw[u1f,c1p (n+12) c hw];unfold g1n;by_cases h:FoldOk c s
 case neg=>rw[q0n h,q0n h];rfl
 have hr:=h.cok.rng;rw[q0z h,q0z h];simp only[obs,k0y,decide_true,q3s,tff,p2g,tfn,tfd,if_true,a1r (n+14) hx.c];by_cases c1:was=s0
 ·rw[q0z c1,q0z c1,q0z c1]
 rw[q0n c1,q0n c1,q0n c1];by_cases c2:FitsP was.2 c.2.1.1 was.1
 case neg=>rw[q0n c2,q0n c2]
 rw[q0z c2,q0z c2];by_cases c3:was.1=j
 ·rw[q0z c3,q0z c3]
 rw[q0n c3,q0n c3];by_cases c4:j<was.1
 ·rw[q0z c4,q0n (fun q=>by omega)]
 rw[q0n c4,begins_0 (n+19) c s hr.w0.1 j];simp only[obs,tfn,tfd];by_cases hb:k0g c.2.1.1 j
 ·have hi:=c2.i0;rw[q0z hb,q0z ⟨by omega,hb⟩,s2r (n+11) h was.1 hx.c,q0z c2];simp only[obs,if_true,fold_up n (l1f h c2) hi.1 (show was.1<=j by omega) hb]
 ·rw[q0n hb,q0n (fun q=>hb q.2)]
theorem FoldOk.lens {c:Conf}{s:Trs}(h:FoldOk c s):s.1.length<=1000000/\s.2.1.length<=1000000/\s.2.2.length<=1000000:=by
 have:=h.t0.l1;have:=h.t1.l1;have:=h.t2.l1;omega
theorem trs_wf {s:Trs}(h:Wf (.wrap (.pair (.slice a0d) (.pair (.slice a0d) (.slice a0d)))) s):TrsW s:=by
 obtain ⟨h1,h2,h3⟩:=h;exact ⟨c2h h1,c2h h2,c2h h3⟩
abbrev Ser:=List Lab×(Int×(Rw×(Trs×Slo)))
structure SerW (s:Ser):Prop where
 last:I64 s.2.1
 raw:RawW s.2.2.1
 trs:TrsW s.2.2.2.1
 opn:SloW s.2.2.2.2
def b0j (l:List Slo)(i:Int):Prop:=∀s∈l,0<s.2.1->s.1<i
noncomputable instance (l i):Decidable (b0j l i):=Classical.propDecidable _
structure Fresh (s:Ser):Prop where
 raw:s.2.2.1.2.2=[]
 opn:s.2.2.2.2=s0
 b0:b0j s.2.2.2.1.1 0
 b1:b0j s.2.2.2.1.2.1 0
 b2:b0j s.2.2.2.1.2.2 0
structure EndsP (c:Conf)(s:Ser):Prop where
 last:∃e,s.2.2.1.2.2.getLast? = some e/\e.1=s.2.1
 ol:s.2.2.2.2.2.2.2.1.1=s.2.1
 fit:FitsP s.2.2.2.2.2 c.2.1.1 s.2.2.2.2.1
 b0:b0j s.2.2.2.1.1 (s.2.1 / c.2.1.1)
 b1:b0j s.2.2.2.1.2.1 (s.2.1 / c.2.1.2.1)
 b2:b0j s.2.2.2.1.2.2 (s.2.1 / c.2.1.2.2)
structure SerOk (c:Conf)(s:Ser):Prop where
 fold:FoldOk c s.2.2.2.1
 lab:LabOk s.1
 raw:RawOk s.2.2.1 c.1
 st:(s.2.1 = -1/\Fresh s)\/(s.2.1 ≠ -1/\EndsP c s)
noncomputable instance (s):Decidable (Fresh s):=Classical.propDecidable _
noncomputable instance (c s):Decidable (EndsP c s):=Classical.propDecidable _
noncomputable instance (c s):Decidable (SerOk c s):=Classical.propDecidable _
theorem v1b (n:Nat){del:a0c×Unit->Option Bool}{p:Slo->Bool}(hd:∀x,del (x,())=some (p x))(l:List Slo)(hL:l.length<=1000000):i0l (n+2) l del=some (l.any p):=by
 rw[s0x,m0s];rcases s2f hd n l hL l [] a0b 0 l.length rfl rfl rfl (by unfold a0b;omega) with ⟨h1,h2⟩ | ⟨A,x,B,h1,h2,h3,h4⟩
 ·rw[h1];have:l.any p=false:=by rw[List.any_eq_false];intro x hx;simp[h2 x hx]
  rw[this];rfl
 ·rw[h4];have:l.any p=true:=List.any_eq_true.2 ⟨x,by rw[h1];simp,h3⟩;simp only[obs,l0w,this,Int.zero_add];rw[q2g (by omega)]
theorem d0t (n:Nat)(l:List Slo)(i:Int)(hL:l.length<=1000000):e0j (n+3) l i=some (!decide (b0j l i)):=by
 rw[h1h,v1b (p:=fun s=>decide (0<s.2.1/\i<=s.1)) n (fun x=>by
  show o0p (n+1+1) x i=_;rw[b1l]
  by_cases h1:0<x.2.1<;>by_cases h2:i<=x.1<;>simp[h1,h2]) l hL]
 simp only[obs];refine congrArg some ?_;by_cases h:b0j l i
 ·rw[q2g h];rw[List.any_eq_false.2]
  ·rfl
  ·intro x hx k;have:=of_decide_eq_true k;have:=h x hx this.1;omega
 ·rw[q1z h];have:∃x∈l,0<x.2.1/\i<=x.1:=Classical.byContradiction fun k=>h fun x hx hc=>by
   rcases Int.lt_or_le x.1 i with q | q
   ·exact q
   ·exact absurd ⟨x,hx,hc,q⟩ k
  obtain ⟨x,hx,hq⟩:=this;rw[List.any_eq_true.2 ⟨x,hx,q2g hq⟩];rfl
theorem m2a (n:Nat)(c:Conf){s:Ser}(hf:FoldOk c s.2.2.2.1):j1r (n+4) (c,s)=some (decide (Fresh s)):=by
 obtain ⟨l0,l1,l2⟩:=hf.lens;rw[x1e,p2g,d0t n _ _ l0,d0t n _ _ l1,d0t n _ _ l2];simp only[obs,Bool.not_not,tfd];by_cases h1:(s.2.2.1.2.2.length:Int)=0
 case neg=>rw[q0n h1,q1z (fun k:Fresh s=>h1 (by rw[k.raw];rfl))]
 rw[q0z h1];by_cases h2:s.2.2.2.2=s0
 case neg=>rw[q0n h2,q1z (fun k:Fresh s=>h2 k.opn)]
 rw[q0z h2];by_cases h3:b0j s.2.2.2.1.1 0
 case neg=>rw[q0n h3,q1z (fun k:Fresh s=>h3 k.b0)]
 rw[q0z h3];by_cases h4:b0j s.2.2.2.1.2.1 0
 case neg=>rw[q0n h4,q1z (fun k:Fresh s=>h4 k.b1)]
 rw[q0z h4];refine congrArg some (q3r.2 ⟨fun k=>⟨List.length_eq_zero_iff.1 (by omega),h2,h3,h4,k⟩,fun k=>k.b2⟩)
theorem r2n {c:Conf}{s:Ser}(hr:RawOk s.2.2.1 c.1){e:Ev}(he:s.2.2.1.2.2.getLast? = some e):EvOk e:=hr.f.ok e (List.mem_of_getLast? he)
theorem r2y (n:Nat)(c:Conf){s:Ser}(hf:FoldOk c s.2.2.2.1)(hr:RawOk s.2.2.1 c.1)(hw:SerW s):i1h (n+7) (c,s)=some (decide (EndsP c s)):=by
 obtain ⟨l0,l1,l2⟩:=hf.lens;have hg:=hf.cok.rng;have hlen:=hr.len;have hm1:=hr.m1;rw[c2e,g2n (n+5) s.2.2.1 (by omega)];cases hl:s.2.2.1.2.2.getLast? with
 | none =>
  simp only[obs];rw[show (decide ((3:Int)=0))=false from rfl,tff,q1z];intro k;obtain ⟨e,he,_⟩:=k.last;rw[hl] at he;cases he
 | some e =>
  have heo:=r2n hr hl;simp only[obs,decide_true,tft,tfd,if_true];by_cases h1:e.1=s.2.1
  case neg =>
   rw[q0n h1,q1z];intro k;obtain ⟨e',he,hq⟩:=k.last;rw[hl] at he;injection he with he;subst he;exact h1 hq
  rw[q0z h1];by_cases h2:s.2.2.2.2.2.2.2.1.1=s.2.1
  case neg=>rw[q0n h2,q1z (fun k:EndsP c s=>h2 k.ol)]
  have q0:=g2p heo hg.w0.1;have q1:=g2p heo hg.w1.1;have q2:=g2p heo hg.w2.1;rw[h1] at q0 q1 q2;rw[q0z h2,a1r n hw.opn.c];simp only[obs,tfd,q0,q1,q2,d0t (n+3) _ _ l0,d0t (n+3) _ _ l1,d0t (n+3) _ _ l2,Bool.not_not,q0n (show ¬(c.2.1.1=0) by have:=hg.w0;omega),q0n (show ¬(c.2.1.2.1=0) by have:=hg.w1;omega),q0n (show ¬(c.2.1.2.2=0) by have:=hg.w2;omega)];by_cases h3:FitsP s.2.2.2.2.2 c.2.1.1 s.2.2.2.2.1
  case neg=>rw[q0n h3,q1z (fun k:EndsP c s=>h3 k.fit)]
  rw[q0z h3];by_cases h4:b0j s.2.2.2.1.1 (s.2.1 / c.2.1.1)
  case neg=>rw[q0n h4,q1z (fun k:EndsP c s=>h4 k.b0)]
  rw[q0z h4];by_cases h5:b0j s.2.2.2.1.2.1 (s.2.1 / c.2.1.2.1)
  case neg=>rw[q0n h5,q1z (fun k:EndsP c s=>h5 k.b1)]
  rw[q0z h5];refine congrArg some (q3r.2 ⟨fun k=>⟨⟨e,hl,h1⟩,h2,h3,h4,h5,k⟩,fun k=>k.b2⟩)
theorem z08 (p:Prop)[Decidable p]:((if p then (0:Int) else 8)=0)↔p:=by by_cases h:p<;>simp[h]
theorem g0s (n:Nat)(c:Conf){s:Ser}(hw:SerW s):o0o (n+10) c s=some (if SerOk c s then (some (c,s),0) else (none,2)):=by
 rw[m1p,m2m n c hw.trs,i0y (n+3),x1q (n+4) _ _ hw.raw];simp only[obs,tfn,tfd];by_cases h1:FoldOk c s.2.2.2.1
 case neg=>rw[q0n (mt (z02 _).1 h1),q0n (fun k:SerOk c s=>h1 k.fold)]
 by_cases h2:LabOk s.1
 case neg=>rw[q0z ((z02 _).2 h1),q0n (mt (z08 _).1 h2),q0n (fun k:SerOk c s=>h2 k.lab)]
 by_cases h3:RawOk s.2.2.1 c.1
 case neg=>rw[q0z ((z02 _).2 h1),q0z ((z08 _).2 h2),q0n (mt (z02 _).1 h3),q0n (fun k:SerOk c s=>h3 k.raw)]
 rw[q0z ((z02 _).2 h1),q0z ((z08 _).2 h2),q0z ((z02 _).2 h3),m2a (n+5) c h1,r2y (n+2) c h1 h3 hw];simp only[obs,tfd];by_cases h4:s.2.1 = -1
 ·rw[q0z h4];by_cases h5:Fresh s
  ·rw[q0z h5,q0z (⟨h1,h2,h3,.inl ⟨h4,h5⟩⟩:SerOk c s)]
  ·rw[q0n h5,q0z h4,q0n (fun k:SerOk c s=>by
    rcases k.st with q | q
    ·exact h5 q.2
    ·exact q.1 h4)]
 ·rw[q0n h4,q0n h4];by_cases h5:EndsP c s
  ·rw[q0z h5,q0z (⟨h1,h2,h3,.inr ⟨h4,h5⟩⟩:SerOk c s)]
  ·rw[q0n h5,q0n (fun k:SerOk c s=>by
    rcases k.st with q | q
    ·exact h4 q.1
    ·exact h5 q.2)]
theorem v0u {l:List Slo}{w:Int}(h:TierOk l w)(i:Int):b0j l i↔∀s∈tall l,s.1<i:=by
 constructor
 ·intro k s hs;have:=(tall_N h hs).n1;exact k s (x0h.1 hs).1 (by omega)
 ·intro k s hs hc;exact k s (x0h.2 ⟨hs,fun e=>by rw[e] at hc;simp[s0,z0] at hc⟩)
theorem k1q {l:List Slo}{w:Int}(h:TierOk l w):b0j l 0↔tall l=[]:=by
 rw[v0u h];constructor
 ·intro k;by_cases e:tall l=[]
  ·exact e
  ·obtain ⟨s,hs⟩:=List.exists_mem_of_ne_nil _ e;have:=(j0o h hs).1.i0;have:=k s hs;omega
 ·intro e s hs;rw[e] at hs;cases hs
theorem nn {α:Type}{a b:α}(h:a=b):¬(a≠b):=fun k=>k h
def ser0:Ser:=([],(0,(r0w,(([],([],[])),s0))))
def f2t (s:Ser)(i:Int):Prop:=s.2.2.2.2≠s0/\s.2.2.2.2.1≠i
noncomputable instance (s i):Decidable (f2t s i):=Classical.propDecidable _
noncomputable def turned (c:Conf)(s:Ser)(i:Int):(Trs×Slo)×Int :=
 if f2t s i then (if (g1n c s.2.2.2.1 s.2.2.2.2 i).2=0 then (((g1n c s.2.2.2.1 s.2.2.2.2 i).1,s0),0) else ((s.2.2.2.1,s.2.2.2.2),(g1n c s.2.2.2.1 s.2.2.2.2 i).2)) else ((s.2.2.2.1,s.2.2.2.2),0)
noncomputable def putE (c:Conf)(s:Ser)(e:Ev):Ser×Int :=
 if SerOk c s/\EvOk e then
  (if e.1<=s.2.1 then (ser0,9)
   else if (turned c s (e.1 / c.2.1.1)).2≠0 then (ser0,(turned c s (e.1 / c.2.1.1)).2)
   else if (v0k s.2.2.1 c.1 e).2≠0 then (ser0,(v0k s.2.2.1 c.1 e).2)
   else if (mrgE (turned c s (e.1 / c.2.1.1)).1.2.2 (e0p e)).2≠0 then (ser0,(mrgE (turned c s (e.1 / c.2.1.1)).1.2.2 (e0p e)).2)
   else ((s.1,(e.1,((v0k s.2.2.1 c.1 e).1,((turned c s (e.1 / c.2.1.1)).1.1,(e.1 / c.2.1.1,(mrgE (turned c s (e.1 / c.2.1.1)).1.2.2 (e0p e)).1))))),0))
 else (ser0,2)
theorem y1k {c:Conf}{s:Ser}(h:SerOk c s):s.2.2.2.2.2.1=0↔s.2.2.2.2=s0:=by
 constructor
 ·intro k;rcases h.st with q | q
  ·exact q.2.opn
  ·have:=q.2.fit.n.n1;omega
 ·intro k;rw[k];rfl
theorem turned_w {c:Conf}{s:Ser}(hw:SerW s)(i:Int):SloW (turned c s i).1.2:=by
 unfold turned;split
 ·split
  ·exact z0h
  ·exact hw.opn
 ·exact hw.opn
theorem r2w (n:Nat)(c:Conf){s:Ser}(h:SerOk c s)(hw:SerW s)(i:Int):r1u (n+22) (c,s) i=some ((turned c s i).2,(c,(s.1,(s.2.1,(s.2.2.1,(turned c s i).1))))):=by
 rw[c2d];simp only[tfd,m2l n c hw.trs hw.opn i,obs];unfold turned;by_cases h1:s.2.2.2.2.1=i
 ·rw[q0z h1,q0n (fun k:f2t s i=>k.2 h1)]
 rw[q0n h1];by_cases h2:s.2.2.2.2.2.1=0
 ·rw[q0z h2,q0n (fun k:f2t s i=>k.1 ((y1k h).1 h2))]
 have ht:f2t s i:=⟨fun k=>h2 ((y1k h).2 k),h1⟩;rw[q0n h2,q0z ht];by_cases h3:(g1n c s.2.2.2.1 s.2.2.2.2 i).2=0
 ·rw[q0z h3,q0z h3,h3];rfl
 ·rw[q0n h3,q0n h3]
theorem k2d (n:Nat)(c:Conf){s:Ser}(hw:SerW s){e:Ev}(he:EvW e):d1z (n+23) c s e=some (putE c s e):=by
 rw[s1e,g0s (n+12) c hw,i0z _ he];unfold putE;by_cases h1:SerOk c s
 case neg=>rw[q0n h1,q0n (fun k:SerOk c s/\EvOk e=>h1 k.1)];rfl
 rw[q0z h1];have hg:=h1.fold.cok.rng;simp only[obs,k0y,decide_true,q3s,tff,tfn,tfd];by_cases h2:EvOk e
 case neg=>rw[q0n (mt (z02 _).1 h2),q0n (fun k:SerOk c s/\EvOk e=>h2 k.2)];rfl
 rw[q0z ((z02 _).2 h2),q0z (And.intro h1 h2)];by_cases h3:e.1<=s.2.1
 ·rw[q0z h3,q0z h3];rfl
 rw[q0n h3,q0n h3,q0n (show ¬(c.2.1.1=0) by have:=hg.w0;omega),g2p h2 hg.w0.1,r2w n c h1 hw];generalize ht:turned c s (e.1 / c.2.1.1)=t;have htw:=turned_w (c:=c) hw (e.1 / c.2.1.1);rw[ht] at htw;simp only[obs];by_cases h4:t.2=0
 case neg=>rw[q0n h4,q0z h4];rfl
 rw[q0z h4,q0n (nn h4),j2o,raw_put (n+15) c.1 hw.raw he,cell_add (n+14) htw.c he,q0z h2];simp only[obs,tfn,tfd];by_cases h5:(v0k s.2.2.1 c.1 e).2=0
 case neg =>
  rw[q0n h5,q0z h5];simp only[obs];rw[q0n h5];rfl
 rw[q0z h5,q0n (nn h5)];simp only[obs];by_cases h6:(mrgE t.1.2.2 (e0p e)).2=0
 ·rw[q0z h6,q0n (nn h6)];simp only[if_true]
 ·rw[q0n h6,q0z h6];rfl
end Go.Proofs.YtagnkfbpgkckiaaGreatDoor
namespace Go.Plim
def below (w:Int)(l:List Ev)(t:Int):List Ev:=l.filter fun e=>decide (e.1 / w<t / w)
structure EndsAt (l:List Ev)(t:Int):Prop where
 foll:Foll l
 le:∀e∈l,e.1<=t
 last:∃e∈l,e.1=t
theorem EndsAt.wle {l:List Ev}{t:Int}(h:EndsAt l t){w:Int}(hw:1<=w):∀e∈l,e.1 / w<=t / w:=fun e he=>Int.ediv_le_ediv (by omega) (h.le e he)
theorem m2x {l:List Ev}{t:Int}(h:EndsAt l t){w:Int}(hw:1<=w):l=below w l t++win w l (t / w):=by
 have key:∀(m:List Ev),(∀e∈m,e.1 / w<=t / w)->m.Pairwise (fun a b=>a.1 / w<=b.1 / w)->m=below w m t++win w m (t / w):=by
  intro m;induction m with
  | nil=>intro _ _;rfl
  | cons x m ih =>
   intro h1 h2;rw[q4t] at h2;have ih':=ih (fun e he=>h1 e (by simp[he])) h2.2;have hx:=h1 x (by simp);unfold below win at *
   by_cases c:x.1 / w<t / w
   ·rw[List.filter_cons_of_pos (by simpa using c),List.filter_cons_of_neg (by simp;omega),q4w,<-ih']
   ·have e0:m.filter (fun e=>decide (e.1 / w<t / w))=[]:=by
     rw[List.filter_eq_nil_iff];intro y hy;have:=h2.1 y hy;simp;omega
    rw[List.filter_cons_of_neg (by simpa using c),List.filter_cons_of_pos (by simp;omega),e0,q3p];rw[e0,q3p] at ih';rw[<-ih']
 exact key l (h.wle hw) (foll_wd hw h.foll)
theorem o2h (t:List Slo)(i:Int)(a b:Cel):tput (tput t i a) i b=tput t i b:=by
 unfold tput;rw[List.length_set,List.set_set]
theorem r1k {t:List Slo}{w a:Int}{l:List Ev}(h:TierInv t w l):∀(n:Nat) (B:List Ev),B.length=n+1->Foll (l++B)->(∀e∈B,e.1 / w=a) ->
  FitsP (cellOf (win w (l++B) a)) w a/\TierInv (tput t a (cellOf (win w (l++B) a))) w (l++B):=by
 intro n;induction n with
 | zero =>
  intro B hB hf ha
  match B,hB with
  | [e],_ =>
   have he:=ha e (by simp);have:=j1d h hf;rw[he] at this;rw[win_snoc,q0z he];exact this
 | succ n ih =>
  intro B hB hf ha;rcases List.eq_nil_or_concat B with rfl | ⟨B',e,rfl⟩
  ·cases hB
  rw[List.concat_eq_append] at *
  have he:=ha e (by simp);have hf':Foll (l++B'++[e]):=by rw[q3e];exact hf
  obtain ⟨h1,h2⟩:=ih B' (by simp at hB;exact hB) (e0a.1 hf').1 (fun x hx=>ha x (by simp[hx]));have:=j1d h2 hf';rw[he,o2h,q3e] at this;rw[<-q3e,win_snoc,q0z he];rw[q3e];exact this
theorem r1j {s:List Slo}{w:Int}{l:List Ev}{t:Int}(he:EndsAt l t)(h:TierInv s w (below w l t)):FitsP (cellOf (win w l (t / w))) w (t / w)/\TierInv (tput s (t / w) (cellOf (win w l (t / w)))) w l:=by
 have hw:=h.ok.w0;have hs:=m2x he hw;obtain ⟨e,hel,het⟩:=he.last;have hne:win w l (t / w)≠[]:=fun k=>by
  have:e∈win w l (t / w):=e1p.2 ⟨hel,by rw[het]⟩;rw[k] at this;cases this
 have hlen:(win w l (t / w)).length=((win w l (t / w)).length-1)+1:=by have:=List.length_pos_iff.2 hne;omega
 have:=r1k h _ (win w l (t / w)) hlen (by rw[<-hs];exact he.foll) (fun x hx=>(e1p.1 hx).2);rw[<-hs] at this;exact this
theorem edvm {t a b:Int}(ha:1<=a)(hb:1<=b)(hm:b % a=0):t / a*a / b=t / b/\t / a / (b / a)=t / b:=by
 have e:a*(b / a)=b:=by have:=Int.mul_ediv_add_emod b a;omega
 have h1:t / a / (b / a)=t / b:=by rw[Int.ediv_ediv_of_nonneg (by omega),e]
 refine ⟨?_,h1⟩;rw[<-h1]
 conv=>lhs;rw[<-e,Int.mul_comm (t / a) a]
 exact Int.mul_ediv_mul_of_pos _ _ (by omega)
end Go.Plim
namespace Go.Proofs.YtagnkfbpgkckiaaGreatDoor
open Go.Flat Go.Plim
structure FInv (c:Conf)(s:Trs)(l:List Ev)(t:Int):Prop where
 ok:FoldOk c s
 i0:TierInv s.1 c.2.1.1 (below c.2.1.1 l t)
 i1:TierInv s.2.1 c.2.1.2.1 (below c.2.1.2.1 l t)
 i2:TierInv s.2.2 c.2.1.2.2 (below c.2.1.2.2 l t)
theorem OkC.m02 {c:Conf}(h:OkC c):c.2.1.2.2 % c.2.1.1=0:=by
 have h1:=Int.dvd_of_emod_eq_zero h.m1;have h2:=Int.dvd_of_emod_eq_zero h.m2;exact Int.emod_eq_zero_of_dvd (Int.dvd_trans h1 h2)
theorem allE_up {w:Int}:∀(L:List Slo) (c:Cel) (lo:Int),Up L->(∀s∈L,FitsP s.2 w s.1/\lo<=s.1)->c0d c->(c=z0\/c.2.2.1.1 / w<lo)->(allE c (L.map (·.2))).2=0:=by
 intro L;induction L with
 | nil=>intro c lo _ _ _ _;rfl
 | cons s L ih =>
  intro c lo hu hs hc hl;unfold Up at hu;rw[q4t] at hu;obtain ⟨hf,h1⟩:=hs s (by simp);have ha:Ahead c s.2:=by
   rcases hl with h | h
   ·exact .inl h
   ·refine .inr (.inr ?_);have e:=hf.f;rcases Int.lt_or_le c.2.2.1.1 s.2.2.1.1 with q | q
    ·exact q
    ·have:=Int.ediv_le_ediv (c:=w) (by have:=hf.w0;omega) q;omega
  have em:mrgE c s.2=(mrg c s.2,0):=by unfold mrgE;rw[q0z (And.intro hc hf.n.ok),q0z ha]
  simp only[q4i,allE];rw[em,q0z rfl];refine ih _ (s.1+1) hu.2 (fun x hx=>⟨(hs x (by simp[hx])).1,by have:=hu.1 x hx;omega⟩) (y1r hc hf.n.ok ha) (.inr ?_);have el:(mrg c s.2).2.2.1.1=s.2.2.2.1.1:=by
   unfold mrg;by_cases k:c=z0
   ·rw[q0z k]
   ·rw[q0n k,q0n hf.n.ne]
  rw[el,hf.l];omega
theorem k0p {l:List Slo}{w i k:Int}(h:TierOk l w)(h0:0<=i)(hik:i<=k):(k0i l i k).2=0:=by
 unfold k0i;rw[q0n (by omega)];unfold within;refine allE_up (w:=w) _ z0 0 ((r1n h).filter _) (fun s hs => ?_) t0o (.inl rfl);have:=(j0o h (q4m.1 hs).1).1;exact ⟨this,this.i0.1⟩
noncomputable def now1 (c:Conf)(s:Ser):Cel×Int:=mrgE (k0i s.2.2.2.1.1 (s.2.1 / c.2.1.2.1*(c.2.1.2.1 / c.2.1.1)) (s.2.1 / c.2.1.1)).1 s.2.2.2.2.2
noncomputable def now2 (c:Conf)(s:Ser):Cel×Int :=
 if (now1 c s).2≠0 then (z0,(now1 c s).2) else mrgE (k0i s.2.2.2.1.2.1 (s.2.1 / c.2.1.2.2*(c.2.1.2.2 / c.2.1.2.1)) (s.2.1 / c.2.1.2.1)).1 (now1 c s).1
theorem j1f (l:List Slo)(i k:Int):CelW (k0i l i k).1 := .of (r0d l i k)
theorem p1a {c:Conf}{s:Ser}(h:SerOk c s)(hn:¬(s.2.1 = -1)):EndsP c s/\∃e,EvOk e/\e.1=s.2.1:=by
 rcases h.st with q | q
 ·exact absurd q.1 hn
 ·obtain ⟨e,he,h1⟩:=q.2.last;exact ⟨q.2,e,r2n h.raw he,h1⟩
theorem p1g {a b t:Int}(ha:1<=a/\a<=1099511627776)(hb:1<=b/\b<=1099511627776)(hm:b % a=0)(ht:0<=t/\t<35184372088832) :
  0<=t / b*(b / a)/\t / b*(b / a)<=t / a/\t / a<35184372088832/\0<=t / a:=by
 have h1:=(edvm (t:=t) ha.1 hb.1 hm).2;have h2:0<=t / b:=Int.ediv_nonneg ht.1 (by omega);have h3:0<=b / a:=Int.ediv_nonneg (by omega) (by omega);have h4:0<=t / a:=Int.ediv_nonneg ht.1 (by omega);have h5:t / a<=t:=Int.ediv_le_self _ ht.1;refine ⟨Int.mul_nonneg h2 h3,?_,by omega,h4⟩;have h6:1<=b / a:=by
  have e:a*(b / a)=b:=by have:=Int.mul_ediv_add_emod b a;omega
  rcases Int.lt_or_le 0 (b / a) with q | q
  ·omega
  ·have:b / a=0:=by omega
   rw[this] at e;omega
 rw[<-h1];exact Int.ediv_mul_le _ (by omega)
structure At (c:Conf)(s:Ser):Prop where
 l0:0<=s.2.1
 l1:s.2.1<35184372088832
theorem p0r {c:Conf}{s:Ser}(h:SerOk c s)(hn:¬(s.2.1 = -1)):0<=s.2.1/\s.2.1<35184372088832:=by
 obtain ⟨_,e,he,h1⟩:=p1a h hn;rw[<-h1];exact ⟨he.t0,he.t1⟩
theorem r0l {t:Int}(ht:0<=t/\t<35184372088832){w:Int}(hw:1<=w):wrap .i64 (Int.tdiv t w)=t / w:=by
 have:0<=t / w:=Int.ediv_nonneg ht.1 (by omega);have:t / w<=t:=Int.ediv_le_self _ ht.1;rw[s0o ht.1,w64 (by omega) (by omega)]
theorem nz {w:Int}(h:1<=w):¬(w=0):=by omega
theorem z1e (n:Nat)(c:Conf)(s:Ser):o0i (n+1) (c,s) 0=some (s.2.2.2.2.2,0):=by rw[x1d]
theorem mrgE_nn (a b:Cel):0<=(mrgE a b).2:=by
 unfold mrgE;split
 ·split<;>simp
 ·simp
theorem z1d (n:Nat)(c:Conf){s:Ser}(h:SerOk c s)(hw:SerW s)(hn:¬(s.2.1 = -1)):o0i (n+19) (c,s) 1=some (now1 c s):=by
 have hr:=h.fold.cok.rng;have ht:=p0r h hn;obtain ⟨o1,o2,o3,o4⟩:=p1g hr.w0 hr.w1 h.fold.cok.m1 ht;rw[x1c];simp only[tfd,tfn,q0n (nz hr.w0.1),q0n (nz hr.w1.1),r0l ht hr.w0.1,r0l ht hr.w1.1,x1u hr.w1 hr.w0.1];rw[w64 (by omega) (by omega),o0c n h.fold.t0,z1e (n+17)];simp only[obs,k0p h.fold.t0 o1 o2,if_true,l0i (n+12) (j1f _ _ _) hw.opn.c];rfl
theorem now1_w (c:Conf)(s:Ser):CelW (now1 c s).1:=r2b _ _
theorem r2x (n:Nat)(c:Conf){s:Ser}(h:SerOk c s)(hw:SerW s)(hn:¬(s.2.1 = -1)):o0i (n+20) (c,s) 2=some (now2 c s):=by
 have hr:=h.fold.cok.rng;have ht:=p0r h hn;obtain ⟨o1,o2,o3,o4⟩:=p1g hr.w1 hr.w2 h.fold.cok.m2 ht;rw[x1b];simp only[tfd,tfn,q0n (nz hr.w1.1),q0n (nz hr.w2.1),r0l ht hr.w1.1,r0l ht hr.w2.1,x1u hr.w2 hr.w1.1];rw[w64 (by omega) (by omega),o0c (n+1) h.fold.t1,z1d n c h hw hn];simp only[obs,k0p h.fold.t1 o1 o2,if_true,l0i (n+13) (j1f _ _ _) (now1_w c s)];unfold now2;by_cases k:(now1 c s).2=0
 ·rw[q0z k,q0n (nn k)]
 ·have:0<=(now1 c s).2:=mrgE_nn _ _;rw[q0n k,q0z k,q0z (by omega)];rfl
noncomputable def f0h (ok:Prop)[Decidable ok](i j last w:Int)(t:List Slo)(now:Cel×Int):Cel×Int :=
 if ok then (if i<0 then (z0,1) else if j<i then (z0,1) else if last = -1 then (z0,0) else if last / w<i then k0i t i j else if j<=last / w then k0i t i j else if now.2≠0 then (z0,now.2) else mrgE (k0i t i j).1 now.1) else (z0,2)
theorem now2_w (c:Conf)(s:Ser):CelW (now2 c s).1:=by
 unfold now2;split
 ·exact f1i
 ·exact r2b _ _
theorem l2z (n:Nat)(c:Conf){s:Ser}(h:SerOk c s)(hw:SerW s){i j:Int}(h0:¬i<0)(hij:¬j<i):s0s (n+21) (c,s) 0 i j=some (f0h (SerOk c s) i j s.2.1 c.2.1.1 s.2.2.2.1.1 (s.2.2.2.2.2,0)):=by
 rw[r1x];unfold f0h;rw[q0z h,q0n h0,q0n hij];simp only[tfd,tfn];by_cases hn:s.2.1 = -1
 ·rw[q0z hn,q0z hn];rfl
 have hr:=h.fold.cok.rng;have ht:=p0r h hn;rw[q0n hn,q0n hn,q0n (nz hr.w0.1),r0l ht hr.w0.1,o0c (n+2) h.fold.t0];simp only[obs,k0p h.fold.t0 (show 0<=i by omega) (show i<=j by omega),if_true];by_cases h2:s.2.1 / c.2.1.1<i
 ·rw[q0z h2,q0z h2]
 rw[q0n h2,q0n h2];by_cases h3:j<=s.2.1 / c.2.1.1
 ·rw[q0z h3,q0z h3]
 rw[q0n h3,q0n h3,z1e (n+19) c s];simp only[obs,l0i (n+14) (j1f _ _ _) hw.opn.c];rw[q0z trivial,q0n (nn rfl)]
theorem s1d (n:Nat)(c:Conf){s:Ser}(hw:SerW s)(i j:Int):e0k (n+22) c s 0 i j=some (f0h (SerOk c s) i j s.2.1 c.2.1.1 s.2.2.2.1.1 (s.2.2.2.2.2,0)):=by
 rw[o0q,g0s (n+11) c hw];by_cases h:SerOk c s
 case neg=>unfold f0h;rw[q0n h,q0n h];rfl
 rw[q0z h];simp only[obs,k0y,decide_true,q3s,tff,tfd,q0n (show ¬((0:Int)<0) by omega),q0n (show ¬((3:Int)<=0) by omega)];by_cases h1:i<0
 ·unfold f0h;rw[q0z h1,q0z h,q0z h1];rfl
 by_cases h2:j<i
 ·unfold f0h;rw[q0n h1,q0z h2,q0z h,q0n h1,q0z h2];rfl
 rw[q0n h1,q0n h2,l2z n c h hw h1 h2];rfl
theorem l2y (n:Nat)(c:Conf){s:Ser}(h:SerOk c s)(hw:SerW s){i j:Int}(h0:¬i<0)(hij:¬j<i):s0s (n+21) (c,s) 1 i j=some (f0h (SerOk c s) i j s.2.1 c.2.1.2.1 s.2.2.2.1.2.1 (now1 c s)):=by
 rw[r1w];unfold f0h;rw[q0z h,q0n h0,q0n hij];simp only[tfd,tfn];by_cases hn:s.2.1 = -1
 ·rw[q0z hn,q0z hn];rfl
 have hr:=h.fold.cok.rng;have ht:=p0r h hn;rw[q0n hn,q0n hn,q0n (nz hr.w1.1),r0l ht hr.w1.1,o0c (n+2) h.fold.t1];simp only[obs,k0p h.fold.t1 (show 0<=i by omega) (show i<=j by omega),if_true];by_cases h2:s.2.1 / c.2.1.2.1<i
 ·rw[q0z h2,q0z h2]
 rw[q0n h2,q0n h2];by_cases h3:j<=s.2.1 / c.2.1.2.1
 ·rw[q0z h3,q0z h3]
 rw[q0n h3,q0n h3,z1d (n+1) c h hw hn];simp only[obs,l0i (n+14) (j1f _ _ _) (now1_w c s)];by_cases h4:(now1 c s).2=0
 ·rw[q0z h4,q0n (nn h4)]
 ·rw[q0n h4,q0z h4];rfl
theorem s1c (n:Nat)(c:Conf){s:Ser}(hw:SerW s)(i j:Int):e0k (n+22) c s 1 i j=some (f0h (SerOk c s) i j s.2.1 c.2.1.2.1 s.2.2.2.1.2.1 (now1 c s)):=by
 rw[o0q,g0s (n+11) c hw];by_cases h:SerOk c s
 case neg=>unfold f0h;rw[q0n h,q0n h];rfl
 rw[q0z h];simp only[obs,k0y,decide_true,q3s,tff,tfd,q0n (show ¬((1:Int)<0) by omega),q0n (show ¬((3:Int)<=1) by omega)];by_cases h1:i<0
 ·unfold f0h;rw[q0z h1,q0z h,q0z h1];rfl
 by_cases h2:j<i
 ·unfold f0h;rw[q0n h1,q0z h2,q0z h,q0n h1,q0z h2];rfl
 rw[q0n h1,q0n h2,l2y n c h hw h1 h2];rfl
theorem l2x (n:Nat)(c:Conf){s:Ser}(h:SerOk c s)(hw:SerW s){i j:Int}(h0:¬i<0)(hij:¬j<i):s0s (n+21) (c,s) 2 i j=some (f0h (SerOk c s) i j s.2.1 c.2.1.2.2 s.2.2.2.1.2.2 (now2 c s)):=by
 rw[r1v];unfold f0h;rw[q0z h,q0n h0,q0n hij];simp only[tfd,tfn];by_cases hn:s.2.1 = -1
 ·rw[q0z hn,q0z hn];rfl
 have hr:=h.fold.cok.rng;have ht:=p0r h hn;rw[q0n hn,q0n hn,q0n (nz hr.w2.1),r0l ht hr.w2.1,o0c (n+2) h.fold.t2];simp only[obs,k0p h.fold.t2 (show 0<=i by omega) (show i<=j by omega),if_true];by_cases h2:s.2.1 / c.2.1.2.2<i
 ·rw[q0z h2,q0z h2]
 rw[q0n h2,q0n h2];by_cases h3:j<=s.2.1 / c.2.1.2.2
 ·rw[q0z h3,q0z h3]
 rw[q0n h3,q0n h3,r2x n c h hw hn];simp only[obs,l0i (n+14) (j1f _ _ _) (now2_w c s)];by_cases h4:(now2 c s).2=0
 ·rw[q0z h4,q0n (nn h4)]
 ·rw[q0n h4,q0z h4];rfl
theorem s1b (n:Nat)(c:Conf){s:Ser}(hw:SerW s)(i j:Int):e0k (n+22) c s 2 i j=some (f0h (SerOk c s) i j s.2.1 c.2.1.2.2 s.2.2.2.1.2.2 (now2 c s)):=by
 rw[o0q,g0s (n+11) c hw];by_cases h:SerOk c s
 case neg=>unfold f0h;rw[q0n h,q0n h];rfl
 rw[q0z h];simp only[obs,k0y,decide_true,q3s,tff,tfd,q0n (show ¬((2:Int)<0) by omega),q0n (show ¬((3:Int)<=2) by omega)];by_cases h1:i<0
 ·unfold f0h;rw[q0z h1,q0z h,q0z h1];rfl
 by_cases h2:j<i
 ·unfold f0h;rw[q0n h1,q0z h2,q0z h,q0n h1,q0z h2];rfl
 rw[q0n h1,q0n h2,l2x n c h hw h1 h2];rfl
theorem j2p (n f:Nat)(s:Trs):e0l n (f+1) (s,(3:Int),())=some (.inl ()):=by
 rw[j0z,show (decide ((3:Int)<3))=false from rfl,tff]
theorem j2q (n f:Nat)(s:Trs):e0l n (f+2) (s,(2:Int),())=some (if (40:Int)<s.2.2.length then .inr 0 else .inl ()):=by
 rw[j0z,show (decide ((2:Int)<3))=true from rfl,tft,show (decide ((2:Int)=0))=false from rfl,tff,show (decide ((2:Int)=1))=false from rfl,tff,show (decide ((2:Int)=2))=true from rfl,tft];rw[show wrap .i64 ((2:Int)+1)=3 from rfl,j2p];simp only[tfd];split<;>rfl
theorem j2r (n f:Nat)(s:Trs):e0l n (f+3) (s,(1:Int),())=some (if (40:Int)<s.2.1.length\/(40:Int)<s.2.2.length then .inr 0 else .inl ()):=by
 rw[j0z,show (decide ((1:Int)<3))=true from rfl,tft,show (decide ((1:Int)=0))=false from rfl,tff,show (decide ((1:Int)=1))=true from rfl,tft];rw[show wrap .i64 ((1:Int)+1)=2 from rfl,j2q];simp only[tfd];by_cases h:(40:Int)<s.2.1.length
 ·rw[q0z h,q0z (.inl h)]
 ·rw[q0n h];by_cases h':(40:Int)<s.2.2.length
  ·rw[q0z h',q0z (.inr h')]
  ·rw[q0n h',q0n (fun k=>k.elim h h')]
theorem j2s (n f:Nat)(s:Trs):e0l n (f+4) (s,(0:Int),())=some (if (40:Int)<s.1.length\/(40:Int)<s.2.1.length\/(40:Int)<s.2.2.length then .inr 0 else .inl ()):=by
 rw[j0z,show (decide ((0:Int)<3))=true from rfl,tft,show (decide ((0:Int)=0))=true from rfl,tft];rw[show wrap .i64 ((0:Int)+1)=1 from rfl,j2r];simp only[tfd];by_cases h:(40:Int)<s.1.length
 ·rw[q0z h,q0z (.inl h)]
 ·rw[q0n h];by_cases h':(40:Int)<s.2.1.length\/(40:Int)<s.2.2.length
  ·rw[q0z h',q0z (.inr h')]
  ·rw[q0n h',q0n (fun k=>k.elim h h')]
def f1p (s:Trs):Prop:=s.1.length<=40/\s.2.1.length<=40/\s.2.2.length<=40
instance (s:Trs):Decidable (f1p s):=by unfold f1p;infer_instance
theorem r2r (n:Nat)(s:Trs):k1z (n+1) s=some (if f1p s then 1 else 0):=by
 rw[z1a,show a0b=(2^70-4)+4 from by decide,j2s];by_cases h:f1p s
 ·rw[q0z h,q0n (by unfold f1p at h;omega)];rfl
 ·rw[q0n h,q0z (by unfold f1p at h;omega)];rfl
structure SerL (s:Ser):Prop where
 l:s.1.length<=1000000
 r:s.2.2.1.2.2.length<=1000000
 a:s.2.2.2.1.1.length<=1000000
 b:s.2.2.2.1.2.1.length<=1000000
 d:s.2.2.2.1.2.2.length<=1000000
theorem f1v (n:Nat)(c:Conf){s:Ser}(hw:SerW s):p0q (n+11) c s=some (if SerOk c s then 0 else 2):=by
 rw[k1a,g0s n c hw];by_cases h:SerOk c s
 ·rw[q0z h,q0z h];rfl
 ·rw[q0n h,q0n h];rfl
theorem p2e (n:Nat)(l:List Lab)(hL:l.length<=9223372036854775807):∀(rest pre:List Lab) (f:Nat) (ix len:Int),l=pre++rest->ix=pre.length->len=l.length->rest.length<f ->
  m0c n f (l,len,ix,())=some (.inl ())\/m0c n f (l,len,ix,())=some (.inr 0):=by
 intro rest;induction rest with
 | nil =>
  intro pre f ix len hl hi hn hf;obtain ⟨f,rfl⟩:=FSu hf;left;rw[v0y];simp only[tfd,q0n (idxe hl hi hn)]
 | cons x rest ih =>
  intro pre f ix len hl hi hn hf;obtain ⟨f,rfl⟩:=FSu hf;have hlen:=congrArg List.length hl;simp at hlen;rw[v0y];simp only[tfd,q0z (idx hl hi hn),c0c hl hi,obs];rw[w64 (x:=ix+1) (by omega) (by omega)];by_cases h1:ix=40
  ·right;rw[q0z h1]
  rw[q0n h1];by_cases h2:(1000:Int)<x.1.length
  ·right;rw[q0z h2]
  rw[q0n h2];by_cases h3:(1000:Int)<x.2.length
  ·right;rw[q0z h3]
  rw[q0n h3];exact ih (pre++[x]) f (ix+1) len (idxl hl) (idxs hi) hn (by simp at hf;omega)
theorem l1a (n:Nat)(l:List Lab)(hL:l.length<=9223372036854775807):r0t (n+1) l=some 0\/r0t (n+1) l=some 1:=by
 rw[z1b];rcases p2e n l hL l [] a0b 0 _ rfl rfl rfl (by unfold a0b;omega) with h | h
 ·right;rw[h];rfl
 ·left;rw[h];rfl
theorem r2q (n:Nat)(s:Ser)(hL:s.1.length<=9223372036854775807):c1j (n+2) s=some 0\/c1j (n+2) s=some 1:=by
 rw[y1z];rcases l1a n s.1 hL with h | h
 ·left;rw[h];rfl
 ·rw[h];simp only[obs,tfd,q0n (show ¬((1:Int)=0) by omega)];by_cases h1:(60:Int)<s.2.2.1.2.2.length
  ·left;rw[q0z h1]
  rw[q0n h1,r2r];simp only[obs];split
  ·right;rfl
  ·left;rfl
theorem ser_wf {s:Ser}(h:Wf a0p s):SerW s:=by
 obtain ⟨h1,h2,h3,h4,h5⟩:=h;refine ⟨h2,?_,trs_wf h4,slo_wf h5⟩;intro e he;exact ev_wf (h3.2.2.2 e he)
theorem a1e (n:Nat)(a b:List Lab)(hL:a.length<=9223372036854775807):∀(ra rb pa pb:List Lab) (f:Nat) (ix len:Int),a=pa++ra->b=pb++rb->pa.length=pb.length->ra.length=rb.length->ix=pa.length->len=a.length->ra.length<f ->
  h0o n f (a,b,len,ix,())=some (if ra=rb then .inl () else .inr false):=by
 intro ra;induction ra with
 | nil =>
  intro rb pa pb f ix len ha hb hp hr hi hn hf;obtain ⟨f,rfl⟩:=FSu hf;have e:rb=[]:=List.length_eq_zero_iff.1 (by simpa using hr.symm);subst e;rw[m0u,q1z (idxe ha hi hn),tff,q0z rfl]
 | cons x ra ih =>
  intro rb pa pb f ix len ha hb hp hr hi hn hf;obtain ⟨f,rfl⟩:=FSu hf;cases rb with
  | nil=>simp at hr
  | cons y rb =>
   have hlen:=congrArg List.length ha;simp at hlen;rw[m0u,q2g (idx ha hi hn),tft,c0c ha hi,c0c hb (by omega)];simp only[obs,labEq];rw[w64 (x:=ix+1) (by omega) (by omega)];by_cases h:x=y
   ·subst h;simp only[decide_true,q3s,tff];rw[ih rb (pa++[x]) (pb++[x]) f (ix+1) len (idxl ha) (idxl hb) (by simp;omega) (by simpa using hr) (idxs hi) hn (by simp at hf;omega)];simp
   ·rw[q0n (by simp[h])];simp only[q1z h,Bool.not_false,tft]
theorem s0b (n:Nat)(a b:List Lab)(hL:a.length<=9223372036854775807):q0p (n+1) a b=some (decide (a=b)):=by
 rw[d1s];by_cases h:a.length=b.length
 ·rw[q2g (show ((a.length:Nat):Int)=(b.length:Nat) by omega)];simp only[q3s,tff];rw[a1e n a b hL a b [] [] a0b 0 _ rfl rfl rfl h rfl rfl (by unfold a0b;omega)];by_cases h':a=b
  ·rw[q0z h',q2g h'];rfl
  ·rw[q0n h',q1z h'];rfl
 ·rw[q1z (show ¬((a.length:Nat):Int)=(b.length:Nat) by omega),q1z (fun k:a=b=>h (by rw[k]))];rfl
theorem a1f (n:Nat)(a b:List Ev)(hL:a.length<=9223372036854775807):∀(ra rb pa pb:List Ev) (f:Nat) (ix len:Int),a=pa++ra->b=pb++rb->pa.length=pb.length->ra.length=rb.length->ix=pa.length->len=a.length->ra.length<f ->
  h0p n f (a,b,len,ix,())=some (if ra=rb then .inl () else .inr false):=by
 intro ra;induction ra with
 | nil =>
  intro rb pa pb f ix len ha hb hp hr hi hn hf;obtain ⟨f,rfl⟩:=FSu hf;have e:rb=[]:=List.length_eq_zero_iff.1 (by simpa using hr.symm);subst e;rw[m0v,q1z (idxe ha hi hn),tff,q0z rfl]
 | cons x ra ih =>
  intro rb pa pb f ix len ha hb hp hr hi hn hf;obtain ⟨f,rfl⟩:=FSu hf;cases rb with
  | nil=>simp at hr
  | cons y rb =>
   have hlen:=congrArg List.length ha;simp at hlen;rw[m0v,q2g (idx ha hi hn),tft,c0c ha hi,c0c hb (by omega)];simp only[obs,evEq];rw[w64 (x:=ix+1) (by omega) (by omega)];by_cases h:x=y
   ·subst h;simp only[decide_true,q3s,tff];rw[ih rb (pa++[x]) (pb++[x]) f (ix+1) len (idxl ha) (idxl hb) (by simp;omega) (by simpa using hr) (idxs hi) hn (by simp at hf;omega)];simp
   ·rw[q0n (by simp[h])];simp only[q1z h,Bool.not_false,tft]
theorem f1c (n:Nat)(a b:List Ev)(hL:a.length<=9223372036854775807):q0q (n+1) a b=some (decide (a=b)):=by
 rw[d1t];by_cases h:a.length=b.length
 ·rw[q2g (show ((a.length:Nat):Int)=(b.length:Nat) by omega)];simp only[q3s,tff];rw[a1f n a b hL a b [] [] a0b 0 _ rfl rfl rfl h rfl rfl (by unfold a0b;omega)];by_cases h':a=b
  ·rw[q0z h',q2g h'];rfl
  ·rw[q0n h',q1z h'];rfl
 ·rw[q1z (show ¬((a.length:Nat):Int)=(b.length:Nat) by omega),q1z (fun k:a=b=>h (by rw[k]))];rfl
theorem c1s (n:Nat)(a b:List Slo)(hL:a.length<=9223372036854775807):∀(ra rb pa pb:List Slo) (f:Nat) (ix len:Int),a=pa++ra->b=pb++rb->pa.length=pb.length->ra.length=rb.length->ix=pa.length->len=a.length->ra.length<f ->
  i0u n f (a,b,len,ix,())=some (if ra=rb then .inl () else .inr false):=by
 intro ra;induction ra with
 | nil =>
  intro rb pa pb f ix len ha hb hp hr hi hn hf;obtain ⟨f,rfl⟩:=FSu hf;have e:rb=[]:=List.length_eq_zero_iff.1 (by simpa using hr.symm);subst e;rw[o0l,q1z (idxe ha hi hn),tff,q0z rfl]
 | cons x ra ih =>
  intro rb pa pb f ix len ha hb hp hr hi hn hf;obtain ⟨f,rfl⟩:=FSu hf;cases rb with
  | nil=>simp at hr
  | cons y rb =>
   have hlen:=congrArg List.length ha;simp at hlen;rw[o0l,q2g (idx ha hi hn),tft,c0c ha hi,c0c hb (by omega)];simp only[obs,sloEq];rw[w64 (x:=ix+1) (by omega) (by omega)];by_cases h:x=y
   ·subst h;simp only[decide_true,q3s,tff];rw[ih rb (pa++[x]) (pb++[x]) f (ix+1) len (idxl ha) (idxl hb) (by simp;omega) (by simpa using hr) (idxs hi) hn (by simp at hf;omega)];simp
   ·rw[q0n (by simp[h])];simp only[q1z h,Bool.not_false,tft]
theorem m0l (n:Nat)(a b:List Slo)(hL:a.length<=9223372036854775807):j0t (n+1) a b=some (decide (a=b)):=by
 rw[g1z];by_cases h:a.length=b.length
 ·rw[q2g (show ((a.length:Nat):Int)=(b.length:Nat) by omega)];simp only[q3s,tff];rw[c1s n a b hL a b [] [] a0b 0 _ rfl rfl rfl h rfl rfl (by unfold a0b;omega)];by_cases h':a=b
  ·rw[q0z h',q2g h'];rfl
  ·rw[q0n h',q1z h'];rfl
 ·rw[q1z (show ¬((a.length:Nat):Int)=(b.length:Nat) by omega),q1z (fun k:a=b=>h (by rw[k]))];rfl
noncomputable instance decSer (a b:Ser):Decidable (a=b):=Classical.propDecidable _
structure SerM (s:Ser):Prop where
 l:s.1.length<=9223372036854775807
 r:s.2.2.1.2.2.length<=9223372036854775807
 a:s.2.2.2.1.1.length<=9223372036854775807
 b:s.2.2.2.1.2.1.length<=9223372036854775807
 d:s.2.2.2.1.2.2.length<=9223372036854775807
theorem j1y (n:Nat)(a b:Ser)(h:SerM a):g0t (n+3) a b=some (decide (a=b)):=by
 rw[m1q,c1h,c2y,s0b n _ _ h.l,f1c n _ _ h.r,m0l (n+1) _ _ h.a,m0l (n+1) _ _ h.b,m0l (n+1) _ _ h.d];obtain ⟨a1,a2,⟨r1,r2,r3⟩,⟨t1,t2,t3⟩,a5⟩:=a;obtain ⟨b1,b2,⟨q1,q2,q3⟩,⟨u1,u2,u3⟩,b5⟩:=b;simp only[obs,sloEq,tfd];by_cases h1:a1=b1
 case neg=>simp[h1]
 by_cases h2:a2=b2
 case neg=>simp[h1,h2]
 by_cases h3:r1=q1
 case neg=>simp[h1,h2,h3]
 by_cases h4:r2=q2
 case neg=>simp[h1,h2,h3,h4]
 by_cases h5:r3=q3
 case neg=>simp[h1,h2,h3,h4,h5]
 by_cases h6:t1=u1
 case neg=>simp[h1,h2,h3,h4,h5,h6]
 by_cases h7:t2=u2
 case neg=>simp[h1,h2,h3,h4,h5,h6,h7]
 by_cases h8:t3=u3
 case neg=>simp[h1,h2,h3,h4,h5,h6,h7,h8]
 by_cases h9:a5=b5
 case neg=>simp[h1,h2,h3,h4,h5,h6,h7,h8,h9]
 simp[h1,h2,h3,h4,h5,h6,h7,h8,h9]
def oldV (now w m:Int):Int×Int:=if OfP now w/\1<=m/\m<=4096 then (if 0<now / w+1-m then now / w+1-m else 0,0) else (0,1)
theorem u0w (n:Nat)(now w m:Int):d0v (n+4) now w m=some (oldV now w m):=by
 rw[w1f,wi_of n now w,w1d];unfold oldV;by_cases h:OfP now w
 case neg=>rw[q0n h,q0n (fun k=>h k.1)];rfl
 rw[q0z h];have hq:=x1v h;simp only[obs,decide_true,q3s,tff];by_cases h1:1<=m
 case neg=>simp[h,h1]
 by_cases h2:m<=4096
 case neg=>simp[h,h1,h2]
 rw[w64 (x:=now / w+1) (by omega) (by omega),w64 (x:=now / w+1-m) (by omega) (by omega)];simp[h,h1,h2]
noncomputable def e1x (t now w m:Int):Bool:=decide (OfP t w/\(oldV now w m).2=0/\t / w<(oldV now w m).1)
theorem b2b (n:Nat)(t now w m:Int):i1z (n+5) t now w m=some (e1x t now w m):=by
 rw[j2b,wi_of (n+1) t w,u0w n now w m];unfold e1x;simp only[obs,tfd];by_cases h:OfP t w
 case neg=>rw[q0n h,q0n (by simp),q1z (fun k=>h k.1)]
 rw[q0z h,q0z rfl];by_cases h1:(oldV now w m).2=0
 ·rw[q0z h1];exact congrArg some (q3r.2 ⟨fun k=>⟨h,h1,k⟩,fun k=>k.2.2⟩)
 ·rw[q0n h1,q1z (fun k=>h1 k.2.1)]
noncomputable def l1l (c:Conf)(last now:Int):Bool :=
 decide (OkC c)&&(e1x last now c.2.1.1 c.2.2.1.1&&(e1x last now c.2.1.2.1 c.2.2.1.2.1&&e1x last now c.2.1.2.2 c.2.2.1.2.2))
theorem j1z (n:Nat)(c:Conf)(last now:Int):t0b (n+6) c last now=some (l1l c last now):=by
 rw[m1r,s0d (n+2) c,b2b n,b2b n,b2b n];unfold l1l;by_cases h:OkC c
 case neg=>rw[q0n h,q1z h];rfl
 rw[q0z h,q2g h];simp only[obs,decide_true,tft,Bool.true_and];cases e1x last now c.2.1.1 c.2.2.1.1<;>cases e1x last now c.2.1.2.1 c.2.2.1.2.1<;>cases e1x last now c.2.1.2.2 c.2.2.1.2.2<;>rfl
noncomputable def newV (c:Conf)(l:List Lab):Ser×Int :=
 if OkC c then (if LabOk l then ((l,(-1,(r0w,(emp c,s0)))),0) else (ser0,8)) else (ser0,2)
theorem f2h (n:Nat)(l:List Lab)(h:l.length<=1000000):q0s (n+1) l=some l:=by
 rw[d1v,q2g (show (0+l.length)*32<=140737488355328 by omega)];simp only[tft,q3p];by_cases h0:l.length=0
 ·rw[q2g h0,tft,List.length_eq_zero_iff.1 h0,a2p]
 ·rw[q1z h0,tff]
theorem k2e (n:Nat)(c:Conf)(l:List Lab):w0y (n+7) c l=some (newV c l):=by
 rw[s1f,s0d (n+3) c,i0y n l];unfold newV;by_cases h:OkC c
 case neg=>rw[q0n h,q0n h];rfl
 rw[q0z h,q0z h];simp only[obs,decide_true,q3s,tff];by_cases h1:LabOk l
 case neg=>rw[q0n h1,q0n h1];rfl
 rw[q0z h1,q0z h1,f2h (n+5) l (by have:=h1.n1;omega),m2k (n+2) c];rfl
abbrev Sta:=Conf×(Int×(Int×List Ser))
structure StaW (s:Sta):Prop where
 len:s.2.2.2.length<=9223372036854775807
 ser:∀x∈s.2.2.2,SerW x/\SerM x
def Whole (s:Sta):Prop:=OkC s.1/\(s.2.2.2.length:Int)=s.1.2.2.2.1
noncomputable instance (s):Decidable (Whole s):=Classical.propDecidable _
def LvX (s:Sta)(x:Ser):Prop:=x≠ser0/\(s.2.2.1 = -1\/l1l s.1 x.2.1 s.2.2.1=false)
noncomputable instance (s x):Decidable (LvX s x):=Classical.propDecidable _
def y0b (t:Int):Prop:=0<=t/\t<35184372088832
instance (t):Decidable (y0b t):=by unfold y0b;infer_instance
def Clock (s:Sta):Prop:=y0b s.2.1/\(s.2.2.1 = -1\/y0b s.2.2.1)/\s.2.2.1<=s.2.1
instance (s):Decidable (Clock s):=by unfold Clock;infer_instance
def mk (s:Sta):Int:=s.2.1 / s.1.2.1.1*s.1.2.1.1
def Twin (s:Sta)(i:Nat)(x:Ser):Prop:=LvX s x/\∃k,k<i/\∃y,s.2.2.2[k]? = some y/\LvX s y/\y.1=x.1
noncomputable instance (s i x):Decidable (Twin s i x):=Classical.propDecidable _
def u0q (s:Sta)(i:Nat)(x:Ser):Prop:=x=ser0\/(SerOk s.1 x/\0<=x.2.1/\x.2.1<mk s+s.1.2.1.1/\¬Twin s i x)
noncomputable instance (s i x):Decidable (u0q s i x):=Classical.propDecidable _
structure StaOk (s:Sta):Prop where
 whole:Whole s
 clock:Clock s
 right:∀(i:Nat) x,s.2.2.2[i]? = some x->u0q s i x
noncomputable instance (s):Decidable (StaOk s):=Classical.propDecidable _
theorem Whole.len {s:Sta}(h:Whole s):s.2.2.2.length<=65536:=by
 have:=h.1.rng.cap;have:=h.2;omega
theorem d1c {α:Type}{l:List α}{i:Nat}{x:α}(h:l[i]? = some x):at? l (i:Int)=some x:=by
 unfold at?;rw[q2g (show (0:Int)<=(i:Int) by omega),q3g];exact h
theorem StaW.at {s:Sta}(h:StaW s){i:Nat}{x:Ser}(hx:s.2.2.2[i]? = some x):SerW x/\SerM x:=h.ser x (q3y hx)
theorem p2l:SerM ser0:=⟨by simp[ser0],by simp[ser0,r0w],by simp[ser0],by simp[ser0],by simp[ser0]⟩
theorem g2f (n:Nat){x:Ser}(h:SerM x):a1x (n+4) x=some (decide (x=ser0)):=by
 have:=j1y n x ser0 h;rw[w1z];have e:g0t (n+3) x ([],((0:Int),(((0:Int),((0:Int),[])),(([],([],[])),((0:Int),z0)))))=some (decide (x=ser0)):=this
 change a0a (g0t (n+3) x ([],((0:Int),(((0:Int),((0:Int),[])),(([],([],[])),((0:Int),z0)))))) _=_
 rw[e];rfl
theorem a1z (n:Nat){s:Sta}{i:Nat}{x:Ser}(hx:s.2.2.2[i]? = some x)(hm:SerM x):e0s (n+7) s (i:Int)=some (decide (LvX s x)):=by
 rw[d1p,d1c hx,obs,g2f (n+2) hm,obs,tfn,tfd,j1z n];by_cases h:x=ser0
 ·rw[q0z h,q1z (fun k:LvX s x=>k.1 h)]
 rw[q0n h,tfd];by_cases h1:s.2.2.1 = -1
 ·rw[q0z h1,q2g (show LvX s x from ⟨h,.inl h1⟩)]
 ·rw[q0n h1];cases hd:l1l s.1 x.2.1 s.2.2.1
  ·rw[q2g (show LvX s x from ⟨h,.inr hd⟩)];rfl
  ·rw[q1z (fun k:LvX s x=>by rcases k.2 with k | k;exact h1 k;rw[hd] at k;cases k)];rfl
theorem place_l (n:Nat)(is:(Int×Unit)->Option Bool)(p:Nat->Bool)(L:Nat)(hL:L<=1000000)(his:∀k:Nat,k<L->is ((k:Int),())=some (p k)):∀(d k f:Nat),k+d=L->d<f ->
  (∃m:Nat,k<=m/\m<L/\p m=true/\(∀j,k<=j->j<m->p j=false)/\d0d n f (is,(L:Int),(k:Int),())=some (.inr (m:Int))) \/
  ((∀j,k<=j->j<L->p j=false)/\d0d n f (is,(L:Int),(k:Int),())=some (.inl ())):=by
 intro d;induction d with
 | zero =>
  intro k f hk hf;obtain ⟨f,rfl⟩:∃g,f=g+1:=⟨f-1,by omega⟩;refine .inr ⟨fun j h1 h2=>by omega,?_⟩;rw[m0r,q1z (by omega),tff]
 | succ d ih =>
  intro k f hk hf;obtain ⟨f,rfl⟩:∃g,f=g+1:=⟨f-1,by omega⟩;rw[m0r,q2g (by omega),tft,his k (by omega),obs];cases hp:p k
  ·rw[tff,w64 (by omega) (by omega),show ((k:Int)+1)=((k+1:Nat):Int) by omega];rcases ih (k+1) f (by omega) (by omega) with ⟨m,h1,h2,h3,h4,h5⟩ | ⟨h1,h2⟩
   ·exact .inl ⟨m,by omega,h2,h3,fun j q1 q2=>by
     rcases Nat.lt_or_ge k j with q | q
     ·exact h4 j (by omega) q2
     ·rw[show j=k by omega];exact hp,h5⟩
   ·exact .inr ⟨fun j q1 q2=>by
     rcases Nat.lt_or_ge k j with q | q
     ·exact h1 j (by omega) q2
     ·rw[show j=k by omega];exact hp,h2⟩
  ·rw[tft];exact .inl ⟨k,q3c _,by omega,hp,fun j q1 q2=>by omega,rfl⟩
theorem c1r (n:Nat)(s:Sta)(is:(Int×Unit)->Option Bool)(p:Nat->Bool)(hL:s.2.2.2.length<=1000000)(his:∀k:Nat,k<s.2.2.2.length->is ((k:Int),())=some (p k)) :
  (∃m:Nat,m<s.2.2.2.length/\p m=true/\(∀j,j<m->p j=false)/\e0r (n+1) s is=some (m:Int)) \/
  ((∀j,j<s.2.2.2.length->p j=false)/\e0r (n+1) s is=some (-1)):=by
 rw[d1o];rcases place_l n is p _ hL his s.2.2.2.length 0 a0b (by omega) (by unfold a0b;omega) with ⟨m,h1,h2,h3,h4,h5⟩ | ⟨h1,h2⟩
 ·refine .inl ⟨m,h2,h3,fun j q=>h4 j (by omega) q,?_⟩;have h5':d0d n a0b (is,(s.2.2.2.length:Int),(0:Int),())=some (.inr (m:Int)):=h5;rw[h5'];rfl
 ·refine .inr ⟨fun j q=>h1 j (by omega) q,?_⟩;have h2':d0d n a0b (is,(s.2.2.2.length:Int),(0:Int),())=some (.inl ()):=h2;rw[h2'];rfl
theorem p1n (n:Nat)(a b:List Lab)(h:a.length<=9223372036854775807):r0q (n+2) a b=some (decide (a=b)):=by
 rw[c1h,s0b n a b h];rfl
def IsTw (s:Sta)(i k:Nat)(x:Ser):Prop:=k=i\/∃y,s.2.2.2[k]? = some y/\LvX s y/\y.1=x.1
noncomputable instance (s i k x):Decidable (IsTw s i k x):=Classical.propDecidable _
theorem st_twin (n:Nat){s:Sta}(hw:StaW s)(hL:s.2.2.2.length<=1000000){i:Nat}{x:Ser}(hx:s.2.2.2[i]? = some x):s0q (n+9) s (i:Int)=some (decide (Twin s i x)):=by
 have hil:i<s.2.2.2.length:=(q3o.1 hx).1;have hm:=(hw.at hx).2;rw[g1x];have his:∀k:Nat,k<s.2.2.2.length->(fun y0:Int×Unit=>g0r (n+8) y0.1 (i:Int) s) ((k:Int),())=some (decide (IsTw s i k x)):=by
  intro k hk;have hy:s.2.2.2[k]? = some s.2.2.2[k]:=q2z hk;generalize s.2.2.2[k]=y at hy;have hmy:=(hw.at hy).2;show g0r (n+8) (k:Int) (i:Int) s=_;rw[a1v,tfd,a1z n hy hmy,obs,d1c hy,obs,d1c hx,obs,p1n (n+5) _ _ hmy.l,obs,tfd];by_cases h1:k=i
  ·rw[q0z (by rw[h1]),q2g (show IsTw s i k x from .inl h1)]
  rw[q0n (by omega)];by_cases h2:LvX s y
  ·rw[q0z h2];refine congrArg some (q3r.2 ⟨fun h3 => .inr ⟨y,hy,h2,h3⟩,fun h3 => ?_⟩);rcases h3 with h3 | ⟨z,z1,z2,z3⟩
   ·exact absurd h3 h1
   ·rw[hy] at z1;cases z1;exact z3
  ·rw[q0n h2,q1z];rintro (h3 | ⟨z,z1,z2,z3⟩)
   ·exact h1 h3
   ·rw[hy] at z1;cases z1;exact h2 z2
 rcases c1r (n+7) s (fun y0:Int×Unit=>g0r (n+8) y0.1 (i:Int) s) (fun k=>decide (IsTw s i k x)) hL his with ⟨m,h1,h2,h3,h4⟩ | ⟨h1,h2⟩
 ·rw[h4,obs,tfd,a1z (n+1) hx hm];have h2:=of_decide_eq_true h2;have hmi:m<=i:=by
   rcases Nat.lt_or_ge i m with q | q
   ·have:=of_decide_eq_false (h3 i q);exact absurd (.inl rfl) this
   ·exact q
  by_cases q:m<i
  ·rw[q0z (by omega),obs];refine congrArg some (q3r.2 ⟨fun k=>⟨k,m,q,?_⟩,fun k=>k.1⟩);exact h2.resolve_left (by omega)
  ·rw[q0n (by omega),q1z];rintro ⟨k1,k,k2,k3⟩;exact of_decide_eq_false (h3 k (by omega)) (.inr k3)
 ·exact absurd (.inl rfl) (of_decide_eq_false (h1 i hil))
theorem c1e {s:Sta}(h:y0b s.2.1)(hw:1<=s.1.2.1.1/\s.1.2.1.1<=1099511627776):0<=mk s/\mk s<=s.2.1/\s.2.1<mk s+s.1.2.1.1/\s.2.1-s.2.1 % s.1.2.1.1=mk s:=by
 have e:=Int.mul_ediv_add_emod s.2.1 s.1.2.1.1;have e1:=Int.emod_nonneg s.2.1 (show s.1.2.1.1≠0 by omega);have e2:=Int.emod_lt_of_pos s.2.1 (show 0<s.1.2.1.1 by omega);rw[Int.mul_comm] at e;have e3:0<=mk s:=Int.mul_nonneg (Int.ediv_nonneg h.1 (by omega)) (by omega);unfold mk at *
 exact ⟨e3,by omega,by omega,by omega⟩
theorem p2b (n:Nat){s:Sta}(h:y0b s.2.1)(hw:1<=s.1.2.1.1/\s.1.2.1.1<=1099511627776):n0h (n+1) s=some (mk s):=by
 have:=c1e h hw;have:=h.1;have:=h.2;rw[g1y,tfd,q0n (by omega),q0j h.1,w64 (by omega) (by omega),(c1e h hw).2.2.2]
theorem st_right (n:Nat){s:Sta}(hw:StaW s)(hh:Whole s)(ht:y0b s.2.1){i:Nat}{x:Ser}(hx:s.2.2.2[i]? = some x):q0k (n+12) s (i:Int)=some (decide (u0q s i x)):=by
 have hm:=hw.at hx;have hr:=hh.1.rng;have hL:=hh.len;have hmk:=c1e ht hr.w0;have ht1:=ht.1;have ht2:=ht.2;have hw0:=hr.w0;obtain ⟨m1,m2,m3,m4⟩:=hmk;rw[d1n,d1c hx,obs,g2f (n+7) hm.2,obs,tfd,f1v n s.1 hm.1,obs,p2b (n+10) ht hr.w0,obs,w64 (by omega) (by omega),st_twin (n+2) hw (by omega) hx,obs];simp only[tfd];by_cases h0:x=ser0
 ·rw[q0z h0,q2g (show u0q s i x from .inl h0)]
 rw[q0n h0];by_cases h1:SerOk s.1 x
 case neg=>rw[q0n h1,q0n (by decide),q1z (fun q:u0q s i x=>by rcases q with k | k;exact h0 k;exact h1 k.1)]
 rw[q0z h1,q0z rfl];by_cases h2:0<=x.2.1
 case neg=>rw[q0n h2,q1z (fun q:u0q s i x=>by rcases q with k | k;exact h0 k;exact h2 k.2.1)]
 rw[q0z h2];by_cases h3:x.2.1<mk s+s.1.2.1.1
 case neg=>rw[q0n h3,q1z (fun q:u0q s i x=>by rcases q with k | k;exact h0 k;exact h3 k.2.2.1)]
 rw[q0z h3];by_cases h4:Twin s i x
 ·rw[q2g h4,q1z (fun q:u0q s i x=>by rcases q with k | k;exact h0 k;exact k.2.2.2 h4)];rfl
 ·rw[q1z h4,q2g (show u0q s i x from .inr ⟨h1,h2,h3,h4⟩)];rfl
def sta0:Sta:=(((0:Int),(((0:Int),((0:Int),(0:Int))),(((0:Int),((0:Int),(0:Int))),((0:Int),(0:Int))))),((0:Int),((0:Int),[])))
theorem j1q (n:Nat)(s:Sta):s0r (n+4) s=some (if Whole s then (s,0) else (sta0,2)):=by
 rw[b2v,s0d n s.1,obs,tfn,tfd,tfn,tfd];by_cases h:OkC s.1
 case neg=>rw[q0n h,q0n (show ¬((2:Int)=0) by decide),q0n (fun k:Whole s=>h k.1)];rfl
 rw[q0z h,q0z rfl];by_cases h1:(s.2.2.2.length:Int)=s.1.2.2.2.1
 ·rw[q0z h1,q0z (show Whole s from ⟨h,h1⟩)]
 ·rw[q0n h1,q0n (fun k:Whole s=>h1 k.2)];rfl
theorem c2c (n:Nat)(t:Int):a1w (n+1) t=some (decide (y0b t)):=by
 rw[b2u,tfd];by_cases h:0<=t
 ·rw[q0z h];exact congrArg some (q3r.2 ⟨fun k=>⟨h,k⟩,fun k=>k.2⟩)
 ·rw[q0n h,q1z (fun k:y0b t=>h k.1)]
theorem st_clock (n:Nat)(s:Sta):q0l (n+2) s=some (decide (Clock s)):=by
 rw[d1q,c2c n,c2c n,obs,obs];simp only[tfd];by_cases h:y0b s.2.1
 case neg=>rw[q0n h,q1z (fun k:Clock s=>h k.1)]
 rw[q0z h];by_cases h1:s.2.2.1 = -1
 ·rw[q0z h1];exact congrArg some (q3r.2 ⟨fun k=>⟨h,.inl h1,k⟩,fun k=>k.2.2⟩)
 rw[q0n h1];by_cases h2:y0b s.2.2.1
 ·rw[q0z h2];exact congrArg some (q3r.2 ⟨fun k=>⟨h,.inr h2,k⟩,fun k=>k.2.2⟩)
 ·rw[q0n h2,q1z (fun k:Clock s=>by rcases k.2.1 with q | q;exact h1 q;exact h2 q)]
def Wrong (s:Sta)(k:Nat):Prop:=∃x,s.2.2.2[k]? = some x/\¬u0q s k x
noncomputable instance (s k):Decidable (Wrong s k):=Classical.propDecidable _
theorem f0e (n:Nat){s:Sta}(hw:StaW s):d0w (n+14) s=some (if StaOk s then 0 else 2):=by
 rw[x1a,j1q (n+9) s,obs,tfn,tfd];by_cases h:Whole s
 case neg=>rw[q0n h,q0n (show ¬((sta0,(2:Int)).2=0) by decide),q0n (fun k:StaOk s=>h k.whole)]
 rw[q0z h,q0z rfl,st_clock (n+11) s,obs,tfn,tfd];by_cases h1:Clock s
 case neg=>rw[q0n h1,q0n (fun k:StaOk s=>h1 k.clock)]
 rw[q0z h1];have hL:=h.len;have his:∀k:Nat,k<s.2.2.2.length->(fun y2:Int×Unit=>f0s (n+13) y2.1 s) ((k:Int),())=some (decide (Wrong s k)):=by
  intro k hk;have hy:s.2.2.2[k]? = some s.2.2.2[k]:=q2z hk;generalize s.2.2.2[k]=y at hy;show f0s (n+13) (k:Int) s=_;rw[m1o,st_right n hw h h1.1 hy,obs];by_cases q:u0q s k y
  ·rw[q2g q,q1z (fun z:Wrong s k=>by obtain ⟨x,x1,x2⟩:=z;rw[hy] at x1;cases x1;exact x2 q)];rfl
  ·rw[q1z q,q2g (show Wrong s k from ⟨y,hy,q⟩)];rfl
 rcases c1r (n+12) s (fun y2:Int×Unit=>f0s (n+13) y2.1 s) (fun k=>decide (Wrong s k)) (by omega) his with ⟨m,q1,q2,q3,q4⟩ | ⟨q1,q2⟩
 ·rw[show (fun y2:Int×Unit=>f0s (n+13) y2.1 (s,(0:Int)).1)=fun y2:Int×Unit=>f0s (n+13) y2.1 s from rfl];obtain ⟨x,x1,x2⟩:=of_decide_eq_true q2;rw[q4,obs,tfd,q0z (by omega),q0n (fun k:StaOk s=>x2 (k.right m x x1))]
 ·rw[show (fun y2:Int×Unit=>f0s (n+13) y2.1 (s,(0:Int)).1)=fun y2:Int×Unit=>f0s (n+13) y2.1 s from rfl];rw[q2,obs,tfd,q0n (by decide),q0z];refine ⟨h,h1,fun i x hx => ?_⟩;have:=of_decide_eq_false (q1 i (q3o.1 hx).1);exact Decidable.byContradiction fun k=>this ⟨x,hx,k⟩
def cutB {α:Type}(m:Nat)(f:α->List UInt8)(l:List α):List (List UInt8):=(d0r l.length m l).map fun p=>padB (p.flatMap f) 512
theorem u1y {α:Type}{m:Nat}{f:α->List UInt8}{l:List α}:(cutB m f l).length=(d0r l.length m l).length:=by simp[cutB]
theorem x0l {α:Type}{m:Nat}(hm:1<=m)(xs:List α):(d0r xs.length m xs).length<=xs.length:=by
 apply Nat.le_of_not_lt;intro h;have:=(n0u hm xs xs.length).1 h;have:xs.length*1<=xs.length*m:=Nat.mul_le_mul_left _ hm;omega
theorem l1s {α:Type}{m:Nat}(hm:1<=m){xs:List α}{p:List α}(h:p∈d0r xs.length m xs):p.length<=m/\∀x∈p,x∈xs:=by
 obtain ⟨k,hk⟩:=List.getElem?_of_mem h;rw[j0b hm _ _ (q3c _)] at hk;split at hk
 ·injection hk with hk;subst hk;exact ⟨by rw[q3x];omega,fun x hx=>List.mem_of_mem_drop (List.mem_of_mem_take hx)⟩
 ·cases hk
theorem i1r {α:Type}{w:Nat}{f:α->List UInt8}:∀l:List α,(∀x∈l,(f x).length=w)->(l.flatMap f).length=l.length*w
 | [],_=>by simp
 | x::l,h=>by
  rw[q4h,q3b,h x List.mem_cons_self,i1r l fun y hy=>h y (q3h _ hy),q3i,q4r];omega
theorem z1q {α:Type}{w:Nat}{f:α->List UInt8}:∀(k:Nat) (l:List α),(∀x∈l,(f x).length=w)->(l.flatMap f).drop (k*w)=(l.drop k).flatMap f
 | 0,l,_=>by simp
 | k+1,[],_=>by simp
 | k+1,x::l,h=>by
  have hx:=h x List.mem_cons_self;rw[q4h,List.drop_succ_cons,<-z1q k l fun y hy=>h y (q3h _ hy),show (k+1)*w=(f x).length+k*w by rw[hx,q4r];omega,List.drop_append,List.drop_eq_nil_of_le (by omega),q3p,show (f x).length+k*w-(f x).length=k*w by omega]
theorem l1r {α:Type}(xs:List α)(m:Nat)(hm:1<=m)(hx:xs.length+m<=1000000000):j0j xs (m:Int)=some ((d0r xs.length m xs).map fun l=>(l,())):=by
 unfold j0j;rw[show (decide (1<=(m:Int))&&decide ((xs.length:Int)+(m:Int)<=4611686018427387904))=true by rw[q1n,q3a,q3a];omega,tft,q3g]
theorem v0q (n:Nat)(s:List UInt8)(k:Nat)(hs:s.length<=1000000000)(hk:k<=8000):g0w (n+5) s (k:Int)=some (padB s k):=by
 rw[z1i,w64 (by omega) (by omega)];have e:(if (k:Int)-((s.length:Nat):Int)<0 then (0:Int) else (k:Int)-((s.length:Nat):Int))=((k-s.length:Nat):Int):=by split<;>omega
 rw[e,rep_val n (k-s.length) (by omega),obs,tfd,q0z (by simp;omega)];rfl
theorem t2c (n:Nat)(e:Ev):t0w (n+6) e=some (i0t e):=by
 have hl:=r0k e;rw[n1s,j1w (n+2) [] e (by simp),obs,k1o (n+4),obs,q3p];dsimp only;rw[show (32:Int)=((32:Nat):Int) from rfl,v0q n _ 32 (by rw[h0e];omega) (by omega),obs];rfl
theorem g2g (n:Nat)(s:Slo):l0b (n+6) s=some (c0p s):=by
 have e1:=r0k s.2.2.1;have e2:=r0k s.2.2.2.1;have hl:=g2h s;have h1:∀x y:Int,[x,y].flatMap n8I=n8I x++n8I y:=fun x y=>by simp
 have h5:∀a b x y z:Int,[wrap .i64 a,wrap .i64 b,x,y,z].flatMap n8I=n8I a++(n8I b++(n8I x++(n8I y++n8I z))):=fun a b x y z=>by simp[r2a]
 have l1:∀x y:Int,(n8I x++n8I y).length=16:=fun x y=>by simp[z0o]
 rw[t1z,b1z (n+3) [] _ (by simp) (by simp),obs,h1,q3p,j1w (n+2) _ _ (by rw[l1];omega),obs,j1w (n+2) _ _ (by rw[q3b,l1];omega),obs,
  b1z (n+3) _ _ (by simp) (by rw[q3b,q3b,l1,e1,e2];simp),obs,h5,k1o (n+4),obs]
 dsimp only;have es:n8I s.1++n8I s.2.1++y0j s.2.2.1++y0j s.2.2.2.1++(n8I s.2.2.2.2.1.1++(n8I s.2.2.2.2.1.2++(n8I s.2.2.2.2.2.1++(n8I s.2.2.2.2.2.2.1++n8I s.2.2.2.2.2.2.2))))=sloI s:=by
  unfold sloI;simp only[q3e]
 rw[es,show (128:Int)=((128:Nat):Int) from rfl,v0q n _ 128 (by rw[h0e];omega) (by omega),obs];rfl
theorem f2e (n:Nat)(g:Ev->List UInt8)(bytes:(Ev×Unit)->Option (List UInt8))(hb:∀x,bytes (x,())=some (g x))(hg:∀x,(g x).length<=512)(out:List (List UInt8))(l:List Ev)(hl:l.length<=100000):∀(rest pre:List Ev) (f:Nat) (b:List UInt8) (i:Int),l=pre++rest->i=pre.length->b.length+512*rest.length<=1000000000 ->
  g0m (n+1) (f+rest.length+1) (out,bytes,b,l,(l.length:Int),i,())=some (.inl (out,bytes,b++rest.flatMap g,())):=by
 intro rest;induction rest with
 | nil =>
  intro pre f b i h hi hw;rw[m0f];simp only[tfd,q0n (idxe h hi rfl)];simp
 | cons a rest ih =>
  intro pre f b i h hi hw;have hlen:=congrArg List.length h;simp at hlen hw;have ha:=hg a;rw[show f+(a::rest).length+1=(f+rest.length+1)+1 by simp;omega,m0f];simp only[tfd,q0z (idx h hi rfl)];rw[c0c h hi,obs,hb,obs,wst n b (g a) (by omega),obs];dsimp only;rw[w64 (x:=i+1) (by omega) (by omega),ih (pre++[a]) f _ (i+1) (idxl h) (idxs hi) (by simp;omega)];simp
theorem f2d (n:Nat)(g:Ev->List UInt8)(bytes:(Ev×Unit)->Option (List UInt8))(hb:∀x,bytes (x,())=some (g x))(hg:∀x,(g x).length<=512):∀(P:List (List Ev)) (out:List (List UInt8)),(∀p∈P,p.length<=1000)->out.length+P.length<=1000000 ->
  e0o (n+5) (P.map fun p=>(p,())) (out,bytes,())=some (out++P.map (fun p=>padB (p.flatMap g) 512),bytes,()):=by
 intro P;induction P with
 | nil=>intro out _ _;rw[List.map_nil,u0t];simp
 | cons p P ih =>
  intro out hp ho;simp only[q3i] at ho;have h1:=hp p List.mem_cons_self;have:=f2e (n+4) g bytes hb hg out p (by omega) p [] (a0b-p.length-1) [] 0 rfl rfl (by simp;omega);rw[<-lfu (by omega)] at this;have hfl:(p.flatMap g).length<=1000000:=by
   have key:∀q:List Ev,(q.flatMap g).length<=512*q.length:=by
    intro q;induction q with
    | nil=>simp
    | cons x q ih=>have:=hg x;rw[q4h,q3b,q3i];omega
   have:=key p;omega
  rw[q4i,t0v];dsimp only;rw[this,obs,a0r];dsimp only;rw[c0j,obs,q3p];dsimp only;rw[show (512:Int)=((512:Nat):Int) from rfl,v0q n _ 512 (by omega) (by omega),obs,tfd,q0z (by omega),obs,ih (out++[padB (p.flatMap g) 512]) (fun q hq=>hp q (q3h _ hq)) (by simp;omega)];simp
theorem z1y (n:Nat)(g:Ev->List UInt8)(bytes:(Ev×Unit)->Option (List UInt8))(hb:∀x,bytes (x,())=some (g x))(hg:∀x,(g x).length<=512)(out:List (List UInt8))(l:List Ev)(m:Nat)(hm:1<=m)(hm':m<=1000)(hl:l.length<=100000)(ho:out.length<=100000) :
  p0a (n+6) out l (m:Int) bytes=some (out++cutB m g l):=by
 have hc:=x0l hm l;rw[c1n,d1w,l1r l m hm (by omega),obs,f2d n g bytes hb hg _ out (fun p hp=>by have:=(l1s hm hp).1;omega) (by omega),obs];rfl
theorem n2a (n:Nat)(g:Slo->List UInt8)(bytes:(Slo×Unit)->Option (List UInt8))(hb:∀x,bytes (x,())=some (g x))(hg:∀x,(g x).length<=512)(out:List (List UInt8))(l:List Slo)(hl:l.length<=100000):∀(rest pre:List Slo) (f:Nat) (b:List UInt8) (i:Int),l=pre++rest->i=pre.length->b.length+512*rest.length<=1000000000 ->
  h0v (n+1) (f+rest.length+1) (out,bytes,b,l,(l.length:Int),i,())=some (.inl (out,bytes,b++rest.flatMap g,())):=by
 intro rest;induction rest with
 | nil =>
  intro pre f b i h hi hw;rw[m0x];simp only[tfd,q0n (idxe h hi rfl)];simp
 | cons a rest ih =>
  intro pre f b i h hi hw;have hlen:=congrArg List.length h;simp at hlen hw;have ha:=hg a;rw[show f+(a::rest).length+1=(f+rest.length+1)+1 by simp;omega,m0x];simp only[tfd,q0z (idx h hi rfl)];rw[c0c h hi,obs,hb,obs,wst n b (g a) (by omega),obs];dsimp only;rw[w64 (x:=i+1) (by omega) (by omega),ih (pre++[a]) f _ (i+1) (idxl h) (idxs hi) (by simp;omega)];simp
theorem m2z (n:Nat)(g:Slo->List UInt8)(bytes:(Slo×Unit)->Option (List UInt8))(hb:∀x,bytes (x,())=some (g x))(hg:∀x,(g x).length<=512):∀(P:List (List Slo)) (out:List (List UInt8)),(∀p∈P,p.length<=1000)->out.length+P.length<=1000000 ->
  f0j (n+5) (P.map fun p=>(p,())) (out,bytes,())=some (out++P.map (fun p=>padB (p.flatMap g) 512),bytes,()):=by
 intro P;induction P with
 | nil=>intro out _ _;rw[List.map_nil,w0a];simp
 | cons p P ih =>
  intro out hp ho;simp only[q3i] at ho;have h1:=hp p List.mem_cons_self;have:=n2a (n+4) g bytes hb hg out p (by omega) p [] (a0b-p.length-1) [] 0 rfl rfl (by simp;omega);rw[<-lfu (by omega)] at this;have hfl:(p.flatMap g).length<=1000000:=by
   have key:∀q:List Slo,(q.flatMap g).length<=512*q.length:=by
    intro q;induction q with
    | nil=>simp
    | cons x q ih=>have:=hg x;rw[q4h,q3b,q3i];omega
   have:=key p;omega
  rw[q4i,u0s];dsimp only;rw[this,obs,a0r];dsimp only;rw[c0j,obs,q3p];dsimp only;rw[show (512:Int)=((512:Nat):Int) from rfl,v0q n _ 512 (by omega) (by omega),obs,tfd,q0z (by omega),obs,ih (out++[padB (p.flatMap g) 512]) (fun q hq=>hp q (q3h _ hq)) (by simp;omega)];simp
theorem f2c (n:Nat)(g:Slo->List UInt8)(bytes:(Slo×Unit)->Option (List UInt8))(hb:∀x,bytes (x,())=some (g x))(hg:∀x,(g x).length<=512)(out:List (List UInt8))(l:List Slo)(m:Nat)(hm:1<=m)(hm':m<=1000)(hl:l.length<=100000)(ho:out.length<=100000) :
  i0r (n+6) out l (m:Int) bytes=some (out++cutB m g l):=by
 have hc:=x0l hm l;rw[e1v,h1g,l1r l m hm (by omega),obs,m2z n g bytes hb hg _ out (fun p hp=>by have:=(l1s hm hp).1;omega) (by omega),obs];rfl
def v0i (lost room:Nat):Nat->List Ev->List Ev->List Ev
 | _,[],out=>out
 | k,e::L,out=>v0i lost room (k+1) L (out.set ((lost+k) % room) e)
def k0m (r:Rw)(room:Int):List Ev:=v0i r.1.toNat room.toNat 0 r.2.2 (List.replicate room.toNat e0)
theorem o1x (lost room:Nat):∀(L:List Ev) (k:Nat) (out:List Ev),(v0i lost room k L out).length=out.length
 | [],_,_=>rfl
 | e::L,k,out=>by rw[v0i,o1x lost room L];simp
theorem round_l3 (n:Nat)(room:Int)(r:Rw)(h1:1<=room)(h2:room<=4096)(h3:0<=r.1)(h4:r.1<=70368744177664)(hL:r.2.2.length<=100000):∀(rest pre:List Ev) (f:Nat) (out:List Ev) (i:Int),r.2.2=pre++rest->i=pre.length->(out.length:Int)=room ->
  l0o n (f+rest.length+1) (room,r,out,r.2.2,(r.2.2.length:Int),i,())=some (.inl (v0i r.1.toNat room.toNat pre.length rest out,())):=by
 intro rest;induction rest with
 | nil =>
  intro pre f out i h hi ho;rw[r0v];simp only[tfd,q0n (idxe h hi rfl)];rfl
 | cons a rest ih =>
  intro pre f out i h hi ho;have hlen:=congrArg List.length h;simp at hlen;have hpos:Int.tmod (wrap .i64 (r.1+i)) room=(((r.1.toNat+pre.length) % room.toNat:Nat):Int):=by
   rw[w64 (by omega) (by omega),Int.tmod_eq_emod_of_nonneg (by omega),Int.natCast_emod,hi,Int.natCast_add,Int.toNat_of_nonneg h3,Int.toNat_of_nonneg (by omega)]
  have hlt:(r.1.toNat+pre.length) % room.toNat<out.length:=by
   have:=Nat.mod_lt (r.1.toNat+pre.length) (show 0<room.toNat by omega);omega
  rw[show f+(a::rest).length+1=(f+rest.length+1)+1 by simp;omega,r0v];simp only[tfd,q0z (idx h hi rfl)];rw[c0c h hi,obs,q0n (by omega),hpos,q3g,d1c (q2z hlt),obs,q2z hlt,obs,w64 (x:=i+1) (by omega) (by omega),
   ih (pre++[a]) f _ (i+1) (idxl h) (idxs hi) (by simpa using ho)]
  simp[v0i]
theorem p2q (n:Nat){r:Rw}{room:Int}(h:RawOk r room):z0x (n+1) r room=some (k0m r room):=by
 have h1:=h.m0;have h2:=h.m1;have h3:=h.len;rw[n1m];have c1:(decide ((0:Int)<=room)&&(decide (room<=room)&&decide (room*(32:Int)<=(140737488355328:Int))))=true:=by
  rw[q1n,q1n,q3a,q3a,q3a];omega
 have:=round_l3 n room r h1 h2 h.l0 h.l1 (by omega) r.2.2 [] (a0b-r.2.2.length-1) (List.replicate room.toNat e0) 0 rfl rfl (by simp;omega);rw[<-lfu (by omega)] at this;rw[c1,tft];have e:List.replicate (Int.toNat room) ((0:Int),((0:Int),((0:Int),false)))=List.replicate room.toNat e0:=rfl;rw[e,this,obs,a0r];rfl
theorem d1h {n:Nat}(h:n<128):(uvB n).length=1:=by rw[a1l h];rfl
theorem b2f {n:Nat}(h:n<16384):(uvB n).length<=2:=by
 by_cases h1:n<128
 ·rw[d1h h1];omega
 ·rw[q1v h1,q3i,d1h (by omega)];omega
theorem r2o:∀(l:List Lab),(∀x∈l,x.1.length<=64/\x.2.length<=128)->((l.flatMap fun x=>txB x.1++txB x.2).length:Int)<=3*(l.length:Int)+sumL l
 | [],_=>by simp[sumL]
 | x::l,h=>by
  have ih:=r2o l fun y hy=>h y (q3h _ hy)
  obtain ⟨h1,h2⟩:=h x List.mem_cons_self;have e1:=d1h (n:=x.1.length) (by omega);have e2:=b2f (n:=x.2.length) (by omega);rw[j1n,q4h];simp only[txB,q3b,q3i] at ih ⊢;omega
theorem t1v {l:List Lab}(h:LabOk l):(labB l).length<=320:=by
 have h1:=r2o l (v1i l none h.c);have h2:=h.n1;have h3:=h.t;have e1:=d1h (n:=l.length) (by omega);have h4:(labB l).length=1+(l.flatMap fun x=>txB x.1++txB x.2).length:=by unfold labB;rw[q3b,e1]
 omega
open Go.Flat
def idxC (c:Conf):Int:=prt c.2.2.2.2 120
def hom (c:Conf):Int:=1+idxC c+c.2.2.2.2
def siz (c:Conf):Int:=hom c+1+c.2.2.2.1*plc c
theorem idx_range {c:Conf}(h:Rng c):0<=idxC c/\idxC c<=8192:=by
 have:=j0w (x:=c.2.2.2.2) (e:=120) (by omega) (by have:=h.log;omega);have:=h.log;unfold idxC;omega
theorem siz_wrap {c:Conf}(h:OkC c):wrap .i64 (wrap .i64 (hom c+1)+wrap .i64 (c.2.2.2.1*plc c))=siz c/\0<=siz c/\siz c<=2000000000:=by
 have hl:=h.rng.log;have hi:=idx_range h.rng;have hp:=l0z h.rng;have hcap:=h.rng.cap;have h1:0<=c.2.2.2.1*plc c:=Int.mul_nonneg (by omega) (by omega);have h2:c.2.2.2.1*plc c<=65536*plc c:=Int.mul_le_mul_of_nonneg_right (by omega) (by omega);have hh:hom c=1+idxC c+c.2.2.2.2:=rfl;rw[w64 (x:=hom c+1) (by omega) (by omega),w64 (x:=c.2.2.2.1*plc c) (by omega) (by omega),w64 (by omega) (by omega)];have hs:siz c=hom c+1+c.2.2.2.1*plc c:=rfl;omega
def sizR (c:Conf):Int×Int:=if 16777216<siz c then (0,1) else (siz c,0)
theorem a2w (n:Nat){c:Conf}(h:OkC c):l0e (n+4) c=some (plc c):=by
 rw[c1y,n0m n h,b1v (n+1) h.rng];simp only[obs,tfd,tfn];rw[q0z trivial]
theorem j2u (n:Nat)(l:List Ser)(hL:l.length<=1000000)(hm:∀x∈l,SerM x):∀(rest pre:List Ser) (f:Nat) (ix len:Int),l=pre++rest->ix=pre.length->len=l.length->rest.length<f ->
  m0b (n+2) f (l,len,ix,())=some (.inl ())\/m0b (n+2) f (l,len,ix,())=some (.inr 0):=by
 intro rest;induction rest with
 | nil =>
  intro pre f ix len hl hi hn hf;obtain ⟨f,rfl⟩:=FSu hf;left;rw[v0x];simp only[tfd,q0n (idxe hl hi hn)]
 | cons x rest ih =>
  intro pre f ix len hl hi hn hf;obtain ⟨f,rfl⟩:=FSu hf;have hx:SerM x:=hm x (by rw[hl];simp);rw[v0x];simp only[tfd,q0z (idx hl hi hn),c0c hl hi,obs,idxw hl hi (show l.length<=1000000000000 by omega)];rcases r2q n x hx.l with h | h
  ·rw[h];right;rfl
  ·rw[h];simp only[obs,q0n (show ¬((1:Int)=0) by decide)];exact ih (pre++[x]) f (ix+1) len (idxl hl) (idxs hi) hn (by simp at hf;omega)
theorem r2p (n:Nat){s:Sta}(hw:StaW s):c1i (n+3) s=some 0\/(c1i (n+3) s=some 1/\s.2.2.2.length<=8):=by
 rw[y1y];simp only[tfd];by_cases h:(8:Int)<(s.2.2.2.length:Int)
 ·rw[q0z h];exact .inl rfl
 ·rw[q0n h];rcases j2u n s.2.2.2 (by omega) (fun x hx=>(hw.ser x hx).2) s.2.2.2 [] a0b 0 _ rfl rfl rfl (by unfold a0b;omega) with h1 | h1
  ·rw[h1];exact .inr ⟨rfl,by omega⟩
  ·rw[h1];exact .inl rfl
theorem ser_m' {s:Ser}(h:Wf a0p s):SerM s:=by
 obtain ⟨h1,h2,h3,⟨h4,h5,h6⟩,h7⟩:=h;have e1:=h1.1;have e3:=h3.2.2.1;have e4:=h4.1;have e5:=h5.1;have e6:=h6.1;simp only[maxLen] at e1 e3 e4 e5 e6;exact ⟨e1,e3,e4,e5,e6⟩
theorem sta_wf {s:Sta}(h:Wf a0i s):StaW s:=by
 obtain ⟨h1,h2,h3,h4⟩:=h;have e:=h4.1;simp only[maxLen] at e;exact ⟨e,fun x hx=>⟨ser_wf (h4.2 x hx),ser_m' (h4.2 x hx)⟩⟩
def r0x (x:Ser):List UInt8 :=
 toB (beI 2 ((labB x.1).length:Int))++(padB (labB x.1) 320++(n8B x.2.1++(n8B x.2.2.1.1++(n8B x.2.2.1.2.1++(toB (beI 2 (x.2.2.1.2.2.length:Int))++c0p x.2.2.2.2)))))
def g0y (x:Ser):List UInt8:=padB (r0x x) 512
def zsec:List UInt8:=List.replicate 512 0
noncomputable def j0x (c:Conf)(x:Ser):List (List UInt8) :=
 if x=ser0 then List.replicate (plc c).toNat zsec
 else g0y x::(cutB 16 i0t (k0m x.2.2.1 c.1)++(cutB 4 c0p x.2.2.2.1.1++(cutB 4 c0p x.2.2.2.1.2.1++cutB 4 c0p x.2.2.2.1.2.2)))
def k1v:List UInt8:=[112,108,105,109,115,111,108,108]
def j1m (s:Sta):List UInt8:=k1v++(toB (bts s.1)++(n8B s.2.1++n8B (s.2.2.1+1)))
def v0e (s:Sta):List UInt8:=padB (j1m s) 512
noncomputable def allB (s:Sta):List (List UInt8):=v0e s::s.2.2.2.flatMap (j0x s.1)
theorem v1s (x:Int):(toB (beI 2 x)).length=2:=by simp[h0e,c0o]
theorem p1v {x:Ser}(h:(labB x.1).length<=320):(r0x x).length=476:=by
 have e1:=p0w (labB x.1) 320;have e2:=g0e x.2.2.2.2;unfold r0x;simp only[q3b,v1s,z0p,e1,e2];omega
theorem p1w {x:Ser}(h:(labB x.1).length<=320):(g0y x).length=512:=by rw[g0y,p0w,p1v h];rfl
theorem z0e (c:Conf):(toB (bts c)).length=56:=by rw[h0e,n2k]
theorem o1l (s:Sta):(j1m s).length=80:=by
 unfold j1m k1v;simp only[q3b,z0e,z0p];rfl
theorem j2l (s:Sta):(v0e s).length=512:=by rw[v0e,p0w,o1l];rfl
theorem q1e (w:List Int)(h:∀x∈w,0<=x/\x<=255):c0z (toB w)=w:=by
 induction w with
 | nil=>rfl
 | cons a w ih =>
  have ha:=h a List.mem_cons_self;have e:c0z (toB (a::w))=(((UInt8.ofNat a.toNat).toNat:Nat):Int)::c0z (toB w):=rfl;rw[e,ih fun x hx=>h x (q3h _ hx)];congr 1;simp;omega
theorem hd_val (n:Nat){x:Ser}(hl:LabOk x.1)(hr:x.2.2.1.2.2.length<=4096):a1a (n+8) x=some (g0y x,0):=by
 have hlab:=t1v hl;have h2:∀v:Int,(beI 2 v).length=2:=fun v=>by simp[c0o]
 have e1:=p0w (labB x.1) 320;rw[n1o,e2e n x.1,q0z hl,obs];dsimp only;rw[wu64 (by omega) (by omega),c0e (n+6) [] 2 2 _ rfl (by omega) (by omega) (by simp),obs,q3p,
  show (320:Int)=((320:Nat):Int) from rfl,v0q (n+2) _ 320 (by omega) (by omega),obs,s1k (n+6) (by rw[h2];omega),obs,
  b1z (n+5) _ _ (by simp) (by simp[h2,l0j];omega),obs,wu64 (by omega) (by omega),c0e (n+6) _ 2 2 _ rfl (by omega) (by omega) (by simp[h2,l0j,z0o];omega),obs,
  g2g (n+1),obs,s1k (n+6) (by simp[h2,l0j,z0o,g0e];omega),obs,k1o (n+6),obs]
 dsimp only;have e:toB (beI 2 ((labB x.1).length:Int)++c0z (padB (labB x.1) 320)++List.flatMap n8I [x.2.1,x.2.2.1.1,x.2.2.1.2.1]++beI 2 (x.2.2.1.2.2.length:Int)++c0z (c0p x.2.2.2.2))=r0x x:=by
  unfold r0x n8B;simp only[r1e,w0p,q4h,List.flatMap_nil,q3v,q3e]
 rw[e,show (512:Int)=((512:Nat):Int) from rfl,v0q (n+2) _ 512 (by rw[p1v hlab];omega) (by omega),obs];rfl
theorem t2q (n:Nat){x:Ser}(h:SerM x):a1b (n+4) x=some (decide (x=ser0)):=by
 have:=j1y n x ser0 h;rw[n1p];have e:g0t (n+3) x ([],((0:Int),(((0:Int),((0:Int),[])),(([],([],[])),((0:Int),z0)))))=some (decide (x=ser0)):=this
 change a0a (g0t (n+3) x ([],((0:Int),(((0:Int),((0:Int),[])),(([],([],[])),((0:Int),z0)))))) _=_
 rw[e];rfl
theorem b2h {c:Conf}{x:Ser}(h:SerOk c x):x.2.2.2.1.1.length<=4096/\x.2.2.2.1.2.1.length<=4096/\x.2.2.2.1.2.2.length<=4096:=⟨h.fold.t0.l1,h.fold.t1.l1,h.fold.t2.l1⟩
theorem b1p {r:Rw}{room:Int}(h:RawOk r room):(k0m r room).length=room.toNat/\room.toNat<=4096:=⟨by unfold k0m;rw[o1x];simp,by have:=h.m1;omega⟩
theorem q2f (n:Nat){c:Conf}{x:Ser}(hc:OkC c)(hw:SerW x)(hm:SerM x):a1d (n+12) c x=some (if x=ser0\/SerOk c x then (j0x c x,0) else ([],2)):=by
 have hr:=hc.rng;have hp:=l0z hr;rw[n1r,n0m (n+8) hc,obs,q2g (rfl:(0:Int)=0),q3s,tff,t2q (n+7) hm,obs,tfd];by_cases h0:x=ser0
 ·rw[q0z h0,q0z (.inl h0),show (512:Int)=((512:Nat):Int) from rfl,v0q (n+6) [] 512 (by simp) (by omega),obs,a2w (n+7) hc,obs,
   show plc c=(((plc c).toNat:Nat):Int) by omega,c2w (n+8) _ (plc c).toNat (by omega) (by omega),obs]
  unfold j0x;rw[q0z h0];rfl
 rw[q0n h0,f1v n c hw,obs];by_cases hs:SerOk c x
 ·have ht:=b2h hs;have hrd:=b1p hs.raw;have hln:=hs.raw.len;have hlab:=t1v hs.lab;have hch:∀ {α:Type} (m:Nat) (f:α->List UInt8) (l:List α),1<=m->l.length<=4096->(cutB m f l).length<=4096:=fun m f l hm hl=>by
   rw[u1y];have:=x0l hm l;omega
  rw[q0z hs,q0z (.inr hs),q2g (rfl:(0:Int)=0),q3s,tff,hd_val (n+3) hs.lab (by have:=hs.raw.m1;omega),obs,q2g (rfl:(0:Int)=0),q3s,tff,p2q (n+10) hs.raw,obs,
   show (16:Int)=((16:Nat):Int) from rfl,z1y (n+5) i0t (fun y0=>t0w (n+11) y0.1) (fun e=>t2c (n+5) e) (fun e=>by rw[s0a];omega) _ _ 16 (by omega) (by omega) (by omega) (by simp),obs]
  have c1:=hch 16 i0t (k0m x.2.2.1 c.1) (by omega) (by omega);have c2:=hch 4 c0p x.2.2.2.1.1 (by omega) ht.1;have c3:=hch 4 c0p x.2.2.2.1.2.1 (by omega) ht.2.1;have c4:=hch 4 c0p x.2.2.2.1.2.2 (by omega) ht.2.2;have cv:=fun (out:List (List UInt8)) (l:List Slo) (h1:l.length<=4096) (h2:out.length<=100000)=>f2c (n+5) c0p (fun y0=>l0b (n+11) y0.1) (fun e=>g2g (n+5) e) (fun e=>by rw[g0e];omega) out l 4 (by omega) (by omega) (by omega) h2
  have hl:f0k (n+11) a0b ([g0y x]++cutB 16 i0t (k0m x.2.2.1 c.1),x.2.2.2.1,(0:Int),())=some (.inl (g0y x::(cutB 16 i0t (k0m x.2.2.1 c.1)++(cutB 4 c0p x.2.2.2.1.1++(cutB 4 c0p x.2.2.2.1.2.1++cutB 4 c0p x.2.2.2.1.2.2))),())):=by
   obtain ⟨f,hf⟩:∃f,a0b=f+4:=⟨a0b-4,by unfold a0b;omega⟩;rw[hf,g0n,tfd,q0z (by omega),tfd,q0z rfl,show (4:Int)=((4:Nat):Int) from rfl,cv _ _ ht.1 (by simp;omega),obs,show wrap .i64 ((0:Int)+1)=1 from by decide,
    g0n,tfd,q0z (by omega),tfd,q0n (by omega),tfd,q0z rfl,show (4:Int)=((4:Nat):Int) from rfl,cv _ _ ht.2.1 (by simp;omega),obs,show wrap .i64 ((1:Int)+1)=2 from by decide,
    g0n,tfd,q0z (by omega),tfd,q0n (by omega),tfd,q0n (by omega),tfd,q0z rfl,show (4:Int)=((4:Nat):Int) from rfl,cv _ _ ht.2.2 (by simp;omega),obs,show wrap .i64 ((2:Int)+1)=3 from by decide,
    g0n,tfd,q0n (by omega)]
   simp
  rw[hl,obs,a0r];unfold j0x;rw[q0n h0]
 ·rw[q0n hs,q0n (by rintro (k | k);exact h0 k;exact hs k)];rfl
theorem o2t (n:Nat){s:Sta}(hw:StaW s):a1c (n+15) s=some (if StaOk s then (v0e s,0) else ([],2)):=by
 rw[n1q,f0e n hw,obs];by_cases h:StaOk s
 ·have hc:=h.whole.1;have hb:=z0e s.1;have hk:=h.clock;rw[q0z h,q0z h,q2g (rfl:(0:Int)=0),q3s,tff,bytes_ok (n+10) hc,obs,tfd,q0z (by omega),s1k (n+13) (by simp[hb]),obs,
   b1z (n+12) _ _ (by simp) (by simp[l0j,hb]),obs,k1o (n+13),obs]
  dsimp only;have hsw:wrap .i64 (s.2.2.1+1)=s.2.2.1+1:=by
   obtain ⟨_,k,_⟩:=hk;rcases k with k | ⟨k1,k2⟩
   ·rw[k];decide
   ·exact w64 (by omega) (by omega)
  have e:toB ([]++c0z (k1v++toB (bts s.1))++List.flatMap n8I [s.2.1,wrap .i64 (s.2.2.1+1)])=j1m s:=by
   rw[hsw];unfold j1m n8B;simp only[q3p,r1e,w0p,q4h,List.flatMap_nil,q3v,q3e]
  change a0a (g0w (n+14) (toB ([]++c0z (k1v++toB (bts s.1))++List.flatMap n8I [s.2.1,wrap .i64 (s.2.2.1+1)])) 512) _=_
  rw[e,show (512:Int)=((512:Nat):Int) from rfl,v0q (n+9) _ 512 (by rw[o1l];omega) (by omega),obs];rfl
 ·rw[q0n h,q0n h];rfl
theorem l2a {c:Conf}{x:Ser}(hc:OkC c)(h:x=ser0\/SerOk c x):(j0x c x).length<=100000:=by
 have hp:=l0z hc.rng;unfold j0x;split
 ·simp;omega
 ·rename_i h0;have hs:SerOk c x:=h.resolve_left h0;have ht:=b2h hs;have hrd:=b1p hs.raw;have hch:∀ {α:Type} (m:Nat) (f:α->List UInt8) (l:List α),1<=m->l.length<=4096->(cutB m f l).length<=4096:=fun m f l hm hl=>by
   rw[u1y];have:=x0l hm l;omega
  have c1:=hch 16 i0t (k0m x.2.2.1 c.1) (by omega) (by omega);have c2:=hch 4 c0p x.2.2.2.1.1 (by omega) ht.1;have c3:=hch 4 c0p x.2.2.2.1.2.1 (by omega) ht.2.1;have c4:=hch 4 c0p x.2.2.2.1.2.2 (by omega) ht.2.2;simp;omega
theorem k1c {s:Sta}{i:Nat}{x:Ser}(h:u0q s i x):x=ser0\/SerOk s.1 x:=by
 rcases h with h | h
 ·exact .inl h
 ·exact .inr h.1
theorem all_l4 (n:Nat){s:Sta}(hw:StaW s)(hs:StaOk s):∀(rest pre:List Ser) (f:Nat) (out:List (List UInt8)) (i:Int),s.2.2.2=pre++rest->i=pre.length->out.length<=100000*pre.length+1 ->
  q0c (n+12) (f+rest.length+1) (s,(0:Int),out,i,())=some (.inl ((0:Int),out++rest.flatMap (j0x s.1),())):=by
 have hL:=hs.whole.len;intro rest;induction rest with
 | nil =>
  intro pre f out i h hi ho;have hn:¬(i<((s.2.2.2.length:Nat):Int)):=by have:=congrArg List.length h;simp at this;omega
  rw[p0b,tfd,q0z rfl,tfd,q0n hn];simp
 | cons a rest ih =>
  intro pre f out i h hi ho;have hlen:=congrArg List.length h;simp at hlen;have hia:s.2.2.2[pre.length]? = some a:=by rw[h];simp
  have hr:=k1c (hs.right pre.length a hia);obtain ⟨w1,w2⟩:=hw.at hia;have hpl:=l2a hs.whole.1 hr;rw[show f+(a::rest).length+1=(f+rest.length+1)+1 by simp;omega,p0b,tfd,q0z rfl,tfd,q0z (by omega),c0c h hi,obs,q2f n hs.whole.1 w1 w2,q0z hr,obs];dsimp only;rw[tfd,q0z (by omega),w64 (x:=i+1) (by omega) (by omega)];rw[ih (pre++[a]) f _ (i+1) (idxl h) (idxs hi) (by simp;omega)];simp
theorem v1u (n:Nat){s:Sta}(hw:StaW s):k0a (n+16) s=some (if StaOk s then (allB s,0) else ([],2)):=by
 rw[z1k,o2t n hw,obs];by_cases h:StaOk s
 ·have hL:=h.whole.len;rw[q0z h,q0z h];dsimp only;have:=all_l4 (n+3) hw h s.2.2.2 [] (a0b-s.2.2.2.length-1) [v0e s] 0 rfl rfl (by simp);rw[<-lfu (by omega)] at this;rw[this,obs,a0r];rfl
 ·rw[q0n h,q0n h];obtain ⟨f,hf⟩:∃f,a0b=f+1:=⟨a0b-1,by unfold a0b;omega⟩;dsimp only;rw[hf,p0b,tfd,q0n (by decide),obs,a0r];rfl
theorem rsame_l (n:Nat)(a b:List (List UInt8))(hL:a.length<=9223372036854775807):∀(ra rb pa pb:List (List UInt8)) (f:Nat) (i:Int),a=pa++ra->b=pb++rb->pa.length=pb.length->ra.length=rb.length->i=pa.length->ra.length<f ->
  t0i n f (a,b,(a.length:Int),i,())=some (if ra=rb then .inl () else .inr false):=by
 intro ra;induction ra with
 | nil =>
  intro rb pa pb f i ha hb hp hr hi hf;obtain ⟨f,rfl⟩:=t0x hf;have:rb=[]:=q3n (by simpa using hr.symm);subst this;rw[y0q,q1z (idxe ha hi rfl),tff,q0z rfl]
 | cons x ra ih =>
  intro rb pa pb f i ha hb hp hr hi hf;obtain ⟨f,rfl⟩:=t0x hf;cases rb with
  | nil=>simp at hr
  | cons y rb =>
   have hlen:=congrArg List.length ha;simp at hlen;rw[y0q,q2g (idx ha hi rfl),tft,c0c ha hi,obs,c0c hb (by omega),obs];by_cases hxy:x=y
   ·subst hxy;rw[beq_self_eq_true,q3s,tff,w64 (by omega) (by omega),ih rb (pa++[x]) (pb++[x]) f (i+1) (idxl ha) (idxl hb) (by simp;omega) (by simpa using hr) (idxs hi) (by simp at hf;omega)];simp
   ·rw[show (x==y)=false from beq_false_of_ne hxy,Bool.not_false,tft,q0n (fun h=>hxy (List.cons.inj h).1)]
theorem p2n (n:Nat)(a b:List (List UInt8))(hL:a.length<=1000000000000):s1t (n+1) a b=some (decide (a=b)):=by
 rw[d2f];by_cases h:a.length=b.length
 ·rw[q2g (show ((a.length:Nat):Int)=(b.length:Nat) by omega),q3s,tff,rsame_l n a b (by omega) a b [] [] a0b 0 rfl rfl rfl h rfl (by unfold a0b;omega),obs];by_cases he:a=b
  ·rw[q0z he,q2g he];rfl
  ·rw[q0n he,q1z he];rfl
 ·rw[q1z (show ¬((a.length:Nat):Int)=(b.length:Nat) by omega),Bool.not_false,tft,q1z (fun e=>h (by rw[e]))]
theorem g1p {α:Type}{m f:Nat}(hm:1<=m){xs:List α}(h:xs.length<=f):d0r f m xs=d0r xs.length m xs :=
 q4u fun k=>by rw[j0b hm f xs h,j0b hm _ xs (q3c _)]
theorem cutB_nil {α:Type}(m:Nat)(f:α->List UInt8):cutB m f []=[]:=rfl
theorem t2v {α:Type}{m:Nat}(hm:1<=m)(f:α->List UInt8){l:List α}(h:l≠[]):cutB m f l=padB ((l.take m).flatMap f) 512::cutB m f (l.drop m):=by
 cases l with
 | nil=>exact absurd rfl h
 | cons x t =>
  unfold cutB;show List.map _ (d0r (t.length+1) m (x::t))=_;rw[g1q,q4i,g1p hm (by simp;omega)]
theorem a2g {α:Type}{m:Nat}(hm:1<=m)(xs:List α):(d0r xs.length m xs).length=(xs.length+m-1) / m:=by
 obtain ⟨c,hc⟩:∃c,c=(d0r xs.length m xs).length:=⟨_,rfl⟩;have h1:=(n0u hm xs c);rw[hc] at h1;have h2:¬(d0r xs.length m xs).length*m<xs.length:=fun h=>Nat.lt_irrefl _ (h1.2 h)
 rw[<-hc] at h2 ⊢;symm;apply Nat.div_eq_of_lt_le
 ·cases c with
  | zero=>omega
  | succ k =>
   have h3:=(n0u hm xs k).1 (by rw[<-hc];omega);rw[q4r];omega
 ·rw[Nat.succ_mul];omega
theorem h0x {α:Type}{m:Nat}(hm:1<=m)(f:α->List UInt8)(l:List α):(cutB m f l).length=(l.length+m-1) / m:=by rw[u1y,a2g hm]
theorem z1z {α:Type}{m w:Nat}(hm:1<=m)(hmw:m*w=512){f:α->List UInt8}:∀(k:Nat) (l:List α),l.length<=k->(∀x∈l,(f x).length=w)->∃z,(cutB m f l).flatten=l.flatMap f++z:=by
 intro k;induction k with
 | zero =>
  intro l h _;have:l=[]:=q3n (by omega);subst this;exact ⟨[],rfl⟩
 | succ k ih =>
  intro l h hf;by_cases hl:l=[]
  ·subst hl;exact ⟨[],rfl⟩
  ·have hpos:=List.length_pos_iff.2 hl;rw[t2v hm f hl,List.flatten_cons];obtain ⟨z,hz⟩:=ih (l.drop m) (by rw[q3j];omega) fun x hx=>hf x (List.mem_of_mem_drop hx)
   by_cases hc:m<=l.length
   ·have hlen:((l.take m).flatMap f).length=512:=by
     rw[i1r _ fun x hx=>hf x (List.mem_of_mem_take hx),q3x,q4f hc,hmw]
    refine ⟨z,?_⟩;rw[hz];have e:padB ((l.take m).flatMap f) 512=(l.take m).flatMap f:=by unfold padB;rw[hlen];simp
    rw[e,<-q3e,<-List.flatMap_append,q4b]
   ·have e1:l.take m=l:=List.take_of_length_le (by omega);have e2:l.drop m=[]:=List.drop_of_length_le (by omega);rw[e1,e2,cutB_nil,List.flatten_nil,q3v];exact ⟨_,rfl⟩
theorem q0e {α:Type}{m w:Nat}(hm:1<=m)(hmw:m*w=512){f:α->List UInt8}{l:List α}(hf:∀x∈l,(f x).length=w):∀s∈cutB m f l,s.length=512:=by
 intro s hs;unfold cutB at hs;obtain ⟨p,hp,rfl⟩:=q4g.1 hs;obtain ⟨h1,h2⟩:=l1s hm hp;rw[p0w,i1r _ fun x hx=>hf x (h2 x hx)];have:p.length*w<=m*w:=q4s w h1;omega
theorem s2t {α:Type}{w:Nat}{f:α->List UInt8}{l:List α}{j:Nat}{x:α}(hf:∀y∈l,(f y).length=w)(hx:l[j]? = some x)(z:List UInt8):∃t,(l.flatMap f++z).drop (j*w)=f x++t:=by
 have hj:=(q3o.1 hx).1;have hlen:=i1r l hf;have hle:j*w<=(l.flatMap f).length:=by rw[hlen];exact q4s w (Nat.le_of_lt hj)
 rw[List.drop_append_of_le_length hle,z1q j l hf];have:l.drop j=x::l.drop (j+1):=by
  rw[List.drop_eq_getElem_cons hj];congr 1;rw[q2z hj] at hx;injection hx
 rw[this,q4h,q3e];exact ⟨_,rfl⟩
theorem r2c {a d r:Nat}(hr:0<r)(h1:0<d)(h2:d<r):a % r≠(a+d) % r:=by
 intro h;have h3:(a+d) % r=(a % r+d) % r:=by rw[Nat.mod_add_mod]
 have h4:=Nat.mod_lt a hr;rw[h3] at h;rcases Nat.lt_or_ge (a % r+d) r with k | k
 ·rw[Nat.mod_eq_of_lt k] at h;omega
 ·rw[Nat.mod_eq_sub_mod k,Nat.mod_eq_of_lt (a:=a % r+d-r) (b:=r) (by omega)] at h;omega
theorem o1z (lost room:Nat):∀(L:List Ev) (k:Nat) (out:List Ev) (p:Nat),(∀j,j<L.length->(lost+(k+j)) % room≠p)->(v0i lost room k L out)[p]? = out[p]?
 | [],k,out,p,_=>rfl
 | e::L,k,out,p,h=>by
  have h0:=h 0 (by simp);rw[Nat.add_zero] at h0;rw[v0i,o1z lost room L (k+1) _ p fun j hj=>by have:=h (j+1) (by simp;omega);rwa [show k+(j+1)=k+1+j by omega] at this];rw[q4e h0]
theorem o1y (lost room:Nat)(hr:0<room):∀(L:List Ev) (k:Nat) (out:List Ev) (i:Nat) (x:Ev),L.length<=room->out.length=room->L[i]? = some x->(v0i lost room k L out)[(lost+(k+i)) % room]? = some x
 | [],k,out,i,x,_,_,h=>by simp at h
 | e::L,k,out,0,x,hL,ho,h=>by
  simp at h;subst h;have hlt:=Nat.mod_lt (lost+k) hr;show (v0i lost room (k+1) L (out.set ((lost+k) % room) e))[(lost+k) % room]? = some e;rw[o1z lost room L (k+1) _ _ fun j hj => ?_]
  ·rw[List.getElem?_set_self (by omega)]
  ·have:=r2c (a:=lost+k) hr (show 0<1+j by omega) (by simp at hL;omega);rw[show lost+(k+1+j)=lost+k+(1+j) by omega];exact fun q=>this q.symm
 | e::L,k,out,i+1,x,hL,ho,h=>by
  rw[v0i,show k+(i+1)=k+1+i by omega];exact o1y lost room hr L (k+1) _ i x (by simp at hL;omega) (by simpa using ho) (by simpa using h)
theorem p2r {r:Rw}{room:Int}(h:RawOk r room){i:Nat}{x:Ev}(hx:r.2.2[i]? = some x):(k0m r room)[(r.1.toNat+i) % room.toNat]? = some x:=by
 have h1:=h.m0;have h2:=h.len;have:=o1y r.1.toNat room.toNat (by omega) r.2.2 0 (List.replicate room.toNat e0) i x (by omega) (by simp) hx
 rwa [Nat.zero_add] at this
abbrev Rdr:=List UInt8×Bool
def rdI (st:Rdr):Int×Rdr:=(wrap .i64 (rd st 8).1,(rd st 8).2)
def evR (st:Rdr):Ev×Rdr :=
 let a:=rdI st
 let b:=rd a.2 8
 let c:=rdI b.2
 let d:=rd c.2 1
 ((a.1,(b.1,(c.1,decide (d.1=1)))),d.2)
def slR (st:Rdr):Slo×Rdr :=
 let a:=rdI st
 let b:=rdI a.2
 let f:=evR b.2
 let l:=evR f.2
 let h:=rd l.2 8
 let i:=rd h.2 8
 let r:=rdI i.2
 let g:=rdI r.2
 let s:=rdI g.2
 ((a.1,(b.1,(f.1,(l.1,((h.1,i.1),(r.1,(g.1,s.1))))))),s.2)
theorem t0d (n:Nat)(st:Rdr):g0v (n+4) st=some (evR st):=by
 rw[c1l,a0s n st 8 8 rfl (by omega) (by omega),obs,a0s n _ 8 8 rfl (by omega) (by omega),obs,a0s n _ 8 8 rfl (by omega) (by omega),obs,a0s n _ 1 1 rfl (by omega) (by omega),obs];rfl
theorem g1a (n:Nat)(s:List UInt8):l0p (n+5) s=some (slR (s,false)).1:=by
 rw[e1u,g0a,obs,a0s (n+1) _ 8 8 rfl (by omega) (by omega),obs,a0s (n+1) _ 8 8 rfl (by omega) (by omega),obs,t0d n,obs,t0d n,obs,
  a0s (n+1) _ 8 8 rfl (by omega) (by omega),obs,a0s (n+1) _ 8 8 rfl (by omega) (by omega),obs,a0s (n+1) _ 8 8 rfl (by omega) (by omega),obs,a0s (n+1) _ 8 8 rfl (by omega) (by omega),obs,a0s (n+1) _ 8 8 rfl (by omega) (by omega),obs]
 rfl
theorem rd_n8 (v:Int)(t:List UInt8):rd (n8B v++t,false) 8=(wrap .u64 v,(t,false)):=by
 unfold n8B n8I;rw[e1d 8];have h:=IntKind.wrap_u64 v;have:(256:Int)^8=18446744073709551616:=rfl;rw[this,Int.emod_eq_of_lt (by omega) (by omega)]
theorem k1e {v:Int}(h:I64 v)(t:List UInt8):rdI (n8B v++t,false)=(v,(t,false)):=by
 unfold rdI;rw[rd_n8];have h1:=IntKind.wrap_u64 v;have h2:=IntKind.wrap_i64 (wrap .u64 v);have h3:=h.1;have h4:=h.2;have:wrap .i64 (wrap .u64 v)=v:=by omega
 rw[this]
theorem rd_u8 {v:Int}(h0:0<=v)(h1:v<=18446744073709551615)(t:List UInt8):rd (n8B v++t,false) 8=(v,(t,false)):=by rw[rd_n8,wu64 (by omega) (by omega)]
theorem rd_b1 (b:Bool)(t:List UInt8):rd (toB [if b=true then (1:Int) else 0]++t,false) 1=((if b=true then 1 else 0),(t,false)):=by
 have:=e1d 1 (if b=true then (1:Int) else 0) t;have e:beI 1 (if b=true then (1:Int) else 0)=[if b=true then (1:Int) else 0]:=by cases b<;>rfl
 rw[e] at this;rw[this];cases b<;>rfl
theorem u1r {e:Ev}(h:EvW e)(t:List UInt8):evR (v0h e++t,false)=(e,(t,false)):=by
 have es:v0h e++t=n8B e.1++(n8B e.2.1++(n8B e.2.2.1++(toB [if e.2.2.2=true then (1:Int) else 0]++t))):=by
  unfold v0h y0j n8B;simp only[r1e,q3e]
 unfold evR;rw[es,k1e h.t];dsimp only;rw[rd_u8 h.v.1 h.v.2];dsimp only;rw[k1e h.c];dsimp only;rw[rd_b1];obtain ⟨a,b,c,d⟩:=e;cases d<;>rfl
theorem slR_good {s:Slo}(h:SloW s)(t:List UInt8):slR (toB (sloI s)++t,false)=(s,(t,false)):=by
 have es:toB (sloI s)++t=n8B s.1++(n8B s.2.1++(v0h s.2.2.1++(v0h s.2.2.2.1++(n8B s.2.2.2.2.1.1++(n8B s.2.2.2.2.1.2++(n8B s.2.2.2.2.2.1++(n8B s.2.2.2.2.2.2.1++(n8B s.2.2.2.2.2.2.2++t)))))))):=by
  unfold sloI n8B v0h;simp only[r1e,q3e]
 have hw:=h.c.w;unfold slR;rw[es,k1e h.i];dsimp only;rw[k1e h.c.n];dsimp only;rw[u1r h.c.f];dsimp only;rw[u1r h.c.l];dsimp only;rw[rd_u8 hw.1.1 hw.1.2];dsimp only;rw[rd_u8 hw.2.1 hw.2.2];dsimp only;rw[k1e h.c.r];dsimp only;rw[k1e h.c.g];dsimp only;rw[k1e h.c.s]
theorem t2e {e:Ev}(h:EvW e)(t:List UInt8):(evR (i0t e++t,false)).1=e:=by
 have:i0t e++t=v0h e++(List.replicate (32-(v0h e).length) 0++t):=by unfold i0t padB;simp
 rw[this,u1r h]
theorem g2i {s:Slo}(h:SloW s)(t:List UInt8):(slR (c0p s++t,false)).1=s:=by
 have:c0p s++t=toB (sloI s)++(List.replicate (128-(toB (sloI s)).length) 0++t):=by unfold c0p padB;simp
 rw[this,slR_good h]
theorem join_l12 (n:Nat)(sep:List UInt8)(l:List (List UInt8))(hl:l.length<=1000000)(hs:∀s∈l,s.length<=1000000):∀(rest pre:List (List UInt8)) (f:Nat) (k i:Int),l=pre++rest->i=pre.length->0<=k->k<=1000000*pre.length ->
  ∃q,g0d n (f+rest.length+1) (l,sep,k,l,(l.length:Int),i,())=some (.inl (l,sep,q,()))/\0<=q/\q<=1000000000000:=by
 intro rest;induction rest with
 | nil =>
  intro pre f k i h hi h0 h1;have hlen:=congrArg List.length h;simp at hlen;rw[o0h];simp only[tfd,q0n (idxe h hi rfl)];exact ⟨_,rfl,h0,by omega⟩
 | cons a rest ih =>
  intro pre f k i h hi h0 h1;have hlen:=congrArg List.length h;simp at hlen;have ha:=hs a (by rw[h];simp);rw[show f+(a::rest).length+1=(f+rest.length+1)+1 by simp;omega,o0h];simp only[tfd,q0z (idx h hi rfl)];rw[c0c h hi,obs,w64 (x:=9223372036854775807-k) (by omega) (by omega),q0n (by omega),w64 (x:=k+((a.length:Nat):Int)) (by omega) (by omega),w64 (x:=i+1) (by omega) (by omega)];exact ih (pre++[a]) f _ (i+1) (idxl h) (idxs hi) (by omega) (by simp;omega)
theorem join_l22 (n:Nat)(l:List (List UInt8))(hl:l.length<=1000000)(hs:∀s∈l,s.length<=1000000):∀(rest pre:List (List UInt8)) (f:Nat) (b:List UInt8) (i:Int),l=pre++rest->i=pre.length->b.length<=1000000*(pre.length+1) ->
  g0c (n+1) (f+rest.length+1) ([],b,l,(l.length:Int),i,())=some (.inl (b++rest.flatten,())):=by
 intro rest;induction rest with
 | nil =>
  intro pre f b i h hi hb;rw[o0g];simp only[tfd,q0n (idxe h hi rfl)];simp
 | cons a rest ih =>
  intro pre f b i h hi hb;have hlen:=congrArg List.length h;simp at hlen;have ha:=hs a (by rw[h];simp);rw[show f+(a::rest).length+1=(f+rest.length+1)+1 by simp;omega,o0g];simp only[tfd,q0z (idx h hi rfl)];rw[c0c h hi,obs,wst n b [] (by simp;omega),obs];dsimp only;rw[q3v,wst n b a (by omega),obs];dsimp only;rw[w64 (x:=i+1) (by omega) (by omega),ih (pre++[a]) f _ (i+1) (idxl h) (idxs hi) (by simp;omega)];simp
theorem join_val (n:Nat)(l:List (List UInt8))(hl:l.length<=1000000)(hs:∀s∈l,s.length<=1000000):strings_Join (n+2) l []=some l.flatten:=by
 rw[j1p]
 match l,hl,hs with
 | [],_,_=>rfl
 | [a],_,_ =>
  rw[tfd,q0n (by simp),tfd,q0z (by simp),show at? [a] (0:Int)=some a from rfl,obs];simp
 | a::b::t,hl,hs =>
  obtain ⟨L,hL⟩:∃L,L=a::b::t:=⟨_,rfl⟩;have h2:2<=L.length:=by rw[hL];simp
  rw[<-hL] at hl hs ⊢;rw[tfd,q0n (by omega),tfd,q0n (by omega),tfd,q0n (by simp)];obtain ⟨q,h3,h4,h5⟩:=join_l12 (n+1) [] L hl hs L [] (a0b-L.length-1) 0 0 rfl rfl (by omega) (by simp);rw[<-lfu (by omega)] at h3;rw[h3,obs,a0r];dsimp only;have hg:b0y (n+1) [] q=some []:=by
   rw[j0p,z1l];rw[show (decide (([]:List UInt8).length=0)&&(decide ((0:Int)<=q)&&decide (q<=70368744177664)))=true by
    rw[q1n,q1n,q3a,q3a,q3a]
    exact ⟨rfl,by omega,by omega⟩,tft]
  have ha:=hs a (by rw[hL];simp);have hat:at? L (0:Int)=some a:=by rw[hL];rfl
  rw[hg,obs,hat,obs,wst n [] a (by simp;omega),obs,tfd,q0z (by omega)];dsimp only;have hd:List.drop 1 (List.take L.length L)=b::t:=by rw[List.take_length,hL];rfl
  have e22:=join_l22 n (b::t) (by rw[hL] at hl;simp at hl ⊢;omega) (fun s hsm=>hs s (by rw[hL];exact q3h _ hsm)) (b::t) [] (a0b-(b::t).length-1) a 0 rfl rfl (by simp;omega);rw[<-lfu (by rw[hL] at hl;simp at hl ⊢;omega)] at e22;rw[hd,q3p,e22,obs,a0r];dsimp only;rw[c0j,obs,hL];simp
def nsec (k m:Nat):Nat:=(k+m-1) / m
theorem i1e (n:Nat)(c:Conf)(left:List (List UInt8))(k m:Nat)(hm:1<=m)(hm':m<=1000)(hk:k<=100000)(hl:left.length<=1000000)(hs:∀s∈left,s.length<=1000000) :
  c0k (n+3) (c,left) (k:Int) (m:Int)=some ((left.take (nsec k m)).flatten,(c,left.drop (nsec k m))):=by
 have hq:nsec k m<=k+m:=by unfold nsec;exact q4n (Nat.div_le_self _ _) (by omega)
 have e1:wrap .i64 (Int.tdiv (wrap .i64 (wrap .i64 ((k:Int)+(m:Int))-1)) (m:Int))=((nsec k m:Nat):Int):=by
  rw[w64 (x:=(k:Int)+(m:Int)) (by omega) (by omega),w64 (x:=(k:Int)+(m:Int)-1) (by omega) (by omega),Int.tdiv_eq_ediv_of_nonneg (by omega)];have:((k:Int)+(m:Int)-1) / (m:Int)=((nsec k m:Nat):Int):=by
   unfold nsec;rw[Int.natCast_ediv];congr 1;omega
  rw[this,w64 (by omega) (by omega)]
 have e2:(if ((left.length:Nat):Int)<((nsec k m:Nat):Int) then ((left.length:Nat):Int) else ((nsec k m:Nat):Int))=((min (nsec k m) left.length:Nat):Int):=by split<;>omega
 have ht:left.take (min (nsec k m) left.length)=left.take (nsec k m):=by
  rcases Nat.le_total (nsec k m) left.length with h | h
  ·rw[q4f h]
  ·rw[Nat.min_eq_right h,List.take_of_length_le (q3c _),List.take_of_length_le h]
 have hd:left.drop (min (nsec k m) left.length)=left.drop (nsec k m):=by
  rcases Nat.le_total (nsec k m) left.length with h | h
  ·rw[q4f h]
  ·rw[Nat.min_eq_right h,List.drop_of_length_le (q3c _),List.drop_of_length_le h]
 rw[z0z];dsimp only;rw[e1,e2,tfd,q0n (by omega),q3g];have c1:(decide ((0:Int)<=((min (nsec k m) left.length:Nat):Int))&&decide (((min (nsec k m) left.length:Nat):Int)<=((left.length:Nat):Int)))=true:=by
  rw[q1n,q3a,q3a];omega
 rw[c1,tft,List.drop_zero,ht,join_val n _ (by rw[q3x];omega) (fun s hsm=>hs s (List.mem_of_mem_take hsm)),obs,tfd,q0z (by omega),tfd,q0z (by omega),List.take_length,hd]
theorem byte_one:∀c:Fin 128,andI .u8 (c.val:Int) 128=0/\orI .u64 0 (shlI .u64 (wrap .u64 (p0i .u8 (c.val:Int) 128)) 0)=(c.val:Int):=by decide +kernel
theorem o2q (k:Nat):(if (10:Int)<((k:Nat):Int) then (10:Int) else ((k:Nat):Int))=((min 10 k:Nat):Int):=by split<;>omega
theorem uint_one (n:Nat){v:Nat}(h:v<128)(t:List UInt8):d0u (n+2) (UInt8.ofNat v::t,false)=some ((v:Int),(t,false)):=by
 obtain ⟨f,hf⟩:∃f,a0b=f+1:=⟨a0b-1,by unfold a0b;omega⟩;have hv:(UInt8.ofNat v).toNat=v:=by simp;omega
 obtain ⟨b1,b2⟩:=byte_one ⟨v,h⟩;dsimp only at b1 b2;rw[m0y,o2q,hf,f0z,tfd,q0z (by simp;omega),show at? (UInt8.ofNat v::t) (0:Int)=some (UInt8.ofNat v) from rfl,obs];simp only[hv,b1];rw[show wrap .i64 ((7:Int)*0)=0 by decide,show wrap .i64 ((0:Int)+1)=1 by decide];simp only[b2];simp only[tfd,tfn];rw[q0n (by omega),q0n (by omega),q0z trivial]
 have e:(if (v:Int)=0 then (if (0:Int)<0 then (some (.inl ((UInt8.ofNat v::t,false),())):Option ((Rdr×Unit) ⊕ (Int×Rdr))) else some (.inr ((v:Int),(t,false)))) else some (.inr ((v:Int),(t,false))))=some (.inr ((v:Int),(t,false))):=by
  rw[q0n (show ¬(0:Int)<0 by omega)];split<;>rfl
 have c2:(1:Int).toNat<=(UInt8.ofNat v::t).length:=by simp
 simp only[q0z (show (0:Int)<=1 by omega),q0z c2,List.take_length]
 change a0a (if (v:Int)=0 then (if (0:Int)<0 then (some (.inl ((UInt8.ofNat v::t,false),())):Option ((Rdr×Unit) ⊕ (Int×Rdr))) else some (.inr ((v:Int),(t,false)))) else some (.inr ((v:Int),(t,false)))) _=_
 rw[e];rfl
theorem uint_128 (n:Nat)(t:List UInt8):d0u (n+2) (128::1::t,false)=some (128,(t,false)):=by
 obtain ⟨f,hf⟩:∃f,a0b=f+1+1:=⟨a0b-2,by unfold a0b;omega⟩;rw[m0y,o2q,hf,f0z,tfd,q0z (by simp;omega),show at? ((128:UInt8)::1::t) (0:Int)=some (128:UInt8) from rfl,obs];rw[show wrap .i64 ((7:Int)*0)=0 by decide,show wrap .i64 ((0:Int)+1)=1 by decide];rw[tfd,q0n (by omega),tfd,q0n (by omega),tfn,tfd,q0n (by decide),f0z,tfd,q0z (by simp;omega),show at? ((128:UInt8)::1::t) (1:Int)=some (1:UInt8) from rfl,obs]
 rw[show wrap .i64 ((7:Int)*1)=7 by decide,show wrap .i64 ((1:Int)+1)=2 by decide];rw[tfd,q0n (by omega),tfd,q0n (by omega),tfn,tfd,q0z (by decide),tfd,q0n (by decide),tfd,q0z (by omega),tfd,q0z (by simp)];rw[show orI .u64 (orI .u64 0 (shlI .u64 (wrap .u64 (p0i .u8 (((128:UInt8).toNat:Nat):Int) 128)) 0)) (shlI .u64 (wrap .u64 (p0i .u8 (((1:UInt8).toNat:Nat):Int) 128)) 7)=128 by decide +kernel,List.take_length,obs,l0w];rfl
theorem w1h (n:Nat){v:Nat}(h:v<=128)(t:List UInt8):d0u (n+2) (uvB v++t,false)=some ((v:Int),(t,false)):=by
 rcases Nat.lt_or_ge v 128 with k | k
 ·rw[a1l k];exact uint_one n k t
 ·obtain rfl:v=128:=by omega
  have e:uvB 128=[128,1]:=by rw[q1v (by omega),a1l (by omega)];rfl
  rw[e];exact uint_128 n t
theorem s1m (n:Nat)(s t:List UInt8){k:Int}(h:k=s.length):e0h (n+1) (s++t,false) k=some (s,(t,false)):=by
 subst h;have e:(s.length:Int).toNat=s.length:=by omega
 rw[p0f,tff,tfd,q0n (by omega),tfd,q0n (by simp;omega)];rw[show (decide ((0:Int)<=(s.length:Int))&&decide ((s.length:Int)<=(((s++t).length:Nat):Int)))=true by rw[q1n,q3a,q3a];simp;omega,tft,tfd,q0z (by omega),tfd,q0z (by simp),List.take_length,e,List.drop_left];simp
theorem w1w (n:Nat){s:List UInt8}{long:Int}(h:(s.length:Int)<=long)(hl:long<=128)(t:List UInt8)(ht:t.length<=1000000):i0b (n+3) (txB s++t,false) long=some (s,(t,false)):=by
 rw[x0z];unfold txB;rw[q3e,w1h n (by omega),obs];dsimp only;have e:(((s++t).length:Nat):Int)=(s.length:Int)+(t.length:Int):=by simp
 rw[tfd,q0n (by omega),wu64 (x:=long) (by omega) (by omega),tfd,q0n (by omega),e,wu64 (x:=(s.length:Int)+(t.length:Int)) (by omega) (by omega),tfd,q0n (by omega),w64 (by omega) (by omega),s1m (n+1) s t rfl];rfl
def y1f (x:Lab):List UInt8:=txB x.1++txB x.2
theorem of_l4 (n:Nat){l:List Lab}(hl:∀x∈l,x.1.length<=64/\x.2.length<=128):∀(rest pre:List Lab) (f:Nat),l=pre++rest->l.length<=16 ->
  t0u (n+4) (f+rest.length+1) ((rest.flatMap y1f,false),pre,(rest.length:Int),())=some (.inl (([],false),(l,()))):=by
 intro rest;induction rest with
 | nil =>
  intro pre f h hn;rw[y0r,tfd,q0n (by simp)];rw[h,q3v];rfl
 | cons a rest ih =>
  intro pre f h hn;have hlen:=congrArg List.length h;simp at hlen;obtain ⟨a1,a2⟩:=hl a (by rw[h];simp);have hr:∀r:List Lab,(∀x∈r,x.1.length<=64/\x.2.length<=128)->(r.flatMap y1f).length<=200*r.length:=by
   intro r;induction r with
   | nil=>intro _;simp
   | cons y r ihr =>
    intro hy;obtain ⟨b1,b2⟩:=hy y List.mem_cons_self;have:=ihr fun x hx=>hy x (q3h _ hx)
    have e1:=d1h (n:=y.1.length) (by omega);have e2:=b2f (n:=y.2.length) (by omega);rw[q4h,q3b,q3i];have e3:(y1f y).length<=200:=by unfold y1f txB;simp only[q3b];omega
    omega
  have hq:=hr rest fun x hx=>hl x (by rw[h];simp[hx])
  have t2:(txB a.2).length<=1000:=by
   have:=b2f (n:=a.2.length) (by omega);unfold txB;rw[q3b];omega
  rw[show f+(a::rest).length+1=(f+rest.length+1)+1 by simp;omega,y0r,tfd,q0z (by simp),j0a,obs,tfn,tff,tfd,q0z (by omega)];have e:(a::rest).flatMap y1f=txB a.1++(txB a.2++rest.flatMap y1f):=by rw[q4h,y1f,q3e]
  rw[e,w1w (n+1) (by omega) (by omega) _ (by rw[q3b];omega),obs];dsimp only;rw[w1w (n+1) (by omega) (by omega) _ (by omega),obs,tfd,q0z (by omega)];dsimp only;rw[show (((a::rest).length:Nat):Int)-1=((rest.length:Nat):Int) by simp,wu64 (by omega) (by omega),ih (pre++[(a.1,a.2)]) f (by rw[h];simp) hn]
theorem t1r (n:Nat){l:List Lab}(h:LabOk l):i1m (n+8) (labB l)=some (l,0):=by
 have hn:=h.n1;have e:labB l=uvB l.length++l.flatMap y1f:=rfl;rw[e2f,g0a,obs,e,w1h (n+5) (by omega),obs];dsimp only;have h3:=of_l4 (n+3) (v1i l none h.c) l [] (a0b-l.length-1) rfl hn;rw[<-lfu (by omega)] at h3;rw[h3,obs,a0r,j0a,obs];dsimp only;rw[tff,m0z,obs,tfd,q0n (by simp),i0y (n+1) l,q0z h,obs];rfl
def Secs (L:List (List UInt8)):Prop:=∀s∈L,s.length=512
theorem g2k:∀ {L:List (List UInt8)},Secs L->L.flatten.length=512*L.length
 | [],_=>rfl
 | s::L,h=>by
  have:=g2k (L:=L) fun x hx=>h x (q3h _ hx)
  rw[List.flatten_cons,q3b,this,h s List.mem_cons_self,q3i];omega
theorem Secs.take {L:List (List UInt8)}(h:Secs L)(k:Nat):Secs (L.take k):=fun s hs=>h s (List.mem_of_mem_take hs)
theorem Secs.drop {L:List (List UInt8)}(h:Secs L)(k:Nat):Secs (L.drop k):=fun s hs=>h s (List.mem_of_mem_drop hs)
theorem Secs.le {L:List (List UInt8)}(h:Secs L):∀s∈L,s.length<=1000000:=fun s hs=>by have:=h s hs;omega
def z0v (k m:Nat)(left:List (List UInt8)):List UInt8:=(left.take (nsec k m)).flatten
theorem g2y (k:Nat){m:Nat}(hm:1<=m):k<=m*nsec k m:=by
 have h1:=Nat.div_add_mod (k+m-1) m;have h2:=Nat.mod_lt (k+m-1) hm;unfold nsec;omega
theorem z1f {k m:Nat}{left:List (List UInt8)}(h:Secs left)(hl:nsec k m<=left.length):(z0v k m left).length=512*nsec k m:=by
 unfold z0v;rw[g2k (h.take _),q3x,q4f hl]
abbrev Plc:=Conf×List (List UInt8)
def evAt (all:List UInt8)(lost room i:Nat):Ev:=(evR (all.drop (32*((lost % room+i) % room)),false)).1
theorem raw_l6 (n:Nat)(p:Plc)(z:Rw)(all:List UInt8)(lost room many:Nat)(mark:Int)(hr:1<=room)(hr':room<=4096)(hm:many<=room)(hall:32*room<=all.length):∀(d f:Nat) (L:List Ev) (k:Nat),k+d=many->L.length=k ->
  e0n (n+5) (f+d+1) (p,((lost:Int),(mark,L)),z,all,(room:Int),(many:Int),(k:Int),())=some (.inl (p,(((lost:Int),(mark,L++(List.range' k d).map (evAt all lost room))),(z,())))):=by
 intro d;induction d with
 | zero =>
  intro f L k hk hL;rw[m0e,tfd,q0n (by omega)];simp
 | succ d ih =>
  intro f L k hk hL;have hq:(lost % room+k) % room<room:=Nat.mod_lt _ hr;have hq0:lost % room<room:=Nat.mod_lt _ hr;have e1:Int.tmod (lost:Int) (room:Int)=((lost % room:Nat):Int):=by rw[Int.tmod_eq_emod_of_nonneg (by omega),Int.natCast_emod]
  have e2:wrap .i64 (((lost % room:Nat):Int)+(k:Int))=((lost % room+k:Nat):Int):=by rw[w64 (by omega) (by omega)];omega
  have e3:Int.tmod ((lost % room+k:Nat):Int) (room:Int)=(((lost % room+k) % room:Nat):Int):=by rw[Int.tmod_eq_emod_of_nonneg (by omega),Int.natCast_emod]
  have e4:wrap .i64 ((32:Int)*(((lost % room+k) % room:Nat):Int))=((32*((lost % room+k) % room):Nat):Int):=by rw[w64 (by omega) (by omega)];omega
  have e5:wrap .i64 ((k:Int)+1)=((k+1:Nat):Int):=by rw[w64 (by omega) (by omega)];omega
  rw[show f+(d+1)+1=(f+d+1)+1 by omega,m0e,tfd,q0z (by omega),tfd,q0n (by omega),tfd,q0n (by omega)];simp only[e1,e2,e3,e4,e5];rw[tfd,q0z (by omega),tfd,q3g,q0z (by omega),g0a,obs,List.take_length,t0d (n+1),obs,tfd,q0z (by omega)];rw[ih f _ (k+1) (by omega) (by simp[hL]),List.range'_succ,q4i,q3e];rfl
def d2b (c:Conf)(lost mark many:Int)(all:List UInt8):Rw :=
 if lost<0 then (lost,(mark,[])) else if c.1<many then (lost,(mark,[])) else (lost,(mark,(List.range many.toNat).map (evAt all lost.toNat c.1.toNat)))
theorem q2d (n:Nat){c:Conf}(h1:1<=c.1)(h2:c.1<=4096){left:List (List UInt8)}(hs:Secs left)(hl:nsec c.1.toNat 16<=left.length)(hl':left.length<=1000000)(lost mark many:Int)(hm:0<=many) :
  o0y (n+6) (c,left) (lost,(mark,[])) many=some (d2b c lost mark many (z0v c.1.toNat 16 left),(c,left.drop (nsec c.1.toNat 16))):=by
 have hc:c.1=((c.1.toNat:Nat):Int):=by omega
 have ht:=i1e (n+2) c left c.1.toNat 16 (by omega) (by omega) (by omega) hl' hs.le;rw[<-hc] at ht;rw[c1m]
 change a0a (c0k (n+5) (c,left) c.1 ((16:Nat):Int)) _=_
 rw[ht,obs];dsimp only;unfold d2b;rw[tfd];by_cases k1:lost<0
 ·rw[q0z k1,q0z k1]
 rw[q0n k1,q0n k1,tfd];by_cases k2:c.1<many
 ·rw[q0z k2,q0z k2]
 rw[q0n k2,q0n k2];have hj:=z1f hs hl;have hn:=g2y c.1.toNat (m:=16) (by omega);have:=raw_l6 n (c,left.drop (nsec c.1.toNat 16)) ((0:Int),((0:Int),[])) (z0v c.1.toNat 16 left) lost.toNat c.1.toNat many.toNat mark (by omega) (by omega) (by omega) (by omega) many.toNat (a0b-many.toNat-1) [] 0 (by omega) rfl;rw[<-lfu (by omega),<-hc,show ((lost.toNat:Nat):Int)=lost by omega,show ((many.toNat:Nat):Int)=many by omega] at this
 change a0a (e0n (n+5) a0b ((c,left.drop (nsec c.1.toNat 16)),(lost,(mark,[])),((0:Int),((0:Int),[])),z0v c.1.toNat 16 left,c.1,many,((0:Nat):Int),())) _=_
 rw[this,obs,a0r,q3p,List.range_eq_range']
def slAt (all:List UInt8)(i:Nat):Slo:=(slR (all.drop (128*i),false)).1
theorem tier_l4 (n:Nat)(p:Plc)(all:List UInt8)(N:Nat)(hN:N<=4096)(hall:128*N<=all.length):∀(d f:Nat) (pre:List Slo),pre.length+d=N ->
  d0z (n+5) (f+d+1) (p,all,pre++List.replicate d s0,(N:Int),(pre.length:Int),())=some (.inl (p,(pre++(List.range' pre.length d).map (slAt all),()))):=by
 intro d;induction d with
 | zero =>
  intro f pre hk;rw[k0n,tfd,q0n (by omega)];simp
 | succ d ih =>
  intro f pre hk;have e4:wrap .i64 ((128:Int)*(pre.length:Int))=((128*pre.length:Nat):Int):=by rw[w64 (by omega) (by omega)];omega
  have e5:wrap .i64 ((pre.length:Int)+1)=((pre.length+1:Nat):Int):=by rw[w64 (by omega) (by omega)];omega
  have hg:(pre++List.replicate (d+1) s0)[pre.length]? = some s0:=by rw[List.replicate_succ];simp
  rw[show f+(d+1)+1=(f+d+1)+1 by omega,k0n,tfd,q0z (by omega)];simp only[e4,e5];rw[tfd,q0z (by omega),tfd,q3g,q0z (by omega),List.take_length,g1a n,obs,d1c hg,obs,q3g,hg,obs];have hset:(pre++List.replicate (d+1) s0).set pre.length (slR (all.drop (128*pre.length),false)).1=(pre++[slAt all pre.length])++List.replicate d s0:=by
   rw[List.replicate_succ];simp[slAt]
  rw[hset];have:=ih f (pre++[slAt all pre.length]) (by simp;omega);rw[show (pre++[slAt all pre.length]).length=pre.length+1 by simp] at this;rw[this,List.range'_succ,q4i,q3e];rfl
theorem e1j (n:Nat)(c:Conf){left:List (List UInt8)}(hs:Secs left)(hl':left.length<=1000000){N:Int}(h0:0<=N)(h1:N<=4096)(hl:nsec N.toNat 4<=left.length) :
  g0f (n+6) (c,left) N=some ((List.range N.toNat).map (slAt (z0v N.toNat 4 left)),(c,left.drop (nsec N.toNat 4))):=by
 obtain ⟨k,rfl⟩:∃k:Nat,N=k:=⟨N.toNat,by omega⟩;rw[q3g] at hl ⊢;have ht:=i1e (n+2) c left k 4 (by omega) (by omega) (by omega) hl' hs.le;rw[z0y]
 change a0a (c0k (n+5) (c,left) (k:Int) ((4:Nat):Int)) _=_
 rw[ht,obs];dsimp only;have hj:=z1f hs hl;have hn:=g2y k (m:=4) (by omega);have:=tier_l4 n (c,left.drop (nsec k 4)) (z0v k 4 left) k (by omega) (by omega) k (a0b-k-1) [] (by simp);rw[<-lfu (by omega),q3p,q3p] at this;rw[show (decide ((0:Int)<=(k:Int))&&(decide ((k:Int)<=(k:Int))&&decide ((k:Int)*120<=(140737488355328:Int))))=true by
  rw[q1n,q1n,q3a,q3a,q3a];omega,tft,q3g,q3z]
 change a0a (d0z (n+5) a0b ((c,left.drop (nsec k 4)),z0v k 4 left,List.replicate k s0,(k:Int),(([]:List Slo).length:Int),())) _=_
 rw[this,obs,a0r,List.range_eq_range'];rfl
end Go.Proofs.YtagnkfbpgkckiaaGreatDoor
