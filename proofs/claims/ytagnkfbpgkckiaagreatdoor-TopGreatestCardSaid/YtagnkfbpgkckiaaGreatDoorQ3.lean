/-
 Plain proofs about the functions of this seat, part 3 of 3.
-/
import Derived.Test.YtagnkfbpgkckiaaGreatDoorQ2
namespace Go.Proofs.YtagnkfbpgkckiaaGreatDoor
open Go.Flat Go.Plim
set_option linter.unusedVariables false
set_option linter.unusedSimpArgs false
def rateC (c:Cel):(Wd×Wd)×Int:=if c.2.2.2.2.2.2<1 then (((0,0),(0,0)),12) else rateV c.2.2.2.1 c.2.2.2.2.2.2
theorem a2h (n:Nat) {c:Cel} (hw:WdOk c.2.2.2.1) (hs:c.2.2.2.2.2.2≤9223372036854775807):z0p (n+7) c=some (rateC c):=by
 rw[l1v,tfd];unfold rateC;by_cases h:c.2.2.2.2.2.2<1
 ·rw[if_pos h,if_pos h]
 ·rw[if_neg h,if_neg h,wu64 (by omega) (by omega),a2d n hw ⟨by omega,by omega⟩,obs]
theorem z1z (n:Nat) (c:Conf) {s:Ser} (hw:SerW s) {k:Int} (h0:0≤k) (h2:k≤2) (i j:Int):e0r (n+22) c s k i j=some (b1d c s k i j):=by
 unfold b1d;rcases (by omega:k=0∨k=1∨k=2) with e | e | e
 ·subst e;rw[if_pos rfl];exact l1e n c hw i j
 ·subst e;rw[if_neg (by decide),if_pos rfl];exact l1d n c hw i j
 ·subst e;rw[if_neg (by decide),if_neg (by decide)];exact l1c n c hw i j
theorem span_ok {a b w:Int} (h:(q0e a b w).2.2=0):WidP w∧RngP a b∧a % w=0∧b % w=0∧q0e a b w=(a / w,(b / w,0))∧0≤a / w∧a / w≤b / w:=by
 unfold q0e at h ⊢;split at h
 ·rename_i h1;split at h
  ·rename_i h2;rw[if_pos h1,if_pos h2];exact ⟨h1.1,h1.2,h2.1,h2.2,rfl,Int.ediv_nonneg h1.2.1 (by have:=h1.1.1;omega),Int.ediv_le_ediv (by have:=h1.1.1;omega) (Int.le_of_lt h1.2.2.2)⟩
  ·cases h
 ·cases h
theorem one_ok {s:Sta} {k a b:Int} (h:oneV s k a b=0):(q0e a b (j0j s.1 k)).2.2=0∧(oldV s.2.1 (j0j s.1 k) (tierN s.1 k)).1≤(q0e a b (j0j s.1 k)).1:=by
 unfold oneV at h;split at h
 ·rename_i h1;split at h
  ·cases h
  ·exact ⟨h1,by omega⟩
 ·rename_i h1;exact absurd h h1
theorem which_ok {s:Sta} {a b:Int}:∀(d:Nat) (t why:Int),why≠0→(f0b s a b d t why).2=0→t≤(f0b s a b d t why).1∧(f0b s a b d t why).1<t+d∧oneV s ((f0b s a b d t why).1-1) a b=0:=by
 intro d;induction d with
 | zero=>intro t why hw h;exact absurd h hw
 | succ d ih =>
  intro t why hw h;rcases f2f s (t-1) a b with e | e | e | e
  ·rw[d2a e];exact ⟨by simp only;omega,by simp only;omega,e⟩
  ·rw[c2z e] at h;cases h
  ·rw[w1m e] at h ⊢;obtain ⟨h1,h2,h3⟩:=ih (t+1) why hw h;exact ⟨by omega,by omega,h3⟩
  ·rw[w1l e] at h ⊢;obtain ⟨h1,h2,h3⟩:=ih (t+1) 11 (by decide) h;exact ⟨by omega,by omega,h3⟩
theorem d2j {s:Sta} {t a b:Int} (h:(e0j s t a b).2=0):StaOk s∧1≤(e0j s t a b).1∧(e0j s t a b).1≤3∧oneV s ((e0j s t a b).1-1) a b=0∧0≤t∧t≤3∧(1≤t→(e0j s t a b).1=t):=by
 unfold e0j at h ⊢;by_cases hs:StaOk s
 case neg=>rw[if_neg hs] at h;cases h
 rw[if_pos hs] at h ⊢;by_cases h1:t<0∨3<t
 ·rw[if_pos h1] at h;cases h
 rw[if_neg h1] at h ⊢;by_cases h0:t=0
 ·rw[if_pos h0] at h ⊢;obtain ⟨k1,k2,k3⟩:=which_ok 3 1 10 (by decide) h;exact ⟨hs,k1,by omega,k3,by omega,by omega,by omega⟩
 ·rw[if_neg h0] at h ⊢;by_cases ho:oneV s (t-1) a b=0
  ·rw[if_pos ho];exact ⟨hs,by simp only;omega,by simp only;omega,ho,by omega,by omega,fun _=>rfl⟩
  ·rw[if_neg ho] at h;exact absurd h ho
noncomputable def c2i (s:Sta) (l:List Lab) (k a b:Int):Cel :=
 match y0m s l with
 | some i=>(b1d s.1 ((s.2.2.2[i]?).getD ser0) k (a / j0j s.1 k) (b / j0j s.1 k)).1
 | none=>z0
theorem found {s:Sta} (hs:StaOk s) {l:List Lab} {i:Nat} (h:y0m s l=some i):∃x,s.2.2.2[i]? = some x∧x.1=l∧LvX s x∧SerOk s.1 x:=by
 obtain ⟨x,hx,h1,h2,_⟩:=j1r.1 h;exact ⟨x,hx,h1,h2,(f2r hs (List.mem_of_getElem? hx) h2).1⟩
theorem p1y (n:Nat) {s:Sta} (hw:StaW s) (hs:StaOk s) {q:List Lab×(Int×(Int×Int))} {k:Int} (h0:0≤k) (h2:k≤2) (ho:oneV s k q.2.2.1 q.2.2.2=0):l1r (n+23) s q k=some (c2i s q.1 k q.2.2.1 q.2.2.2,0):=by
 obtain ⟨l,t,a,b⟩:=q;simp only at ho ⊢;rw[u1m];simp only;rw[stt_find (n+12) hw l,obs,tfn,tfd];unfold c2i;cases hf:y0m s l with
 | none=>rw[b2u hs.whole hf,if_neg (show ¬((3:Int)=0) by decide)];rfl
 | some i =>
  obtain ⟨x,hx,hxl,hlv,hok⟩:=found hs hf;obtain ⟨s1,s2⟩:=one_ok ho;obtain ⟨_,_,_,_,e,e1,e2⟩:=span_ok s1;have hfine:=u1k hok k e1 e2;rw[b2t hs.whole hf,if_pos rfl];simp only[hx,Option.getD_some];have fin:∀(x':Ser),x'=x→a0b (e0r (n+22) s.1 x' k (a / j0j s.1 k) (b / j0j s.1 k)) (fun r=>some r)=some ((b1d s.1 x k (a / j0j s.1 k) (b / j0j s.1 k)).1,0):=by
   rintro x' rfl;rw[z1z n s.1 (hw.at hx).1 h0 h2,obs];exact congrArg some (Prod.ext rfl hfine)
  rcases (by omega:k=0∨k=1∨k=2) with ek | ek | ek<;>subst ek
  ·rw[decide_eq_true rfl,tft]
   change a0b (i0m (n+22) a b (j0j s.1 0)) _=_
   rw[y0w (n+19),obs,e];simp only[decide_true,Bool.not_true,tff];rw[c1g hx,obs];exact fin x rfl
  ·rw[decide_eq_false (show ¬((1:Int)=0) by decide),tff,decide_eq_true rfl,tft]
   change a0b (i0m (n+22) a b (j0j s.1 1)) _=_
   rw[y0w (n+19),obs,e];simp only[decide_true,Bool.not_true,tff];rw[c1g hx,obs];exact fin x rfl
  ·rw[decide_eq_false (show ¬((2:Int)=0) by decide),tff,decide_eq_false (show ¬((2:Int)=1) by decide),tff,decide_eq_true rfl,tft]
   change a0b (i0m (n+22) a b (j0j s.1 2)) _=_
   rw[y0w (n+19),obs,e];simp only[decide_true,Bool.not_true,tff];rw[c1g hx,obs];exact fin x rfl
theorem mrgE_okc (a b:Cel):c0k (mrgE a b).1:=by
 unfold mrgE;split
 ·rename_i h;split
  ·rename_i ha;exact q1v h.1 h.2 ha
  ·exact s0y
 ·exact s0y
theorem z0o (ok:Prop) [Decidable ok] (i j last w:Int) (t:List Slo) (now:Cel×Int):c0k (f0f ok i j last w t now).1:=by
 unfold f0f;split
 ·split
  ·exact s0y
  split
  ·exact s0y
  split
  ·exact s0y
  split
  ·exact w0s _ _ _
  split
  ·exact w0s _ _ _
  split
  ·exact s0y
  ·exact mrgE_okc _ _
 ·exact s0y
theorem a2f (c:Conf) (s:Ser) (k i j:Int):c0k (b1d c s k i j).1:=by
 unfold b1d;split
 ·exact z0o _ _ _ _ _ _ _
 split
 ·exact z0o _ _ _ _ _ _ _
 ·exact z0o _ _ _ _ _ _ _
theorem y1i (s:Sta) (l:List Lab) (k a b:Int):c0k (c2i s l k a b):=by
 unfold c2i;split
 ·exact a2f _ _ _ _ _
 ·exact s0y
theorem f1o {c:Cel} (h:c0k c):WdOk c.2.2.2.1∧c.2.2.2.2.2.2≤9223372036854775807:=by
 rcases h with rfl | h
 ·exact ⟨⟨by simp[z0],by simp[z0]⟩,by simp[z0]⟩
 ·have h1:=h.s1;have h2:=h.l.t1;have h3:=h.f.t0;exact ⟨h.w,by omega⟩
abbrev zr:Int×(Cel×((Wd×Wd)×Int)):=(0,(z0,(((0,0),(0,0)),0)))
noncomputable def doQ (s:Sta) (l:List Lab) (t a b:Int):(Int×(Cel×((Wd×Wd)×Int)))×Int :=
 if StaOk s then (if LabOk l then (if (e0j s t a b).2=0 then (((e0j s t a b).1,(c2i s l ((e0j s t a b).1-1) a b,rateC (c2i s l ((e0j s t a b).1-1) a b))),0) else (zr,(e0j s t a b).2)) else (zr,8)) else (zr,2)
theorem l1s (n:Nat) {s:Sta} (hw:StaW s) (l:List Lab):d1z (n+15) s l=some (if StaOk s then (if LabOk l then 0 else 8) else 2):=by
 rw[p1z,m0g n hw,obs,tfn,tfd];by_cases h:StaOk s
 ·rw[if_pos h,if_pos h,if_pos rfl,r0a (n+8) l,obs]
 ·rw[if_neg h,if_neg h,if_neg (by decide)]
theorem l1t (n:Nat) {s:Sta} (hw:StaW s) (q:List Lab×(Int×(Int×Int))):x0p (n+24) s q=some (doQ s q.1 q.2.1 q.2.2.1 q.2.2.2):=by
 rw[u1n,l1s (n+8) hw,obs,tfn,tfd];unfold doQ;by_cases h:StaOk s
 case neg=>rw[if_neg h,if_neg h,if_neg (by decide)];rfl
 rw[if_pos h,if_pos h];by_cases hl:LabOk q.1
 case neg=>rw[if_neg hl,if_neg hl,if_neg (by decide)];rfl
 rw[if_pos hl,if_pos hl,if_pos rfl,j1a (n+4) hw,obs,tfn,tfd];by_cases ht:(e0j s q.2.1 q.2.2.1 q.2.2.2).2=0
 case neg=>rw[if_neg ht,if_neg ht];rfl
 obtain ⟨_,t1,t3,ho,_⟩:=d2j ht;have hr:=f1o (y1i s q.1 ((e0j s q.2.1 q.2.2.1 q.2.2.2).1-1) q.2.2.1 q.2.2.2);rw[if_pos ht,if_pos ht,w64 (by omega) (by omega),p1y n hw h (by omega) (by omega) ho,obs];simp only[decide_true,Bool.not_true,tff];rw[a2h (n+16) hr.1 hr.2,obs]
def valOf:List Lab→List UInt8→List UInt8
 | [],_=>[]
 | x::l,nm=>if (x.1==nm)=true then x.2 else valOf l nm
theorem i1d (nm:List UInt8):∀(A B:List Lab),(∀y∈A,(y.1==nm)=false)→valOf (A++B) nm=valOf B nm:=by
 intro A;induction A with
 | nil=>intro B _;rfl
 | cons x A ih =>
  intro B h;rw[List.cons_append,valOf,h x (by simp),if_neg (by decide),ih B fun y hy=>h y (by simp[hy])]
theorem z1a (nm:List UInt8) (l:List Lab) (h:∀y∈l,(y.1==nm)=false):valOf l nm=[]:=by
 have:=i1d nm l [] h;rw[List.append_nil] at this;rw[this];rfl
def hitM (m:Int×Lab) (l:List Lab):Bool :=
 if m.1=1 then valOf l m.2.1==m.2.2 else if m.1=2 then !(valOf l m.2.1==m.2.2) else if m.1=3 then decide (m.2.2.length≤(valOf l m.2.1).length)&&(List.take m.2.2.length (valOf l m.2.1)==m.2.2) else false
def j1k (ms:List (Int×Lab)) (l:List Lab):Bool:=ms.all fun m=>hitM m l
def MatR (m:Int×Lab):Prop:=1≤m.1∧m.1≤3∧LabOk [m.2]
def h1y (ms:List (Int×Lab)):Prop:=ms.length≤16∧∀m∈ms,MatR m
noncomputable instance (m:Int×Lab):Decidable (MatR m):=Classical.propDecidable _
noncomputable instance (ms:List (Int×Lab)):Decidable (h1y ms):=Classical.propDecidable _
theorem g2o (n:Nat) {del:Lab×Unit→Option Bool} {p:Lab→Bool} (hd:∀x,del (x,())=some (p x)) (l:List Lab) (hL:l.length≤1000000):∀(rest pre:List Lab) (f:Nat) (i len:Int),l=pre++rest→i=pre.length→len=l.length→rest.length<f →
  (d0f n f (l,del,len,i,())=some (.inl ())∧∀x∈rest,p x=false) ∨
  (∃A x B,rest=A++x::B∧(∀y∈A,p y=false)∧p x=true∧d0f n f (l,del,len,i,())=some (.inr (i+A.length))):=by
 intro rest;induction rest with
 | nil =>
  intro pre f i len hl hi hn hf;obtain ⟨f,rfl⟩:∃g,f=g+1:=⟨f-1,by simp at hf;omega⟩;rw[i0i];exact .inl ⟨by simp only[tfd,if_neg (idxe hl hi hn)],by simp⟩
 | cons x rest ih =>
  intro pre f i len hl hi hn hf;obtain ⟨f,rfl⟩:∃g,f=g+1:=⟨f-1,by simp at hf;omega⟩;rw[i0i];simp only[tfd,if_pos (idx hl hi hn),c0w hl hi,obs,hd,idxw hl hi (show l.length≤1000000000000 by omega)];cases hp:p x with
  | true=>exact .inr ⟨[],x,rest,rfl,by simp,hp,by simp⟩
  | false =>
   rw[tff];rcases ih (pre++[x]) f (i+1) len (idxl hl) (idxs hi) hn (by simp at hf;omega) with ⟨h1,h2⟩ | ⟨A,y,B,h1,h2,h3,h4⟩
   ·exact .inl ⟨h1,by intro z hz;rcases List.mem_cons.1 hz with rfl | hz;exact hp;exact h2 z hz⟩
   ·refine .inr ⟨x::A,y,B,by rw[h1];rfl,?_,h3,by rw[h4,List.length_cons,show i+1+(A.length:Int)=i+((A.length+1:Nat):Int) by omega]⟩;intro z hz;rcases List.mem_cons.1 hz with rfl | hz
    ·exact hp
    ·exact h2 z hz
theorem v1b (n:Nat) (l:List Lab) (hL:l.length≤1000000) (nm:List UInt8):v0w (n+2) l nm=some (valOf l nm):=by
 rw[g1u,s0l];rcases g2o n (del:=fun y0=>r0b (n+1) y0.1 nm) (p:=fun x=>x.1==nm) (fun x=>c1c n x nm) l hL l [] a0c 0 l.length rfl rfl rfl (by unfold a0c;omega) with ⟨h1,h2⟩ | ⟨A,x,B,h1,h2,h3,h4⟩
 ·rw[h1,z1a nm l h2];rfl
 ·rw[h4];simp only[obs,s0n];rw[decide_eq_false (by omega),tff,c0w h1 (by omega),obs,h1,i1d nm A _ h2,valOf,if_pos h3]
theorem b2l (n:Nat) (s p:List UInt8):strings_HasPrefix (n+2) s p=some (decide (p.length≤s.length)&&(List.take p.length s==p)):=by
 rw[u0i,o0w];by_cases h:p.length≤s.length
 ·rw[decide_eq_true (show ((p.length:Nat):Int)≤((s.length:Nat):Int) by omega),decide_eq_true (show (0:Int)≤((p.length:Nat):Int) by omega),decide_eq_true h,Int.toNat_natCast,List.drop_zero];rfl
 ·rw[decide_eq_false (show ¬((p.length:Nat):Int)≤((s.length:Nat):Int) by omega),decide_eq_false h];rfl
theorem a2v (n:Nat) (m:Int×Lab) (l:List Lab) (hL:l.length≤1000000):z0x (n+3) m l=some (hitM m l):=by
 rw[m1k,v1b n l hL,obs,tfd,tfd,tfd,b2l];unfold hitM;by_cases h1:m.1=1
 ·rw[if_pos h1,if_pos h1]
 rw[if_neg h1,if_neg h1];by_cases h2:m.1=2
 ·rw[if_pos h2,if_pos h2]
 rw[if_neg h2,if_neg h2];by_cases h3:m.1=3
 ·rw[if_pos h3,if_pos h3];rfl
 ·rw[if_neg h3,if_neg h3]
theorem g2n (n:Nat) {del:(Int×Lab)×Unit→Option Bool} {p:Int×Lab→Bool} (l:List (Int×Lab)) (hd:∀x∈l,del (x,())=some (p x)) (hL:l.length≤1000000):∀(rest pre:List (Int×Lab)) (f:Nat) (i len:Int),l=pre++rest→i=pre.length→len=l.length→rest.length<f →
  (c0q n f (l,del,len,i,())=some (.inl ())∧∀x∈rest,p x=false) ∨
  (∃k:Int,0≤k∧c0q n f (l,del,len,i,())=some (.inr k)∧∃x∈rest,p x=true):=by
 intro rest;induction rest with
 | nil =>
  intro pre f i len hl hi hn hf;obtain ⟨f,rfl⟩:∃g,f=g+1:=⟨f-1,by simp at hf;omega⟩;rw[h0g];exact .inl ⟨by simp only[tfd,if_neg (idxe hl hi hn)],by simp⟩
 | cons x rest ih =>
  intro pre f i len hl hi hn hf;obtain ⟨f,rfl⟩:∃g,f=g+1:=⟨f-1,by simp at hf;omega⟩;rw[h0g];simp only[tfd,if_pos (idx hl hi hn),c0w hl hi,obs,hd x (by rw[hl];simp),idxw hl hi (show l.length≤1000000000000 by omega)];cases hp:p x with
  | true=>exact .inr ⟨i,by omega,by simp,x,by simp,hp⟩
  | false =>
   rw[tff];rcases ih (pre++[x]) f (i+1) len (idxl hl) (idxs hi) hn (by simp at hf;omega) with ⟨h1,h2⟩ | ⟨k,h1,h2,y,hy,h3⟩
   ·exact .inl ⟨h1,by intro z hz;rcases List.mem_cons.1 hz with rfl | hz;exact hp;exact h2 z hz⟩
   ·exact .inr ⟨k,h1,h2,y,by simp[hy],h3⟩
theorem b1n (n:Nat) {del:(Int×Lab)×Unit→Option Bool} {p:Int×Lab→Bool} (l:List (Int×Lab)) (hd:∀x∈l,del (x,())=some (p x)) (hL:l.length≤1000000):d0r (n+2) l del=some (l.any p):=by
 rw[n0i,q0g];rcases g2n n l hd hL l [] a0c 0 l.length rfl rfl rfl (by unfold a0c;omega) with ⟨h1,h2⟩ | ⟨k,h1,h2,x,hx,h3⟩
 ·rw[h1];have:l.any p=false:=by rw[List.any_eq_false];intro x hx;simp[h2 x hx]
  rw[this];rfl
 ·rw[h2];have:l.any p=true:=List.any_eq_true.2 ⟨x,hx,h3⟩;simp[this,h1]
theorem m1j (n:Nat) (ms:List (Int×Lab)) (hm:ms.length≤1000000) (l:List Lab) (hL:l.length≤1000000):e1r (n+5) ms l=some (j1k ms l):=by
 rw[q1x,b1n (n+2) (p:=fun m => !hitM m l) ms (fun m _=>by
  show v0u (n+3+1) m l=_
  rw[g1q,a2v n m l hL];rfl) hm,obs]
 refine congrArg some ?_;unfold j1k;rw[List.any_eq_not_all_not];simp
theorem e1p (n:Nat) (m:Int×Lab) (h0:0≤m.1):v0s (n+7) m=some (decide (MatR m)):=by
 rw[g1n,r0a n,obs,tfn,tfd,tfd];have e1:MatR m→1≤m.1:=fun k=>k.1
 have e2:MatR m→m.1≤3:=fun k=>k.2.1
 by_cases h1:m.1=0
 ·rw[if_pos h1,decide_eq_false (fun k=>by have:=e1 k;omega)]
 rw[if_neg h1];by_cases h2:m.1<4
 case neg=>rw[if_neg h2,decide_eq_false (fun k=>by have:=e2 k;omega)]
 rw[if_pos h2];by_cases h3:LabOk [m.2]
 ·rw[if_pos h3,decide_eq_true (show MatR m from ⟨by omega,by omega,h3⟩)];rfl
 ·rw[if_neg h3,decide_eq_false (fun k:MatR m=>h3 k.2.2)];rfl
theorem e1q (n:Nat) (ms:List (Int×Lab)) (hm:ms.length≤1000000) (hk:∀m∈ms,0≤m.1):v0t (n+10) ms=some (if h1y ms then 0 else 2):=by
 rw[g1p,tfd];have e0:h1y ms→ms.length≤16:=fun k=>k.1
 by_cases h1:16<ms.length
 ·rw[if_pos (by omega),if_neg (fun k=>by have:=e0 k;omega)]
 rw[if_neg (by omega),b1n (n+7) (p:=fun m => !decide (MatR m)) ms (fun m h=>by
  show q0x (n+8+1) m=_
  rw[c1b,e1p (n+1) m (hk m h)];rfl) hm,obs]
 by_cases h:∀m∈ms,MatR m
 ·rw[if_pos (show h1y ms from ⟨by omega,h⟩),List.any_eq_false.2 (fun m hm=>by simp[h m hm])];rfl
 ·rw[if_neg (fun k:h1y ms=>h k.2)];have:∃m∈ms,¬MatR m:=Classical.byContradiction fun k=>h fun x hx=>Classical.byContradiction fun q=>k ⟨x,hx,q⟩
  obtain ⟨m,hm,q⟩:=this;rw[List.any_eq_true.2 ⟨m,hm,by simp[q]⟩];rfl
end Go.Proofs.YtagnkfbpgkckiaaGreatDoor

namespace Go.Plim
set_option linter.unusedVariables false
variable {α:Type}
def Stb (key:α→Int) (d' d:List α):Prop:=∀c:Int,(d'.filter fun x=>decide (key x=c))=d.filter fun x=>decide (key x=c)
structure Mvk (key:α→Int) (d d':List α) (a b:Nat):Prop where
 mv:Mv d d' a b
 st:Stb key d' d
theorem Mvk.perm {key:α→Int} {d d':List α} {a b:Nat} (h:Mvk key d d' a b):d'.Perm d:=h.mv.perm
theorem Mvk.out {key:α→Int} {d d':List α} {a b:Nat} (h:Mvk key d d' a b):∀i,(i<a∨b≤i)→d'[i]? = d[i]? := h.mv.out
theorem Mvk.len {key:α→Int} {d d':List α} {a b:Nat} (h:Mvk key d d' a b):d'.length=d.length:=h.mv.len
theorem Mvk.refl {key:α→Int} (d:List α) (a b:Nat):Mvk key d d a b:=⟨.refl _ _ _,fun _=>rfl⟩
theorem Mvk.trans {key:α→Int} {d d' d'':List α} {a b:Nat} (h:Mvk key d d' a b) (g:Mvk key d' d'' a b):Mvk key d d'' a b:=⟨h.mv.trans g.mv,fun c=>(g.st c).trans (h.st c)⟩
theorem Mvk.mono {key:α→Int} {d d':List α} {a b a' b':Nat} (h:Mvk key d d' a b) (ha:a'≤a) (hb:b≤b'):Mvk key d d' a' b':=⟨h.mv.mono ha hb,h.st⟩
theorem Mvk.all {key:α→Int} {d d':List α} {a b:Nat} {P:α→Prop} (h:Mvk key d d' a b) (hP:∀x∈d,P x):∀x∈d',P x:=fun x hx=>hP x (h.perm.mem_iff.1 hx)
theorem Srt.keepk {key key':α→Int} {d d':List α} {a b p q:Nat} (h:Srt key d p q) (m:Mvk key' d d' a b) (hd:q≤a∨b≤p):Srt key d' p q:=h.keep m.mv hd
theorem d1i {key:α→Int} {d:List α} {i:Nat} {x y:α} (hi:d[i]? = some x) (hj:d[i+1]? = some y) (hne:key x≠key y):Stb key ((d.set i y).set (i+1) x) d∧Stb key ((d.set (i+1) x).set i y) d:=by
 have li:=(List.getElem?_eq_some_iff.1 hi).1;have lj:=(List.getElem?_eq_some_iff.1 hj).1;have e1:d=d.take i++(x::y::d.drop (i+2)):=by
  conv=>lhs;rw[←List.take_append_drop i d]
  congr 1;rw[List.drop_eq_getElem_cons li,List.drop_eq_getElem_cons lj];rw[List.getElem?_eq_getElem li] at hi;rw[List.getElem?_eq_getElem lj] at hj;rw[Option.some.inj hi,Option.some.inj hj]
 have lt:(d.take i).length=i:=by simp;omega
 generalize d.take i=A at *
 generalize d.drop (i+2)=B at *
 subst e1;have e2:((A++(x::y::B)).set i y).set (i+1) x=A++(y::x::B):=by
  rw[List.set_append_right _ _ (by omega),List.set_append_right _ _ (by omega),lt,Nat.sub_self,show i+1-i=1 by omega];rfl
 have e3:((A++(x::y::B)).set (i+1) x).set i y=A++(y::x::B):=by
  rw[List.set_append_right _ _ (by omega),List.set_append_right _ _ (by omega),lt,Nat.sub_self,show i+1-i=1 by omega];rfl
 have st:Stb key (A++(y::x::B)) (A++(x::y::B)):=by
  intro c;rw[List.filter_append,List.filter_append];congr 1;by_cases hx:key x=c
  ·have hy:¬key y=c:=fun h=>hne (by omega)
   simp[List.filter_cons,hx,hy]
  ·simp[List.filter_cons,hx]
 rw[e2,e3];exact ⟨st,st⟩
theorem z1b {key:α→Int} {d d':List α} {a m b:Nat} (t:Turned d d' a m b) (h1:a≤m) (h2:m≤b) (h3:b≤d.length)
  (hlt:∀i j x y,a≤i→i<m→m≤j→j<b→d[i]? = some x→d[j]? = some y→key y<key x):Stb key d' d:=by
 obtain ⟨P,U,V,S,hd,la,lm,lb⟩:=cut4 d h1 h2 h3;have ld:d.length=P.length+(U.length+(V.length+S.length)):=by rw[hd];simp
 have gU:∀i,i<U.length→d[a+i]? = U[i]? := by
  intro i hi;rw[hd,List.getElem?_append_right (by omega),List.getElem?_append_left (by omega)];congr 1;omega
 have gV:∀i,i<V.length→d[m+i]? = V[i]? := by
  intro i hi;rw[hd,List.getElem?_append_right (by omega),List.getElem?_append_right (by omega),List.getElem?_append_left (by omega)];congr 1;omega
 have e:d'=P++(V++(U++S)):=by
  apply List.ext_getElem?;intro i;by_cases c1:i<a
  ·rw[t.mv.out i (.inl c1),hd,List.getElem?_append_left (by omega),List.getElem?_append_left (by omega)]
  by_cases c2:i<a+(b-m)
  ·rw[t.lo i (by omega) c2,List.getElem?_append_right (by omega),List.getElem?_append_left (by omega)];rw[show i+(m-a)=m+(i-P.length) by omega];exact gV _ (by omega)
  by_cases c3:i<b
  ·rw[t.hi i (by omega) c3,List.getElem?_append_right (by omega),List.getElem?_append_right (by omega),List.getElem?_append_left (by omega)];rw[show i-(b-m)=a+(i-P.length-V.length) by omega];exact gU _ (by omega)
  ·rw[t.mv.out i (.inr (by omega)),hd,List.getElem?_append_right (by omega),List.getElem?_append_right (by omega),List.getElem?_append_right (by omega),List.getElem?_append_right (by omega),List.getElem?_append_right (by omega),List.getElem?_append_right (by omega)];congr 1;omega
 have hUV:∀x∈U,∀y∈V,key y<key x:=by
  intro x hx y hy;obtain ⟨i,hi⟩:=List.getElem?_of_mem hx;obtain ⟨j,hj⟩:=List.getElem?_of_mem hy;have li:=(List.getElem?_eq_some_iff.1 hi).1;have lj:=(List.getElem?_eq_some_iff.1 hj).1;exact hlt (a+i) (m+j) x y (by omega) (by omega) (by omega) (by omega) ((gU i li).trans hi) ((gV j lj).trans hj)
 intro c;rw[e,hd];simp only[List.filter_append];congr 1;rw[←List.append_assoc,←List.append_assoc];congr 1;by_cases hx:∃x∈U,key x=c
 ·obtain ⟨x,hxU,hxc⟩:=hx;have:V.filter (fun x=>decide (key x=c))=[]:=by
   rw[List.filter_eq_nil_iff];intro y hy;have:=hUV x hxU y hy;simp;omega
  rw[this];simp
 ·have:U.filter (fun x=>decide (key x=c))=[]:=by
   rw[List.filter_eq_nil_iff];intro x hxU hk;exact hx ⟨x,hxU,of_decide_eq_true hk⟩
  rw[this];simp
theorem s1g {key:α→Int} {d d':List α} {a m b:Nat} (h:∀i j x y,a≤i→i<m→m≤j→j<b→d[i]? = some x→d[j]? = some y→key x≤key y)
  (t:Mvk key d d' a m∨Mvk key d d' m b):∀i j x y,a≤i→i<m→m≤j→j<b→d'[i]? = some x→d'[j]? = some y→key x≤key y :=
 n1q h (t.imp (·.mv) (·.mv))
theorem stb_uniq {key:α→Int}:∀(A B:List α),A.Pairwise (fun x y=>key x≤key y)→B.Pairwise (fun x y=>key x≤key y)→Stb key A B→A=B:=by
 intro A;induction A with
 | nil =>
  intro B _ _ h;cases B with
  | nil=>rfl
  | cons y B =>
   have:=h (key y);simp[List.filter_cons] at this
 | cons x A ih =>
  intro B hA hB h;obtain ⟨hx,hA'⟩:=List.pairwise_cons.1 hA;cases B with
  | nil =>
   have:=h (key x);simp[List.filter_cons] at this
  | cons y B =>
   obtain ⟨hy,hB'⟩:=List.pairwise_cons.1 hB;have hxB:x∈y::B:=by
    have:x∈(y::B).filter fun z=>decide (key z=key x):=by rw[←h (key x)];simp[List.filter_cons]
    exact (List.mem_filter.1 this).1
   have hyA:y∈x::A:=by
    have:y∈(x::A).filter fun z=>decide (key z=key y):=by rw[h (key y)];simp[List.filter_cons]
    exact (List.mem_filter.1 this).1
   have k1:key y≤key x:=by
    rcases List.mem_cons.1 hxB with e | e
    ·rw[e];exact Int.le_refl _
    ·exact hy x e
   have k2:key x≤key y:=by
    rcases List.mem_cons.1 hyA with e | e
    ·rw[e];exact Int.le_refl _
    ·exact hx y e
   have ke:key y=key x:=by omega
   have e:=h (key x);rw[List.filter_cons_of_pos (by simp),List.filter_cons_of_pos (by simp[ke])] at e;injection e with e1 e2;subst e1;congr 1;refine ih B hA' hB' fun c => ?_
   by_cases hc:key x=c
   ·rw[←hc];exact e2
   ·have:=h c;rw[List.filter_cons_of_neg (by simpa using hc),List.filter_cons_of_neg (by simpa using hc)] at this;exact this
theorem p1j {key:α→Int} {d:List α} (h:Srt key d 0 d.length):d.Pairwise (fun x y=>key x≤key y):=by
 rw[List.pairwise_iff_getElem];intro i j hi hj hij;exact h i j _ _ (Nat.zero_le _) hij hj (List.getElem?_eq_getElem hi) (List.getElem?_eq_getElem hj)
end Go.Plim

namespace Go.Plim
set_option linter.unusedVariables false
variable {α:Type}
inductive Sel (key:α→Int):List α→List α→Prop
 | nil:Sel key [] []
 | step {A B:List α} {x:α} {out:List α} (hA:∀a∈A,key x<key a) (hB:∀b∈B,key x≤key b) (h:Sel key (A++B) out):Sel key (A++x::B) (x::out)
theorem Sel.perm {key:α→Int} {l out:List α} (h:Sel key l out):out.Perm l:=by
 induction h with
 | nil=>exact .refl _
 | step hA hB h ih=>exact (List.Perm.cons _ ih).trans List.perm_middle.symm
theorem Sel.srt {key:α→Int} {l out:List α} (h:Sel key l out):out.Pairwise (fun x y=>key x≤key y):=by
 induction h with
 | nil=>exact .nil
 | step hA hB h ih =>
  refine List.pairwise_cons.2 ⟨fun y hy => ?_,ih⟩;rcases List.mem_append.1 (h.perm.mem_iff.1 hy) with hy | hy
  ·exact Int.le_of_lt (hA y hy)
  ·exact hB y hy
theorem Sel.stb {key:α→Int} {l out:List α} (h:Sel key l out):Stb key out l:=by
 induction h with
 | nil=>intro c;rfl
 | @step A B x out hA hB h ih =>
  intro c;have:=ih c;rw[List.filter_append] at this ⊢;by_cases hx:key x=c
  ·have e:A.filter (fun x=>decide (key x=c))=[]:=by
    rw[List.filter_eq_nil_iff];intro a ha;have:=hA a ha;simp;omega
   rw[e,List.nil_append] at this ⊢;rw[List.filter_cons_of_pos (by simpa using hx),List.filter_cons_of_pos (by simpa using hx),this]
  ·rw[List.filter_cons_of_neg (by simpa using hx),List.filter_cons_of_neg (by simpa using hx),this]
theorem e2g {key:α→Int}:∀(l:List α),l≠[]→∃A x B,l=A++x::B∧(∀a∈A,key x<key a)∧∀b∈B,key x≤key b:=by
 intro l;induction l with
 | nil=>intro h;exact (h rfl).elim
 | cons y l ih =>
  intro _;by_cases hn:l=[]
  ·subst hn;exact ⟨[],y,[],rfl,by simp,by simp⟩
  ·obtain ⟨A,x,B,rfl,hA,hB⟩:=ih hn;by_cases c:key y≤key x
   ·refine ⟨[],y,A++x::B,rfl,by simp,fun b hb => ?_⟩;rcases List.mem_append.1 hb with hb | hb
    ·have:=hA b hb;omega
    ·rcases List.mem_cons.1 hb with rfl | hb
     ·exact c
     ·have:=hB b hb;omega
   ·refine ⟨y::A,x,B,rfl,fun a ha => ?_,hB⟩;rcases List.mem_cons.1 ha with rfl | ha
    ·omega
    ·exact hA a ha
theorem sel_ex {key:α→Int}:∀(n:Nat) (l:List α),l.length=n→∃out,Sel key l out:=by
 intro n;induction n with
 | zero=>intro l h;obtain rfl:=List.length_eq_zero_iff.1 h;exact ⟨[],.nil⟩
 | succ n ih =>
  intro l h;obtain ⟨A,x,B,rfl,hA,hB⟩:=e2g (key:=key) l (by intro e;rw[e] at h;cases h);obtain ⟨out,ho⟩:=ih (A++B) (by simp at h ⊢;omega);exact ⟨_,.step hA hB ho⟩
def rem:List α→List Bool→List α
 | x::l,d::ds=>if d=true then rem l ds else x::rem l ds
 | _,_=>[]
end Go.Plim

namespace Go.Proofs.YtagnkfbpgkckiaaGreatDoor
open Go.Flat Go.Plim
set_option linter.unusedVariables false
set_option linter.unusedSimpArgs false
abbrev Mat:=Int×(List UInt8×List UInt8)
abbrev Rpl:=Int×(Cel×((Wd×Wd)×Int))
abbrev Prt:=List Lab×Rpl
abbrev Tot:=Int×(Int×(Int×(Wd×(Int×(Int×Int)))))
def tz0:Tot:=(0,(0,(0,((0,0),(0,(0,0))))))
noncomputable def partOf (s:Sta) (ms:List Mat) (k a b:Int) (i:Nat):Option Prt :=
 match s.2.2.2[i]? with
 | some x=>if j1k ms x.1=true∧0<(doQ s x.1 k a b).1.2.1.1 then some (x.1,(doQ s x.1 k a b).1) else none
 | none=>none
noncomputable def x1c (s:Sta) (ms:List Mat) (k a b:Int):List Prt:=(v0v s).filterMap (partOf s ms k a b)
noncomputable def d0p (s:Sta) (ms:List Mat) (t a b:Int):List Prt×(Int×Int) :=
 if StaOk s then (if h1y ms then (if (e0j s t a b).2=0 then (x1c s ms (e0j s t a b).1 a b,((e0j s t a b).1,0)) else ([],(0,(e0j s t a b).2))) else ([],(0,2))) else ([],(0,2))
theorem i1f {s:Sta} {t a b:Int} (h:(e0j s t a b).2=0):e0j s (e0j s t a b).1 a b=((e0j s t a b).1,0):=by
 obtain ⟨hs,t1,t3,ho,_⟩:=d2j h;generalize (e0j s t a b).1=k at *
 unfold e0j;rw[if_pos hs,if_neg (by omega),if_neg (by omega),if_pos ho]
theorem h2v {s:Sta} (hs:StaOk s) {l:List Lab} (hl:LabOk l) {t a b:Int} (h:(e0j s t a b).2=0):(doQ s l (e0j s t a b).1 a b).2=0:=by
 unfold doQ;rw[if_pos hs,if_pos hl,i1f h,if_pos rfl]
theorem x1p {s:Sta} (hs:StaOk s) {i:Nat} (hi:i∈v0v s):∃x,s.2.2.2[i]? = some x∧LvX s x∧LabOk x.1:=by
 unfold v0v at hi;obtain ⟨h1,h2⟩:=List.mem_filter.1 hi;unfold lvAt at h2;cases hx:s.2.2.2[i]? with
 | none=>rw[hx] at h2;cases h2
 | some x =>
  rw[hx] at h2;have hl:LvX s x:=of_decide_eq_true h2;exact ⟨x,rfl,hl,(f2r hs (List.mem_of_getElem? hx) hl).1.lab⟩
theorem a2l (s:Sta) (ms:List Mat) (k a b:Int):(x1c s ms k a b).length≤(v0v s).length:=List.length_filterMap_le _ _
theorem k1i (n:Nat) {s:Sta} (hw:StaW s) (hs:StaOk s) (ms:List Mat) (hm:ms.length≤1000000) {t a b:Int} (ht:(e0j s t a b).2=0) (L:List Nat) (hL:L.length≤1000000) (hin:∀i∈L,i∈v0v s):∀(rest pre:List Nat) (out:List Prt) (f:Nat) (ix len:Int),L=pre++rest→ix=pre.length→len=L.length→rest.length<f→out.length≤pre.length →
  f0u (n+24) f (ms,a,b,s,(e0j s t a b).1,out,L.map Int.ofNat,len,ix,())=some (.inl ((e0j s t a b).1,out++rest.filterMap (partOf s ms (e0j s t a b).1 a b),())):=by
 intro rest;induction rest with
 | nil =>
  intro pre out f ix len hl hi hn hf ho;obtain ⟨f,rfl⟩:∃g,f=g+1:=⟨f-1,by simp at hf;omega⟩;rw[o0t,decide_eq_false (idxe hl hi hn),tff];simp
 | cons x rest ih =>
  intro pre out f ix len hl hi hn hf ho;obtain ⟨f,rfl⟩:∃g,f=g+1:=⟨f-1,by simp at hf;omega⟩;have hxi:=hin x (by rw[hl];simp);obtain ⟨y,hy,hlv,hlab⟩:=x1p hs hxi;have hlen:=congrArg List.length hl;simp only[List.length_append,List.length_cons] at hlen;have hlm:L.map Int.ofNat=pre.map Int.ofNat++(x:Int)::rest.map Int.ofNat:=by rw[hl];simp
  have him:ix=((pre.map Int.ofNat).length:Int):=by rw[List.length_map];exact hi
  have next:=fun out' ho'=>ih (pre++[x]) out' f (ix+1) len (idxl hl) (idxs hi) hn (by simp at hf;omega) ho'
  rw[o0t,decide_eq_true (idx hl hi hn),tft,c0w hlm him,obs,m1x hlm him,obs,c1g hy,obs,m1j (n+19) ms hm y.1 (by have:=hlab.n1;omega),obs,idxw hl hi (by omega),tfn,s0e];have hp:partOf s ms (e0j s t a b).1 a b x=if j1k ms y.1=true∧0<(doQ s y.1 (e0j s t a b).1 a b).1.2.1.1 then some (y.1,(doQ s y.1 (e0j s t a b).1 a b).1) else none:=by
   unfold partOf;simp only[hy]
  by_cases h1:j1k ms y.1=true
  case neg =>
   rw[if_neg h1,next out (by simp;omega),List.filterMap_cons_none (by rw[hp,if_neg fun e=>h1 e.1])]
  rw[if_pos h1,l1t n hw,obs];simp only;rw[h2v hs hlab ht];simp only[decide_true,Bool.not_true,tff];rw[tfd];by_cases h2:0<(doQ s y.1 (e0j s t a b).1 a b).1.2.1.1
  case neg =>
   rw[if_neg h2,next out (by simp;omega),List.filterMap_cons_none (by rw[hp,if_neg fun e=>h2 e.2])]
  rw[if_pos h2,decide_eq_true (show (out.length+1)*184≤140737488355328 by omega),tft,next _ (by simp;omega),List.filterMap_cons_some (by rw[hp,if_pos ⟨h1,h2⟩]),List.append_assoc];rfl
theorem x1q {s:Sta} (h:StaOk s):f2s s=(v0v s).map Int.ofNat:=if_pos h.whole
theorem r1a {s:Sta} (h:StaOk s):(v0v s).length≤65536:=by
 have:=v1a s;rw[x1q h,List.length_map] at this;exact this
theorem r0z (n:Nat) {s:Sta} (hw:StaW s) (ms:List Mat) (hm:ms.length≤1000000) (hk:∀m∈ms,0≤m.1) (t a b:Int):m0c (n+25) s ms t a b=some (d0p s ms t a b):=by
 rw[g1c,m0g (n+10) hw,obs];unfold d0p;by_cases h:StaOk s
 case neg=>rw[if_neg h,if_neg h];rfl
 rw[if_pos h,if_pos h,e1q (n+14) ms hm hk];simp only[decide_true,Bool.not_true,tff,obs];by_cases h2:h1y ms
 case neg=>rw[if_neg h2,if_neg h2];rfl
 rw[if_pos h2,if_pos h2,j1a (n+5) hw];simp only[decide_true,Bool.not_true,tff,obs,tfn,tfd];by_cases ht:(e0j s t a b).2=0
 case neg=>rw[if_neg ht,if_neg ht]
 have hL:=r1a h;rw[if_pos ht,if_pos ht,stt_live (n+16) hw,obs,x1q h];have:=k1i n hw h ms hm ht (v0v s) (by omega) (fun _ hi=>hi) (v0v s) [] [] a0c 0 _ rfl rfl rfl (by unfold a0c;omega) (Nat.le_refl _);rw[List.nil_append] at this;rw[List.length_map,this,obs,a0r];rfl
theorem u0a (s:Sta) (ms:List Mat) (t a b:Int):(d0p s ms t a b).1.length≤65536:=by
 unfold d0p;split
 ·rename_i h;split
  ·split
   ·exact Nat.le_trans (a2l _ _ _ _ _) (r1a h)
   ·simp
  ·simp
 ·simp
theorem doQ_cell (s:Sta) (l:List Lab) (t a b:Int):c0k (doQ s l t a b).1.2.1:=by
 unfold doQ;by_cases h1:StaOk s
 case neg=>rw[if_neg h1];exact s0y
 rw[if_pos h1];by_cases h2:LabOk l
 case neg=>rw[if_neg h2];exact s0y
 rw[if_pos h2];by_cases h3:(e0j s t a b).2=0
 case neg=>rw[if_neg h3];exact s0y
 rw[if_pos h3];exact y1i _ _ _ _ _
theorem l1z (s:Sta) (ms:List Mat) (t a b:Int):∀p∈(d0p s ms t a b).1,c0k p.2.2.1:=by
 intro p hp;unfold d0p at hp;split at hp
 ·rename_i h;split at hp
  ·split at hp
   ·obtain ⟨i,_,hi⟩:=List.mem_filterMap.1 hp;unfold partOf at hi;split at hi
    ·split at hi
     ·cases hi;simp only;exact doQ_cell _ _ _ _ _
     ·cases hi
    ·cases hi
   ·cases hp
  ·cases hp
 ·cases hp
theorem k1k (n:Nat) (why:Int) (l:List Prt) (hL:l.length≤1000000):∀(rest pre:List Prt) (out:List Rpl) (f:Nat) (i len:Int),l=pre++rest→i=pre.length→len=l.length→rest.length<f→out.length≤pre.length →
  k0c n f (why,out,l,len,i,())=some (.inl (why,out++rest.map (·.2),())):=by
 intro rest;induction rest with
 | nil =>
  intro pre out f i len hl hi hn hf ho;obtain ⟨f,rfl⟩:∃g,f=g+1:=⟨f-1,by simp at hf;omega⟩;rw[o0u,decide_eq_false (idxe hl hi hn),tff];simp
 | cons x rest ih =>
  intro pre out f i len hl hi hn hf ho;obtain ⟨f,rfl⟩:∃g,f=g+1:=⟨f-1,by simp at hf;omega⟩;have hlen:=congrArg List.length hl;simp only[List.length_append,List.length_cons] at hlen;rw[o0u,decide_eq_true (idx hl hi hn),tft,c0w hl hi,obs,m1x hl hi,obs,decide_eq_true (by omega),tft,idxw hl hi (by omega),ih (pre++[x]) _ f (i+1) len (idxl hl) (idxs hi) hn (by simp at hf;omega) (by simp;omega),List.append_assoc];rfl
theorem d1c (n:Nat) {s:Sta} (hw:StaW s) (ms:List Mat) (hm:ms.length≤1000000) (hk:∀m∈ms,0≤m.1) (t a b:Int):v0j (n+26) s ms t a b=some ((d0p s ms t a b).1.map (·.2),(d0p s ms t a b).2.2):=by
 rw[g1d,r0z n hw ms hm hk,obs];have hl:=u0a s ms t a b;have:=k1k (n+25) (d0p s ms t a b).2.2 (d0p s ms t a b).1 (by omega) (d0p s ms t a b).1 [] [] a0c 0 _ rfl rfl rfl (by unfold a0c;omega) (Nat.le_refl _);rw[List.nil_append] at this;rw[this,obs,a0r]
def addT (a b:Tot):Tot×Int :=
 if a.1=b.1 then (if (addW a.2.2.2.1 b.2.2.2.1).2=0 then ((a.1,(IntKind.wrap .i64 (a.2.1+b.2.1),(IntKind.wrap .i64 (a.2.2.1+b.2.2.1),((addW a.2.2.2.1 b.2.2.2.1).1,(IntKind.wrap .i64 (a.2.2.2.2.1+b.2.2.2.2.1),(IntKind.wrap .i64 (a.2.2.2.2.2.1+b.2.2.2.2.2.1),IntKind.wrap .i64 (a.2.2.2.2.2.2+b.2.2.2.2.2.2))))))),0)
  else (tz0,(addW a.2.2.2.1 b.2.2.2.1).2)) else (tz0,2)
theorem d2f (n:Nat) {a b:Tot} (ha:WdOk a.2.2.2.1) (hb:WdOk b.2.2.2.1):w0o (n+3) a b=some (addT a b):=by
 rw[o1w,tfn,tfd];unfold addT;by_cases h:a.1=b.1
 case neg=>rw[if_neg h,if_neg h];rfl
 rw[if_pos h,if_pos h,w1k n ha hb,obs,tfn,tfd];by_cases h2:(addW a.2.2.2.1 b.2.2.2.1).2=0
 ·rw[if_pos h2,if_pos h2]
 ·rw[if_neg h2,if_neg h2];rfl
theorem addW_ok {a b:Wd} (ha:WdOk a) (hb:WdOk b):WdOk (addW a b).1:=by
 have:=n0k ha;have:=n0k hb;unfold addW;split
 ·exact q1w (by omega) (by omega)
 ·exact ⟨by simp,by simp⟩
theorem addT_w {a b:Tot} (ha:WdOk a.2.2.2.1) (hb:WdOk b.2.2.2.1):WdOk (addT a b).1.2.2.2.1:=by
 unfold addT;split
 ·split
  ·exact addW_ok ha hb
  ·exact ⟨by simp[tz0],by simp[tz0]⟩
 ·exact ⟨by simp[tz0],by simp[tz0]⟩
def oneT (k:Int) (c:Cel):Tot:=(k,(1,(c.1,c.2.2.2)))
def sumT (k:Int):Tot→List Prt→Tot×Int
 | t,[]=>(t,0)
 | t,p::r=>if (addT t (oneT k p.2.2.1)).2=0 then sumT k (addT t (oneT k p.2.2.1)).1 r else (tz0,(addT t (oneT k p.2.2.1)).2)
theorem f1m {c:Cel} (h:c0k c):WdOk c.2.2.2.1:=(f1o h).1
theorem z1f (n:Nat) (s10:Tot) (k:Int) (l:List Prt) (hL:l.length≤1000000) (hok:∀p∈l,c0k p.2.2.1):∀(rest pre:List Prt) (t:Tot) (f:Nat) (i len:Int),l=pre++rest→i=pre.length→len=l.length→rest.length<f→WdOk t.2.2.2.1 →
  m0d (n+3) f (s10,k,t,l,len,i,())=some (if (sumT k t rest).2=0 then .inl (s10,(sumT k t rest).1,()) else .inr (tz0,(sumT k t rest).2)):=by
 intro rest;induction rest with
 | nil =>
  intro pre t f i len hl hi hn hf ht;obtain ⟨f,rfl⟩:∃g,f=g+1:=⟨f-1,by simp at hf;omega⟩;rw[u0o,decide_eq_false (idxe hl hi hn),tff];rfl
 | cons x rest ih =>
  intro pre t f i len hl hi hn hf ht;obtain ⟨f,rfl⟩:∃g,f=g+1:=⟨f-1,by simp at hf;omega⟩;have hx:WdOk (oneT k x.2.2.1).2.2.2.1:=f1m (hok x (by rw[hl];simp));rw[u0o,decide_eq_true (idx hl hi hn),tft,c0w hl hi,obs,m1x hl hi,obs,o1t,obs]
  change a0b (w0o (n+3) t (oneT k x.2.2.1)) _=_
  rw[d2f n ht hx,obs,tfn,tfd,idxw hl hi (by omega)];unfold sumT;by_cases h:(addT t (oneT k x.2.2.1)).2=0
  ·rw[if_pos h,if_pos h,ih (pre++[x]) _ f (i+1) len (idxl hl) (idxs hi) hn (by simp at hf;omega) (addT_w ht hx)]
  ·rw[if_neg h,if_neg h,if_neg h];rfl
noncomputable def totV (s:Sta) (ms:List Mat) (t a b:Int):Tot×Int :=
 if (d0p s ms t a b).2.2=0 then sumT (d0p s ms t a b).2.1 ((d0p s ms t a b).2.1,(0,(0,((0,0),(0,(0,0)))))) (d0p s ms t a b).1 else (tz0,(d0p s ms t a b).2.2)
theorem sumT_err (k:Int):∀(l:List Prt) (t:Tot),(sumT k t l).2≠0→(sumT k t l).1=tz0:=by
 intro l;induction l with
 | nil=>intro t h;exact (h rfl).elim
 | cons p l ih =>
  intro t h;unfold sumT at h ⊢;split at h
  ·rename_i k1;rw[if_pos k1];exact ih _ h
  ·rename_i k1;rw[if_neg k1]
theorem total_do (n:Nat) {s:Sta} (hw:StaW s) (ms:List Mat) (hm:ms.length≤1000000) (hk:∀m∈ms,0≤m.1) (t a b:Int):k1l (n+26) s ms t a b=some (totV s ms t a b):=by
 rw[t1g,r0z n hw ms hm hk,obs,tfn,tfd];unfold totV;have hl:=u0a s ms t a b;have hok:=l1z s ms t a b;by_cases h:(d0p s ms t a b).2.2=0
 case neg=>rw[if_neg h,if_neg h];rfl
 rw[if_pos h,if_pos h];generalize d0p s ms t a b=p at *
 have:=z1f (n+22) tz0 p.2.1 p.1 (by omega) hok p.1 [] (p.2.1,(0,(0,((0,0),(0,(0,0)))))) a0c 0 _ rfl rfl rfl (by unfold a0c;omega) ⟨by simp,by simp⟩
 change a0b (m0d (n+25) a0c (tz0,p.2.1,(p.2.1,(0,(0,((0,0),(0,(0,0)))))),p.1,(p.1.length:Int),0,())) _=_
 rw[this,obs];generalize hz:sumT p.2.1 (p.2.1,(0,(0,((0,0),(0,(0,0)))))) p.1=z;have herr:=sumT_err p.2.1 p.1 (p.2.1,(0,(0,((0,0),(0,(0,0))))));rw[hz] at herr;by_cases h2:z.2=0
 ·rw[if_pos h2,a0r];exact congrArg some (Prod.ext rfl h2.symm)
 ·rw[if_neg h2,s0n];exact congrArg some (Prod.ext (herr h2).symm rfl)
def v1q:Conf:=(20,((10,(20,60)),((4,(5,6)),(3,9))))
def x12:Ser:=([([97],[])],(2,((0,(0,[(2,(1,(0,false)))])),((List.replicate 4 s0,(List.replicate 5 s0,List.replicate 6 s0)),(0,(1,((2,(1,(0,false))),((2,(1,(0,false))),((0,0),(0,(0,0)))))))))))
def S12:Sta:=(v1q,(0,((-1),[x12,ser0,ser0])))
theorem lvl12_0 (n:Nat):g2d (n+39)=some v1q:=by kernel_rfl
theorem lvl12_1 (n:Nat):d2r (n+39) v1q=some ((v1q,(0,((-1),[ser0,ser0,ser0]))),0):=by kernel_rfl
theorem lvl12_2 (n:Nat):o1i (n+39) (v1q,(0,((-1),[ser0,ser0,ser0]))) [([97],[])] (2,(1,(0,false)))=some (S12,0):=by kernel_rfl
theorem lvl12_3 (n:Nat):i0n (n+14) S12=some 0:=by kernel_rfl
theorem x12_w:SerW x12∧SerM x12:=by
 have r:∀k,∀s∈List.replicate k s0,SloW s:=fun k s hs=>by rw[(List.mem_replicate.1 hs).2];exact t1v
 have e:EvW (2,(1,(0,false))):=⟨by unfold I64;decide,by decide,by unfold I64;decide⟩;refine ⟨⟨by unfold I64;decide,fun y hy => ?_,⟨r 4,r 5,r 6⟩,⟨by unfold I64;decide,⟨by unfold I64;decide,e,e,?_,by unfold I64;decide,by unfold I64;decide,by unfold I64;decide⟩⟩⟩,⟨by decide,by decide,by decide,by decide,by decide⟩⟩
 ·rw[List.mem_singleton.1 hy];exact e
 ·exact ⟨by decide,by decide⟩
theorem S12_w:StaW S12:=⟨by decide,fun x hx=>by
 rcases List.mem_cons.1 hx with rfl | hx
 ·exact x12_w
 rcases List.mem_cons.1 hx with rfl | hx
 ·exact ⟨ser0_w,ser0_m⟩
 rw[List.mem_singleton.1 hx];exact ⟨ser0_w,ser0_m⟩⟩
theorem s1v:StaOk S12:=by
 have h:=lvl12_3 0;rw[m0g 0 S12_w] at h;by_cases k:StaOk S12
 ·exact k
 ·rw[if_neg k] at h;cases h
theorem plc12:plc v1q=8:=by decide
theorem live12:v0v S12=[0]:=by
 have e:LvX S12 x12:=⟨(fun h=>by have:=congrArg Prod.fst h;cases this),.inl rfl⟩;have l0:lvAt S12 0=true:=by show decide (LvX S12 x12)=true;exact decide_eq_true e
 have l1:lvAt S12 1=false:=by show decide (LvX S12 ser0)=false;exact decide_eq_false fun h=>h.1 rfl
 have l2:lvAt S12 2=false:=by show decide (LvX S12 ser0)=false;exact decide_eq_false fun h=>h.1 rfl
 unfold v0v;show (List.range 3).filter (lvAt S12)=[0];rw[show List.range 3=[0,1,2] from rfl,List.filter_cons,List.filter_cons,List.filter_cons,List.filter_nil,l0,l1,l2];rfl
def j2a:Rpl×Int:=((1,((1,((2,(1,(0,false))),((2,(1,(0,false))),((0,0),(0,(0,0)))))),(((0,0),(0,0)),12))),0)
theorem query12 (n:Nat):x0p (n+39) S12 ([([97],[])],(1,(0,10)))=some j2a:=by kernel_rfl
theorem doQ12:doQ S12 [([97],[])] 1 0 10=j2a:=by
 have h:=query12 0;rw[l1t 15 S12_w] at h;exact Option.some.inj h
theorem tier12:e0j S12 1 0 10=(1,0):=by
 have h:=doQ12;unfold doQ at h;rw[if_pos s1v] at h;by_cases h2:LabOk [(([97]:List UInt8),([]:List UInt8))]
 case neg=>rw[if_neg h2] at h;exact absurd (congrArg Prod.snd h) (by decide)
 rw[if_pos h2] at h;by_cases h3:(e0j S12 1 0 10).2=0
 case neg=>rw[if_neg h3] at h;exact absurd (congrArg Prod.snd h) h3
 unfold e0j at h3 ⊢;rw[if_pos s1v,if_neg (by decide),if_neg (by decide)] at h3 ⊢;by_cases h4:oneV S12 (1-1) 0 10=0
 ·rw[if_pos h4]
 ·rw[if_neg h4] at h3;exact absurd h3 h4
theorem matOk12:h1y []:=⟨by simp,fun m hm=>by cases hm⟩
theorem parts12:d0p S12 [] 1 0 10=([([([97],[])],j2a.1)],(1,0)):=by
 unfold d0p;rw[if_pos s1v,if_pos matOk12,tier12,if_pos rfl];unfold x1c;rw[live12];have:partOf S12 [] 1 0 10 0=some ([([97],[])],j2a.1):=by
  unfold partOf;show (if j1k [] x12.1=true∧0<(doQ S12 [([97],[])] 1 0 10).1.2.1.1 then some (x12.1,(doQ S12 [([97],[])] 1 0 10).1) else none)=_;rw[doQ12,if_pos ⟨rfl,by decide⟩];rfl
 rw[List.filterMap_cons,this];rfl
theorem tot12:∃T:Tot,totV S12 [] 1 0 10=(T,0)∧T.2.1=1∧T.2.2.1=1:=by
 unfold totV;rw[parts12,if_pos rfl];unfold sumT;have h:(addT (1,(0,(0,((0,0),(0,(0,0)))))) (oneT 1 j2a.1.2.1)).2=0:=by decide
 dsimp only;rw[if_pos h];unfold sumT;exact ⟨_,rfl,by decide,by decide⟩
theorem y0y (n:Nat):s0b (n+40)=some true:=by
 have hlen:(allB S12).length=25:=by rw[(j2d s1v).2.1];show 1+3*(plc v1q).toNat=25;rw[plc12];rfl
 obtain ⟨T,hT,h1,h2⟩:=tot12;rw[d1d,lvl12_0,obs,lvl12_1,obs,decide_eq_true rfl,Bool.not_true,tff,lvl12_2,obs];dsimp only;rw[all_val (n+23) S12_w,if_pos s1v,obs,total_do (n+13) S12_w [] (by simp) (fun m hm=>by cases hm),hT,obs];dsimp only;rw[hlen,h1,h2];rfl
def x0v (cmp:(a0a×(a0a×Unit))→Option Int) (key:a0a→Int) (Pr:a0a→Prop):Prop:=∀x y,Pr x→Pr y→∃c,cmp (x,(y,()))=some c∧(c<0↔key x<key y)
section
variable {cmp:(a0a×(a0a×Unit))→Option Int} {key:a0a→Int} {Pr:a0a→Prop} (hc:x0v cmp key Pr)
include hc
theorem q1g (n:Nat) (a b:Int) (an i:Nat) (ha:a=an):∀(k f:Nat) (d:List a0a),k≤i-an→an+k≤i→k<f→i<d.length→d.length≤1000000000000→(∀x∈d,Pr x) →
  (∀p q x y,an≤p→p<q→q≤i→p≠an+k→q≠an+k→d[p]? = some x→d[q]? = some y→key x≤key y) →
  (∀q x y,an+k<q→q≤i→d[an+k]? = some x→d[q]? = some y→key x≤key y) →
  ∃d',b0n n f (d,a,b,cmp,(i:Int),((an+k:Nat):Int),())=some (.inl (d',a,b,cmp,(i:Int),()))∧Mvk key d d' an (i+1)∧Srt key d' an (i+1):=by
 subst ha;intro k;induction k with
 | zero =>
  intro f d hk hi hf hl hL hP h1 h2;obtain ⟨f,rfl⟩:∃g,f=g+1:=⟨f-1,by omega⟩;rw[d0b];simp only[tfd,if_neg (show ¬((an:Int)<((an+0:Nat):Int)) by omega)];refine ⟨d,rfl,.refl _ _ _,fun p q x y q1 q2 q3 hx hy => ?_⟩;by_cases e:p=an+0
  ·subst e;exact h2 q x y q2 (by omega) hx hy
  ·exact h1 p q x y q1 q2 (by omega) e (by omega) hx hy
 | succ k ih =>
  intro f d hk hi hf hl hL hP h1 h2;obtain ⟨f,rfl⟩:∃g,f=g+1:=⟨f-1,by omega⟩;rw[d0b];have e1:IntKind.wrap .i64 (((an+(k+1):Nat):Int)-1)=((an+k:Nat):Int):=wn (by omega) (by omega);have lj:an+(k+1)<d.length:=by omega
  have lk:an+k<d.length:=by omega
  obtain ⟨c,hcm,hlt⟩:=hc d[an+(k+1)] d[an+k] (hP _ (List.getElem_mem _)) (hP _ (List.getElem_mem _));have gj:d[an+(k+1)]? = some d[an+(k+1)]:=List.getElem?_eq_getElem lj;have gk:d[an+k]? = some d[an+k]:=List.getElem?_eq_getElem lk;simp only[tfd,if_pos (show ((an:Int)<((an+(k+1):Nat):Int)) by omega),e1,o0b,Int.toNat_natCast,gj,gk,obs,hcm];by_cases hlt':c<0
  ·have kl:=hlt.1 hlt';have g1:(d.set (an+(k+1)) d[an+k])[an+k]? = some d[an+k]:=by rw[List.getElem?_set_ne (by omega)];exact gk
   simp only[if_pos hlt',g1,obs];have sg:=i0c (d:=d) gj gk;have mv:Mvk key d ((d.set (an+(k+1)) d[an+k]).set (an+k) d[an+(k+1)]) an (i+1):=⟨z0b (d:=d) (a:=an) (b:=i+1) gj gk (by omega) (by omega) (by omega) (by omega),(d1i (d:=d) gk gj (by omega)).2⟩;obtain ⟨d',r1,r2,r3⟩:=ih f ((d.set (an+(k+1)) d[an+k]).set (an+k) d[an+(k+1)]) (by omega) (by omega) (by omega) (by simpa using hl) (by simpa using hL) (mv.all hP)
    (fun p q x y q1 q2 q3 p1 p2 hx hy=>by
     rw[sg] at hx hy;rw[if_neg p1] at hx;rw[if_neg p2] at hy;by_cases ep:p=an+(k+1)
     ·rw[if_pos ep] at hx;rw[if_neg (by omega)] at hy;have:d[an+k]? = some x:=by rw[gk];exact hx
      exact h1 (an+k) q x y (by omega) (by omega) q3 (by omega) (by omega) this hy
     ·rw[if_neg ep] at hx;by_cases eq:q=an+(k+1)
      ·rw[if_pos eq] at hy;have:d[an+k]? = some y:=by rw[gk];exact hy
       exact h1 p (an+k) x y q1 (by omega) (by omega) ep (by omega) hx this
      ·rw[if_neg eq] at hy
       exact h1 p q x y q1 q2 q3 ep eq hx hy)
    (fun q x y q1 q2 hx hy=>by
     rw[sg] at hx hy;rw[if_pos rfl] at hx;injection hx with hx;subst hx;rw[if_neg (by omega)] at hy;by_cases eq:q=an+(k+1)
     ·rw[if_pos eq] at hy;injection hy with hy;subst hy;omega
     ·rw[if_neg eq] at hy
      exact h2 q _ y (by omega) q2 gj hy)
   exact ⟨d',r1,mv.trans r2,r3⟩
  ·simp only[if_neg hlt'];refine ⟨d,rfl,.refl _ _ _,fun p q x y q1 q2 q3 hx hy => ?_⟩;have kl:key d[an+k]≤key d[an+(k+1)]:=by
    have:=mt hlt.2 hlt';omega
   by_cases ep:p=an+(k+1)
   ·subst ep;exact h2 q x y q2 (by omega) hx hy
   ·by_cases eq:q=an+(k+1)
    ·subst eq;rw[gj] at hy;injection hy with hy;subst hy;by_cases e3:p=an+k
     ·subst e3;rw[gk] at hx;injection hx with hx;subst hx;exact kl
     ·have:=h1 p (an+k) x _ q1 (by omega) (by omega) ep (by omega) hx gk;omega
    ·exact h1 p q x y q1 q2 (by omega) ep eq hx hy
theorem q1h (n:Nat) (a b:Int) (an bn:Nat) (ha:a=an) (hb:b=bn):∀(k f:Nat) (i:Nat) (d:List a0a),bn-i≤k→k<f→an<i→(i≤bn∨bn≤an+1)→bn≤d.length→d.length≤1000000000000→(∀x∈d,Pr x)→Srt key d an i →
  ∃d',b0o n f (d,a,b,cmp,(i:Int),())=some (.inl (d',()))∧Mvk key d d' an bn∧Srt key d' an bn:=by
 intro k;induction k with
 | zero =>
  intro f i d hk hf hi hib hl hL hP hs;obtain ⟨f,rfl⟩:∃g,f=g+1:=⟨f-1,by omega⟩;rw[d0c];subst ha hb;simp only[tfd,if_neg (show ¬((i:Int)<(bn:Int)) by omega)];exact ⟨d,rfl,.refl _ _ _,hs.mono (by omega) (by omega)⟩
 | succ k ih =>
  intro f i d hk hf hi hib hl hL hP hs;obtain ⟨f,rfl⟩:∃g,f=g+1:=⟨f-1,by omega⟩;rw[d0c];by_cases hlt:i<bn
  ·obtain ⟨d',r1,r2,r3⟩:=q1g hc n a b an i ha (i-an) a0c d (by omega) (by omega) (by unfold a0c;omega) (by omega) hL hP
    (fun p q x y q1 q2 q3 p1 p2 hx hy=>hs p q x y q1 q2 (by omega) hx hy) (fun q x y q1 q2=>by omega)
   rw[show an+(i-an)=i by omega] at r1;subst ha hb;simp only[tfd,if_pos (show ((i:Int)<(bn:Int)) by omega),r1,obs,a0r];rw[wn (k:=i+1) (by omega) (by omega)];have ml:=r2.len;obtain ⟨d'',s1,s2,s3⟩:=ih f (i+1) d' (by omega) (by omega) (by omega) (by omega) (by omega) (by omega) (r2.all hP) r3;exact ⟨d'',s1,(r2.mono (by omega) (by omega)).trans s2,s3⟩
  ·subst ha hb;simp only[tfd,if_neg (show ¬((i:Int)<(bn:Int)) by omega)];exact ⟨d,rfl,.refl _ _ _,hs.mono (by omega) (by omega)⟩
theorem b1e (n:Nat) (a b:Int) (an bn:Nat) (ha:a=an) (hb:b=bn) (d:List a0a) (hab:an≤bn) (hl:bn≤d.length) (hL:d.length≤1000000000000) (hP:∀x∈d,Pr x) :
  ∃d',b0w (n+1) d a b cmp=some d'∧Mvk key d d' an bn∧Srt key d' an bn:=by
 rw[h0q];have e:IntKind.wrap .i64 (a+1)=((an+1:Nat):Int):=wn (by omega) (by omega);rw[e];obtain ⟨d',r1,r2,r3⟩:=q1h hc n a b an bn ha hb bn a0c (an+1) d (by omega) (by unfold a0c;omega) (by omega) (by omega) hl hL hP (Srt.one _ _ (by omega));rw[r1];exact ⟨d',by simp,r2,r3⟩
omit hc in
theorem x0t (n:Nat) (a b m:Int) (P:List a0a):∀(k f i:Nat) (X X' M Y Y' S:List a0a),X'.length=k→Y'.length=k→X.length=i→Y.length=i→k<f →
  a=P.length→b=P.length+X.length+X'.length+M.length→m=i+k→b+m≤2000000000000 →
  b0z n f (P++(Y++(X'++(M++(X++(Y'++S))))),a,b,m,(i:Int),())=some (.inl (P++(Y++(Y'++(M++(X++(X'++S))))),())):=by
 intro k;induction k with
 | zero =>
  intro f i X X' M Y Y' S h1 h2 h3 h4 hf ha hb hm hs;obtain ⟨f,rfl⟩:∃g,f=g+1:=⟨f-1,by omega⟩;obtain rfl:=List.length_eq_zero_iff.1 h1;obtain rfl:=List.length_eq_zero_iff.1 h2;rw[d0w];simp only[tfd,if_neg (show ¬((i:Int)<m) by omega)]
 | succ k ih =>
  intro f i X X' M Y Y' S h1 h2 h3 h4 hf ha hb hm hs;obtain ⟨f,rfl⟩:∃g,f=g+1:=⟨f-1,by omega⟩
  match X',Y' with
  | x::X',y::Y' =>
   simp only[List.length_cons] at h1 h2 hb;rw[d0w];have ea:IntKind.wrap .i64 (a+(i:Int))=((P.length+i:Nat):Int):=wn (by omega) (by omega);have eb:IntKind.wrap .i64 (b+(i:Int))=((P.length+i+(k+1)+M.length+i:Nat):Int):=wn (by omega) (by omega);have g1:(P++(Y++(x::X'++(M++(X++(y::Y'++S))))))[P.length+i]? = some x:=by
    rw[List.getElem?_append_right (by omega),List.getElem?_append_right (by omega)];rw[show P.length+i-P.length-Y.length=0 by omega];rfl
   have g2:(P++(Y++(x::X'++(M++(X++(y::Y'++S))))))[P.length+i+(k+1)+M.length+i]? = some y:=by
    rw[List.getElem?_append_right (by omega),List.getElem?_append_right (by omega),List.getElem?_append_right (by simp;omega),List.getElem?_append_right (by simp;omega),List.getElem?_append_right (by simp;omega)];simp only[List.length_cons];rw[show P.length+i+(k+1)+M.length+i-P.length-Y.length-(X'.length+1)-M.length-X.length=0 by omega];rfl
   have s1:(P++(Y++(x::X'++(M++(X++(y::Y'++S)))))).set (P.length+i) y=P++(Y++(y::X'++(M++(X++(y::Y'++S))))):=by
    rw[List.set_append_right _ _ (by omega),List.set_append_right _ _ (by omega),show P.length+i-P.length-Y.length=0 by omega];rfl
   have s2:(P++(Y++(y::X'++(M++(X++(y::Y'++S)))))).set (P.length+i+(k+1)+M.length+i) x=P++(Y++(y::X'++(M++(X++(x::Y'++S))))):=by
    rw[List.set_append_right _ _ (by omega),List.set_append_right _ _ (by omega),List.set_append_right _ _ (by simp;omega),List.set_append_right _ _ (by simp;omega),List.set_append_right _ _ (by simp;omega)];simp only[List.length_cons];rw[show P.length+i+(k+1)+M.length+i-P.length-Y.length-(X'.length+1)-M.length-X.length=0 by omega];rfl
   have g3:(P++(Y++(y::X'++(M++(X++(y::Y'++S))))))[P.length+i+(k+1)+M.length+i]? = some y:=by
    rw[List.getElem?_append_right (by omega),List.getElem?_append_right (by omega),List.getElem?_append_right (by simp;omega),List.getElem?_append_right (by simp;omega),List.getElem?_append_right (by simp;omega)];simp only[List.length_cons];rw[show P.length+i+(k+1)+M.length+i-P.length-Y.length-(X'.length+1)-M.length-X.length=0 by omega];rfl
   simp only[tfd,if_pos (show ((i:Int)<m) by omega),ea,eb,o0b,Int.toNat_natCast,g1,g2,s1,g3,s2,obs];have e6:IntKind.wrap .i64 ((i:Int)+1)=((i+1:Nat):Int):=wn (by omega) (by omega);rw[e6];have:=ih f (i+1) (X++[x]) X' M (Y++[y]) Y' S (by omega) (by omega) (by simp;omega) (by simp;omega) (by omega) ha (by simp;omega) (by omega) hs;simp only[List.append_assoc,List.singleton_append,List.cons_append] at this ⊢;exact this
omit hc in
theorem i0v (n:Nat) (a b m:Int) (P X M Y S:List a0a) (h:X.length=Y.length) (ha:a=P.length) (hb:b=P.length+X.length+M.length) (hm:m=X.length) (hs:b+m≤2000000000000) (d:List a0a) (hd:d=P++(X++(M++(Y++S)))) :
  b0r (n+1) d a b m cmp=some (P++(Y++(M++(X++S)))):=by
 subst hd;rw[i0o];have:=x0t n a b m P X.length a0c 0 [] X M [] Y S rfl h.symm rfl rfl (by unfold a0c;omega) ha (by simp;omega) (by omega) hs;simp only[List.nil_append] at this;rw[show ((0:Int))=((0:Nat):Int) from rfl,this];simp
omit hc in
theorem e1i (n:Nat) (m:Int):∀(k f:Nat) (P U V S d:List a0a) (i j:Int),U.length+V.length≤k→k<f→U≠[]→V≠[]→i=U.length→j=V.length→m=P.length+U.length→m+j≤1000000000000→d=P++(U++(V++S)) →
  ∃P' U' V' S' d',b0t (n+1) f (d,m,cmp,i,j,())=some (.inl (d',m,cmp,(U'.length:Int),()))∧U'.length=V'.length∧m=P'.length+U'.length∧d'=P'++(U'++(V'++S'))∧P'++(V'++(U'++S'))=P++(V++(U++S)):=by
 intro k;induction k with
 | zero =>
  intro f P U V S d i j hk hf hu hv;exact absurd (List.length_eq_zero_iff.1 (show U.length=0 by omega)) hu
 | succ k ih =>
  intro f P U V S d i j hk hf hu hv hi hj hm hmj hd;obtain ⟨f,rfl⟩:∃g,f=g+1:=⟨f-1,by omega⟩;have lu:=List.length_pos_iff.2 hu;have lv:=List.length_pos_iff.2 hv;rw[i0p];by_cases e:i=j
  ·simp only[tfn,tfd,if_pos e];exact ⟨P,U,V,S,d,by rw[hi],by omega,hm,hd,rfl⟩
  ·by_cases lt:j<i
   ·-- the front of U with V
    have hU:U=U.take V.length++U.drop V.length:=(List.take_append_drop _ _).symm;have l1:(U.take V.length).length=V.length:=by simp;omega
    have l2:(U.drop V.length).length=U.length-V.length:=by simp
    have hs:=i0v (cmp:=cmp) n (P.length:Int) m j P (U.take V.length) (U.drop V.length) V S l1 rfl (by omega) (by omega) (by omega) d (by rw[hd,←List.append_assoc (U.take V.length),←hU]);have e1:IntKind.wrap .i64 (m-i)=(P.length:Int):=wn (by omega) (by omega);have e2:IntKind.wrap .i64 (i-j)=((U.drop V.length).length:Int):=wn (by omega) (by omega);simp only[tfn,tfd,if_neg e,if_pos lt,e1,e2,hs,obs]
    obtain ⟨P',U',V',S',d',r1,r2,r3,r4,r5⟩:=ih f (P++V) (U.drop V.length) (U.take V.length) S (P++(V++(U.drop V.length++(U.take V.length++S)))) ((U.drop V.length).length:Int) j (by omega) (by omega)
     (by intro h;rw[h] at l2;simp at l2;omega) (by intro h;rw[h] at l1;simp at l1;omega) rfl (by omega) (by simp;omega) hmj (by simp only[List.append_assoc])
    exact ⟨P',U',V',S',d',r1,r2,r3,r4,by rw[r5];rw[List.append_assoc,←List.append_assoc (U.take V.length),←hU]⟩
   ·have hV:V=V.take (V.length-U.length)++V.drop (V.length-U.length):=(List.take_append_drop _ _).symm;have l1:(V.take (V.length-U.length)).length=V.length-U.length:=by simp
    have l2:(V.drop (V.length-U.length)).length=U.length:=by simp;omega
    have hs:=i0v (cmp:=cmp) n (P.length:Int) (m+j-i) i P U (V.take (V.length-U.length)) (V.drop (V.length-U.length)) S l2.symm rfl (by omega) (by omega) (by omega) d (by rw[hd,←List.append_assoc (V.take _) (V.drop _) S,←hV]);have e1:IntKind.wrap .i64 (m-i)=(P.length:Int):=wn (by omega) (by omega);have e2:IntKind.wrap .i64 (j-i)=((V.take (V.length-U.length)).length:Int):=wn (by omega) (by omega);have e3:IntKind.wrap .i64 (IntKind.wrap .i64 (m+j)-i)=m+j-i:=by rw[w64 (x:=m+j) (by omega) (by omega),w64 (by omega) (by omega)]
    simp only[tfn,tfd,if_neg e,if_neg lt,e1,e2,e3,hs,obs];obtain ⟨P',U',V',S',d',r1,r2,r3,r4,r5⟩:=ih f P (V.drop (V.length-U.length)) (V.take (V.length-U.length)) (U++S) _ i ((V.take (V.length-U.length)).length:Int) (by omega) (by omega)
     (by intro h;rw[h] at l2;simp at l2;omega) (by intro h;rw[h] at l1;simp at l1;omega) (by omega) rfl (by omega) (by omega) rfl
    exact ⟨P',U',V',S',d',r1,r2,r3,r4,by rw[r5];rw[←List.append_assoc (V.take _) (V.drop _),←hV]⟩
omit hc in
theorem e1h (n:Nat) (a m b:Int) (an mn bn:Nat) (ha:a=an) (hm:m=mn) (hb:b=bn) (d:List a0a) (h1:an<mn) (h2:mn<bn) (hl:bn≤d.length) (hL:d.length≤1000000000000) :
  ∃d',c0h (n+2) d a m b cmp=some d'∧Turned d d' an mn bn:=by
 obtain ⟨P,U,V,S,hd,la,lm,lb⟩:=cut4 d (a:=an) (m:=mn) (b:=bn) (by omega) (by omega) hl;rw[k0l];have e1:IntKind.wrap .i64 (m-a)=(U.length:Int):=wn (by omega) (by omega);have e2:IntKind.wrap .i64 (b-m)=(V.length:Int):=wn (by omega) (by omega);have hfl:U.length+V.length<a0c:=by
  have:d.length=P.length+(U.length+(V.length+S.length)):=by rw[hd];simp
  unfold a0c;omega
 have hu:U≠[]:=by intro h;rw[h] at lm;simp at lm;omega
 have hv:V≠[]:=by intro h;rw[h] at lb;simp at lb;omega
 obtain ⟨P',U',V',S',d',r1,r2,r3,r4,r5⟩:=e1i (cmp:=cmp) n m (U.length+V.length) a0c P U V S d (U.length:Int) (V.length:Int) (by omega) hfl hu hv rfl rfl (by omega) (by omega) hd;have ld:d'.length=d.length:=by
  have:=congrArg List.length r5;rw[r4,hd];simp at this ⊢;omega
 have hs:=i0v (cmp:=cmp) n (P'.length:Int) m (U'.length:Int) P' U' [] V' S' r2 rfl (by simp;omega) rfl (by rw[r4] at ld;simp at ld;omega) d' (by rw[r4];simp);simp only[e1,e2,r1,obs,a0r,wn (x:=m-(U'.length:Int)) (k:=P'.length) (by omega) (by rw[r4] at ld;simp at ld;omega),hs];simp only[List.nil_append];exact ⟨_,rfl,a1w (P:=P) (U:=U) (V:=V) (S:=S) hd r5 la lm lb⟩
theorem q1f (n:Nat) (a:Int) (an:Nat) (ha:a=an) (d:List a0a) (x:a0a) (hx:d[an]? = some x) (hL:d.length≤1000000000000) (hP:∀x∈d,Pr x) (lo hi:Nat) (hs:Srt key d lo hi) (hh:hi≤d.length):∀(k f i j:Nat),j-i≤k→k<f→i≤j→lo≤i→j≤hi →
  (∀p y,lo≤p→p<i→d[p]? = some y→key y<key x)→(∀p y,j≤p→p<hi→d[p]? = some y→key x≤key y) →
  ∃r:Nat,b0m n f (d,a,cmp,(i:Int),(j:Int),())=some (.inl (d,a,(r:Int),()))∧lo≤r∧r≤hi ∧
   (∀p y,lo≤p→p<r→d[p]? = some y→key y<key x)∧(∀p y,r≤p→p<hi→d[p]? = some y→key x≤key y):=by
 subst ha;intro k;induction k with
 | zero =>
  intro f i j hk hf hij hi hj h1 h2;obtain ⟨f,rfl⟩:∃g,f=g+1:=⟨f-1,by omega⟩;rw[e0c];simp only[tfd,if_neg (show ¬((i:Int)<(j:Int)) by omega)];have e:i=j:=by omega
  subst e;exact ⟨i,rfl,by omega,by omega,h1,h2⟩
 | succ k ih =>
  intro f i j hk hf hij hi hj h1 h2;obtain ⟨f,rfl⟩:∃g,f=g+1:=⟨f-1,by omega⟩;rw[e0c];by_cases lt:i<j
  ·have e1:=n0x i j (by omega);have lh:(i+j) / 2<d.length:=by omega
   obtain ⟨c,hcm,hlt⟩:=hc d[(i+j) / 2] x (hP _ (List.getElem_mem _)) (hP _ (List.mem_of_getElem? hx));have gh:d[(i+j) / 2]? = some d[(i+j) / 2]:=List.getElem?_eq_getElem lh;simp only[tfd,if_pos (show ((i:Int)<(j:Int)) by omega),e1,o0b,Int.toNat_natCast,gh,hx,obs,hcm];by_cases hlt':c<0
   ·have kl:=hlt.1 hlt';simp only[if_pos hlt'];rw[wn (x:=(((i+j) / 2:Nat):Int)+1) (k:=(i+j) / 2+1) (by omega) (by omega)];refine ih f ((i+j) / 2+1) j (by omega) (by omega) (by omega) (by omega) hj (fun p y p1 p2 hy => ?_) h2;by_cases ep:p=(i+j) / 2
    ·subst ep;rw[gh] at hy;injection hy with hy;subst hy;exact kl
    ·have:=hs p ((i+j) / 2) y _ p1 (by omega) (by omega) hy gh;omega
   ·have kl:key x≤key d[(i+j) / 2]:=by have:=mt hlt.2 hlt';omega
    simp only[if_neg hlt'];refine ih f i ((i+j) / 2) (by omega) (by omega) (by omega) hi (by omega) h1 (fun p y p1 p2 hy => ?_);by_cases ep:p=(i+j) / 2
    ·subst ep;rw[gh] at hy;injection hy with hy;subst hy;exact kl
    ·have:=hs ((i+j) / 2) p _ y (by omega) (by omega) (by omega) gh hy;omega
  ·simp only[tfd,if_neg (show ¬((i:Int)<(j:Int)) by omega)];have e:i=j:=by omega
   subst e;exact ⟨i,rfl,by omega,by omega,h1,h2⟩
theorem l1y (n:Nat) (m:Int) (mn:Nat) (hm:m=mn) (d:List a0a) (x:a0a) (hx:d[mn]? = some x) (hL:d.length≤1000000000000) (hP:∀x∈d,Pr x) (lo hi:Nat) (hs:Srt key d lo hi) (hh:hi≤d.length):∀(k f i j:Nat),j-i≤k→k<f→i≤j→lo≤i→j≤hi →
  (∀p y,lo≤p→p<i→d[p]? = some y→key y≤key x)→(∀p y,j≤p→p<hi→d[p]? = some y→key x<key y) →
  ∃r:Nat,b0k n f (d,m,cmp,(i:Int),(j:Int),())=some (.inl (d,m,(r:Int),()))∧lo≤r∧r≤hi ∧
   (∀p y,lo≤p→p<r→d[p]? = some y→key y≤key x)∧(∀p y,r≤p→p<hi→d[p]? = some y→key x<key y):=by
 subst hm;intro k;induction k with
 | zero =>
  intro f i j hk hf hij hi hj h1 h2;obtain ⟨f,rfl⟩:∃g,f=g+1:=⟨f-1,by omega⟩;rw[d0v];simp only[tfd,if_neg (show ¬((i:Int)<(j:Int)) by omega)];have e:i=j:=by omega
  subst e;exact ⟨i,rfl,by omega,by omega,h1,h2⟩
 | succ k ih =>
  intro f i j hk hf hij hi hj h1 h2;obtain ⟨f,rfl⟩:∃g,f=g+1:=⟨f-1,by omega⟩;rw[d0v];by_cases lt:i<j
  ·have e1:=n0x i j (by omega);have lh:(i+j) / 2<d.length:=by omega
   obtain ⟨c,hcm,hlt⟩:=hc x d[(i+j) / 2] (hP _ (List.mem_of_getElem? hx)) (hP _ (List.getElem_mem _));have gh:d[(i+j) / 2]? = some d[(i+j) / 2]:=List.getElem?_eq_getElem lh;simp only[tfn,tfd,if_pos (show ((i:Int)<(j:Int)) by omega),e1,o0b,Int.toNat_natCast,gh,hx,obs,hcm];by_cases hlt':c<0
   ·have kl:=hlt.1 hlt';simp only[if_pos hlt'];refine ih f i ((i+j) / 2) (by omega) (by omega) (by omega) hi (by omega) h1 (fun p y p1 p2 hy => ?_);by_cases ep:p=(i+j) / 2
    ·subst ep;rw[gh] at hy;injection hy with hy;subst hy;exact kl
    ·have:=hs ((i+j) / 2) p _ y (by omega) (by omega) (by omega) gh hy;omega
   ·have kl:key d[(i+j) / 2]≤key x:=by have:=mt hlt.2 hlt';omega
    simp only[if_neg hlt'];rw[wn (x:=(((i+j) / 2:Nat):Int)+1) (k:=(i+j) / 2+1) (by omega) (by omega)];refine ih f ((i+j) / 2+1) j (by omega) (by omega) (by omega) (by omega) hj (fun p y p1 p2 hy => ?_) h2;by_cases ep:p=(i+j) / 2
    ·subst ep;rw[gh] at hy;injection hy with hy;subst hy;exact kl
    ·have:=hs p ((i+j) / 2) y _ p1 (by omega) (by omega) hy gh;omega
  ·simp only[tfd,if_neg (show ¬((i:Int)<(j:Int)) by omega)];have e:i=j:=by omega
   subst e;exact ⟨i,rfl,by omega,by omega,h1,h2⟩
end
def s0t (key:a0a→Int) (d:List a0a) (a b k:Nat):Prop:=∀p q x y,a≤p→p<q→q<b→p≠k→q≠k→d[p]? = some x→d[q]? = some y→key x≤key y
def v0p (key:a0a→Int) (d:List a0a) (a b k i:Nat) (x:a0a):Prop :=
 (∀p z,a≤p→p<i→p≠k→d[p]? = some z→key z≤key x)∧(∀p z,i≤p→p<b→p≠k→d[p]? = some z→key x≤key z)
theorem u0y {key:a0a→Int} {d:List a0a} {a b k j:Nat} {x y:a0a} (hj:j=k+1∨k=j+1) (ja:a≤j) (jb:j<b) (hx:d[k]? = some x) (hy:d[j]? = some y) (h:s0t key d a b k):s0t key ((d.set k y).set j x) a b j:=by
 intro p q u v q1 q2 q3 p1 p2 hu hv;rw[i0c hx hy,if_neg p1] at hu;rw[i0c hx hy,if_neg p2] at hv;by_cases ep:p=k
 ·rw[if_pos ep] at hu;rw[if_neg (by omega)] at hv;injection hu with hu;subst hu;exact h j q y v (by omega) (by omega) q3 (by omega) (by omega) hy hv
 ·rw[if_neg ep] at hu;by_cases eq:q=k
  ·rw[if_pos eq] at hv;injection hv with hv;subst hv;exact h p j u y q1 (by omega) (by omega) (by omega) (by omega) hu hy
  ·rw[if_neg eq] at hv;exact h p q u v q1 q2 q3 ep eq hu hv
theorem x0u {key:a0a→Int} {d:List a0a} {a b k i:Nat} {x:a0a} (h:s0t key d a b k) (hp:v0p key d a b k i x) (hx:d[k]? = some x) (hk:k=i∨k+1=i):Srt key d a b:=by
 intro p q u v q1 q2 q3 hu hv;by_cases ep:p=k
 ·subst ep;rw[hx] at hu;injection hu with hu;subst hu;exact hp.2 q v (by omega) q3 (by omega) hv
 ·by_cases eq:q=k
  ·subst eq;rw[hx] at hv;injection hv with hv;subst hv;exact hp.1 p u q1 (by omega) ep hu
  ·exact h p q u v q1 q2 q3 ep eq hu hv
theorem q1e {key:a0a→Int} (n:Nat) (a b i:Nat) (x:a0a):∀(c f k:Nat) (d:List a0a),k+c+1=i→c<f→a≤k→i≤b→b≤d.length→d.length≤1000000000000→d[k]? = some x→s0t key d a b k→v0p key d a b k i x→(∀p z,k<p→p<i→d[p]? = some z→key z<key x) →
  ∃d',c0e n f (d,(i:Int),(k:Int),())=some (.inl (d',()))∧Mvk key d d' a b∧Srt key d' a b:=by
 intro c;induction c with
 | zero =>
  intro f k d hk hf ha hi hb hL hx h1 h2 h4;obtain ⟨f,rfl⟩:∃g,f=g+1:=⟨f-1,by omega⟩;rw[e0b];rw[wn (x:=(i:Int)-1) (k:=k) (by omega) (by omega)];simp only[tfd,if_neg (show ¬((k:Int)<(k:Int)) by omega)];exact ⟨d,rfl,.refl _ _ _,x0u h1 h2 hx (by omega)⟩
 | succ c ih =>
  intro f k d hk hf ha hi hb hL hx h1 h2 h4;obtain ⟨f,rfl⟩:∃g,f=g+1:=⟨f-1,by omega⟩;rw[e0b];have lk:k+1<d.length:=by omega
  have gy:d[k+1]? = some d[k+1]:=List.getElem?_eq_getElem lk;have g1:(d.set k d[k+1])[k+1]? = some d[k+1]:=by rw[List.getElem?_set_ne (by omega)];exact gy
  rw[wn (x:=(i:Int)-1) (k:=i-1) (by omega) (by omega),wn (x:=(k:Int)+1) (k:=k+1) (by omega) (by omega)];simp only[tfd,if_pos (show ((k:Int)<((i-1:Nat):Int)) by omega),o0b,Int.toNat_natCast,gy,hx,g1,obs];have sg:=i0c hx gy;have hlt:key d[k+1]<key x:=h4 (k+1) _ (by omega) (by omega) gy;have mv:Mvk key d ((d.set k d[k+1]).set (k+1) x) a b:=⟨z0b (a:=a) (b:=b) hx gy (by omega) (by omega) (by omega) (by omega),(d1i hx gy (by omega)).1⟩;obtain ⟨d',r1,r2,r3⟩:=ih f (k+1) ((d.set k d[k+1]).set (k+1) x) (by omega) (by omega) (by omega) hi (by simpa using hb) (by simpa using hL)
   (by rw[sg,if_pos rfl]) (u0y (.inl rfl) (by omega) (by omega) hx gy h1)
   ⟨fun p z p1 p2 p3 hz=>by
    rw[sg,if_neg p3] at hz;by_cases e:p=k
    ·rw[if_pos e] at hz;injection hz with hz;subst hz;exact h2.1 (k+1) _ (by omega) (by omega) (by omega) gy
    ·rw[if_neg e] at hz;exact h2.1 p z p1 p2 e hz,
    fun p z p1 p2 p3 hz=>by
     rw[sg,if_neg p3,if_neg (by omega)] at hz
     exact h2.2 p z p1 p2 (by omega) hz⟩
   (fun p z p1 p2 hz=>by
    rw[sg,if_neg (by omega),if_neg (by omega)] at hz
    exact h4 p z (by omega) p2 hz)
  exact ⟨d',r1,mv.trans r2,r3⟩
theorem l1x {key:a0a→Int} (n:Nat) (a b i:Nat) (x:a0a):∀(c f k:Nat) (d:List a0a),i+c=k→c<f→a≤i→k<b→b≤d.length→d.length≤1000000000000→d[k]? = some x→s0t key d a b k→v0p key d a b k i x→(∀p z,i≤p→p<k→d[p]? = some z→key x<key z) →
  ∃d',b0y n f (d,(i:Int),(k:Int),())=some (.inl (d',()))∧Mvk key d d' a b∧Srt key d' a b:=by
 intro c;induction c with
 | zero =>
  intro f k d hk hf ha hi hb hL hx h1 h2 h4;obtain ⟨f,rfl⟩:∃g,f=g+1:=⟨f-1,by omega⟩;rw[d0u];simp only[tfd,if_neg (show ¬((i:Int)<(k:Int)) by omega)];exact ⟨d,rfl,.refl _ _ _,x0u h1 h2 hx (by omega)⟩
 | succ c ih =>
  intro f k d hk hf ha hi hb hL hx h1 h2 h4;obtain ⟨f,rfl⟩:∃g,f=g+1:=⟨f-1,by omega⟩;obtain ⟨k,rfl⟩:∃g,k=g+1:=⟨k-1,by omega⟩;rw[d0u];have lk:k<d.length:=by omega
  have gy:d[k]? = some d[k]:=List.getElem?_eq_getElem lk;have g1:(d.set (k+1) d[k])[k]? = some d[k]:=by rw[List.getElem?_set_ne (by omega)];exact gy
  rw[wn (x:=((k+1:Nat):Int)-1) (k:=k) (by omega) (by omega)];simp only[tfd,if_pos (show ((i:Int)<((k+1:Nat):Int)) by omega),o0b,Int.toNat_natCast,gy,hx,g1,obs];have sg:=i0c hx gy;have hlt:key x<key d[k]:=h4 k _ (by omega) (by omega) gy;have mv:Mvk key d ((d.set (k+1) d[k]).set k x) a b:=⟨z0b (a:=a) (b:=b) hx gy (by omega) (by omega) (by omega) (by omega),(d1i gy hx (by omega)).2⟩;obtain ⟨d',r1,r2,r3⟩:=ih f k ((d.set (k+1) d[k]).set k x) (by omega) (by omega) (by omega) (by omega) (by simpa using hb) (by simpa using hL)
   (by rw[sg,if_pos rfl]) (u0y (.inr rfl) (by omega) (by omega) hx gy h1)
   ⟨fun p z p1 p2 p3 hz=>by
    rw[sg,if_neg p3,if_neg (by omega)] at hz;exact h2.1 p z p1 p2 (by omega) hz,
    fun p z p1 p2 p3 hz=>by
     rw[sg,if_neg p3] at hz;by_cases e:p=k+1
     ·rw[if_pos e] at hz;injection hz with hz;subst hz;exact h2.2 k _ (by omega) (by omega) (by omega) gy
     ·rw[if_neg e] at hz;exact h2.2 p z p1 p2 e hz⟩
   (fun p z p1 p2 hz=>by
    rw[sg,if_neg (by omega),if_neg (by omega)] at hz
    exact h4 p z p1 (by omega) hz)
  exact ⟨d',r1,mv.trans r2,r3⟩
section
variable {cmp:(a0a×(a0a×Unit))→Option Int} {key:a0a→Int} {Pr:a0a→Prop} (hc:x0v cmp key Pr)
include hc
theorem x0s (n:Nat) (a b mid n_:Int) (m p:Int) (mn bn pn:Nat) (an:Nat) (hp:p=pn) (d:List a0a) (hL:d.length≤1000000000000) (hP:∀x∈d,Pr x) (h1:Srt key d an mn) (h2:Srt key d mn bn) (hb:bn≤d.length) (lo hi:Nat)
  (hlo:an≤lo) (hhi:hi≤mn) (hq:∀c,lo≤c→c<hi→c≤pn∧mn≤pn-c∧pn-c<bn):∀(k f i j:Nat),j-i≤k→k<f→i≤j→lo≤i→j≤hi →
  (∀c x y,lo≤c→c<i→d[c]? = some x→d[pn-c]? = some y→key x≤key y)→(∀c x y,j≤c→c<hi→d[c]? = some x→d[pn-c]? = some y→key y<key x) →
  ∃r:Nat,b0f n f (d,a,m,b,cmp,mid,n_,(i:Int),(j:Int),p,())=some (.inl (d,a,m,b,cmp,mid,n_,(r:Int),()))∧lo≤r∧r≤hi ∧
   (∀c x y,lo≤c→c<r→d[c]? = some x→d[pn-c]? = some y→key x≤key y)∧(∀c x y,r≤c→c<hi→d[c]? = some x→d[pn-c]? = some y→key y<key x):=by
 subst hp;have le1:∀ {i j x y},an≤i→i≤j→j<mn→d[i]? = some x→d[j]? = some y→key x≤key y:=by
  intro i j x y q1 q2 q3 hx hy;rcases Nat.lt_or_eq_of_le q2 with q | q
  ·exact h1 i j x y q1 q q3 hx hy
  ·subst q;rw[hx] at hy;injection hy with hy;subst hy;exact Int.le_refl _
 have le2:∀ {i j x y},mn≤i→i≤j→j<bn→d[i]? = some x→d[j]? = some y→key x≤key y:=by
  intro i j x y q1 q2 q3 hx hy;rcases Nat.lt_or_eq_of_le q2 with q | q
  ·exact h2 i j x y q1 q q3 hx hy
  ·subst q;rw[hx] at hy;injection hy with hy;subst hy;exact Int.le_refl _
 intro k;induction k with
 | zero =>
  intro f i j hk hf hij hi' hj g1 g2;obtain ⟨f,rfl⟩:∃g,f=g+1:=⟨f-1,by omega⟩;rw[d0t];simp only[tfd,if_neg (show ¬((i:Int)<(j:Int)) by omega)];have e:i=j:=by omega
  subst e;exact ⟨i,rfl,hi',hj,g1,g2⟩
 | succ k ih =>
  intro f i j hk hf hij hi' hj g1 g2;obtain ⟨f,rfl⟩:∃g,f=g+1:=⟨f-1,by omega⟩;rw[d0t];by_cases lt:i<j
  ·generalize hcc:(i+j) / 2=c;have hq':=hq c (by omega) (by omega);have e1:=n0x i j (by omega);rw[hcc] at e1;have e2:IntKind.wrap .i64 ((pn:Int)-(c:Int))=((pn-c:Nat):Int):=wn (by omega) (by omega);obtain ⟨v,hcm,hlt⟩:=hc d[pn-c] d[c] (hP _ (List.getElem_mem _)) (hP _ (List.getElem_mem _));have gc:d[c]? = some d[c]:=List.getElem?_eq_getElem (by omega);have gp:d[pn-c]? = some d[pn-c]:=List.getElem?_eq_getElem (by omega);simp only[tfn,tfd,if_pos (show ((i:Int)<(j:Int)) by omega),e1,e2,o0b,Int.toNat_natCast,gc,gp,obs,hcm];by_cases hlt':v<0
   ·have kl:=hlt.1 hlt';simp only[if_pos hlt'];refine ih f i c (by omega) (by omega) (by omega) hi' (by omega) g1 (fun q x y p1 p2 hx hy => ?_);have hq2:=hq q (by omega) (by omega);have:=le1 (i:=c) (j:=q) (by omega) p1 (by omega) gc hx;have:=le2 (i:=pn-q) (j:=pn-c) (by omega) (by omega) (by omega) hy gp;omega
   ·have kl:key d[c]≤key d[pn-c]:=by have:=mt hlt.2 hlt';omega
    simp only[if_neg hlt'];rw[wn (x:=(c:Int)+1) (k:=c+1) (by omega) (by omega)];refine ih f (c+1) j (by omega) (by omega) (by omega) (by omega) hj (fun q x y p1 p2 hx hy => ?_) g2;have hq2:=hq q (by omega) (by omega);have:=le1 (i:=q) (j:=c) (by omega) (by omega) (by omega) hx gc;have:=le2 (i:=pn-c) (j:=pn-q) (by omega) (by omega) (by omega) gp hy;omega
  ·simp only[tfd,if_neg (show ¬((i:Int)<(j:Int)) by omega)];have e:i=j:=by omega
   subst e;exact ⟨i,rfl,hi',hj,g1,g2⟩
theorem p0d:∀(dd n:Nat) (a m b:Int) (an mn bn:Nat) (d:List a0a),a=an→m=mn→b=bn→an<mn→mn<bn→bn≤d.length→d.length≤1000000000000→(∀x∈d,Pr x)→bn-an≤2^dd→Srt key d an mn→Srt key d mn bn →
  ∃d',a0d (n+dd+2) d a m b cmp=some d'∧Mvk key d d' an bn∧Srt key d' an bn:=by
 intro dd;induction dd with
 | zero=>intro n a m b an mn bn d ha hm hb h1 h2 hl hL hP hd;simp at hd;omega
 | succ dd ih =>
  intro n a m b an mn bn d ha hm hb h1 h2 hl hL hP hd s1 s2;subst ha hm hb;rw[show n+(dd+1)+2=(n+dd+2)+1 by omega,j0d];rw[wn (x:=(mn:Int)-an) (k:=mn-an) (by omega) (by omega),wn (x:=(bn:Int)-mn) (k:=bn-mn) (by omega) (by omega)];simp only[d2h];simp only[tfd];have gm:d[mn]? = some d[mn]:=List.getElem?_eq_getElem (by omega);have ga:d[an]? = some d[an]:=List.getElem?_eq_getElem (by omega);by_cases c1:((mn-an:Nat):Int)=1
  ·rw[if_pos c1];have e:mn=an+1:=by omega
   obtain ⟨r,r1,r2,r3,r4,r5⟩:=q1f hc (n+dd+2) (an:Int) an rfl d d[an] ga hL hP mn bn s2 hl (bn-mn) a0c mn bn (by omega) (by unfold a0c;omega) (by omega) (by omega) (by omega) (fun p y p1 p2=>by omega) (fun p y p1 p2=>by omega);rw[r1];simp only[obs,a0r];obtain ⟨d',t1,t2,t3⟩:=q1e (key:=key) (n+dd+2) an bn r d[an] (r-an-1) a0c an d (by omega) (by unfold a0c;omega) (by omega) r3 hl hL ga
    (fun p q x y p1 p2 p3 p4 p5 hx hy=>s2 p q x y (by omega) p2 p3 hx hy)
    ⟨fun p z p1 p2 p3 hz=>Int.le_of_lt (r4 p z (by omega) p2 hz),fun p z p1 p2 p3 hz=>r5 p z p1 p2 hz⟩ (fun p z p1 p2 hz=>r4 p z (by omega) p2 hz)
   rw[t1];exact ⟨d',by simp,t2,t3⟩
  rw[if_neg c1];by_cases c2:((bn-mn:Nat):Int)=1
  ·rw[if_pos c2];obtain ⟨r,r1,r2,r3,r4,r5⟩:=l1y hc (n+dd+2) (mn:Int) mn rfl d d[mn] gm hL hP an mn s1 (by omega) (mn-an) a0c an mn (by omega) (by unfold a0c;omega) (by omega) (by omega) (by omega) (fun p y p1 p2=>by omega) (fun p y p1 p2=>by omega);rw[r1];simp only[obs,a0r];obtain ⟨d',t1,t2,t3⟩:=l1x (key:=key) (n+dd+2) an bn r d[mn] (mn-r) a0c mn d (by omega) (by unfold a0c;omega) (by omega) (by omega) hl hL gm
    (fun p q x y p1 p2 p3 p4 p5 hx hy=>s1 p q x y (by omega) p2 (by omega) hx hy)
    ⟨fun p z p1 p2 p3 hz=>r4 p z p1 p2 hz,fun p z p1 p2 p3 hz=>Int.le_of_lt (r5 p z p1 (by omega) hz)⟩ (fun p z p1 p2 hz=>r5 p z p1 (by omega) hz)
   rw[t1];exact ⟨d',by simp,t2,t3⟩
  rw[if_neg c2,n0x an bn (by omega)];generalize hmid:(an+bn) / 2=mid;have hpow:2^(dd+1)=2^dd*2:=Nat.pow_succ 2 dd;generalize 2^dd=P at *
  rw[wn (x:=(mid:Int)+mn) (k:=mid+mn) (by omega) (by omega)];have fin:∀s:Nat,an≤s→s≤mn→mn≤mid+mn-s→mid+mn-s≤bn→s≤mid →
    (∀x y,an<s→mid+mn-s<bn→d[s-1]? = some x→d[mid+mn-s]? = some y→key x≤key y) →
    (∀x y,s<mn→mn<mid+mn-s→d[mid+mn-s-1]? = some x→d[s]? = some y→key x<key y) →
    ∃d',(if (s:Int)<(mn:Int)∧(mn:Int)<((mid+mn-s:Nat):Int) then
      a0b (c0h (n+dd+2) d (s:Int) (mn:Int) ((mid+mn-s:Nat):Int) cmp) fun r14 =>
       if (an:Int)<(s:Int)∧(s:Int)<(mid:Int) then
        a0b (a0d (n+dd+2) r14 (an:Int) (s:Int) (mid:Int) cmp) fun r15 =>
         if (mid:Int)<((mid+mn-s:Nat):Int)∧((mid+mn-s:Nat):Int)<(bn:Int) then a0b (a0d (n+dd+2) r15 (mid:Int) ((mid+mn-s:Nat):Int) (bn:Int) cmp) fun r16=>some r16
         else some r15
       else if (mid:Int)<((mid+mn-s:Nat):Int)∧((mid+mn-s:Nat):Int)<(bn:Int) then a0b (a0d (n+dd+2) r14 (mid:Int) ((mid+mn-s:Nat):Int) (bn:Int) cmp) fun r17=>some r17
        else some r14
     else if (an:Int)<(s:Int)∧(s:Int)<(mid:Int) then
       a0b (a0d (n+dd+2) d (an:Int) (s:Int) (mid:Int) cmp) fun r15 =>
        if (mid:Int)<((mid+mn-s:Nat):Int)∧((mid+mn-s:Nat):Int)<(bn:Int) then a0b (a0d (n+dd+2) r15 (mid:Int) ((mid+mn-s:Nat):Int) (bn:Int) cmp) fun r16=>some r16
        else some r15
       else if (mid:Int)<((mid+mn-s:Nat):Int)∧((mid+mn-s:Nat):Int)<(bn:Int) then a0b (a0d (n+dd+2) d (mid:Int) ((mid+mn-s:Nat):Int) (bn:Int) cmp) fun r17=>some r17
        else some d)=some d'∧Mvk key d d' an bn∧Srt key d' an bn:=by
   intro s k1 k2 k3 k4 k5 q1 q2;generalize he:mid+mn-s=e at *
   have tail : ∀ d1, Turned d d1 s mn e → Stb key d1 d → ∃ d', (if (an : Int) < (s : Int) ∧ (s : Int) < (mid : Int) then
             a0b (a0d (n+dd+2) d1 (an:Int) (s:Int) (mid:Int) cmp) fun r15 =>
              if (mid:Int)<((e:Nat):Int)∧((e:Nat):Int)<(bn:Int) then a0b (a0d (n+dd+2) r15 (mid:Int) ((e:Nat):Int) (bn:Int) cmp) fun r16=>some r16
              else some r15
     else if (mid:Int)<((e:Nat):Int)∧((e:Nat):Int)<(bn:Int) then a0b (a0d (n+dd+2) d1 (mid:Int) ((e:Nat):Int) (bn:Int) cmp) fun r17=>some r17
      else some d1)=some d'∧Mvk key d d' an bn∧Srt key d' an bn:=by
    intro d1 t hst;obtain ⟨⟨w1,w2,w3,w4⟩,cr⟩:=halves (a:=an) (b:=bn) (mid:=mid) s1 s2 t k1 k2 k3 k4 (by omega) hl q1 (fun x y h1 h2 hx hy=>Int.le_of_lt (q2 x y h1 h2 hx hy));have l1:=t.mv.len;have m1:Mvk key d d1 an bn:=⟨t.mv.mono k1 k4,hst⟩;have hP1:=m1.all hP;have half1:∃d2,(((an:Int)<(s:Int)∧(s:Int)<(mid:Int))→a0d (n+dd+2) d1 (an:Int) (s:Int) (mid:Int) cmp=some d2)∧(¬((an:Int)<(s:Int)∧(s:Int)<(mid:Int))→d2=d1)∧Mvk key d1 d2 an mid∧Srt key d2 an mid:=by
     by_cases c:(an:Int)<(s:Int)∧(s:Int)<(mid:Int)
     ·obtain ⟨d2,t1,t2,t3⟩:=ih n (an:Int) (s:Int) (mid:Int) an s mid d1 rfl rfl rfl (by omega) (by omega) (by omega) (by omega) hP1 (by omega) w1 w2;exact ⟨d2,fun _=>t1,fun h=>absurd c h,t2,t3⟩
     ·refine ⟨d1,fun h=>absurd h c,fun _=>rfl,.refl _ _ _,?_⟩;by_cases c':an<s
      ·have:s=mid:=by omega
       subst this;exact w1
      ·have:s=an:=by omega
       subst this;exact w2
    obtain ⟨d2,u1,u2,u3,u4⟩:=half1;have l2:=u3.len;have w3':=w3.keepk u3 (.inr (Nat.le_refl _));have w4':=w4.keepk u3 (.inr (by omega));have cr2:=s1g cr (.inl u3);have half2:∃d3,(((mid:Int)<(e:Int)∧(e:Int)<(bn:Int))→a0d (n+dd+2) d2 (mid:Int) (e:Int) (bn:Int) cmp=some d3)∧(¬((mid:Int)<(e:Int)∧(e:Int)<(bn:Int))→d3=d2)∧Mvk key d2 d3 mid bn∧Srt key d3 mid bn:=by
     by_cases c:(mid:Int)<(e:Int)∧(e:Int)<(bn:Int)
     ·obtain ⟨d3,t1,t2,t3⟩:=ih n (mid:Int) (e:Int) (bn:Int) mid e bn d2 rfl rfl rfl (by omega) (by omega) (by omega) (by omega) (u3.all hP1) (by omega) w3' w4';exact ⟨d3,fun _=>t1,fun h=>absurd c h,t2,t3⟩
     ·refine ⟨d2,fun h=>absurd h c,fun _=>rfl,.refl _ _ _,?_⟩;by_cases c':mid<e
      ·have:e=bn:=by omega
       rw[this] at w3';exact w3'
      ·have:e=mid:=by omega
       rw[this] at w4';exact w4'
    obtain ⟨d3,v1,v2,v3,v4⟩:=half2;have fin3:Mvk key d d3 an bn∧Srt key d3 an bn :=
     ⟨(m1.trans (u3.mono (Nat.le_refl _) (by omega))).trans (v3.mono (by omega) (Nat.le_refl _)),Srt.join (u4.keepk v3 (.inl (Nat.le_refl _))) v4 (s1g cr2 (.inr v3))⟩
    refine ⟨d3,?_,fin3⟩;by_cases c:(an:Int)<(s:Int)∧(s:Int)<(mid:Int)
    ·rw[if_pos c,u1 c,obs];by_cases c':(mid:Int)<(e:Int)∧(e:Int)<(bn:Int)
     ·rw[if_pos c',v1 c',obs]
     ·rw[if_neg c',v2 c']
    ·rw[if_neg c];obtain rfl:=u2 c;by_cases c':(mid:Int)<(e:Int)∧(e:Int)<(bn:Int)
     ·rw[if_pos c',v1 c',obs]
     ·rw[if_neg c',v2 c']
   by_cases c:(s:Int)<(mn:Int)∧(mn:Int)<(e:Int)
   ·obtain ⟨d1,t1,t2⟩:=e1h (cmp:=cmp) (n+dd) (s:Int) (mn:Int) (e:Int) s mn e rfl rfl rfl d (by omega) (by omega) (by omega) hL;rw[if_pos c,t1,obs];refine tail d1 t2 (z1b t2 (by omega) (by omega) (by omega) fun i j x y i1 i2 j1 j2 hx hy => ?_);have gs:d[s]? = some d[s]:=List.getElem?_eq_getElem (by omega);have ge:d[e-1]? = some d[e-1]:=List.getElem?_eq_getElem (by omega);have k0:=q2 d[e-1] d[s] (by omega) (by omega) ge gs;have ka:key d[s]≤key x:=by
     rcases Nat.lt_or_eq_of_le i1 with h | h
     ·exact s1 s i _ _ k1 h i2 gs hx
     ·subst h;rw[gs] at hx;injection hx with hx;subst hx;exact Int.le_refl _
    have kb:key y≤key d[e-1]:=by
     rcases Nat.lt_or_eq_of_le (show j≤e-1 by omega) with h | h
     ·exact s2 j (e-1) _ _ j1 h (by omega) hy ge
     ·subst h;rw[ge] at hy;injection hy with hy;subst hy;exact Int.le_refl _
    omega
   ·rw[if_neg c];exact tail d (turned_refl d (by omega)) (fun _=>rfl)
  by_cases c3:(mid:Int)<(mn:Int)
  ·rw[if_pos c3,wn (x:=((mid+mn:Nat):Int)-bn) (k:=mid+mn-bn) (by omega) (by omega),wn (x:=((mid+mn:Nat):Int)-1) (k:=mid+mn-1) (by omega) (by omega)];obtain ⟨r,r1,r2,r3,r4,r5⟩:=x0s hc (n+dd+2) (an:Int) (bn:Int) (mid:Int) ((mid+mn:Nat):Int) (mn:Int) ((mid+mn-1:Nat):Int) mn bn (mid+mn-1) an rfl d hL hP s1 s2 hl (mid+mn-bn) mid (by omega) (by omega)
    (fun c h1 h2=>by omega) (mid-(mid+mn-bn)) a0c (mid+mn-bn) mid (by omega) (by unfold a0c;omega) (by omega) (by omega) (by omega) (fun c x y h1 h2=>by omega) (fun c x y h1 h2=>by omega)
   rw[r1];simp only[obs,a0r,wn (x:=((mid+mn:Nat):Int)-(r:Int)) (k:=mid+mn-r) (by omega) (by omega)];refine fin r (by omega) (by omega) (by omega) (by omega) (by omega) (fun x y h1 h2 hx hy => ?_) (fun x y h1 h2 hx hy => ?_)
   ·refine r4 (r-1) x y (by omega) (by omega) hx ?_;rw[show mid+mn-1-(r-1)=mid+mn-r by omega];exact hy
   ·refine r5 r y x (by omega) (by omega) hy ?_;rw[show mid+mn-1-r=mid+mn-r-1 by omega];exact hx
  ·rw[if_neg c3,wn (x:=((mid+mn:Nat):Int)-1) (k:=mid+mn-1) (by omega) (by omega)];obtain ⟨r,r1,r2,r3,r4,r5⟩:=x0s hc (n+dd+2) (an:Int) (bn:Int) (mid:Int) ((mid+mn:Nat):Int) (mn:Int) ((mid+mn-1:Nat):Int) mn bn (mid+mn-1) an rfl d hL hP s1 s2 hl an mn (by omega) (by omega)
    (fun c h1 h2=>by omega) (mn-an) a0c an mn (by omega) (by unfold a0c;omega) (by omega) (by omega) (by omega) (fun c x y h1 h2=>by omega) (fun c x y h1 h2=>by omega)
   rw[r1];simp only[obs,a0r,wn (x:=((mid+mn:Nat):Int)-(r:Int)) (k:=mid+mn-r) (by omega) (by omega)];refine fin r (by omega) (by omega) (by omega) (by omega) (by omega) (fun x y h1 h2 hx hy => ?_) (fun x y h1 h2 hx hy => ?_)
   ·refine r4 (r-1) x y (by omega) (by omega) hx ?_;rw[show mid+mn-1-(r-1)=mid+mn-r by omega];exact hy
   ·refine r5 r y x (by omega) (by omega) hy ?_;rw[show mid+mn-1-r=mid+mn-r-1 by omega];exact hx
end
def a2k (key:a0a→Int) (d:List a0a) (B N:Nat):Prop:=∀c,B ∣ c→Srt key d c (min (c+B) N)
section
variable {cmp:(a0a×(a0a×Unit))→Option Int} {key:a0a→Int} {Pr:a0a→Prop} (hc:x0v cmp key Pr)
include hc
theorem e1g (n:Nat) (N:Nat) (n_:Int) (hn:n_=N):∀(k f a:Nat) (d:List a0a),N-a≤k→k<f→20 ∣ a→a≤N→N=d.length→d.length≤100000000000→(∀x∈d,Pr x)→(∀c,20 ∣ c→c<a→Srt key d c (min (c+20) N)) →
  ∃d' a',b0s (n+1) f (d,n_,cmp,(20:Int),(a:Int),((a+20:Nat):Int),())=some (.inl (d',n_,cmp,(20:Int),((a':Nat):Int),()))∧20 ∣ a'∧a'≤N∧N<a'+20∧Mvk key d d' 0 N ∧
   (∀c,20 ∣ c→c<a'→Srt key d' c (min (c+20) N)):=by
 subst hn;intro k;induction k with
 | zero =>
  intro f a d hk hf h20 haN hN hL hP hs;obtain ⟨f,rfl⟩:∃g,f=g+1:=⟨f-1,by omega⟩;rw[e0p];simp only[tfd,if_neg (show ¬(((a+20:Nat):Int)≤(N:Int)) by omega)];exact ⟨d,a,rfl,h20,haN,by omega,.refl _ _ _,hs⟩
 | succ k ih =>
  intro f a d hk hf h20 haN hN hL hP hs;obtain ⟨f,rfl⟩:∃g,f=g+1:=⟨f-1,by omega⟩;rw[e0p];by_cases hle:a+20≤N
  ·obtain ⟨d1,r1,r2,r3⟩:=b1e hc n (a:Int) ((a+20:Nat):Int) a (a+20) rfl rfl d (by omega) (by omega) (by omega) hP;have l1:=r2.len;simp only[tfd,if_pos (show (((a+20:Nat):Int)≤(N:Int)) by omega),r1,obs];rw[wn (x:=((a+20:Nat):Int)+20) (k:=a+20+20) (by omega) (by omega)];obtain ⟨d',a',s1,s2,s3,s4,s5,s6⟩:=ih f (a+20) d1 (by omega) (by omega) (by omega) (by omega) (by omega) (by omega) (r2.all hP) (fun c c1 c2=>by
    by_cases e:c<a
    ·have:=e0h c1 h20 e;exact (hs c c1 e).keepk r2 (.inl (by omega))
    ·have:c=a:=by
      rcases Nat.lt_or_eq_of_le (Nat.le_of_not_lt e) with h | h
      ·have:=e0h h20 c1 h;omega
      ·exact h.symm
     subst this;rw[Nat.min_eq_left (by omega)]
     exact r3)
   exact ⟨d',a',s1,s2,s3,s4,(r2.mono (by omega) (by omega)).trans s5,s6⟩
  ·simp only[tfd,if_neg (show ¬(((a+20:Nat):Int)≤(N:Int)) by omega)];exact ⟨d,a,rfl,h20,haN,by omega,.refl _ _ _,hs⟩
theorem e1e (n dd:Nat) (N B:Nat) (n_:Int) (hn:n_=N) (hB:0<B) (hBN:B<N) (hdd:N≤2^dd):∀(k f a:Nat) (d:List a0a),N-a≤k→k<f→2*B ∣ a→a≤N→N=d.length→d.length≤100000000000→(∀x∈d,Pr x) →
  (∀c,2*B ∣ c→c<a→Srt key d c (min (c+2*B) N))→(∀c,B ∣ c→a≤c→Srt key d c (min (c+B) N)) →
  ∃d' a',c0j (n+dd+2) f (d,n_,cmp,(B:Int),(a:Int),((a+2*B:Nat):Int),())=some (.inl (d',n_,cmp,(B:Int),((a':Nat):Int),()))∧2*B ∣ a'∧a'≤N∧N<a'+2*B∧Mvk key d d' 0 N ∧
   (∀c,2*B ∣ c→c<a'→Srt key d' c (min (c+2*B) N))∧(∀c,B ∣ c→a'≤c→Srt key d' c (min (c+B) N)):=by
 subst hn;have dB:B ∣ 2*B:=⟨2,by omega⟩;intro k;induction k with
 | zero =>
  intro f a d hk hf h20 haN hN hL hP hs hs';obtain ⟨f,rfl⟩:∃g,f=g+1:=⟨f-1,by omega⟩;rw[e0n];simp only[tfd,if_neg (show ¬(((a+2*B:Nat):Int)≤(N:Int)) by omega)];exact ⟨d,a,rfl,h20,haN,by omega,.refl _ _ _,hs,hs'⟩
 | succ k ih =>
  intro f a d hk hf h20 haN hN hL hP hs hs';obtain ⟨f,rfl⟩:∃g,f=g+1:=⟨f-1,by omega⟩;rw[e0n];by_cases hle:a+2*B≤N
  ·have ba:B ∣ a:=Nat.dvd_trans dB h20;have q1:=hs' a ba (Nat.le_refl _);have q2:=hs' (a+B) (Nat.dvd_add ba (Nat.dvd_refl _)) (by omega);rw[Nat.min_eq_left (by omega)] at q1 q2;rw[wn (x:=(a:Int)+B) (k:=a+B) (by omega) (by omega)];obtain ⟨d1,r1,r2,r3⟩:=p0d hc dd n (a:Int) ((a+B:Nat):Int) ((a+2*B:Nat):Int) a (a+B) (a+2*B) d rfl rfl rfl (by omega) (by omega) (by omega) (by omega) hP (by omega) q1 (q2.mono (by omega) (by omega));have l1:=r2.len;simp only[tfd,if_pos (show (((a+2*B:Nat):Int)≤(N:Int)) by omega),r1,obs]
   rw[wn (x:=2*(B:Int)) (k:=2*B) (by omega) (by omega),wn (x:=((a+2*B:Nat):Int)+((2*B:Nat):Int)) (k:=a+2*B+2*B) (by omega) (by omega)];obtain ⟨d',a',s1,s2,s3,s4,s5,s6,s7⟩:=ih f (a+2*B) d1 (by omega) (by omega) (Nat.dvd_add h20 (Nat.dvd_refl _)) (by omega) (by omega) (by omega) (r2.all hP) (fun c c1 c2=>by
    by_cases e:c<a
    ·have:=e0h c1 h20 e;exact (hs c c1 e).keepk r2 (.inl (by omega))
    ·have:c=a:=by
      rcases Nat.lt_or_eq_of_le (Nat.le_of_not_lt e) with h | h
      ·have:=e0h h20 c1 h;omega
      ·exact h.symm
     subst this;rw[Nat.min_eq_left (by omega)]
     exact r3)
    (fun c c1 c2=>(hs' c c1 (by omega)).keepk r2 (.inr (by omega)))
   exact ⟨d',a',s1,s2,s3,s4,(r2.mono (by omega) (by omega)).trans s5,s6,s7⟩
  ·simp only[tfd,if_neg (show ¬(((a+2*B:Nat):Int)≤(N:Int)) by omega)];exact ⟨d,a,rfl,h20,haN,by omega,.refl _ _ _,hs,hs'⟩
theorem e1f (n dd:Nat) (N:Nat) (n_:Int) (hn:n_=N) (hdd:N≤2^dd):∀(k f B:Nat) (d:List a0a),N-B≤k→k<f→0<B→B≤200000000000→N=d.length→d.length≤100000000000→(∀x∈d,Pr x)→a2k key d B N →
  ∃d',b0j (n+dd+2) f (d,n_,cmp,(B:Int),())=some (.inl (d',()))∧Mvk key d d' 0 N∧Srt key d' 0 N:=by
 subst hn;intro k;induction k with
 | zero =>
  intro f B d hk hf hB hBl hN hL hP hs;obtain ⟨f,rfl⟩:∃g,f=g+1:=⟨f-1,by omega⟩;rw[e0o];simp only[tfd,if_neg (show ¬((B:Int)<(N:Int)) by omega)];have:=hs 0 (Nat.dvd_zero _);rw[Nat.min_eq_right (by omega)] at this;exact ⟨d,rfl,.refl _ _ _,this⟩
 | succ k ih =>
  intro f B d hk hf hB hBl hN hL hP hs;obtain ⟨f,rfl⟩:∃g,f=g+1:=⟨f-1,by omega⟩;rw[e0o];by_cases hlt:B<N
  ·obtain ⟨d1,a,r1,r2,r3,r4,r5,r6,r7⟩:=e1e hc n dd N B (N:Int) rfl hB hlt hdd N a0c 0 d (by omega) (by unfold a0c;omega) (Nat.dvd_zero _) (by omega) hN hL hP (fun c _ h=>by omega) (fun c h _=>hs c h);have l1:=r5.len;rw[Nat.zero_add] at r1;simp only[tfd,if_pos (show ((B:Int)<(N:Int)) by omega),wn (x:=2*(B:Int)) (k:=2*B) (by omega) (by omega)];rw[show ((0:Int))=((0:Nat):Int) from rfl,r1];simp only[obs,a0r,wn (x:=(a:Int)+B) (k:=a+B) (by omega) (by omega),wn (x:=(B:Int)*2) (k:=2*B) (by omega) (by omega)];have dB:B ∣ 2*B:=⟨2,by omega⟩
   have ba:B ∣ a:=Nat.dvd_trans dB r2;by_cases hm:a+B<N
   ·have q1:=r7 a ba (Nat.le_refl _);have q2:=r7 (a+B) (Nat.dvd_add ba (Nat.dvd_refl _)) (by omega);rw[Nat.min_eq_left (by omega)] at q1;rw[Nat.min_eq_right (by omega)] at q2;obtain ⟨d2,t1,t2,t3⟩:=p0d hc dd n (a:Int) ((a+B:Nat):Int) (N:Int) a (a+B) N d1 rfl rfl rfl (by omega) (by omega) (by omega) (by omega) (r5.all hP) (by omega) q1 q2;have l2:=t2.len;simp only[if_pos (show (((a+B:Nat):Int)<(N:Int)) by omega),t1,obs];obtain ⟨d3,u1,u2,u3⟩:=ih f (2*B) d2 (by omega) (by omega) (by omega) (by omega) (by omega) (by omega) (t2.all (r5.all hP)) (fun c hcd=>by
     by_cases e:c<a
     ·have:=e0h hcd r2 e;exact (r6 c hcd e).keepk t2 (.inl (by omega))
     ·by_cases e':c=a
      ·subst e';exact t3.mono (Nat.le_refl _) (by omega)
      ·have:=e0h r2 hcd (by omega)
       exact Srt.one _ _ (by omega))
    exact ⟨d3,u1,(r5.trans (t2.mono (by omega) (by omega))).trans u2,u3⟩
   ·simp only[if_neg (show ¬(((a+B:Nat):Int)<(N:Int)) by omega)];obtain ⟨d3,u1,u2,u3⟩:=ih f (2*B) d1 (by omega) (by omega) (by omega) (by omega) (by omega) (by omega) (r5.all hP) (fun c hcd=>by
     by_cases e:c<a
     ·exact r6 c hcd e
     ·by_cases e':c=a
      ·subst e';have q1:=r7 c ba (Nat.le_refl _);exact q1.mono (Nat.le_refl _) (by omega)
      ·have:=e0h r2 hcd (by omega)
       exact Srt.one _ _ (by omega))
    exact ⟨d3,u1,r5.trans u2,u3⟩
  ·simp only[tfd,if_neg (show ¬((B:Int)<(N:Int)) by omega)];have:=hs 0 (Nat.dvd_zero _);rw[Nat.min_eq_right (by omega)] at this;exact ⟨d,rfl,.refl _ _ _,this⟩
theorem v0o (n dd:Nat) (d:List a0a) (hL:d.length≤2^dd) (hL':d.length≤100000000000) (hP:∀x∈d,Pr x) :
  ∃d',g0a (n+dd+4) d cmp=some d'∧Mvk key d d' 0 d.length∧Srt key d' 0 d.length:=by
 rw[o0i,k0k];obtain ⟨d1,a,r1,r2,r3,r4,r5,r6⟩:=e1g hc (n+dd+1) d.length (d.length:Int) rfl d.length a0c 0 d (by omega) (by unfold a0c;omega) (Nat.dvd_zero _) (by omega) rfl hL' hP (fun c _ h=>by omega);have l1:=r5.len;obtain ⟨d2,s1,s2,s3⟩:=b1e hc (n+dd+1) (a:Int) (d.length:Int) a d.length rfl rfl d1 r3 (by omega) (by omega) (r5.all hP);have l2:=s2.len
 obtain ⟨d3,t1,t2,t3⟩:=e1f hc n dd d.length (d.length:Int) rfl hL d.length a0c 20 d2 (by omega) (by unfold a0c;omega) (by omega) (by omega) (by omega) (by omega) (s2.all (r5.all hP)) (fun c hcd=>by
  by_cases e:c<a
  ·have:=e0h hcd r2 e;exact (r6 c hcd e).keepk s2 (.inl (by omega))
  ·by_cases e':c=a
   ·subst e';exact s3.mono (Nat.le_refl _) (by omega)
   ·have:=e0h r2 hcd (by omega)
    exact Srt.one _ _ (by omega))
 have r1':b0s (n+dd+2) a0c (d,((d.length:Nat):Int),cmp,(20:Int),(0:Int),(20:Int),())=_:=r1;rw[r1'];simp only[obs,a0r,s1];have t1':b0j (n+dd+2) a0c (d2,((d.length:Nat):Int),cmp,(20:Int),())=_:=t1;rw[t1'];exact ⟨d3,by simp,((r5.trans (s2.mono (Nat.zero_le _) (Nat.le_refl _))).trans t2),t3⟩
end
def incP (p:Prt):Wd:=p.2.2.1.2.2.2.1
def keyP (p:Prt):Int := - wv (incP p)
def PrW (p:Prt):Prop:=WdOk (incP p)
theorem i2b (n:Nat) (x y:Int):g0f (n+2) x y=some (if x<y then -1 else if y<x then 1 else 0):=by
 rw[t0j,m0z,m0z];by_cases h1:x<y
 ·simp[h1]
 ·by_cases h2:y<x<;>simp[h1,h2]
theorem cmp_or2 (n:Nat) (x y:Int):a1i (n+1) [x,y]=some (if x=0 then y else x):=by
 have e1:IntKind.wrap .i64 ((0:Int)+1)=1:=by rw[w64 (by omega) (by omega)];rfl
 have e2:IntKind.wrap .i64 ((1:Int)+1)=2:=by rw[w64 (by omega) (by omega)];rfl
 have h0:∀f:Nat,i0z n (f+1+1+1) ((0:Int),[x,y],(2:Int),(0:Int),())=some (if x=0 then (if y=0 then .inl (0,()) else .inr y) else .inr x):=by
  intro f;rw[l0a,decide_eq_true (show (0:Int)<2 by decide),tft,show at? [x,y] (0:Int)=some x from rfl,obs,tfn,tfd,e1];by_cases hx:x=0
  ·rw[if_pos hx,if_pos hx,l0a,decide_eq_true (show (1:Int)<2 by decide),tft,show at? [x,y] (1:Int)=some y from rfl,obs,tfn,tfd,e2];by_cases hy:y=0
   ·rw[if_pos hy,if_pos hy,l0a,decide_eq_false (show ¬(2:Int)<2 by decide),tff]
   ·rw[if_neg hy,if_neg hy]
  ·rw[if_neg hx,if_neg hx]
 obtain ⟨f,hf⟩:∃f,a0c=f+1+1+1:=⟨a0c-3,by unfold a0c;omega⟩;rw[n1x,hf];have h1:i0z n (f+1+1+1) ((0:Int),[x,y],((([x,y].length:Nat)):Int),(0:Int),())=_:=h0 f;rw[h1,obs];by_cases hx:x=0
 ·rw[if_pos hx,if_pos hx];by_cases hy:y=0
  ·rw[if_pos hy,hy];rfl
  ·rw[if_neg hy];rfl
 ·rw[if_neg hx,if_neg hx];rfl
theorem more_lt {x y u v:Int} (hx:0≤x∧x≤18446744073709551615) (hy:0≤y∧y≤18446744073709551615) (hu:0≤u∧u≤18446744073709551615) (hv:0≤v∧v≤18446744073709551615) :
  ((if (if u<x then (-1:Int) else if x<u then 1 else 0)=0 then (if v<y then (-1:Int) else if y<v then 1 else 0) else (if u<x then (-1:Int) else if x<u then 1 else 0))<0) ↔ -(x*18446744073709551616+y) < -(u*18446744073709551616+v):=by
 by_cases h1:u<x
 ·rw[if_pos h1,if_neg (by decide)];omega
 ·rw[if_neg h1];by_cases h2:x<u
  ·rw[if_pos h2,if_neg (by decide)];omega
  ·rw[if_neg h2,if_pos rfl];by_cases h3:v<y
   ·rw[if_pos h3];omega
   ·rw[if_neg h3];by_cases h4:y<v
    ·rw[if_pos h4];omega
    ·rw[if_neg h4];omega
theorem more_cmp (n:Nat):x0v (fun y=>y0x (n+3) y.1 y.2.1) keyP PrW:=by
 intro p q hp hq;refine ⟨_,?_,more_lt hp.hi hp.lo hq.hi hq.lo⟩;simp only;rw[k1j,i2b,obs,i2b,obs,cmp_or2,obs];rfl
theorem top_ex (l:List Prt):∃S,Sel keyP l S:=sel_ex l.length l rfl
theorem t1f (n:Nat) (l:List Prt) (hL:l.length≤1000000):∀(rest pre:List Prt) (out:List (List Lab)) (f:Nat) (i len:Int),l=pre++rest→i=pre.length→len=l.length→rest.length<f→out.length≤pre.length →
  n0l n f (out,l,len,i,())=some (.inl (out++rest.map (·.1),())):=by
 intro rest;induction rest with
 | nil =>
  intro pre out f i len hl hi hn hf ho;obtain ⟨f,rfl⟩:∃g,f=g+1:=⟨f-1,by simp at hf;omega⟩;rw[s0a,decide_eq_false (idxe hl hi hn),tff];simp
 | cons x rest ih =>
  intro pre out f i len hl hi hn hf ho;obtain ⟨f,rfl⟩:∃g,f=g+1:=⟨f-1,by simp at hf;omega⟩;have hlen:=congrArg List.length hl;simp only[List.length_append,List.length_cons] at hlen;rw[s0a,decide_eq_true (idx hl hi hn),tft,c0w hl hi,obs,m1x hl hi,obs,decide_eq_true (by omega),tft,idxw hl hi (by omega),ih (pre++[x]) _ f (i+1) len (idxl hl) (idxs hi) hn (by simp at hf;omega) (by simp;omega),List.append_assoc];rfl
def topN (n:Int) (len:Nat):Nat:=(if (len:Int)<n then (len:Int) else n).toNat
theorem o1s (n:Nat) {s:Sta} (hw:StaW s) (ms:List Mat) (hm:ms.length≤1000000) (hk:∀m∈ms,0≤m.1) (t a b m:Int) {S:List Prt} (hS:Sel keyP (d0p s ms t a b).1 S) :
  w0n (n+40) s ms t a b m=some (if (d0p s ms t a b).2.2=0 then (if m<0 then ([],1) else ((S.take (topN m (d0p s ms t a b).1.length)).map (·.1),0)) else ([],(d0p s ms t a b).2.2)):=by
 rw[o1v,r0z (n+14) hw ms hm hk,obs,tfn,tfd];have hl:=u0a s ms t a b;have hok:=l1z s ms t a b;by_cases h:(d0p s ms t a b).2.2=0
 case neg=>rw[if_neg h,if_neg h]
 rw[if_pos h,if_pos h,tfd];by_cases hm0:m<0
 ·rw[if_pos hm0,if_pos hm0]
 rw[if_neg hm0,if_neg hm0];generalize (d0p s ms t a b).1=l at *
 obtain ⟨d,r1,r2,r3⟩:=v0o (more_cmp (n+36)) (n+18) 17 l (by omega) (by omega) (fun p hp=>f1m (hok p hp));have hlen:=r2.len;have hd:d=S:=by
  refine stb_uniq d S (p1j (by rw[hlen];exact r3)) hS.srt fun c=>(r2.st c).trans (hS.stb c).symm
 have hSl:S.length=l.length:=by rw[←hd];exact hlen
 rw[r1,obs,hd];have e:(if ((S.length:Nat):Int)<m then ((S.length:Nat):Int) else m)=((topN m l.length:Nat):Int):=by
  unfold topN;rw[hSl];split<;>omega
 have hle:topN m l.length≤S.length:=by unfold topN;rw[hSl];split<;>omega
 rw[e,decide_eq_true (by omega),decide_eq_true (by omega),Bool.and_self,tft,Int.toNat_natCast,Nat.sub_zero];have:=t1f (n+39) (S.take (topN m l.length)) (by simp;omega) (S.take (topN m l.length)) [] [] a0c 0 _ rfl rfl rfl (by simp;unfold a0c;omega) (Nat.le_refl _);rw[List.nil_append,List.length_take,Nat.min_eq_left hle] at this;rw[this,obs,a0r]
theorem z1q (n:Nat) (ms:List Mat):∀(rest pre:List Mat) (f:Nat) (i len:Int),ms=pre++rest→i=pre.length→len=ms.length→rest.length<f→pre.length≤40 →
  k0r n f (ms,len,i,())=some (.inr 0)∨(k0r n f (ms,len,i,())=some (.inl ())∧ms.length≤40):=by
 intro rest;induction rest with
 | nil =>
  intro pre f i len hl hi hn hf hp;obtain ⟨f,rfl⟩:∃g,f=g+1:=⟨f-1,by simp at hf;omega⟩;rw[t0c,decide_eq_false (idxe hl hi hn),tff];exact .inr ⟨rfl,by rw[hl];simpa using hp⟩
 | cons x rest ih =>
  intro pre f i len hl hi hn hf hp;obtain ⟨f,rfl⟩:∃g,f=g+1:=⟨f-1,by simp at hf;omega⟩;rw[t0c,decide_eq_true (idx hl hi hn),tft,c0w hl hi,obs,tfd,tfd,tfd];by_cases h1:i=40
  ·rw[if_pos h1];exact .inl rfl
  rw[if_neg h1];by_cases h2:(1000:Int)<(x.2.1.length:Int)
  ·rw[if_pos h2];exact .inl rfl
  rw[if_neg h2];by_cases h3:(1000:Int)<(x.2.2.length:Int)
  ·rw[if_pos h3];exact .inl rfl
  rw[if_neg h3,w64 (x:=i+1) (by omega) (by omega)];exact ih (pre++[x]) f (i+1) len (idxl hl) (idxs hi) hn (by simp at hf;omega) (by simp;omega)
theorem b2b (n:Nat) (ms:List Mat) (hL:ms.length≤9223372036854775807):y0h (n+1) ms=some 0∨(y0h (n+1) ms=some 1∧ms.length≤40):=by
 rw[r1g];rcases z1q n ms ms [] a0c 0 _ rfl rfl rfl (by unfold a0c;omega) (by simp) with h | ⟨h,k⟩
 ·rw[h];exact .inl rfl
 ·rw[h];exact .inr ⟨rfl,k⟩
theorem mat_wfg {m:Mat} (h:Wf a0t m):0≤m.1:=h.1.1
theorem part_doQ {s:Sta} (hs:StaOk s) {ms:List Mat} {t a b:Int} (ht:(e0j s t a b).2=0) {p:Prt} (hp:p∈x1c s ms (e0j s t a b).1 a b):LabOk p.1∧doQ s p.1 t a b=(p.2,0)∧0<p.2.2.1.1:=by
 obtain ⟨i,hi,he⟩:=List.mem_filterMap.1 hp;obtain ⟨x,hx,hlv,hlab⟩:=x1p hs hi;unfold partOf at he;rw[hx] at he;dsimp only at he;split at he
 case isFalse=>cases he
 rename_i hc;have he:=Option.some.inj he;have hfin:=h2v hs hlab ht;have hsame:doQ s x.1 t a b=doQ s x.1 (e0j s t a b).1 a b:=by
  have h2:=i1f ht;unfold doQ;rw[if_pos hs,if_pos hs,if_pos hlab,if_pos hlab,if_pos ht,h2,if_pos rfl]
 subst he;exact ⟨hlab,by dsimp only;rw[hsame];exact Prod.ext rfl hfin,hc.2⟩
def y0d (l:List Prt):Wd:=match l.getLast? with | some p=>incP p | none=>(0,0)
theorem e1u (l:List Prt) (x:Prt):y0d (l++[x])=incP x:=by unfold y0d;rw[List.getLast?_append];rfl
theorem x1t {l:List Prt} (h:∀p∈l,WdOk (incP p)):WdOk (y0d l):=by
 unfold y0d;split
 ·rename_i p hp;exact h p (List.mem_of_getLast? hp)
 ·exact ⟨by simp,by simp⟩
theorem r1r (n:Nat) {s:Sta} (hw:StaW s) (t a b:Int) (all:List Rpl) (m:List (List Lab)) (T:List Prt) (hT:T.length≤1000000)
  (hp:∀p∈T,LabOk p.1∧doQ s p.1 t a b=(p.2,0)∧0<p.2.2.1.1∧WdOk (incP p)) (hm:∀(i:Nat) x,T[i]? = some x→m[i]? = some x.1)
  (hord:T.Pairwise fun x y=>wv (incP y)≤wv (incP x)):∀(rest pre:List Prt) (f:Nat) (i len:Int),T=pre++rest→i=pre.length→len=T.length→rest.length<f →
  e0a (n+24) f (t,a,b,s,all,T.map (·.1),m,y0d pre,T.map (·.1),len,i,())=some (.inl (all,T.map (·.1),y0d T,())):=by
 intro rest;induction rest with
 | nil =>
  intro pre f i len hl hi hn hf;obtain ⟨f,rfl⟩:∃g,f=g+1:=⟨f-1,by simp at hf;omega⟩;rw[j0f,decide_eq_false (idxe hl hi hn),tff];rw[List.append_nil] at hl;rw[←hl]
 | cons x rest ih =>
  intro pre f i len hl hi hn hf;obtain ⟨f,rfl⟩:∃g,f=g+1:=⟨f-1,by simp at hf;omega⟩;have hlen:=congrArg List.length hl;simp only[List.length_append,List.length_cons] at hlen;have hx:T[pre.length]? = some x:=by rw[hl];simp
  obtain ⟨p1,p2,p3,p4⟩:=hp x (List.mem_of_getElem? hx);have e1:at? (T.map (·.1)) i=some x.1:=by rw[hi];exact c1g (by rw[List.getElem?_map,hx];rfl)
  have e2:at? m i=some x.1:=by rw[hi];exact c1g (hm _ _ hx)
  have hlo:WdOk (y0d pre):=x1t fun p h=>(hp p (by rw[hl];exact List.mem_append_left _ h)).2.2.2
  have hq:=l1t n hw (x.1,(t,(a,b)));dsimp only at hq;rw[p2] at hq;rw[j0f,decide_eq_true (idx hl hi hn),tft,e1,obs,hq,obs];dsimp only;rw[show (decide ((0:Int)=0))=true from rfl,Bool.not_true,tff,decide_eq_false (show ¬x.2.2.1.1=0 by omega),tff,e2,obs,z0z (n+22) x.1 x.1 (by have:=p1.n1;omega),decide_eq_true rfl,obs,Bool.not_true,tff,idxw hl hi (by omega),tfd];have key:=ih (pre++[x]) f (i+1) len (by rw[List.append_assoc];exact hl) (idxs hi) hn (by simp at hf;omega);rw[e1u] at key;by_cases h0:0<i
  ·have hwl:h0w (n+24) (y0d pre) x.2.2.1.2.2.2.1=some (decide (wv (y0d pre)<wv (incP x))):=w0l (n+23) hlo p4;rw[if_pos h0,hwl,obs];have:¬wv (y0d pre)<wv (incP x):=by
    obtain ⟨q,y,rfl⟩:∃q y,pre=q++[y]:=by
     rcases List.eq_nil_or_concat pre with h | ⟨q,y,h⟩
     ·subst h;simp at hi;omega
     ·exact ⟨q,y,by rw[h];simp⟩
    rw[e1u];rw[hl,List.append_assoc,List.singleton_append] at hord;have h1:=(List.pairwise_append.1 hord).2.1;have:=(List.pairwise_cons.1 h1).1 x (by simp);omega
   rw[decide_eq_false this,tff];exact key
  ·rw[if_neg h0];exact key
theorem r1q (n:Nat) (l:List (List Lab)) {last:Wd} (hlast:WdOk last) (all:List Rpl) (hall:∀r∈all,WdOk r.2.1.2.2.2.1) (hL:all.length≤1000000):∀(rest pre:List Rpl) (f:Nat) (more i len:Int),all=pre++rest→i=pre.length→len=all.length→rest.length<f→0≤more→more≤pre.length →
  d0z (n+1) f (l,last,more,all,len,i,())=some (.inl (l,more+((rest.countP fun r=>decide (wv last<wv r.2.1.2.2.2.1):Nat):Int),())):=by
 intro rest;induction rest with
 | nil =>
  intro pre f more i len hl hi hn hf h0 h1;obtain ⟨f,rfl⟩:∃g,f=g+1:=⟨f-1,by simp at hf;omega⟩;rw[j0e,decide_eq_false (idxe hl hi hn),tff];simp
 | cons x rest ih =>
  intro pre f more i len hl hi hn hf h0 h1;obtain ⟨f,rfl⟩:∃g,f=g+1:=⟨f-1,by simp at hf;omega⟩;have hlen:=congrArg List.length hl;simp only[List.length_append,List.length_cons] at hlen;rw[j0e,decide_eq_true (idx hl hi hn),tft,c0w hl hi,obs,w0l n hlast (hall x (by rw[hl];simp)),obs,idxw hl hi (by omega),tfd,List.countP_cons];by_cases h:wv last<wv x.2.1.2.2.2.1
  ·rw[if_pos h,w64 (by omega) (by omega),ih (pre++[x]) f (more+1) (i+1) len (idxl hl) (idxs hi) hn (by simp at hf;omega) (by omega) (by simp;omega),decide_eq_true h,if_pos rfl];congr 4;omega
  ·rw[if_neg h,ih (pre++[x]) f more (i+1) len (idxl hl) (idxs hi) hn (by simp at hf;omega) h0 (by simp;omega),decide_eq_false h];simp
theorem c2e {S:List Prt} {M:Nat} {x:Prt} (hx:S[M]? = some x) (hord:S.Pairwise fun x y=>wv (incP y)≤wv (incP x)):S.countP (fun r=>decide (wv (incP x)<wv (incP r)))≤M:=by
 have hlt:=(List.getElem?_eq_some_iff.1 hx).1;have hsp:S=S.take M++(x::S.drop (M+1)):=by
  have:=List.take_append_drop M S;rw[List.drop_eq_getElem_cons hlt,(List.getElem?_eq_some_iff.1 hx).2] at this;exact this.symm
 rw[hsp] at hord;rw[hsp,List.countP_append];have h1:=(List.pairwise_append.1 hord).2.1;have h2:(x::S.drop (M+1)).countP (fun r=>decide (wv (incP x)<wv (incP r)))=0:=by
  rw[List.countP_eq_zero];intro r hr;rcases List.mem_cons.1 hr with rfl | hr
  ·simp
  ·have:=(List.pairwise_cons.1 h1).1 r hr;simp;omega
 have h3:(S.take M).countP (fun r=>decide (wv (incP x)<wv (incP r)))≤(S.take M).length:=List.countP_le_length;rw[List.length_take] at h3;omega
theorem b1s (n:Nat) (s:Sta) (ms:List Mat) (t a b k:Int) (hs:Wf a0n s) (hm:Wf (.slice a0t) ms):s0c (n+42) s ms t a b k=some true:=by
 have hw:=sta_wf hs;rw[w0p,y0y (n+1),obs,Bool.not_true,tff];rcases g2a (n+38) hw with h | ⟨h,h8⟩
 ·rw[h];rfl
 rw[h,obs,show (decide ((1:Int)=0))=false from rfl,tff];rcases b2b (n+40) ms (Nat.le_trans hm.1 (by decide)) with h2 | ⟨h2,h40⟩
 ·rw[h2];rfl
 rw[h2,obs,show (decide ((1:Int)=0))=false from rfl,tff,m0g (n+27) hw,obs];by_cases hok:StaOk s
 case neg=>rw[if_neg hok];rfl
 rw[if_pos hok,show (decide ((0:Int)=0))=true from rfl,Bool.not_true,tff,tfd];by_cases hk0:k<0
 ·rw[if_pos hk0]
 rw[if_neg hk0,tfd];by_cases hk1:1000<k
 ·rw[if_pos hk1]
 have hmk:∀m∈ms,0≤m.1:=fun m h=>mat_wfg (hm.2 m h)
 obtain ⟨S,hS⟩:=top_ex (d0p s ms t a b).1;rw[if_neg hk1,d1c (n+15) hw ms (by omega) hmk,obs,o1s (n+1) hw ms (by omega) hmk t a b k hS,obs,w64 (by omega) (by omega),o1s (n+1) hw ms (by omega) hmk t a b (k+1) hS,obs];have hpl:=u0a s ms t a b;have hpw:=l1z s ms t a b;by_cases hz:(d0p s ms t a b).2.2=0
 case neg =>
  have he:(d0p s ms t a b).1=[]:=by
   unfold d0p at hz ⊢;rw[if_pos hok] at hz ⊢;by_cases q2:h1y ms
   case neg=>rw[if_neg q2]
   rw[if_pos q2] at hz ⊢;by_cases q3:(e0j s t a b).2=0
   ·rw[if_pos q3] at hz;exact absurd rfl hz
   ·rw[if_neg q3]
  rw[if_neg hz,if_neg hz];dsimp only;rw[decide_eq_true rfl,Bool.not_true,tff,tff,decide_eq_false hz,Bool.not_false,tft,he];rfl
 have hpd:∀p∈(d0p s ms t a b).1,LabOk p.1∧doQ s p.1 t a b=(p.2,0)∧0<p.2.2.1.1:=by
  intro p hp;unfold d0p at hp;rw[if_pos hok] at hp;by_cases q2:h1y ms
  case neg=>rw[if_neg q2] at hp;cases hp
  rw[if_pos q2] at hp;by_cases q3:(e0j s t a b).2=0
  ·rw[if_pos q3] at hp;exact part_doQ hok q3 hp
  ·rw[if_neg q3] at hp;cases hp
 rw[if_pos hz,if_neg hk0,if_pos hz,if_neg (by omega:¬k+1<0)];dsimp only;rw[hz];generalize (d0p s ms t a b).1=L at *
 have hSl:S.length=L.length:=hS.perm.length_eq;have hN:topN k L.length≤L.length:=by unfold topN;split<;>omega
 have hNm:((topN k L.length:Nat):Int)=(if ((L.length:Nat):Int)<k then ((L.length:Nat):Int) else k):=by unfold topN;split<;>omega
 have hN1:((topN (k+1) L.length:Nat):Int)=(if ((L.length:Nat):Int)<k+1 then ((L.length:Nat):Int) else k+1):=by unfold topN;split<;>omega
 have hNN:topN k L.length≤topN (k+1) L.length:=by unfold topN;split<;>split<;>omega
 have hNl1:topN (k+1) L.length≤L.length:=by unfold topN;split<;>omega
 rw[show (decide ((0:Int)=0))=true from rfl,Bool.not_true,tff,tff,tff,List.length_map,List.length_map,List.length_map,List.length_take,List.length_take,Nat.min_eq_left (by omega),Nat.min_eq_left (by omega),decide_eq_true hNm,Bool.not_true,tff,decide_eq_true hN1,Bool.not_true,tff];have hord:S.Pairwise fun x y=>wv (incP y)≤wv (incP x):=hS.srt.imp fun h=>by unfold keyP at h;omega
 have hmem:∀p∈S,p∈L:=fun p hp=>hS.perm.mem_iff.1 hp
 have hTm:∀p∈S.take (topN k L.length),p∈L:=fun p hp=>hmem p (List.mem_of_mem_take hp)
 have hTl:(S.take (topN k L.length)).length=topN k L.length:=by rw[List.length_take];omega
 have h16:=r1r (n+17) hw t a b (L.map (·.2)) ((S.take (topN (k+1) L.length)).map (·.1)) (S.take (topN k L.length)) (by rw[hTl];omega) (fun p hp=>by
  obtain ⟨q1,q2,q3⟩:=hpd p (hTm p hp)
  exact ⟨q1,q2,q3,f1m (hpw p (hTm p hp))⟩) (fun i x hx=>by
  have hi:=(List.getElem?_eq_some_iff.1 hx).1;rw[hTl] at hi;rw[List.getElem?_take_of_lt hi] at hx
  rw[List.getElem?_map,List.getElem?_take_of_lt (by omega),hx];rfl) (hord.sublist (List.take_sublist _ _)) (S.take (topN k L.length)) [] a0c 0 ((topN k L.length:Nat):Int) rfl rfl (by rw[hTl]) (by rw[hTl];unfold a0c;omega)
 rw[show (0,0)=y0d [] from rfl,h16,obs,a0r];dsimp only;have hlo:WdOk (y0d (S.take (topN k L.length))):=x1t fun p hp=>f1m (hpw p (hTm p hp))
 rw[r1q (n+40) _ hlo (L.map (·.2)) (fun r hr=>by
  obtain ⟨p,hp,rfl⟩:=List.mem_map.1 hr
  exact f1m (hpw p hp)) (by simp;omega) (L.map (·.2)) [] a0c 0 0 _ rfl rfl (by simp) (by simp;unfold a0c;omega) (by omega) (by simp),obs,a0r]
 dsimp only;rw[List.length_map,hTl,tfd];by_cases h0:((topN k L.length:Nat):Int)=0
 ·rw[if_pos h0]
 rw[if_neg h0];obtain ⟨M,hM⟩:∃M,topN k L.length=M+1:=⟨topN k L.length-1,by omega⟩;have hx:S[M]? = some (S[M]'(by omega)):=List.getElem?_eq_getElem _;have hlast:y0d (S.take (topN k L.length))=incP (S[M]'(by omega)):=by
  rw[hM,List.take_add_one,hx];exact e1u _ _
 have hc:=c2e hx hord;have hcnt:(L.map (·.2)).countP (fun r=>decide (wv (y0d (S.take (topN k L.length)))<wv r.2.1.2.2.2.1))=S.countP (fun r=>decide (wv (incP (S[M]'(by omega)))<wv (incP r))):=by
  rw[List.countP_map,hlast,hS.perm.countP_eq];rfl
 rw[hcnt,decide_eq_true (by omega)]
end Go.Proofs.YtagnkfbpgkckiaaGreatDoor
