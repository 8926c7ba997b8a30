/-
 Plain proofs about the functions of this seat, part 3 of 4.
-/
import Derived.Test.YtgkpkajaepphjaaGreatDoorQ2
import Derived.Test.YtgkpkajaepphjaaGreatDoorTr
import Derived.Test.YtgkpkajaepphjaaGreatDoorFlatM3
namespace Go.Proofs.YtgkpkajaepphjaaGreatDoor
open Go.Flat Go.Plim
set_option linter.unusedVariables false
set_option linter.unusedSimpArgs false
abbrev Sta:=Conf×(Int×(Int×List Ser))
structure StaW (s:Sta):Prop where
 len:s.2.2.2.length≤9223372036854775807
 ser:∀x∈s.2.2.2,SerW x∧SerM x
def Whole (s:Sta):Prop:=OkC s.1∧(s.2.2.2.length:Int)=s.1.2.2.2.1
noncomputable instance (s):Decidable (Whole s):=Classical.propDecidable _
def LvX (s:Sta) (x:Ser):Prop:=x≠ser0∧(s.2.2.1 = -1∨a1z s.1 x.2.1 s.2.2.1=false)
noncomputable instance (s x):Decidable (LvX s x):=Classical.propDecidable _
def v0u (t:Int):Prop:=0≤t∧t<35184372088832
instance (t):Decidable (v0u t):=by unfold v0u;infer_instance
def Clock (s:Sta):Prop:=v0u s.2.1∧(s.2.2.1 = -1∨v0u s.2.2.1)∧s.2.2.1≤s.2.1
instance (s):Decidable (Clock s):=by unfold Clock;infer_instance
def mk (s:Sta):Int:=s.2.1 / s.1.2.1.1*s.1.2.1.1
def Twin (s:Sta) (i:Nat) (x:Ser):Prop:=LvX s x∧∃k,k<i∧∃y,s.2.2.2[k]? = some y∧LvX s y∧y.1=x.1
noncomputable instance (s i x):Decidable (Twin s i x):=Classical.propDecidable _
def s0q (s:Sta) (i:Nat) (x:Ser):Prop:=x=ser0∨(SerOk s.1 x∧0≤x.2.1∧x.2.1<mk s+s.1.2.1.1∧¬Twin s i x)
noncomputable instance (s i x):Decidable (s0q s i x):=Classical.propDecidable _
structure StaOk (s:Sta):Prop where
 whole:Whole s
 clock:Clock s
 right:∀(i:Nat) x,s.2.2.2[i]? = some x→s0q s i x
noncomputable instance (s):Decidable (StaOk s):=Classical.propDecidable _
theorem Whole.len {s:Sta} (h:Whole s):s.2.2.2.length≤65536:=by
 have:=h.1.rng.cap;have:=h.2;omega
theorem u0f {α:Type} {l:List α} {i:Nat} {x:α} (h:l[i]? = some x):at? l (i:Int)=some x:=by
 unfold at?;rw[decide_eq_true (show (0:Int)≤(i:Int) by omega),Int.toNat_natCast];exact h
theorem StaW.at {s:Sta} (h:StaW s) {i:Nat} {x:Ser} (hx:s.2.2.2[i]? = some x):SerW x∧SerM x:=h.ser x (List.mem_of_getElem? hx)
theorem ser0_m:SerM ser0:=⟨by simp[ser0],by simp[ser0,r0w],by simp[ser0],by simp[ser0],by simp[ser0]⟩
theorem a2o (n:Nat) {x:Ser} (h:SerM x):w0l (n+4) x=some (decide (x=ser0)):=by
 have:=w1u n x ser0 h;rw[q1q];have e:l0q (n+3) x ([],((0:Int),(((0:Int),((0:Int),[])),(([],([],[])),((0:Int),z0)))))=some (decide (x=ser0)):=this
 change a0a (l0q (n+3) x ([],((0:Int),(((0:Int),((0:Int),[])),(([],([],[])),((0:Int),z0)))))) _=_
 rw[e];rfl
theorem j2m (n:Nat) {x:Ser} (h:SerM x):f1e (n+4) x=some (decide (x=ser0)):=by
 have:=r15_same n x ser0 h;rw[r1u];have e:x0f (n+3) x ([],((0:Int),(((0:Int),((0:Int),[])),(([],([],[])),((0:Int),z0)))))=some (decide (x=ser0)):=this
 change a0a (x0f (n+3) x ([],((0:Int),(((0:Int),((0:Int),[])),(([],([],[])),((0:Int),z0)))))) _=_
 rw[e];rfl
theorem w0m (n:Nat) {s:Sta} {i:Nat} {x:Ser} (hx:s.2.2.2[i]? = some x) (hm:SerM x):d0r (n+7) s (i:Int)=some (decide (LvX s x)):=by
 rw[z0k,u0f hx,obs,a2o (n+2) hm,obs,tfn,tfd,e1s n];by_cases h:x=ser0
 ·rw[if_pos h,decide_eq_false (fun k:LvX s x=>k.1 h)]
 rw[if_neg h,tfd];by_cases h1:s.2.2.1 = -1
 ·rw[if_pos h1,decide_eq_true (show LvX s x from ⟨h,.inl h1⟩)]
 ·rw[if_neg h1];cases hd:a1z s.1 x.2.1 s.2.2.1
  ·rw[decide_eq_true (show LvX s x from ⟨h,.inr hd⟩)];rfl
  ·rw[decide_eq_false (fun k:LvX s x=>by rcases k.2 with k | k;exact h1 k;rw[hd] at k;cases k)];rfl
theorem m1y (n:Nat) {s:Sta} {i:Nat} {x:Ser} (hx:s.2.2.2[i]? = some x) (hm:SerM x):f1d (n+6) s (i:Int)=some (decide (LvX s x)):=by
 rw[r1t,u0f hx,obs,j2m (n+1) hm,obs,tfn,tfd,obs,r15_dead n];by_cases h:x=ser0
 ·rw[if_pos h,decide_eq_false (fun k:LvX s x=>k.1 h)]
 rw[if_neg h,tfd];by_cases h1:s.2.2.1 = -1
 ·rw[if_pos h1,decide_eq_true (show LvX s x from ⟨h,.inl h1⟩)]
 ·rw[if_neg h1];cases hd:a1z s.1 x.2.1 s.2.2.1
  ·rw[decide_eq_true (show LvX s x from ⟨h,.inr hd⟩)];rfl
  ·rw[decide_eq_false (fun k:LvX s x=>by rcases k.2 with k | k;exact h1 k;rw[hd] at k;cases k)];rfl
theorem place_l (n:Nat) (is:(Int×Unit)→Option Bool) (p:Nat→Bool) (L:Nat) (hL:L≤1000000) (his:∀k:Nat,k<L→is ((k:Int),())=some (p k)):∀(d k f:Nat),k+d=L→d<f →
  (∃m:Nat,k≤m∧m<L∧p m=true∧(∀j,k≤j→j<m→p j=false)∧c0g n f (is,(L:Int),(k:Int),())=some (.inr (m:Int))) ∨
  ((∀j,k≤j→j<L→p j=false)∧c0g n f (is,(L:Int),(k:Int),())=some (.inl ())):=by
 intro d;induction d with
 | zero =>
  intro k f hk hf;obtain ⟨f,rfl⟩:∃g,f=g+1:=⟨f-1,by omega⟩;refine .inr ⟨fun j h1 h2=>by omega,?_⟩;rw[k0a,decide_eq_false (by omega),tff]
 | succ d ih =>
  intro k f hk hf;obtain ⟨f,rfl⟩:∃g,f=g+1:=⟨f-1,by omega⟩;rw[k0a,decide_eq_true (by omega),tft,his k (by omega),obs];cases hp:p k
  ·rw[tff,w64 (by omega) (by omega),show ((k:Int)+1)=((k+1:Nat):Int) by omega];rcases ih (k+1) f (by omega) (by omega) with ⟨m,h1,h2,h3,h4,h5⟩ | ⟨h1,h2⟩
   ·exact .inl ⟨m,by omega,h2,h3,fun j q1 q2=>by
     rcases Nat.lt_or_ge k j with q | q
     ·exact h4 j (by omega) q2
     ·rw[show j=k by omega];exact hp,h5⟩
   ·exact .inr ⟨fun j q1 q2=>by
     rcases Nat.lt_or_ge k j with q | q
     ·exact h1 j (by omega) q2
     ·rw[show j=k by omega];exact hp,h2⟩
  ·rw[tft];exact .inl ⟨k,Nat.le_refl _,by omega,hp,fun j q1 q2=>by omega,rfl⟩
theorem y0h (n:Nat) (s:Sta) (is:(Int×Unit)→Option Bool) (p:Nat→Bool) (hL:s.2.2.2.length≤1000000) (his:∀k:Nat,k<s.2.2.2.length→is ((k:Int),())=some (p k)) :
  (∃m:Nat,m<s.2.2.2.length∧p m=true∧(∀j,j<m→p j=false)∧d0q (n+1) s is=some (m:Int)) ∨
  ((∀j,j<s.2.2.2.length→p j=false)∧d0q (n+1) s is=some (-1)):=by
 rw[z0j];rcases place_l n is p _ hL his s.2.2.2.length 0 a0b (by omega) (by unfold a0b;omega) with ⟨m,h1,h2,h3,h4,h5⟩ | ⟨h1,h2⟩
 ·refine .inl ⟨m,h2,h3,fun j q=>h4 j (by omega) q,?_⟩;have h5':c0g n a0b (is,(s.2.2.2.length:Int),(0:Int),())=some (.inr (m:Int)):=h5;rw[h5'];rfl
 ·refine .inr ⟨fun j q=>h1 j (by omega) q,?_⟩;have h2':c0g n a0b (is,(s.2.2.2.length:Int),(0:Int),())=some (.inl ()):=h2;rw[h2'];rfl
theorem k1m (n:Nat) (a b:List Lab) (h:a.length≤9223372036854775807):o0q (n+2) a b=some (decide (a=b)):=by
 rw[y0c,o0x n a b h];rfl
def IsTw (s:Sta) (i k:Nat) (x:Ser):Prop:=k=i∨∃y,s.2.2.2[k]? = some y∧LvX s y∧y.1=x.1
noncomputable instance (s i k x):Decidable (IsTw s i k x):=Classical.propDecidable _
theorem st_twin (n:Nat) {s:Sta} (hw:StaW s) (hL:s.2.2.2.length≤1000000) {i:Nat} {x:Ser} (hx:s.2.2.2[i]? = some x):p0m (n+9) s (i:Int)=some (decide (Twin s i x)):=by
 have hil:i<s.2.2.2.length:=(List.getElem?_eq_some_iff.1 hx).1;have hm:=(hw.at hx).2;rw[c1e];have his:∀k:Nat,k<s.2.2.2.length→(fun y0:Int×Unit=>f0f (n+8) y0.1 (i:Int) s) ((k:Int),())=some (decide (IsTw s i k x)):=by
  intro k hk;have hy:s.2.2.2[k]? = some s.2.2.2[k]:=List.getElem?_eq_getElem hk;generalize s.2.2.2[k]=y at hy;have hmy:=(hw.at hy).2;show f0f (n+8) (k:Int) (i:Int) s=_;rw[w0j,tfd,w0m n hy hmy,obs,u0f hy,obs,u0f hx,obs,k1m (n+5) _ _ hmy.l,obs,tfd];by_cases h1:k=i
  ·rw[if_pos (by rw[h1]),decide_eq_true (show IsTw s i k x from .inl h1)]
  rw[if_neg (by omega)];by_cases h2:LvX s y
  ·rw[if_pos h2];refine congrArg some (decide_eq_decide.2 ⟨fun h3 => .inr ⟨y,hy,h2,h3⟩,fun h3 => ?_⟩);rcases h3 with h3 | ⟨z,z1,z2,z3⟩
   ·exact absurd h3 h1
   ·rw[hy] at z1;cases z1;exact z3
  ·rw[if_neg h2,decide_eq_false];rintro (h3 | ⟨z,z1,z2,z3⟩)
   ·exact h1 h3
   ·rw[hy] at z1;cases z1;exact h2 z2
 rcases y0h (n+7) s (fun y0:Int×Unit=>f0f (n+8) y0.1 (i:Int) s) (fun k=>decide (IsTw s i k x)) hL his with ⟨m,h1,h2,h3,h4⟩ | ⟨h1,h2⟩
 ·rw[h4,obs,tfd,w0m (n+1) hx hm];have h2:=of_decide_eq_true h2;have hmi:m≤i:=by
   rcases Nat.lt_or_ge i m with q | q
   ·have:=of_decide_eq_false (h3 i q);exact absurd (.inl rfl) this
   ·exact q
  by_cases q:m<i
  ·rw[if_pos (by omega),obs];refine congrArg some (decide_eq_decide.2 ⟨fun k=>⟨k,m,q,?_⟩,fun k=>k.1⟩);exact h2.resolve_left (by omega)
  ·rw[if_neg (by omega),decide_eq_false];rintro ⟨k1,k,k2,k3⟩;exact of_decide_eq_false (h3 k (by omega)) (.inr k3)
 ·exact absurd (.inl rfl) (of_decide_eq_false (h1 i hil))
theorem d1i {s:Sta} (h:v0u s.2.1) (hw:1≤s.1.2.1.1∧s.1.2.1.1≤1099511627776):0≤mk s∧mk s≤s.2.1∧s.2.1<mk s+s.1.2.1.1∧s.2.1-s.2.1 % s.1.2.1.1=mk s:=by
 have e:=Int.mul_ediv_add_emod s.2.1 s.1.2.1.1;have e1:=Int.emod_nonneg s.2.1 (show s.1.2.1.1≠0 by omega);have e2:=Int.emod_lt_of_pos s.2.1 (show 0<s.1.2.1.1 by omega);rw[Int.mul_comm] at e;have e3:0≤mk s:=Int.mul_nonneg (Int.ediv_nonneg h.1 (by omega)) (by omega);unfold mk at *
 exact ⟨e3,by omega,by omega,by omega⟩
theorem i2w (n:Nat) {s:Sta} (h:v0u s.2.1) (hw:1≤s.1.2.1.1∧s.1.2.1.1≤1099511627776):k0k (n+1) s=some (mk s):=by
 have:=d1i h hw;have:=h.1;have:=h.2;rw[c1f,tfd,if_neg (by omega),d0x h.1,w64 (by omega) (by omega),(d1i h hw).2.2.2]
theorem st_right (n:Nat) {s:Sta} (hw:StaW s) (hh:Whole s) (ht:v0u s.2.1) {i:Nat} {x:Ser} (hx:s.2.2.2[i]? = some x):m0z (n+12) s (i:Int)=some (decide (s0q s i x)):=by
 have hm:=hw.at hx;have hr:=hh.1.rng;have hL:=hh.len;have hmk:=d1i ht hr.w0;have ht1:=ht.1;have ht2:=ht.2;have hw0:=hr.w0;obtain ⟨m1,m2,m3,m4⟩:=hmk;rw[z0i,u0f hx,obs,a2o (n+7) hm.2,obs,tfd,r1c n s.1 hm.1,obs,i2w (n+10) ht hr.w0,obs,w64 (by omega) (by omega),st_twin (n+2) hw (by omega) hx,obs];simp only[tfd];by_cases h0:x=ser0
 ·rw[if_pos h0,decide_eq_true (show s0q s i x from .inl h0)]
 rw[if_neg h0];by_cases h1:SerOk s.1 x
 case neg=>rw[if_neg h1,if_neg (by decide),decide_eq_false (fun q:s0q s i x=>by rcases q with k | k;exact h0 k;exact h1 k.1)]
 rw[if_pos h1,if_pos rfl];by_cases h2:0≤x.2.1
 case neg=>rw[if_neg h2,decide_eq_false (fun q:s0q s i x=>by rcases q with k | k;exact h0 k;exact h2 k.2.1)]
 rw[if_pos h2];by_cases h3:x.2.1<mk s+s.1.2.1.1
 case neg=>rw[if_neg h3,decide_eq_false (fun q:s0q s i x=>by rcases q with k | k;exact h0 k;exact h3 k.2.2.1)]
 rw[if_pos h3];by_cases h4:Twin s i x
 ·rw[decide_eq_true h4,decide_eq_false (fun q:s0q s i x=>by rcases q with k | k;exact h0 k;exact k.2.2.2 h4)];rfl
 ·rw[decide_eq_false h4,decide_eq_true (show s0q s i x from .inr ⟨h1,h2,h3,h4⟩)];rfl
def sta0:Sta:=(((0:Int),(((0:Int),((0:Int),(0:Int))),(((0:Int),((0:Int),(0:Int))),((0:Int),(0:Int))))),((0:Int),((0:Int),[])))
theorem e1m (n:Nat) (s:Sta):p0n (n+4) s=some (if Whole s then (s,0) else (sta0,2)):=by
 rw[w1f,o0z n s.1,obs,tfn,tfd,tfn,tfd];by_cases h:OkC s.1
 case neg=>rw[if_neg h,if_neg (show ¬((2:Int)=0) by decide),if_neg (fun k:Whole s=>h k.1)];rfl
 rw[if_pos h,if_pos rfl];by_cases h1:(s.2.2.2.length:Int)=s.1.2.2.2.1
 ·rw[if_pos h1,if_pos (show Whole s from ⟨h,h1⟩)]
 ·rw[if_neg h1,if_neg (fun k:Whole s=>h1 k.2)];rfl
theorem w1l (n:Nat) (t:Int):w0k (n+1) t=some (decide (v0u t)):=by
 rw[w1e,tfd];by_cases h:0≤t
 ·rw[if_pos h];exact congrArg some (decide_eq_decide.2 ⟨fun k=>⟨h,k⟩,fun k=>k.2⟩)
 ·rw[if_neg h,decide_eq_false (fun k:v0u t=>h k.1)]
theorem st_clock (n:Nat) (s:Sta):n0e (n+2) s=some (decide (Clock s)):=by
 rw[z0l,w1l n,w1l n,obs,obs];simp only[tfd];by_cases h:v0u s.2.1
 case neg=>rw[if_neg h,decide_eq_false (fun k:Clock s=>h k.1)]
 rw[if_pos h];by_cases h1:s.2.2.1 = -1
 ·rw[if_pos h1];exact congrArg some (decide_eq_decide.2 ⟨fun k=>⟨h,.inl h1,k⟩,fun k=>k.2.2⟩)
 rw[if_neg h1];by_cases h2:v0u s.2.2.1
 ·rw[if_pos h2];exact congrArg some (decide_eq_decide.2 ⟨fun k=>⟨h,.inr h2,k⟩,fun k=>k.2.2⟩)
 ·rw[if_neg h2,decide_eq_false (fun k:Clock s=>by rcases k.2.1 with q | q;exact h1 q;exact h2 q)]
def Wrong (s:Sta) (k:Nat):Prop:=∃x,s.2.2.2[k]? = some x∧¬s0q s k x
noncomputable instance (s k):Decidable (Wrong s k):=Classical.propDecidable _
theorem h0m (n:Nat) {s:Sta} (hw:StaW s):f0g (n+14) s=some (if StaOk s then 0 else 2):=by
 rw[q1r,e1m (n+9) s,obs,tfn,tfd];by_cases h:Whole s
 case neg=>rw[if_neg h,if_neg (show ¬((sta0,(2:Int)).2=0) by decide),if_neg (fun k:StaOk s=>h k.whole)]
 rw[if_pos h,if_pos rfl,st_clock (n+11) s,obs,tfn,tfd];by_cases h1:Clock s
 case neg=>rw[if_neg h1,if_neg (fun k:StaOk s=>h1 k.clock)]
 rw[if_pos h1];have hL:=h.len;have his:∀k:Nat,k<s.2.2.2.length→(fun y2:Int×Unit=>e0h (n+13) y2.1 s) ((k:Int),())=some (decide (Wrong s k)):=by
  intro k hk;have hy:s.2.2.2[k]? = some s.2.2.2[k]:=List.getElem?_eq_getElem hk;generalize s.2.2.2[k]=y at hy;show e0h (n+13) (k:Int) s=_;rw[i1d,st_right n hw h h1.1 hy,obs];by_cases q:s0q s k y
  ·rw[decide_eq_true q,decide_eq_false (fun z:Wrong s k=>by obtain ⟨x,x1,x2⟩:=z;rw[hy] at x1;cases x1;exact x2 q)];rfl
  ·rw[decide_eq_false q,decide_eq_true (show Wrong s k from ⟨y,hy,q⟩)];rfl
 rcases y0h (n+12) s (fun y2:Int×Unit=>e0h (n+13) y2.1 s) (fun k=>decide (Wrong s k)) (by omega) his with ⟨m,q1,q2,q3,q4⟩ | ⟨q1,q2⟩
 ·rw[show (fun y2:Int×Unit=>e0h (n+13) y2.1 (s,(0:Int)).1)=fun y2:Int×Unit=>e0h (n+13) y2.1 s from rfl];obtain ⟨x,x1,x2⟩:=of_decide_eq_true q2;rw[q4,obs,tfd,if_pos (by omega),if_neg (fun k:StaOk s=>x2 (k.right m x x1))]
 ·rw[show (fun y2:Int×Unit=>e0h (n+13) y2.1 (s,(0:Int)).1)=fun y2:Int×Unit=>e0h (n+13) y2.1 s from rfl];rw[q2,obs,tfd,if_neg (by decide),if_pos];refine ⟨h,h1,fun i x hx => ?_⟩;have:=of_decide_eq_false (q1 i (List.getElem?_eq_some_iff.1 hx).1);exact Decidable.byContradiction fun k=>this ⟨x,hx,k⟩
theorem m1x (n:Nat) (s:Sta):f1c (n+4) s=some (decide (Whole s)):=by
 rw[r1s,r0t n s.1,obs,tfd];by_cases h:OkC s.1
 case neg=>rw[if_neg h,if_neg (show ¬((2:Int)=0) by decide),decide_eq_false (fun k:Whole s=>h k.1)]
 rw[if_pos h,if_pos rfl];exact congrArg some (decide_eq_decide.2 ⟨fun k=>⟨h,k⟩,fun k=>k.2⟩)
end Go.Proofs.YtgkpkajaepphjaaGreatDoor
namespace Go.Proofs.YtgkpkajaepphjaaGreatDoor
open Go.Flat Go.Plim
set_option linter.unusedVariables false
def s0r (c:Conf) (s:Trs) (o:Slo) (l:List Ev):Prop :=
 (l=[]∧o=s0∧∀t,FInv c s [] t)∨∃t,EndsAt l t∧FInv c s l t∧o=(t / c.2.1.1,cellOf (win c.2.1.1 l (t / c.2.1.1)))
theorem emp_inv {c:Conf} (h:OkC c):s0r c (emp c) s0 []:=by
 have hr:=h.rng;have n0:=hr.n0;have n1:=hr.n1;have n2:=hr.n2;refine .inl ⟨rfl,rfl,fun t => ?_⟩;have e:emp c=(List.replicate c.2.2.1.1.toNat s0,(List.replicate c.2.2.1.2.1.toNat s0,List.replicate c.2.2.1.2.2.toNat s0)):=if_pos h;have i0:TierInv (List.replicate c.2.2.1.1.toNat s0) c.2.1.1 []:=v0f (by omega) (by omega) hr.w0.1 hr.w0.2;have i1:TierInv (List.replicate c.2.2.1.2.1.toNat s0) c.2.1.2.1 []:=v0f (by omega) (by omega) hr.w1.1 hr.w1.2;have i2:TierInv (List.replicate c.2.2.1.2.2.toNat s0) c.2.1.2.2 []:=v0f (by omega) (by omega) hr.w2.1 hr.w2.2;rw[e]
 exact ⟨⟨h,by simp;omega,by simp;omega,by simp;omega,i0.ok,i1.ok,i2.ok⟩,i0,i1,i2⟩
theorem s0r.fold {c:Conf} {s:Trs} {o:Slo} {l:List Ev} (h:s0r c s o l):FoldOk c s:=by
 rcases h with ⟨_,_,h⟩ | ⟨t,_,h,_⟩
 ·exact (h 0).ok
 ·exact h.ok
theorem y0k {l:List Ev} {e:Ev} (h:Foll (l++[e])):EndsAt (l++[e]) e.1 :=
 ⟨h,fun x hx=>by
  rcases List.mem_append.1 hx with hx | hx
  ·have:=(b0c.1 h).2.2 x hx e (by simp);omega
  ·simp at hx;rw[hx];exact Int.le_refl _,⟨e,by simp,rfl⟩⟩
theorem u1i {e:Ev} (h:EvOk e) {w:Int} (hw:1≤w):h0e w (e.1 / w):=k1y hw ⟨h.t0,by have:=h.t1;omega⟩
def Turn (o:Slo) (i:Int):Prop:=0<o.2.1∧o.1≠i
theorem t1f {c:Conf} {s:Trs} {o:Slo} {l:List Ev} {e:Ev} (h:s0r c s o l) (hf:Foll (l++[e])) (ht:Turn o (e.1 / c.2.1.1)) :
  ∃s',k0g c s o (e.1 / c.2.1.1)=(s',0)∧mrgE z0 (c0e e)=(c0e e,0)∧s0r c s' (e.1 / c.2.1.1,c0e e) (l++[e]):=by
 rcases h with ⟨_,ho,_⟩ | ⟨t,he,hi,ho⟩
 ·have:=ht.1;rw[ho] at this;simp[s0,z0] at this
 have hr:=hi.ok.cok.rng;have hoe:=hf.ok e (by simp);have o1:o.1=t / c.2.1.1:=by rw[ho]
 have o2:o.2=cellOf (win c.2.1.1 l (t / c.2.1.1)):=by rw[ho]
 have hne:t / c.2.1.1≠e.1 / c.2.1.1:=by rw[←o1];exact ht.2
 obtain ⟨x,hx,hxt⟩:=he.last;have htu:t<e.1:=by have:=(b0c.1 hf).2.2 x hx e (by simp);omega
 obtain ⟨hfit,hfi⟩:=g2r hi he htu hne;have hle:t / c.2.1.1≤e.1 / c.2.1.1:=Int.ediv_le_ediv (by have:=hr.w0;omega) (by omega);refine ⟨_,?_,y1s (i0d hoe).ok,.inr ⟨e.1,y0k hf,u1f hfi,?_⟩⟩
 ·unfold k0g;rw[if_pos hi.ok,if_neg (fun k:o=s0=>by have:=ht.1;rw[k] at this;simp[s0,z0] at this),o1,o2,if_pos hfit,if_neg hne,if_pos ⟨hle,u1i hoe hr.w0.1⟩]
 ·rw[win_snoc,if_pos rfl];have:win c.2.1.1 l (e.1 / c.2.1.1)=[]:=by
   unfold win;rw[List.filter_eq_nil_iff];intro y hy;have:=he.wle hr.w0.1 y hy;simp;omega
  rw[this,List.nil_append,l0a]
theorem t1g {c:Conf} {s:Trs} {o:Slo} {l:List Ev} {e:Ev} (h:s0r c s o l) (hf:Foll (l++[e])) (ht:¬Turn o (e.1 / c.2.1.1)) :
  b0d o.2∧(mrgE o.2 (c0e e)).2=0∧s0r c s (e.1 / c.2.1.1,(mrgE o.2 (c0e e)).1) (l++[e]):=by
 have hoe:=hf.ok e (by simp);rcases h with ⟨hl,ho,hi⟩ | ⟨t,he,hi,ho⟩
 ·subst hl;have e2:o.2=z0:=by rw[ho];rfl
  rw[e2,y1s (i0d hoe).ok];refine ⟨i0i,rfl,.inr ⟨e.1,y0k hf,u1f (hi e.1),?_⟩⟩;rw[win_snoc,if_pos rfl];have:win c.2.1.1 [] (e.1 / c.2.1.1)=[]:=rfl;rw[this,List.nil_append,l0a]
 ·have hr:=hi.ok.cok.rng;have o1:o.1=t / c.2.1.1:=by rw[ho]
  have o2:o.2=cellOf (win c.2.1.1 l (t / c.2.1.1)):=by rw[ho]
  obtain ⟨hf0,_⟩:=h0h he hi.i0;have hw:t / c.2.1.1=e.1 / c.2.1.1:=by
   by_cases k:o.1=e.1 / c.2.1.1
   ·rw[←o1];exact k
   ·exact absurd ⟨by rw[o2];have:=hf0.n.n1;omega,k⟩ ht
  have hwf:Foll (win c.2.1.1 l (e.1 / c.2.1.1)++[e]):=by
   have:=v0x (w:=c.2.1.1) hf (e.1 / c.2.1.1)
   rwa [win_snoc,if_pos rfl] at this
  have hm:=(k2x (b0c.1 hwf).1 hoe).1 hwf;rw[o2,hw,hm];refine ⟨j0r (b0c.1 hwf).1,rfl,.inr ⟨e.1,y0k hf,m2d hi hw,?_⟩⟩;rw[win_snoc,if_pos rfl]
end Go.Proofs.YtgkpkajaepphjaaGreatDoor
namespace Go.Proofs.YtgkpkajaepphjaaGreatDoor
open Go.Flat Go.Plim
set_option linter.unusedVariables false
set_option linter.unusedSimpArgs false
def q0u (room:Int) (l:List Ev):Rw :=
 (if (l.length:Int)≤room then 0 else (l.length:Int)-room,(if (l.length:Int)≤room then 0 else ((l[l.length-room.toNat-1]?).getD e0).1,l.drop (l.length-room.toNat)))
theorem r1o {room:Int} (h:1≤room) (l:List Ev):((q0u room l).2.2.length:Int)=if (l.length:Int)≤room then (l.length:Int) else room:=by
 simp only[q0u,List.length_drop];split<;>omega
theorem e2s {room:Int} (h:1≤room) (l:List Ev) (e:Ev):l0u (q0u room l) room e=q0u room (l++[e]):=by
 have hlen:=r1o h l;unfold l0u;by_cases h1:(l.length:Int)<room
 ·rw[if_pos (Int.le_of_lt h1)] at hlen;rw[if_pos (by omega)];simp only[q0u,List.length_append,List.length_cons,List.length_nil];rw[if_pos (Int.le_of_lt h1),if_pos (Int.le_of_lt h1),if_pos (by omega),if_pos (by omega),show l.length-room.toNat=0 by omega,show l.length+(0+1)-room.toNat=0 by omega];rfl
 ·rw[if_neg (by rw[hlen];split<;>omega)];obtain ⟨d,hd⟩:∃d,d=l.length-room.toNat:=⟨_,rfl⟩;have hdl:d<l.length:=by omega
  have e1:(l++[e]).length-room.toNat=d+1:=by simp;omega
  have e2:¬(((l++[e]).length:Nat):Int)≤room:=by simp;omega
  unfold q0u;rw[if_neg e2,if_neg e2,e1,show d+1-1=d by omega,←hd,List.getElem?_append_left hdl,List.drop_append_of_le_length (by omega)];simp only[List.drop_drop,List.headD_eq_head?_getD,List.head?_drop];refine Prod.ext ?_ rfl;simp only[List.length_append,List.length_cons,List.length_nil];split<;>omega
theorem k1c {room:Int} (h:1≤room) (l:List Ev):(q0u room l).2.2.getLast? = l.getLast? := by
 simp only[q0u,List.getLast?_drop];by_cases h0:l=[]
 ·subst h0;simp
 ·have:0<l.length:=List.length_pos_iff.2 h0;rw[if_neg (by omega)]
theorem rawOf_ok {room:Int} (h:1≤room∧room≤4096) {l:List Ev} (hl:Foll l) (hL:l.length≤1000000):RawOk (q0u room l) room:=by
 have hlen:=r1o h.1 l;refine ⟨h.1,h.2,by rw[hlen];split<;>omega,?_,?_,?_,?_,?_⟩
 ·simp only[q0u];split<;>omega
 ·simp only[q0u];split<;>omega
 ·exact hl.sub (List.drop_sublist _ _)
 ·simp only[q0u];intro k;split
  ·rfl
  ·rename_i h1;rw[if_neg h1] at k;omega
 ·intro k;simp only[q0u] at k hlen ⊢;by_cases h1:(l.length:Int)≤room
  ·rw[if_pos h1] at k;exact absurd rfl k
  rw[if_neg h1] at hlen ⊢;obtain ⟨d,hd⟩:∃d,l.length-room.toNat=d+1:=⟨l.length-room.toNat-1,by omega⟩;rw[hd,show d+1-1=d by omega];have hdl:d<l.length:=by omega
  have hdl':d+1<l.length:=by omega
  rw[List.getElem?_eq_getElem hdl];refine ⟨by rw[←hlen,hd],((hl.ok _ (List.getElem_mem hdl)).t0),fun x hx => ?_⟩;rw[List.head?_drop,List.getElem?_eq_getElem hdl'] at hx;have:=List.pairwise_iff_getElem.1 hl.inc d (d+1) hdl hdl' (by omega);simp at hx;rw[←hx];exact this
structure SerInv (c:Conf) (s:Ser) (l:List Ev):Prop where
 lab:LabOk s.1
 len:l.length≤1000000
 raw:s.2.2.1=q0u c.1 l
 opn:s0r c s.2.2.2.1 s.2.2.2.2 l
 last:(l=[]∧s.2.1 = -1)∨EndsAt l s.2.1
theorem SerInv.foll {c:Conf} {s:Ser} {l:List Ev} (h:SerInv c s l):Foll l:=by
 rcases h.last with ⟨rfl,_⟩ | h
 ·exact Foll.nil
 ·exact h.foll
theorem m0u {l:List Ev} {t:Int} (h:EndsAt l t):∃e,l.getLast? = some e∧e.1=t:=by
 obtain ⟨x,hx,hxt⟩:=h.last;rcases List.eq_nil_or_concat l with rfl | ⟨p,y,rfl⟩
 ·cases hx
 rw[List.concat_eq_append] at *
 have h1:=h.le y (by simp);refine ⟨y,by simp,?_⟩;rcases List.mem_append.1 hx with q | q
 ·have:=(b0c.1 h.foll).2.2 x q y (by simp);omega
 ·simp at q;rw[←q];exact hxt
theorem m2u {l:List Ev} {t u:Int} (h:EndsAt l t) (k:EndsAt l u):t=u:=by
 obtain ⟨e,h1,h2⟩:=m0u h;obtain ⟨e',k1,k2⟩:=m0u k;rw[h1] at k1;simp at k1;rw[←h2,←k2,k1]
theorem m2v {l:List Ev} {t:Int} (h:EndsAt l t):l≠[]:=by
 obtain ⟨x,hx,_⟩:=h.last;exact List.ne_nil_of_mem hx
theorem SerInv.at_ {c:Conf} {s:Ser} {l:List Ev} (h:SerInv c s l) (hl:l≠[]):EndsAt l s.2.1∧FInv c s.2.2.2.1 l s.2.1∧s.2.2.2.2=(s.2.1 / c.2.1.1,cellOf (win c.2.1.1 l (s.2.1 / c.2.1.1))):=by
 have he:=h.last.resolve_left fun k=>hl k.1
 rcases h.opn with k | ⟨t,k1,k2,k3⟩
 ·exact absurd k.1 hl
 ·have:=m2u he k1;subst this;exact ⟨he,k2,k3⟩
theorem e1e {t:List Slo} {w:Int} (h:TierInv t w []):tall t=[]:=by
 cases hc:tall t with
 | nil=>rfl
 | cons x r =>
  have hx:x∈tall t:=by rw[hc];simp
  have h1:=h.cells x hx;have:=(d0y h.ok hx).1.n.n1;rw[h1] at this;simp[win,cellOf,z0] at this
theorem s0o {t:List Slo} {w u:Int} {l:List Ev} (h:TierInv t w (below w l u)) (hl:Foll l):a0k t (u / w):=by
 rw[e0e h.ok];intro x hx;have h1:=h.cells x hx;have hn:=(d0y h.ok hx).1.n;have hne:win w (below w l u) x.1≠[]:=fun k=>by
  rw[k] at h1;exact hn.ne h1
 obtain ⟨e,he⟩:=List.exists_mem_of_ne_nil _ hne;obtain ⟨k1,k2⟩:=a1m.1 he;have:=of_decide_eq_true (List.mem_filter.1 k1).2;omega
theorem u1x {w T:Int} {l:List Ev} (he:EndsAt l T):(cellOf (win w l (T / w))).2.2.1.1=T:=by
 obtain ⟨x,hx,hxt⟩:=he.last;have hm:x∈win w l (T / w):=a1m.2 ⟨hx,by rw[hxt]⟩;have hw:=v0x (w:=w) he.foll (T / w);have hh:=y0s hw (List.ne_nil_of_mem hm);have ew:EndsAt (win w l (T / w)) T:=⟨hw,fun y hy=>he.le y (a1m.1 hy).1,x,hm,hxt⟩;obtain ⟨e,k1,k2⟩:=m0u ew;have:=hh.last;rw[k1] at this;simp at this;rw[←this,k2]
theorem j0m {c:Conf} {s:Ser} {l:List Ev} (h:SerInv c s l):SerOk c s:=by
 have hf:=h.opn.fold;have hr:=hf.cok.rng;have hraw:RawOk s.2.2.1 c.1:=by rw[h.raw];exact rawOf_ok hr.raw h.foll h.len
 refine ⟨hf,h.lab,hraw,?_⟩;by_cases hl:l=[]
 ·subst hl;refine .inl ?_;have hlast:=h.last.resolve_right fun k=>m2v k rfl
  rcases h.opn with ⟨_,k1,k2⟩ | ⟨t,k1,_⟩
  ·have:=k2 0;exact ⟨hlast.2,by rw[h.raw];simp[q0u],k1,(o0m this.ok.t0).2 (e1e this.i0),(o0m this.ok.t1).2 (e1e this.i1),(o0m this.ok.t2).2 (e1e this.i2)⟩
  ·exact absurd rfl (m2v k1)
 ·obtain ⟨he,hi,ho⟩:=h.at_ hl;obtain ⟨x,hx,hxt⟩:=he.last;have:=(he.foll.ok x hx).t0;refine .inr ⟨by omega,?_,?_,?_,s0o hi.i0 he.foll,s0o hi.i1 he.foll,s0o hi.i2 he.foll⟩
  ·rw[h.raw,k1c hr.raw.1];exact m0u he
  ·rw[ho];exact u1x he
  ·rw[ho];exact (h0h he hi.i0).1
theorem serInv_w {c:Conf} {s:Ser} {l:List Ev} (h:SerInv c s l):SerW s:=by
 have hok:=j0m h;refine ⟨?_,fun e he=>EvW.of (hok.raw.f.ok e he),hok.fold.w,?_⟩
 ·by_cases hn:s.2.1 = -1
  ·rw[hn];unfold I64;omega
  ·have:=f0w hok hn;unfold I64;omega
 ·rcases h.opn with ⟨_,k,_⟩ | ⟨t,he,hi,ho⟩
  ·rw[k];exact z0n
  ·obtain ⟨x,hx,hxt⟩:=he.last;have hxo:=he.foll.ok x hx;have:=s1s hxo hi.ok.cok.rng.w0.1;rw[hxt] at this;rw[ho];exact ⟨by unfold I64;simp only;omega,.of (j0r (v0x he.foll _))⟩
theorem w1w {c:Conf} {s:Ser} {l:List Ev} {e:Ev} (h:SerInv c s l) (hf:Foll (l++[e])) (hL:l.length<1000000):∃s',putE c s e=(s',0)∧SerInv c s' (l++[e]):=by
 have hok:=j0m h;have hr:=hok.fold.cok.rng;have hoe:=hf.ok e (by simp);have hlt:s.2.1<e.1:=by
  rcases h.last with ⟨_,k⟩ | k
  ·have:=hoe.t0;omega
  ·obtain ⟨x,hx,hxt⟩:=k.last;have:=(b0c.1 hf).2.2 x hx e (by simp);omega
 have hraw:m0o s.2.2.1 c.1 e=(q0u c.1 (l++[e]),0):=by
  unfold m0o;rw[if_pos ⟨hok.raw,hoe⟩,if_pos,if_neg,h.raw,e2s hr.raw.1]
  ·rw[h.raw];intro k;have:=k.2;simp only[q0u] at this;split at this<;>omega
  ·intro q hq;rw[h.raw,k1c hr.raw.1] at hq;exact (b0c.1 hf).2.2 q (List.mem_of_getLast? hq) e (by simp)
 have hT:y0x s (e.1 / c.2.1.1)↔Turn s.2.2.2.2 (e.1 / c.2.1.1):=by
  unfold y0x Turn;have h0:0≤s.2.2.2.2.2.1:=by
   rcases h.opn with ⟨_,k,_⟩ | ⟨t,he,hi,ho⟩
   ·rw[k];decide
   ·rw[ho];exact (j0r (v0x he.foll _)).count.2
  refine ⟨fun ⟨k1,k2⟩=>⟨?_,k2⟩,fun ⟨k1,k2⟩=>⟨fun k => ?_,k2⟩⟩
  ·have:s.2.2.2.2.2.1≠0:=fun k=>k1 ((x0v hok).1 k)
   omega
  ·have:=(x0v hok).2 k;omega
 have hend:EndsAt (l++[e]) e.1:=y0k hf;have hlen:(l++[e]).length≤1000000:=by simp;omega
 unfold putE;rw[if_pos ⟨hok,hoe⟩,if_neg (by omega),hraw];by_cases ht:Turn s.2.2.2.2 (e.1 / c.2.1.1)
 ·obtain ⟨s',h1,h2,h3⟩:=t1f h.opn hf ht;have htd:turned c s (e.1 / c.2.1.1)=((s',s0),0):=by
   unfold turned;rw[if_pos (hT.2 ht),h1,if_pos rfl]
  have h2':mrgE s0.2 (c0e e)=(c0e e,0):=h2;rw[htd,if_neg (nn rfl),if_neg (nn rfl),h2',if_neg (nn rfl)];exact ⟨_,rfl,h.lab,hlen,rfl,h3,.inr hend⟩
 ·obtain ⟨h1,h2,h3⟩:=t1g h.opn hf ht;have htd:turned c s (e.1 / c.2.1.1)=((s.2.2.2.1,s.2.2.2.2),0):=by
   unfold turned;rw[if_neg (fun k=>ht (hT.1 k))]
  rw[htd,if_neg (nn rfl),if_neg (nn rfl),if_neg (nn h2)];exact ⟨_,rfl,h.lab,hlen,rfl,h3,.inr hend⟩
theorem k1h {t:List Slo} {w T i j:Int} {l:List Ev} (h:TierInv t w (below w l T)) (he:EndsAt l T) (h0:0≤i) (hi:i≤T / w) (hj:T / w≤j) (hk:T / w≤i+(t.length:Int)) :
  mrgE (tfold t i j).1 (cellOf (win w l (T / w)))=(cellOf (rng w l i (T / w+1)),0):=by
 have hw:=h.ok.w0;have hb:=l1c (w:=w) he.foll T;rw[m0j h hb h0 (by omega) (fun e hel=>by have:=of_decide_eq_true (List.mem_filter.1 hel).2;omega)];have e1:rng w (below w l T) i j=rng w l i (T / w):=by
  unfold rng below;rw[List.filter_filter];refine List.filter_congr fun e hel => ?_
  rw[Bool.eq_iff_iff];simp;omega
 have e2:win w l (T / w)=rng w l (T / w) (T / w+1):=h2q w l _;rw[e1,e2];have hs:=x0b hw he.foll (i:=i) (a:=T / w) (k:=T / w+1) hi (by omega);rw[hs];exact g1d (by rw[←hs];exact a2q he.foll _ _)
theorem j2j {w T i j:Int} {l:List Ev} (he:EndsAt l T) (hw:1≤w) (hj:T / w<j):rng w l i j=rng w l i (T / w+1):=by
 unfold rng;refine List.filter_congr fun e hel => ?_
 have:=he.wle hw e hel;rw[Bool.eq_iff_iff];simp;omega
theorem e1y {t:List Slo} {w T i j:Int} {l:List Ev} {ok:Prop} [Decidable ok] (hok:ok) (h:TierInv t w (below w l T)) (he:EndsAt l T) (h0:0≤i) (hij:i≤j) (hk:T / w<i+(t.length:Int)) :
  b0r ok i j T w t (cellOf (win w l (T / w)),0)=(cellOf (rng w l i j),0):=by
 have hw:=h.ok.w0;have hb:=l1c (w:=w) he.foll T;obtain ⟨x,hx,hxt⟩:=he.last;have hx0:=(he.foll.ok x hx).t0;unfold b0r;rw[if_pos hok,if_neg (by omega),if_neg (by omega),if_neg (by omega)];have hfold:=m0j h hb h0 hij (fun e hel=>by have:=of_decide_eq_true (List.mem_filter.1 hel).2;omega);by_cases h1:T / w<i
 ·rw[if_pos h1,hfold];have e1:rng w (below w l T) i j=[]:=r0j fun e hel=>by have:=of_decide_eq_true (List.mem_filter.1 hel).2;omega
  have e2:rng w l i j=[]:=r0j fun e hel=>by have:=he.wle hw e hel;omega
  rw[e1,e2]
 rw[if_neg h1];by_cases h2:j≤T / w
 ·rw[if_pos h2,hfold];have e1:rng w (below w l T) i j=rng w l i j:=by
   unfold rng below;rw[List.filter_filter];refine List.filter_congr fun e hel => ?_
   rw[Bool.eq_iff_iff];simp;omega
  rw[e1]
 rw[if_neg h2,if_neg (nn rfl),k1h h he h0 (by omega) (by omega) (by omega),j2j (j:=j) he hw (by omega)]
theorem f0z {a b:Int} (ha:1≤a) (hb:1≤b) (hm:b % a=0):0<b / a:=by
 rcases Int.lt_or_le 0 (b / a) with z | z
 ·exact z
 ·exfalso;have e:a*(b / a)=b:=by have:=Int.mul_ediv_add_emod b a;omega
  have:a*(b / a)≤a*0:=Int.mul_le_mul_of_nonneg_left z (by omega);omega
theorem k2j {t:List Slo} {a b T:Int} {l:List Ev} (h:TierInv t a (below a l T)) (he:EndsAt l T) (ha:1≤a) (hb:1≤b) (hm:b % a=0) (hd:b / a≤(t.length:Int)) :
  mrgE (tfold t (T / b*(b / a)) (T / a)).1 (cellOf (win a l (T / a)))=(cellOf (win b l (T / b)),0):=by
 obtain ⟨x,hx,hxt⟩:=he.last;have hx0:=(he.foll.ok x hx).t0;have hp:=f0z ha hb hm;have q:=(edvm (t:=T) ha hb hm).2;have hT:0≤T / b:=Int.ediv_nonneg (by omega) (by omega);have u1:T / a<T / b*(b / a)+b / a:=by
  rw[←q];have:=Int.lt_ediv_add_one_mul_self (T / a) hp;rw[Int.add_mul,Int.one_mul] at this;exact this
 have u0:T / b*(b / a)≤T / a:=by
  rw[←q];exact Int.ediv_mul_le _ (by omega)
 rw[k1h h he (Int.mul_nonneg hT (by omega)) u0 (Int.le_refl _) (by omega)];rw[←j2j (j:=(T / b+1)*(b / a)) he ha (by rw[Int.add_mul,Int.one_mul];exact u1),y0z ha hb hm]
theorem b2j {c:Conf} {s:Ser} {l:List Ev} (h:SerInv c s l) (hl:l≠[]):now1 c s=(cellOf (win c.2.1.2.1 l (s.2.1 / c.2.1.2.1)),0):=by
 obtain ⟨he,hi,ho⟩:=h.at_ hl;have hr:=hi.ok.cok.rng;unfold now1;rw[ho];exact k2j hi.i0 he hr.w0.1 hr.w1.1 hi.ok.cok.m1 (by rw[hi.ok.n0];exact hi.ok.cok.d1)
theorem now2_val {c:Conf} {s:Ser} {l:List Ev} (h:SerInv c s l) (hl:l≠[]):now2 c s=(cellOf (win c.2.1.2.2 l (s.2.1 / c.2.1.2.2)),0):=by
 obtain ⟨he,hi,ho⟩:=h.at_ hl;have hr:=hi.ok.cok.rng;unfold now2;rw[b2j h hl,if_neg (nn rfl)];exact k2j hi.i1 he hr.w1.1 hr.w2.1 hi.ok.cok.m2 (by rw[hi.ok.n1];exact hi.ok.cok.d2)
theorem g2i {c:Conf} {s:Ser} {l:List Ev} (h:SerInv c s l) (hl:l≠[]) {i j:Int} (h0:0≤i) (hij:i≤j) (hk:s.2.1 / c.2.1.1<i+c.2.2.1.1) :
  b0r (SerOk c s) i j s.2.1 c.2.1.1 s.2.2.2.1.1 (s.2.2.2.2.2,0)=(cellOf (rng c.2.1.1 l i j),0):=by
 obtain ⟨he,hi,ho⟩:=h.at_ hl;rw[ho];exact e1y (j0m h) hi.i0 he h0 hij (by rw[hi.ok.n0];exact hk)
theorem g2h {c:Conf} {s:Ser} {l:List Ev} (h:SerInv c s l) (hl:l≠[]) {i j:Int} (h0:0≤i) (hij:i≤j) (hk:s.2.1 / c.2.1.2.1<i+c.2.2.1.2.1) :
  b0r (SerOk c s) i j s.2.1 c.2.1.2.1 s.2.2.2.1.2.1 (now1 c s)=(cellOf (rng c.2.1.2.1 l i j),0):=by
 obtain ⟨he,hi,ho⟩:=h.at_ hl;rw[b2j h hl];exact e1y (j0m h) hi.i1 he h0 hij (by rw[hi.ok.n1];exact hk)
theorem g2g {c:Conf} {s:Ser} {l:List Ev} (h:SerInv c s l) (hl:l≠[]) {i j:Int} (h0:0≤i) (hij:i≤j) (hk:s.2.1 / c.2.1.2.2<i+c.2.2.1.2.2) :
  b0r (SerOk c s) i j s.2.1 c.2.1.2.2 s.2.2.2.1.2.2 (now2 c s)=(cellOf (rng c.2.1.2.2 l i j),0):=by
 obtain ⟨he,hi,ho⟩:=h.at_ hl;rw[now2_val h hl];exact e1y (j0m h) hi.i2 he h0 hij (by rw[hi.ok.n2];exact hk)
theorem y1q {c:Conf} {l:List Lab} (h:OkC c) (hl:LabOk l):SerInv c (l,(-1,(r0w,(emp c,s0)))) [] :=
 ⟨hl,by simp,by have:=h.rng.raw;simp[q0u,r0w];omega,emp_inv h,.inl ⟨rfl,rfl⟩⟩
noncomputable def i0x (s:Sta) (l:List Lab):Option Nat:=s.2.2.2.findIdx? fun x=>decide (x.1=l∧LvX s x)
noncomputable def v0l (s:Sta):Option Nat:=s.2.2.2.findIdx? fun x=>decide (¬LvX s x)
noncomputable def lvAt (s:Sta) (i:Nat):Bool:=match s.2.2.2[i]? with | some x=>decide (LvX s x) | none=>false
noncomputable def o0o (s:Sta):List Nat:=(List.range s.2.2.2.length).filter (lvAt s)
theorem o0v {s:Sta} {l:List Lab} {i:Nat}:i0x s l=some i↔∃x,s.2.2.2[i]? = some x∧x.1=l∧LvX s x∧∀j,j<i→∀y,s.2.2.2[j]? = some y→¬(y.1=l∧LvX s y):=by
 unfold i0x;rw[List.findIdx?_eq_some_iff_getElem];constructor
 ·rintro ⟨h,h1,h2⟩;have h1:=of_decide_eq_true h1;refine ⟨_,List.getElem?_eq_getElem h,h1.1,h1.2,fun j hj y hy => ?_⟩;obtain ⟨hjl,e⟩:=List.getElem?_eq_some_iff.1 hy;have:=h2 j hj;rw[e] at this
  simpa using this
 ·rintro ⟨x,hx,h1,h2,h3⟩;obtain ⟨hl,e⟩:=List.getElem?_eq_some_iff.1 hx;refine ⟨hl,by rw[e];exact decide_eq_true ⟨h1,h2⟩,fun j hj => ?_⟩;have:=h3 j hj _ (List.getElem?_eq_getElem (by omega))
  simpa using this
theorem a1u {s:Sta} {l:List Lab}:i0x s l=none↔∀x∈s.2.2.2,¬(x.1=l∧LvX s x):=by
 unfold i0x;rw[List.findIdx?_eq_none_iff];simp
theorem j1z {s:Sta} {i:Nat}:v0l s=some i↔∃x,s.2.2.2[i]? = some x∧¬LvX s x∧∀j,j<i→∀y,s.2.2.2[j]? = some y→LvX s y:=by
 unfold v0l;rw[List.findIdx?_eq_some_iff_getElem];constructor
 ·rintro ⟨h,h1,h2⟩;refine ⟨_,List.getElem?_eq_getElem h,of_decide_eq_true h1,fun j hj y hy => ?_⟩;obtain ⟨hjl,e⟩:=List.getElem?_eq_some_iff.1 hy;have:=h2 j hj;rw[e] at this
  simpa using this
 ·rintro ⟨x,hx,h1,h3⟩;obtain ⟨hl,e⟩:=List.getElem?_eq_some_iff.1 hx;refine ⟨hl,by rw[e];exact decide_eq_true h1,fun j hj => ?_⟩;have:=h3 j hj _ (List.getElem?_eq_getElem (by omega))
  simpa using this
theorem e2k {s:Sta}:v0l s=none↔∀x∈s.2.2.2,LvX s x:=by
 unfold v0l;rw[List.findIdx?_eq_none_iff];simp
theorem t1o {s:Sta} {i:Nat} {x:Ser} (h:s.2.2.2[i]? = some x):lvAt s i=decide (LvX s x):=by
 unfold lvAt;rw[h]
theorem b2v (s:Sta):(o0o s).length≤s.2.2.2.length:=by
 have:=List.length_filter_le (lvAt s) (List.range s.2.2.2.length)
 simpa [o0o] using this
noncomputable def d0k (s:Sta) (l:List Lab) (e:Ev):Int×(Bool×Int) :=
 if ¬StaOk s then (0,(false,2)) else if ¬LabOk l then (0,(false,8)) else if ¬EvOk e then (0,(false,2)) else
 if e.1<mk s∨mk s+s.1.2.1.1≤e.1 then (0,(false,9)) else
 match i0x s l with
 | some i=>if e.1≤((s.2.2.2[i]?).getD ser0).2.1 then (0,(false,9)) else ((i:Int),(false,0))
 | none=>if e.2.2.2=true then (0,(false,3)) else match v0l s with | some i=>((i:Int),(true,0)) | none=>(0,(false,7))
end Go.Proofs.YtgkpkajaepphjaaGreatDoor
namespace Go.Proofs.YtgkpkajaepphjaaGreatDoor
open Go.Flat
def rd (st:List UInt8×Bool) (k:Nat):Int×(List UInt8×Bool):=if st.2=true∨st.1.length<k then (0,([],true)) else (valI (bytesI (st.1.take k)),(st.1.drop k,false))
def q0 (s:List UInt8):=rd (s,false) 4
def q1 (s:List UInt8):=rd (q0 s).2 8
def q2 (s:List UInt8):=rd (q1 s).2 8
def q3 (s:List UInt8):=rd (q2 s).2 8
def q4 (s:List UInt8):=rd (q3 s).2 4
def q5 (s:List UInt8):=rd (q4 s).2 4
def q6 (s:List UInt8):=rd (q5 s).2 4
def q7 (s:List UInt8):=rd (q6 s).2 4
def q8 (s:List UInt8):=rd (q7 s).2 4
def q9 (s:List UInt8):=rd (q8 s).2 8
structure Full (s:List UInt8):Prop where
 z:(q9 s).1=0
 good:(q9 s).2.2=false
 left:(q9 s).2.1=[]
def idxC (c:Conf):Int:=prt c.2.2.2.2 120
def hom (c:Conf):Int:=1+idxC c+c.2.2.2.2
def siz (c:Conf):Int:=hom c+1+c.2.2.2.1*plc c
theorem idx_range {c:Conf} (h:Rng c):0≤idxC c∧idxC c≤8192:=by
 have:=d0z (x:=c.2.2.2.2) (e:=120) (by omega) (by have:=h.log;omega);have:=h.log;unfold idxC;omega
theorem siz_wrap {c:Conf} (h:OkC c):IntKind.wrap .i64 (IntKind.wrap .i64 (hom c+1)+IntKind.wrap .i64 (c.2.2.2.1*plc c))=siz c∧0≤siz c∧siz c≤2000000000:=by
 have hl:=h.rng.log;have hi:=idx_range h.rng;have hp:=k2b h.rng;have hcap:=h.rng.cap;have h1:0≤c.2.2.2.1*plc c:=Int.mul_nonneg (by omega) (by omega);have h2:c.2.2.2.1*plc c≤65536*plc c:=Int.mul_le_mul_of_nonneg_right (by omega) (by omega);have hh:hom c=1+idxC c+c.2.2.2.2:=rfl;rw[w64 (x:=hom c+1) (by omega) (by omega),w64 (x:=c.2.2.2.1*plc c) (by omega) (by omega),w64 (by omega) (by omega)];have hs:siz c=hom c+1+c.2.2.2.1*plc c:=rfl;omega
def sizR (c:Conf):Int×Int:=if 16777216<siz c then (0,1) else (siz c,0)
end Go.Proofs.YtgkpkajaepphjaaGreatDoor
namespace Go.Proofs.YtgkpkajaepphjaaGreatDoor
open Go.Flat Go.Plim
set_option linter.unusedVariables false
set_option linter.unusedSimpArgs false
theorem k1x {l:List Ser} {k:Nat} (h:k<l.length):∃y,l[k]? = some y:=⟨l[k],List.getElem?_eq_getElem h⟩
noncomputable def u1g (s:Sta) (l:List Lab):Int×Int:=if Whole s then (match i0x s l with | some i=>((i:Int),0) | none=>(0,3)) else (0,2)
noncomputable def e2n (s:Sta):Int×Int:=if Whole s then (match v0l s with | some i=>((i:Int),0) | none=>(0,7)) else (0,2)
noncomputable def liveR (s:Sta):List Int:=if Whole s then (o0o s).map Int.ofNat else []
def IsF (s:Sta) (l:List Lab) (k:Nat):Prop:=∃y,s.2.2.2[k]? = some y∧y.1=l∧LvX s y
noncomputable instance (s l k):Decidable (IsF s l k):=Classical.propDecidable _
def IsR (s:Sta) (k:Nat):Prop:=∃y,s.2.2.2[k]? = some y∧¬LvX s y
noncomputable instance (s k):Decidable (IsR s k):=Classical.propDecidable _
theorem k1u {s:Sta} {l:List Lab} {m:Nat} (h:IsF s l m) (hn:∀j,j<m→¬IsF s l j):i0x s l=some m:=by
 obtain ⟨y,h1,h2,h3⟩:=h;exact o0v.2 ⟨y,h1,h2,h3,fun j hj z hz k=>hn j hj ⟨z,hz,k.1,k.2⟩⟩
theorem m2e {s:Sta} {l:List Lab} (hn:∀j,j<s.2.2.2.length→¬IsF s l j):i0x s l=none:=by
 refine a1u.2 fun x hx k => ?_
 obtain ⟨i,hi,e⟩:=List.getElem_of_mem hx;exact hn i hi ⟨x,by rw[List.getElem?_eq_getElem hi,e],k.1,k.2⟩
theorem e2j {s:Sta} {m:Nat} (h:IsR s m) (hn:∀j,j<m→¬IsR s j):v0l s=some m:=by
 obtain ⟨y,h1,h2⟩:=h;exact j1z.2 ⟨y,h1,h2,fun j hj z hz=>Decidable.byContradiction fun k=>hn j hj ⟨z,hz,k⟩⟩
theorem room_no {s:Sta} (hn:∀j,j<s.2.2.2.length→¬IsR s j):v0l s=none:=by
 refine e2k.2 fun x hx=>Decidable.byContradiction fun k => ?_
 obtain ⟨i,hi,e⟩:=List.getElem_of_mem hx;exact hn i hi ⟨x,by rw[List.getElem?_eq_getElem hi,e],k⟩
theorem l1u (n:Nat) {s:Sta} (hw:StaW s) (l:List Lab):m0k (n+10) s l=some (u1g s l):=by
 rw[w1j,e1m (n+5) s,obs,tfn,tfd];unfold u1g;by_cases h:Whole s
 case neg=>rw[if_neg h,if_neg h,if_neg (show ¬((sta0,(2:Int)).2=0) by decide)]
 rw[if_pos h,if_pos h,if_pos rfl];have his:∀k:Nat,k<s.2.2.2.length→(fun y1:Int×Unit=>f0s (n+9) y1.1 s l s) ((k:Int),())=some (decide (IsF s l k)):=by
  intro k hk;obtain ⟨y,hy⟩:=k1x hk;have hm:=(hw.at hy).2;show f0s (n+9) (k:Int) s l s=_;rw[l1x,u0f hy,obs,k1m (n+6) _ _ hm.l,obs,tfd,w0m (n+1) hy hm,obs];by_cases h1:y.1=l
  ·rw[if_pos h1];refine congrArg some (decide_eq_decide.2 ⟨fun k=>⟨y,hy,h1,k⟩,fun ⟨z,z1,z2,z3⟩ => ?_⟩);rw[hy] at z1;cases z1;exact z3
  ·rw[if_neg h1,decide_eq_false (fun q:IsF s l k=>by obtain ⟨z,z1,z2,z3⟩:=q;rw[hy] at z1;cases z1;exact h1 z2)]
 rcases y0h (n+8) s (fun y1:Int×Unit=>f0s (n+9) y1.1 s l s) (fun k=>decide (IsF s l k)) (by have:=h.len;omega) his with ⟨m,q1,q2,q3,q4⟩ | ⟨q1,q2⟩
 ·rw[show (fun y1:Int×Unit=>f0s (n+9) y1.1 s l (s,(0:Int)).1)=fun y1:Int×Unit=>f0s (n+9) y1.1 s l s from rfl,q4,obs,tfd,if_neg (by omega),k1u (of_decide_eq_true q2) (fun j hj=>of_decide_eq_false (q3 j hj))]
 ·rw[show (fun y1:Int×Unit=>f0s (n+9) y1.1 s l (s,(0:Int)).1)=fun y1:Int×Unit=>f0s (n+9) y1.1 s l s from rfl,q2,obs,tfd,if_pos (by decide),m2e (fun j hj=>of_decide_eq_false (q1 j hj))]
theorem stt_room (n:Nat) {s:Sta} (hw:StaW s):c1y (n+10) s=some (e2n s):=by
 rw[w1g,e1m (n+5) s,obs,tfn,tfd];unfold e2n;by_cases h:Whole s
 case neg=>rw[if_neg h,if_neg h,if_neg (show ¬((sta0,(2:Int)).2=0) by decide)]
 rw[if_pos h,if_pos h,if_pos rfl];have his:∀k:Nat,k<s.2.2.2.length→(fun y1:Int×Unit=>f0r (n+9) y1.1 s) ((k:Int),())=some (decide (IsR s k)):=by
  intro k hk;obtain ⟨y,hy⟩:=k1x hk;have hm:=(hw.at hy).2;show f0r (n+9) (k:Int) s=_;rw[l1v,w0m (n+1) hy hm,obs];by_cases h1:LvX s y
  ·rw[decide_eq_true h1,decide_eq_false (fun q:IsR s k=>by obtain ⟨z,z1,z2⟩:=q;rw[hy] at z1;cases z1;exact z2 h1)];rfl
  ·rw[decide_eq_false h1,decide_eq_true (show IsR s k from ⟨y,hy,h1⟩)];rfl
 rcases y0h (n+8) s (fun y1:Int×Unit=>f0r (n+9) y1.1 s) (fun k=>decide (IsR s k)) (by have:=h.len;omega) his with ⟨m,q1,q2,q3,q4⟩ | ⟨q1,q2⟩
 ·rw[show (fun y1:Int×Unit=>f0r (n+9) y1.1 (s,(0:Int)).1)=fun y1:Int×Unit=>f0r (n+9) y1.1 s from rfl,q4,obs,tfd,if_neg (by omega),e2j (of_decide_eq_true q2) (fun j hj=>of_decide_eq_false (q3 j hj))]
 ·rw[show (fun y1:Int×Unit=>f0r (n+9) y1.1 (s,(0:Int)).1)=fun y1:Int×Unit=>f0r (n+9) y1.1 s from rfl,q2,obs,tfd,if_pos (by decide),room_no (fun j hj=>of_decide_eq_false (q1 j hj))]
theorem x1h (n:Nat) {s:Sta} (hw:StaW s) (hL:s.2.2.2.length≤1000000) (l:List Lab):∀(d k f:Nat),k+d=s.2.2.2.length→d<f →
  (∃m:Nat,k≤m∧IsF s l m∧(∀j,k≤j→j<m→¬IsF s l j)∧d0t (n+6) f (l,s,s.2.2.2,(s.2.2.2.length:Int),(k:Int),())=some (.inr ((m:Int),0))) ∨
  ((∀j,k≤j→j<s.2.2.2.length→¬IsF s l j)∧d0t (n+6) f (l,s,s.2.2.2,(s.2.2.2.length:Int),(k:Int),())=some (.inl ())):=by
 intro d;induction d with
 | zero =>
  intro k f hk hf;obtain ⟨f,rfl⟩:∃g,f=g+1:=⟨f-1,by omega⟩;refine .inr ⟨fun j h1 h2=>by omega,?_⟩;rw[u0s,decide_eq_false (by omega),tff]
 | succ d ih =>
  intro k f hk hf;obtain ⟨f,rfl⟩:∃g,f=g+1:=⟨f-1,by omega⟩;obtain ⟨y,hy⟩:=k1x (l:=s.2.2.2) (k:=k) (by omega);have hm:=(hw.at hy).2;have ih':=ih (k+1) f (by omega) (by omega);have next:¬IsF s l k→((∃m:Nat,k≤m∧IsF s l m∧(∀j,k≤j→j<m→¬IsF s l j)∧d0t (n+6) f (l,s,s.2.2.2,(s.2.2.2.length:Int),((k+1:Nat):Int),())=some (.inr ((m:Int),0))) ∨
  ((∀j,k≤j→j<s.2.2.2.length→¬IsF s l j)∧d0t (n+6) f (l,s,s.2.2.2,(s.2.2.2.length:Int),((k+1:Nat):Int),())=some (.inl ()))):=by
   intro hn;have low:∀j,k≤j→¬k+1≤j→¬IsF s l j:=fun j h1 h2=>by rw[show j=k by omega];exact hn
   rcases ih' with ⟨m,h1,h2,h3,h4⟩ | ⟨h1,h2⟩
   ·exact .inl ⟨m,by omega,h2,fun j q1 q2=>if z:k+1≤j then h3 j z q2 else low j q1 z,h4⟩
   ·exact .inr ⟨fun j q1 q2=>if z:k+1≤j then h1 j z q2 else low j q1 z,h2⟩
  rw[u0s,decide_eq_true (by omega),tft,u0f hy,obs,m1y n hy hm,obs,tfd,g1r (n+5) _ _ hm.l,obs,tfd,w64 (by omega) (by omega),show ((k:Int)+1)=((k+1:Nat):Int) by omega];by_cases h1:LvX s y
  case neg=>rw[if_neg h1];exact next (fun q=>by obtain ⟨z,z1,z2,z3⟩:=q;rw[hy] at z1;cases z1;exact h1 z3)
  rw[if_pos h1];by_cases h2:y.1=l
  case neg=>rw[if_neg h2];exact next (fun q=>by obtain ⟨z,z1,z2,z3⟩:=q;rw[hy] at z1;cases z1;exact h2 z2)
  rw[if_pos h2];exact .inl ⟨k,Nat.le_refl _,⟨y,hy,h2,h1⟩,fun j q1 q2=>by omega,rfl⟩
theorem r17_find (n:Nat) {s:Sta} (hw:StaW s) (l:List Lab):a2u (n+7) s l=some (u1g s l):=by
 rw[x1i,m1x (n+2) s,obs,tfn,tfd];unfold u1g;by_cases h:Whole s
 case neg=>rw[if_neg h,if_neg h]
 rw[if_pos h,if_pos h];have hL:=h.len;rcases x1h n hw (by omega) l s.2.2.2.length 0 a0b (by omega) (by unfold a0b;omega) with ⟨m,q1,q2,q3,q4⟩ | ⟨q1,q2⟩
 ·have q4':d0t (n+6) a0b (l,s,s.2.2.2,(s.2.2.2.length:Int),(0:Int),())=some (.inr ((m:Int),0)):=q4;rw[q4',obs,o0a,k1u q2 (fun j hj=>q3 j (by omega) hj)]
 ·have q2':d0t (n+6) a0b (l,s,s.2.2.2,(s.2.2.2.length:Int),(0:Int),())=some (.inl ()):=q2;rw[q2',obs,a0w,m2e (fun j hj=>q1 j (by omega) hj)]
theorem lvAt_el {s:Sta} {k:Nat} {y:Ser} (h:s.2.2.2[k]? = some y):decide (LvX s y)=lvAt s k:=(t1o h).symm
theorem d2r (n:Nat) {s:Sta} (hw:StaW s) (hL:s.2.2.2.length≤1000000):∀(d k f:Nat) (out:List Int),k+d=s.2.2.2.length→d<f→out.length≤k →
  i0n (n+7) f (s,out,(s.2.2.2.length:Int),(k:Int),())=some (.inl (out++((List.range' k d).filter (lvAt s)).map Int.ofNat,())):=by
 intro d;induction d with
 | zero =>
  intro k f out hk hf ho;obtain ⟨f,rfl⟩:∃g,f=g+1:=⟨f-1,by omega⟩;rw[u0j,decide_eq_false (by omega),tff];simp
 | succ d ih =>
  intro k f out hk hf ho;obtain ⟨f,rfl⟩:∃g,f=g+1:=⟨f-1,by omega⟩;obtain ⟨y,hy⟩:=k1x (l:=s.2.2.2) (k:=k) (by omega);rw[u0j,decide_eq_true (by omega),tft,w0m n hy (hw.at hy).2,obs,lvAt_el hy,w64 (by omega) (by omega),show ((k:Int)+1)=((k+1:Nat):Int) by omega,List.range'_succ];cases h:lvAt s k
  ·rw[tff,ih (k+1) f out (by omega) (by omega) (by omega),List.filter_cons_of_neg (by simp[h])]
  ·rw[tft,decide_eq_true (by omega),tft,ih (k+1) f _ (by omega) (by omega) (by simp;omega),List.filter_cons_of_pos h];simp
theorem a2n (n:Nat) {s:Sta} (hw:StaW s):c1z (n+8) s=some (liveR s):=by
 rw[w1i,e1m (n+3) s,obs,tfn,tfd];unfold liveR;by_cases h:Whole s
 case neg=>rw[if_neg h,if_neg h,if_neg (show ¬((sta0,(2:Int)).2=0) by decide)]
 rw[if_pos h,if_pos h,if_pos rfl];have hL:=h.len;have e:i0n (n+7) a0b (s,([]:List Int),(s.2.2.2.length:Int),(0:Int),())=_:=d2r n hw (by omega) s.2.2.2.length 0 a0b [] (by omega) (by unfold a0b;omega) (by simp);simp only;rw[e,obs,a0w];unfold o0o;rw[List.range_eq_range'];rfl
theorem k2z {s:Sta} {k:Nat} (h:lvAt s k=true):k<s.2.2.2.length:=by
 unfold lvAt at h;cases hx:s.2.2.2[k]? with
 | none=>rw[hx] at h;cases h
 | some x=>exact (List.getElem?_eq_some_iff.1 hx).1
noncomputable def markV (s:Sta):Int:=if Whole s∧v0u s.2.1 then mk s else 0
theorem stt_mark (n:Nat) (s:Sta):l1w (n+5) s=some (markV s):=by
 rw[w1h,e1m n s,obs,tfn,tfd,w1l (n+3),obs,tfn,tfd];unfold markV;by_cases h:Whole s
 case neg=>rw[if_neg h,if_neg (show ¬((sta0,(2:Int)).2=0) by decide),if_neg (fun k=>h k.1)]
 rw[if_pos h,if_pos rfl];by_cases h1:v0u s.2.1
 case neg=>rw[if_neg h1,if_neg (fun k=>h1 k.2)]
 rw[if_pos h1,if_pos ⟨h,h1⟩,i2w (n+3) h1 h.1.rng.w0];rfl
noncomputable def q0v (c:Conf):Sta×Int:=if OkC c then (if (sizR c).2=0 then ((c,(0,(-1,List.replicate c.2.2.2.1.toNat ser0))),0) else (sta0,(sizR c).2)) else (sta0,2)
theorem cap_test {c:Conf} (h:OkC c):((decide ((0:Int)≤c.2.2.2.1))&&((decide (c.2.2.2.1≤c.2.2.2.1))&&(decide ((c.2.2.2.1*(264:Int))≤(140737488355328:Int)))))=true:=by
 have:=h.rng.cap;rw[decide_eq_true (by omega),decide_eq_true (by omega),decide_eq_true (by omega)];rfl
theorem i2v:StaW sta0:=⟨by simp[sta0],by simp[sta0]⟩
theorem ser0_w:SerW ser0:=by
 refine ⟨?_,?_,⟨?_,?_,?_⟩,z0n⟩
 ·unfold I64;simp[ser0]
 ·intro e he;simp[ser0,r0w] at he
 ·intro x hx;simp[ser0] at hx
 ·intro x hx;simp[ser0] at hx
 ·intro x hx;simp[ser0] at hx
theorem newSt_w (c:Conf):StaW (q0v c).1:=by
 unfold q0v;split
 ·rename_i h;split
  ·have:=h.rng.cap;exact ⟨by simp;omega,fun x hx=>by rw[List.eq_of_mem_replicate hx];exact ⟨ser0_w,ser0_m⟩⟩
  ·exact i2v
 ·exact i2v
theorem newSt_ok {c:Conf} (h:(q0v c).2=0):StaOk (q0v c).1∧o0o (q0v c).1=[]:=by
 unfold q0v at h ⊢;by_cases h1:OkC c
 case neg=>rw[if_neg h1] at h;cases h
 rw[if_pos h1] at h ⊢;by_cases h2:(sizR c).2=0
 case neg=>rw[if_neg h2] at h;exact absurd h h2
 rw[if_pos h2];have hcap:=h1.rng.cap;have all:∀(i:Nat) x,(List.replicate c.2.2.2.1.toNat ser0)[i]? = some x→x=ser0:=fun i x hx=>List.eq_of_mem_replicate (List.mem_of_getElem? hx)
 refine ⟨⟨⟨h1,by simp;omega⟩,⟨⟨by simp,by simp⟩,.inl rfl,by simp⟩,fun i x hx => .inl (all i x hx)⟩,?_⟩;unfold o0o;rw[List.filter_eq_nil_iff];intro i hi hl;obtain ⟨y,hy⟩:=k1x (List.mem_range.1 hi);rw[t1o hy] at hl;exact (of_decide_eq_true hl).1 (all i y hy)
theorem e0w {l:List Slo} {a b:Int} (h:a0k l a) (hab:a≤b):a0k l b:=fun s hs hc=>by
 have:=h s hs hc;omega
theorem n1x {l:List Slo} {b i:Int} {x:Cel} (h:a0k l b) (hi:i<b):a0k (tput l i x) b:=by
 intro s hs hc;rcases List.mem_or_eq_of_mem_set hs with k | k
 ·exact h s k hc
 ·rw[k];exact hi
theorem o1z {a b w:Int} (hw:1≤w) (hab:a≤b) (h:a / w≠b / w):a / w<b / w:=by
 have:a / w≤b / w:=Int.ediv_le_ediv (by omega) hab;omega
theorem nb_upw {c:Conf} (hc:OkC c) {s:Trs} {T U:Int} (hTU:T≤U) (h0:a0k s.1 (U / c.2.1.1)) (h1:a0k s.2.1 (T / c.2.1.2.1)) (h2:a0k s.2.2 (T / c.2.1.2.2)) :
  a0k (upw c s (T / c.2.1.1) (U / c.2.1.1)).1 (U / c.2.1.1)∧a0k (upw c s (T / c.2.1.1) (U / c.2.1.1)).2.1 (U / c.2.1.2.1)∧a0k (upw c s (T / c.2.1.1) (U / c.2.1.1)).2.2 (U / c.2.1.2.2):=by
 have hr:=hc.rng;have q1:=(edvm (t:=T) hr.w0.1 hr.w1.1 hc.m1).1;have q1u:=(edvm (t:=U) hr.w0.1 hr.w1.1 hc.m1).1;have q2:=(edvm (t:=T) hr.w0.1 hr.w2.1 hc.m02).1;have q2u:=(edvm (t:=U) hr.w0.1 hr.w2.1 hc.m02).1;have m1:T / c.2.1.2.1≤U / c.2.1.2.1:=Int.ediv_le_ediv (by have:=hr.w1;omega) hTU;have m2:T / c.2.1.2.2≤U / c.2.1.2.2:=Int.ediv_le_ediv (by have:=hr.w2;omega) hTU;have u1:a0k (up1 c s (T / c.2.1.1) (U / c.2.1.1)).1 (U / c.2.1.1)∧a0k (up1 c s (T / c.2.1.1) (U / c.2.1.1)).2.1 (U / c.2.1.2.1)∧a0k (up1 c s (T / c.2.1.1) (U / c.2.1.1)).2.2 (T / c.2.1.2.2):=by
  unfold up1;rw[q1,q1u];split
  ·exact ⟨h0,e0w h1 m1,h2⟩
  ·rename_i hne;split
   ·exact ⟨h0,n1x (e0w h1 m1) (by omega),h2⟩
   ·exact ⟨h0,e0w h1 m1,h2⟩
 unfold upw;generalize up1 c s (T / c.2.1.1) (U / c.2.1.1)=v at u1;unfold up2;rw[q2,q2u];split
 ·exact ⟨u1.1,u1.2.1,e0w u1.2.2 m2⟩
 ·rename_i hne;split
  ·exact ⟨u1.1,u1.2.1,n1x (e0w u1.2.2 m2) (by omega)⟩
  ·exact ⟨u1.1,u1.2.1,e0w u1.2.2 m2⟩
theorem e2t {r:Rw} {room:Int} {e:Ev} (h:RawOk r room) (he:EvOk e) (ha:After r.2.2 e) (hl:¬((r.2.2.length:Int)=room∧r.1=70368744177664)):RawOk (l0u r room e) room∧(l0u r room e).2.2.getLast? = some e:=by
 have hf:Foll (r.2.2++[e]):=by
  refine b0c.2 ⟨h.f,⟨by simp[he],by simp⟩,fun x hx y hy => ?_⟩;simp at hy;subst hy;have hn:r.2.2≠[]:=List.ne_nil_of_mem hx;have hg:=List.getLast?_eq_some_getLast hn;have:=ha _ hg;rcases List.eq_nil_or_concat r.2.2 with k | ⟨p,z,k⟩
  ·exact absurd k hn
  ·rw[List.concat_eq_append] at k;have hz:r.2.2.getLast hn=z:=by simp[k]
   rw[hz] at this;rw[k] at hx;rcases List.mem_append.1 hx with q | q
   ·have hf:=h.f;rw[k] at hf;have:=(b0c.1 hf).2.2 x q z (by simp);omega
   ·simp at q;rw[q];exact this
 unfold l0u;by_cases h1:(r.2.2.length:Int)<room
 ·rw[if_pos h1];refine ⟨⟨h.m0,h.m1,by simp;omega,h.l0,h.l1,hf,h.z,fun k => ?_⟩,by simp⟩;have:=(h.p k).1;omega
 ·rw[if_neg h1];have hlen:=h.len;have hlen':(r.2.2.length:Int)=room:=by omega
  have m0:=h.m0;cases hc:r.2.2 with
  | nil=>rw[hc] at hlen';simp at hlen';omega
  | cons a t =>
   rw[hc] at hf hlen';have hfa:=l2v.1 hf;simp only[List.drop_succ_cons,List.drop_zero,List.headD_cons];refine ⟨⟨h.m0,h.m1,by simp at hlen' ⊢;omega,by have:=h.l0;simp only;omega,?_,hfa.2.2,fun k => ?_,fun _=>⟨by simp at hlen' ⊢;omega,hfa.1.t0,fun x hx => ?_⟩⟩,by simp⟩
   ·have:=h.l1;have:r.1≠70368744177664:=fun k=>hl ⟨by rw[hc];exact hlen',k⟩
    simp only;omega
   ·have:=h.l0;simp only at k;omega
   ·exact hfa.2.1 x (List.mem_of_mem_head? hx)
theorem mrg_fits {a:Cel} {e:Ev} {w i:Int} (h:FitsP a w i) (he:EvOk e) (hlt:a.2.2.1.1<e.1) (hi:e.1 / w=i):FitsP (mrg a (c0e e)) w i:=by
 have hm:=x0z h.n (i0d he);refine ⟨y1r h.n (i0d he) hlt,h.w0,h.w1,?_,?_⟩
 ·rw[hm];exact h.f
 ·rw[hm];exact hi
theorem w0y {c:Conf} {s t:Ser} {e:Ev} (h:SerOk c s) (hp:putE c s e=(t,0)):SerOk c t∧EvOk e∧s.2.1<e.1∧t.2.1=e.1∧t.1=s.1:=by
 have hr:=h.fold.cok.rng;unfold putE at hp;by_cases h1:SerOk c s∧EvOk e
 case neg=>rw[if_neg h1] at hp;cases hp
 rw[if_pos h1] at hp;have he:=h1.2;by_cases h2:e.1≤s.2.1
 ·rw[if_pos h2] at hp;cases hp
 rw[if_neg h2] at hp;by_cases h3:(turned c s (e.1 / c.2.1.1)).2≠0
 ·rw[if_pos h3] at hp;exact absurd (congrArg Prod.snd hp) h3
 rw[if_neg h3] at hp;by_cases h4:(m0o s.2.2.1 c.1 e).2≠0
 ·rw[if_pos h4] at hp;exact absurd (congrArg Prod.snd hp) h4
 rw[if_neg h4] at hp;by_cases h5:(mrgE (turned c s (e.1 / c.2.1.1)).1.2.2 (c0e e)).2≠0
 ·rw[if_pos h5] at hp;exact absurd (congrArg Prod.snd hp) h5
 rw[if_neg h5] at hp;have hp:=(Prod.ext_iff.1 hp).1;simp only at hp;subst hp;refine ⟨?_,he,by omega,rfl,rfl⟩;have h3:(turned c s (e.1 / c.2.1.1)).2=0:=Decidable.byContradiction h3;have h4:(m0o s.2.2.1 c.1 e).2=0:=Decidable.byContradiction h4;have h5:(mrgE (turned c s (e.1 / c.2.1.1)).1.2.2 (c0e e)).2=0:=Decidable.byContradiction h5;have e0:0≤e.1:=he.t0;have hraw:RawOk (m0o s.2.2.1 c.1 e).1 c.1∧(m0o s.2.2.1 c.1 e).1.2.2.getLast? = some e:=by
  unfold m0o at h4 ⊢;rw[if_pos ⟨h.raw,he⟩] at h4 ⊢;by_cases k1:After s.2.2.1.2.2 e
  case neg=>rw[if_neg k1] at h4;cases h4
  rw[if_pos k1] at h4 ⊢;by_cases k2:(s.2.2.1.2.2.length:Int)=c.1∧s.2.2.1.1=70368744177664
  ·rw[if_pos k2] at h4;cases h4
  rw[if_neg k2] at h4 ⊢;exact e2t h.raw he k1 k2
 have key:FoldOk c (turned c s (e.1 / c.2.1.1)).1.1∧a0k (turned c s (e.1 / c.2.1.1)).1.1.1 (e.1 / c.2.1.1)∧a0k (turned c s (e.1 / c.2.1.1)).1.1.2.1 (e.1 / c.2.1.2.1)∧a0k (turned c s (e.1 / c.2.1.1)).1.1.2.2 (e.1 / c.2.1.2.2) ∧
   FitsP (mrgE (turned c s (e.1 / c.2.1.1)).1.2.2 (c0e e)).1 c.2.1.1 (e.1 / c.2.1.1)∧(mrgE (turned c s (e.1 / c.2.1.1)).1.2.2 (c0e e)).1.2.2.1.1=e.1:=by
  have fresh1:FitsP (c0e e) c.2.1.1 (e.1 / c.2.1.1):=⟨i0d he,hr.w0.1,hr.w0.2,rfl,rfl⟩;have z1:mrgE s0.2 (c0e e)=(c0e e,0):=y1s (i0d he).ok;rcases h.st with ⟨l1,hf⟩ | ⟨l1,hd⟩
  ·have ht:turned c s (e.1 / c.2.1.1)=((s.2.2.2.1,s.2.2.2.2),0):=by
    unfold turned;rw[if_neg (fun k:y0x s _=>k.1 hf.opn)]
   rw[ht];simp only;rw[hf.opn,z1];exact ⟨h.fold,e0w hf.b0 (Int.ediv_nonneg e0 (by have:=hr.w0;omega)),e0w hf.b1 (Int.ediv_nonneg e0 (by have:=hr.w1;omega)),e0w hf.b2 (Int.ediv_nonneg e0 (by have:=hr.w2;omega)),fresh1,rfl⟩
  ·have hT:s.2.1≤e.1:=by omega
   have ho:s.2.2.2.2.1=s.2.1 / c.2.1.1:=by rw[←hd.fit.l,hd.ol]
   by_cases hts:y0x s (e.1 / c.2.1.1)
   ·have hlt:s.2.1 / c.2.1.1<e.1 / c.2.1.1:=o1z hr.w0.1 hT (by rw[←ho];exact hts.2);have hcl:k0g c s.2.2.2.1 s.2.2.2.2 (e.1 / c.2.1.1)=(upw c (tput s.2.2.2.1.1 s.2.2.2.2.1 s.2.2.2.2.2,s.2.2.2.1.2) (s.2.1 / c.2.1.1) (e.1 / c.2.1.1),0):=by
     unfold k0g;rw[if_pos h.fold,if_neg hts.1,if_pos hd.fit,if_neg hts.2,if_pos ⟨by omega,u1i he hr.w0.1⟩,ho]
    have ht:turned c s (e.1 / c.2.1.1)=((upw c (tput s.2.2.2.1.1 s.2.2.2.2.1 s.2.2.2.2.2,s.2.2.2.1.2) (s.2.1 / c.2.1.1) (e.1 / c.2.1.1),s0),0):=by
     unfold turned;rw[if_pos hts,hcl,if_pos rfl]
    rw[ht];simp only;rw[z1];obtain ⟨n0,n1,n2⟩:=nb_upw (s:=(tput s.2.2.2.1.1 s.2.2.2.2.1 s.2.2.2.2.2,s.2.2.2.1.2)) h.fold.cok hT (n1x (e0w hd.b0 (by omega)) (by omega)) hd.b1 hd.b2;exact ⟨upw_ok (q0h h.fold hd.fit) _ _,n0,n1,n2,fresh1,rfl⟩
   ·have ht:turned c s (e.1 / c.2.1.1)=((s.2.2.2.1,s.2.2.2.2),0):=by
     unfold turned;rw[if_neg hts]
    have hop:s.2.2.2.2≠s0:=fun k=>by have:=hd.fit.n.n1;rw[k] at this;simp[s0,z0] at this
    have hw:s.2.2.2.2.1=e.1 / c.2.1.1:=Decidable.byContradiction fun k=>hts ⟨hop,k⟩
    rw[ht] at h5 ⊢;simp only at h5 ⊢;obtain ⟨k1,k2,k3,k4,k5⟩:=n1z h5;rw[k4];have hfit:=hd.fit;rw[hw] at hfit;have hm:=x0z hd.fit.n (i0d he);exact ⟨h.fold,e0w hd.b0 (by omega),e0w hd.b1 (Int.ediv_le_ediv (by have:=hr.w1;omega) hT),e0w hd.b2 (Int.ediv_le_ediv (by have:=hr.w2;omega) hT),
     mrg_fits hfit he (by have:=hd.ol;omega) rfl,by rw[hm];rfl⟩
 obtain ⟨k1,k2,k3,k4,k5,k6⟩:=key;exact ⟨k1,h.lab,hraw.1,.inr ⟨by show e.1 ≠ -1;omega,⟨e,hraw.2,rfl⟩,k6,k5,k2,k3,k4⟩⟩
def setS (s:Sta) (i:Nat) (y:Ser):Sta:=(s.1,(s.2.1,(s.2.2.1,s.2.2.2.set i y)))
noncomputable def xOf (s:Sta) (l:List Lab) (w:Int×(Bool×Int)):Ser:=if w.2.1=true then (newV s.1 l).1 else (s.2.2.2[w.1.toNat]?).getD ser0
noncomputable def f0d (s:Sta) (l:List Lab) (e:Ev):Sta×Int :=
 if (d0k s l e).2.2≠0 then (sta0,(d0k s l e).2.2)
 else if (putE s.1 (xOf s l (d0k s l e)) e).2≠0 then (sta0,(putE s.1 (xOf s l (d0k s l e)) e).2)
 else (setS s (d0k s l e).1.toNat (putE s.1 (xOf s l (d0k s l e)) e).1,0)
structure Goes (s:Sta) (l:List Lab) (e:Ev):Prop where
 st:StaOk s
 lab:LabOk l
 ev:EvOk e
 lo:mk s≤e.1
 hi:e.1<mk s+s.1.2.1.1
inductive PlaceAt (s:Sta) (l:List Lab) (e:Ev):Nat→Ser→Bool→Prop
 | found {i:Nat} {x:Ser} (hf:i0x s l=some i) (hx:s.2.2.2[i]? = some x) (hl:x.1=l) (hlv:LvX s x) (ht:x.2.1<e.1):PlaceAt s l e i x false
 | room {i:Nat} (hf:i0x s l=none) (hs:e.2.2.2=false) (hr:v0l s=some i):PlaceAt s l e i (l,(-1,(r0w,(emp s.1,s0)))) true
theorem k2w {c:Conf} {l:List Lab} (h:OkC c) (hl:LabOk l):newV c l=((l,(-1,(r0w,(emp c,s0)))),0):=by
 unfold newV;rw[if_pos h,if_pos hl]
theorem c2a {s:Sta} {l:List Lab} {e:Ev} (h:(d0k s l e).2.2=0):Goes s l e∧∃i x b,PlaceAt s l e i x b∧(d0k s l e).1.toNat=i∧xOf s l (d0k s l e)=x∧d0k s l e=((i:Int),(b,0)):=by
 unfold d0k at h ⊢;by_cases h1:StaOk s
 case neg=>rw[if_pos h1] at h;cases h
 rw[if_neg (fun k=>k h1)] at h ⊢;by_cases h2:LabOk l
 case neg=>rw[if_pos h2] at h;cases h
 rw[if_neg (fun k=>k h2)] at h ⊢;by_cases h3:EvOk e
 case neg=>rw[if_pos h3] at h;cases h
 rw[if_neg (fun k=>k h3)] at h ⊢;by_cases h4:e.1<mk s∨mk s+s.1.2.1.1≤e.1
 ·rw[if_pos h4] at h;cases h
 rw[if_neg h4] at h ⊢;refine ⟨⟨h1,h2,h3,by omega,by omega⟩,?_⟩;cases hf:i0x s l with
 | some i =>
  rw[hf] at h;simp only at h ⊢;obtain ⟨x,hx,k1,k2,k3⟩:=o0v.1 hf;rw[hx] at h ⊢;simp only[Option.getD_some] at h ⊢;by_cases h5:e.1≤x.2.1
  ·rw[if_pos h5] at h;cases h
  rw[if_neg h5];exact ⟨i,x,false,.found hf hx k1 k2 (by omega),rfl,by unfold xOf;simp[hx],rfl⟩
 | none =>
  rw[hf] at h;simp only at h ⊢;cases h5:e.2.2.2 with
  | true=>rw[h5,if_pos rfl] at h;cases h
  | false =>
   rw[h5,if_neg (by simp)] at h;rw[if_neg (by simp)];cases hr:v0l s with
   | none=>rw[hr] at h;cases h
   | some i =>
    simp only;exact ⟨i,_,true,.room hf h5 hr,rfl,by unfold xOf;rw[if_pos rfl,k2w h1.whole.1 h2],rfl⟩
theorem d1f {s:Sta} {l:List Lab} {e:Ev} (h:Goes s l e) {i:Nat} {x:Ser} {b:Bool} (hp:PlaceAt s l e i x b):SerOk s.1 x∧x.1=l∧i<s.2.2.2.length∧x.2.1<e.1:=by
 cases hp with
 | found hf hx hl hlv ht =>
  rcases h.st.right _ _ hx with k | k
  ·exact absurd k hlv.1
  ·exact ⟨k.1,hl,(List.getElem?_eq_some_iff.1 hx).1,ht⟩
 | room hf hs hr =>
  obtain ⟨y,hy,_⟩:=j1z.1 hr;exact ⟨j0m (y1q h.st.whole.1 h.lab),rfl,(List.getElem?_eq_some_iff.1 hy).1,by have:=h.ev.t0;show (-1:Int)<e.1;omega⟩
theorem l1f {s t:Sta} {l:List Lab} {e:Ev} (h:f0d s l e=(t,0)):Goes s l e∧∃i x b y,PlaceAt s l e i x b∧putE s.1 x e=(y,0)∧t=setS s i y∧d0k s l e=((i:Int),(b,0)):=by
 unfold f0d at h;by_cases h1:(d0k s l e).2.2=0
 case neg=>rw[if_pos h1] at h;exact absurd (congrArg Prod.snd h) h1
 rw[if_neg (fun k=>k h1)] at h;obtain ⟨hg,i,x,b,k1,k2,k3,k4⟩:=c2a h1;rw[k2,k3] at h;by_cases h2:(putE s.1 x e).2=0
 case neg=>rw[if_pos h2] at h;exact absurd (congrArg Prod.snd h) h2
 rw[if_neg (fun k=>k h2)] at h;exact ⟨hg,i,x,b,_,k1,Prod.ext rfl h2,(congrArg Prod.fst h).symm,k4⟩
theorem m1g (s:Sta) (i:Nat) (y:Ser) (j:Nat):(setS s i y).2.2.2[j]? = if i=j then (if i<s.2.2.2.length then some y else none) else s.2.2.2[j]? := by
 unfold setS;simp only[List.getElem?_set]
theorem w1k {s t:Sta} {l:List Lab} {e:Ev} (h:f0d s l e=(t,0)):StaOk t:=by
 obtain ⟨hg,i,x,b,y,hp,hput,rfl,_⟩:=l1f h;obtain ⟨p1,p2,p3,p4⟩:=d1f hg hp;obtain ⟨q1,q2,q3,q4,q5⟩:=w0y p1 hput;have hst:=hg.st;refine ⟨⟨hst.whole.1,by simpa [setS] using hst.whole.2⟩,hst.clock,fun j z hz => ?_⟩;rw[m1g] at hz;by_cases hij:i=j
 ·subst hij;rw[if_pos rfl,if_pos p3] at hz;cases hz;refine .inr ⟨q1,by rw[q4];exact hg.ev.t0,by rw[q4];exact hg.hi,?_⟩;rintro ⟨_,k,hk,w,hw,hlw,hwl⟩;rw[m1g,if_neg (by omega)] at hw;rw[q5,p2] at hwl;cases hp with
  | found hf hx hl hlv ht =>
   obtain ⟨_,_,_,_,first⟩:=o0v.1 hf;exact first k hk w hw ⟨hwl,hlw⟩
  | room hf hs hr=>exact a1u.1 hf w (List.mem_of_getElem? hw) ⟨hwl,hlw⟩
 ·rw[if_neg hij] at hz;rcases hst.right j z hz with k | ⟨k1,k2,k3,k4⟩
  ·exact .inl k
  ·refine .inr ⟨k1,k2,k3,?_⟩;rintro ⟨hlz,k,hk,w,hw,hlw,hwl⟩;rw[m1g] at hw;by_cases hik:i=k
   ·subst hik;rw[if_pos rfl,if_pos p3] at hw;cases hw;rw[q5,p2] at hwl;cases hp with
    | found hf hx hl hlv ht=>exact k4 ⟨hlz,i,hk,x,hx,hlv,hl.trans hwl⟩
    | room hf hs hr=>exact a1u.1 hf z (List.mem_of_getElem? hz) ⟨hwl.symm,hlz⟩
   ·rw[if_neg hik] at hw;exact k4 ⟨hlz,k,hk,w,hw,hlw,hwl⟩
noncomputable def f2m (s:Sta):Int×Int:=if StaOk s then (mk s,if 35184372088832<mk s+s.1.2.1.1 then 35184372088832 else mk s+s.1.2.1.1) else (0,0)
theorem markV_ok {s:Sta} (h:StaOk s):markV s=mk s∧IntKind.wrap .i64 (mk s+s.1.2.1.1)=mk s+s.1.2.1.1:=by
 have hr:=h.whole.1.rng.w0;have ht:=h.clock.1.2;obtain ⟨m1,m2,m3,m4⟩:=d1i h.clock.1 hr;exact ⟨if_pos ⟨h.whole,h.clock.1⟩,w64 (by omega) (by omega)⟩
theorem e2h (n:Nat) {s:Sta} (hw:StaW s):z0t (n+15) s=some (f2m s):=by
 rw[m1o,h0m n hw,obs,tfn,tfd,stt_mark (n+9) s];unfold f2m;by_cases h:StaOk s
 case neg=>rw[if_neg h,if_neg h,if_neg (show ¬((2:Int)=0) by decide)]
 obtain ⟨e1,e2⟩:=markV_ok h;rw[if_pos h,if_pos h,if_pos rfl,obs,e1,e2]
theorem b2g {s:Sta} {e:Ev} (h:StaOk s) (he:EvOk e):(e.1<(f2m s).1∨(f2m s).2≤e.1)↔(e.1<mk s∨mk s+s.1.2.1.1≤e.1):=by
 have:=he.t1;unfold f2m;rw[if_pos h];simp only;split<;>omega
theorem a1v {s:Sta} (h:Whole s) {l:List Lab} {i:Nat} (hf:i0x s l=some i):u1g s l=((i:Int),0):=by
 unfold u1g;rw[if_pos h,hf]
theorem a1w {s:Sta} (h:Whole s) {l:List Lab} (hf:i0x s l=none):u1g s l=(0,3):=by
 unfold u1g;rw[if_pos h,hf]
theorem e2l {s:Sta} (h:Whole s) {i:Nat} (hf:v0l s=some i):e2n s=((i:Int),0):=by
 unfold e2n;rw[if_pos h,hf]
theorem e2m {s:Sta} (h:Whole s) (hf:v0l s=none):e2n s=(0,7):=by
 unfold e2n;rw[if_pos h,hf]
theorem v1r {s:Sta} {l:List Lab} {e:Ev} (h:StaOk s) (h1:LabOk l) (h2:EvOk e) (h3:¬(e.1<mk s∨mk s+s.1.2.1.1≤e.1)) :
  d0k s l e=match i0x s l with
   | some i=>if e.1≤((s.2.2.2[i]?).getD ser0).2.1 then (0,(false,9)) else ((i:Int),(false,0))
   | none=>if e.2.2.2=true then (0,(false,3)) else match v0l s with | some i=>((i:Int),(true,0)) | none=>(0,(false,7)):=by
 unfold d0k;rw[if_neg (fun k=>k h),if_neg (fun k=>k h1),if_neg (fun k=>k h2),if_neg h3]
 all_goals (cases i0x s l<;>first | rfl | (cases v0l s<;>rfl))
theorem w1x (n:Nat) {s:Sta} (hw:StaW s) (l:List Lab) {e:Ev} (he:EvW e):v0k (n+16) s l e=some (d0k s l e):=by
 rw[i1h,h0m (n+1) hw,obs,tfn,tfd,q0g _ l,g0s _ he,e2h n hw,l1u (n+5) hw l,stt_room (n+5) hw];by_cases h:StaOk s
 case neg =>
  rw[if_neg h,if_neg (show ¬((2:Int)=0) by decide)];unfold d0k;rw[if_pos h]
 rw[if_pos h,if_pos rfl,obs,tfn,tfd];by_cases h1:LabOk l
 case neg =>
  rw[if_neg h1,if_neg (show ¬((8:Int)=0) by decide)];unfold d0k;rw[if_neg (fun k=>k h),if_pos h1]
 rw[if_pos h1,if_pos rfl,obs,tfn,tfd];by_cases h2:EvOk e
 case neg =>
  rw[if_neg h2,if_neg (show ¬((2:Int)=0) by decide)];unfold d0k;rw[if_neg (fun k=>k h),if_neg (fun k=>k h1),if_pos h2]
 rw[if_pos h2,if_pos rfl,obs,obs,tfd,tfd];by_cases h3:e.1<mk s∨mk s+s.1.2.1.1≤e.1
 ·have ht:d0k s l e=(0,(false,9)):=by
   unfold d0k;rw[if_neg (fun k=>k h),if_neg (fun k=>k h1),if_neg (fun k=>k h2),if_pos h3]
  rw[ht];rcases (b2g h h2).2 h3 with q | q
  ·rw[if_pos q]
  ·by_cases q':e.1<(f2m s).1
   ·rw[if_pos q']
   ·rw[if_neg q',if_pos q]
 have h3':=mt (b2g h h2).1 h3;rw[if_neg (fun k=>h3' (.inl k)),if_neg (fun k=>h3' (.inr k)),v1r h h1 h2 h3,tfd];cases hf:i0x s l with
 | some i =>
  obtain ⟨x,hx,_⟩:=o0v.1 hf;rw[a1v h.whole hf,if_pos rfl,u0f hx,obs,tfd];simp only[hx,Option.getD_some];by_cases h4:e.1≤x.2.1
  ·rw[if_pos h4,if_pos h4]
  ·rw[if_neg h4,if_neg h4];rfl
 | none =>
  rw[a1w h.whole hf,if_neg (show ¬((3:Int)=0) by decide),show (decide (((0:Int),(3:Int)).2=0))=false from rfl,tff];cases hs:e.2.2.2 with
  | true=>rw[tft];simp
  | false =>
   rw[tff,obs];simp only[Bool.false_eq_true,if_false];cases hr:v0l s with
   | some i=>rw[e2l h.whole hr];rfl
   | none=>rw[e2m h.whole hr];rfl
theorem h2y {s:Sta} {l:List Lab} {e:Ev} (h:(d0k s l e).2.2≠0):f0d s l e=(sta0,(d0k s l e).2.2):=by
 unfold f0d;rw[if_pos h]
theorem n2g (n:Nat) (s:List Ser) (h:s.length≤1000000):l0o (n+1) s=some s:=by
 rw[w0w,decide_eq_true (show (0+s.length)*264≤140737488355328 by omega)];simp only[tft,List.nil_append];by_cases h0:s.length=0
 ·rw[decide_eq_true h0,tft,List.length_eq_zero_iff.1 h0,v1e]
 ·rw[decide_eq_false h0,tff]
theorem place_w {s:Sta} (hw:StaW s) {l:List Lab} {e:Ev} (hg:Goes s l e) {i:Nat} {x:Ser} {b:Bool} (hp:PlaceAt s l e i x b):SerW x:=by
 cases hp with
 | found hf hx hl hlv ht=>exact (hw.at hx).1
 | room hf hs hr=>exact serInv_w (y1q hg.st.whole.1 hg.lab)
theorem h2p {s:Sta} {l:List Lab} {e:Ev} {i:Nat} {x:Ser} {b:Bool} (hp:(d0k s l e).1.toNat=i) (hx:xOf s l (d0k s l e)=x) (h:(d0k s l e).2.2=0) :
  f0d s l e=if (putE s.1 x e).2=0 then (setS s i (putE s.1 x e).1,0) else (sta0,(putE s.1 x e).2):=by
 unfold f0d;rw[if_neg (fun k=>k h),hp,hx];by_cases h1:(putE s.1 x e).2=0
 ·rw[if_neg (fun k=>k h1),if_pos h1]
 ·rw[if_pos h1,if_neg h1]
theorem set_tail {s:Sta} {i:Nat} (hi:i<s.2.2.2.length) (y:Ser) :
  (a0a (at? s.2.2.2 (i:Int)) fun r4=>a0a ((s.2.2.2)[(Int.toNat (i:Int))]?) fun r5=>some ((s.1,(s.2.1,(s.2.2.1,(List.set s.2.2.2 (Int.toNat (i:Int)) y)))),(0:Int)))=some (setS s i y,0):=by
 obtain ⟨z,hz⟩:=k1x hi;rw[u0f hz,obs,Int.toNat_natCast,hz,obs];rfl
theorem p1u (n:Nat) {s:Sta} (hw:StaW s) (l:List Lab) {e:Ev} (he:EvW e):d1q (n+24) s l e=some (f0d s l e):=by
 rw[p1v,w1x (n+7) hw l he,obs,tfn,tfd];by_cases h:(d0k s l e).2.2=0
 case neg=>rw[if_neg h,h2y h];rfl
 obtain ⟨hg,i,x,b,hp,k1,k2,hv⟩:=c2a h;obtain ⟨p1,p2,p3,p4⟩:=d1f hg hp;rw[if_pos h,h2p (b:=b) k1 k2 h,hv,h1w];have hx:(tif b (a0a (t0h (n+22) s.1 l) fun r0=>some r0) (a0a (at? s.2.2.2 (i:Int)) fun r1=>some (r1,(0:Int))))=some (x,0):=by
  cases hp with
  | found hf hx hl hlv ht=>rw[tff,u0f hx,obs]
  | room hf hs hr=>rw[tft,e2e (n+15),k2w hg.st.whole.1 hg.lab,obs]
 simp only;rw[hx,obs,tfn,tfd,if_pos rfl];simp only;rw[e2d n s.1 (place_w hw hg hp) he,obs,tfn,tfd];by_cases h1:(putE s.1 x e).2=0
 case neg=>rw[if_neg h1,if_neg h1];rfl
 rw[if_pos h1,if_pos h1,n2g (n+22) _ (by have:=hg.st.whole.len;omega),obs,set_tail p3]
def Moves (s:Sta) (now:Int):Prop:=StaOk s∧s.2.1<now∧now<35184372088832
noncomputable instance (s now):Decidable (Moves s now):=Classical.propDecidable _
def i2h (s:Sta) (now:Int):Sta:=(s.1,(now,s.2.2))
noncomputable def d2p (s:Sta) (now:Int):Sta×Bool:=if Moves s now then (i2h s now,true) else (s,false)
theorem c2n (n:Nat) {s:Sta} (hw:StaW s) (now:Int):p1b (n+15) s now=some (d2p s now):=by
 rw[z1k,h0m n hw];unfold d2p;simp only[tfd,tfn,obs];by_cases h:Moves s now
 ·rw[if_neg (by have:=h.2.1;omega),if_neg (by have:=h.2.2;omega),if_pos h.1,if_pos rfl,if_pos h];rfl
 ·rw[if_neg h];by_cases h1:now≤s.2.1
  ·rw[if_pos h1]
  rw[if_neg h1];by_cases h2:35184372088832≤now
  ·rw[if_pos h2]
  rw[if_neg h2,if_neg (fun k:StaOk s=>h ⟨k,by omega,by omega⟩)];rfl
theorem tickS_w {s:Sta} (hw:StaW s) (now:Int):StaW (i2h s now):=⟨hw.len,hw.ser⟩
theorem tick_ok {s:Sta} {now:Int} (h:Moves s now):StaOk (i2h s now):=by
 obtain ⟨h,h1,h2⟩:=h;have t0:=h.clock.1.1;have hr:=h.whole.1.rng.w0;refine ⟨h.whole,⟨⟨by show 0≤now;omega,h2⟩,h.clock.2.1,by have:=h.clock.2.2;show s.2.2.1≤now;omega⟩,fun i x hx => ?_⟩;rcases h.right i x hx with k | ⟨k1,k2,k3,k4⟩
 ·exact .inl k
 ·refine .inr ⟨k1,k2,?_,k4⟩;have:mk s≤mk (i2h s now):=Int.mul_le_mul_of_nonneg_right (Int.ediv_le_ediv (by omega) (by show s.2.1≤now;omega)) (by omega);show x.2.1<mk (i2h s now)+s.1.2.1.1;omega
def a0i (c:Conf) (k:Int):Int:=if k=0 then c.2.1.1 else if k=1 then c.2.1.2.1 else c.2.1.2.2
def z0d (c:Conf) (k:Int):Int:=if k=0 then c.2.2.1.1 else if k=1 then c.2.2.1.2.1 else c.2.2.1.2.2
noncomputable def keptV (s:Sta) (k:Int):Int×(Int×Int) :=
 if StaOk s then (if k<0∨2<k then (0,(0,1)) else ((oldV s.2.1 (a0i s.1 k) (z0d s.1 k)).1,(s.2.1 / a0i s.1 k,0))) else (0,(0,2))
theorem q0d {now w m:Int} (h:OfP now w) (hm:1≤m∧m≤4096):(oldV now w m).2=0:=by
 unfold oldV;rw[if_pos ⟨h,hm.1,hm.2⟩]
theorem p1a (n:Nat) {s:Sta} (hw:StaW s) (k:Int):y0l (n+16) s k=some (keptV s k):=by
 rw[z1l,u1n,h0m n hw];unfold keptV;by_cases h:StaOk s
 case neg=>rw[if_neg h,if_neg h];rfl
 rw[if_pos h,if_pos h];have hr:=h.whole.1.rng;have ht:=h.clock.1;simp only[obs,decide_true,Bool.not_true,tff,tfd,tfn,q0x (n+11)];by_cases h1:k<0
 ·rw[if_pos h1,if_pos (Or.inl h1)];rfl
 rw[if_neg h1];by_cases h2:3≤k
 ·rw[if_pos h2,if_pos (show k<0∨2<k by omega)];rfl
 rw[if_neg h2,if_neg (show ¬(k<0∨2<k) by omega)];simp only[obs,if_true];have q0:=i0b ht hr.w0.1;have q1:=i0b ht hr.w1.1;have q2:=i0b ht hr.w2.1;rcases (by omega:k=0∨k=1∨k=2) with e | e | e
 ·subst e;simp only[if_true,if_neg (nz hr.w0.1),q0,q0d ⟨ht.1,ht.2,hr.w0.1,hr.w0.2⟩ hr.n0];rfl
 ·subst e;simp only[if_true,if_neg (show ¬((1:Int)=0) by decide),if_neg (nz hr.w1.1),q1,q0d ⟨ht.1,ht.2,hr.w1.1,hr.w1.2⟩ hr.n1];rfl
 ·subst e;simp only[if_true,if_neg (show ¬((2:Int)=0) by decide),if_neg (show ¬((2:Int)=1) by decide),if_neg (nz hr.w2.1),q2,q0d ⟨ht.1,ht.2,hr.w2.1,hr.w2.2⟩ hr.n2];rfl
def h1u (o:Int) (r:Int×Int) (s:Slo):Prop:=¬(s.1<o∧(s.1<r.1∨r.2≤s.1))
instance (o r s):Decidable (h1u o r s):=by unfold h1u;infer_instance
def m0a (o:Int) (r:Int×Int) (l:List Slo):List Slo:=l.map fun s=>if h1u o r s then s else s0
theorem g0k (o r) (l:List Slo):(m0a o r l).length=l.length:=by simp[m0a]
theorem o1r {o r} {l:List Slo} {w:Int} (h:TierOk l w):TierOk (m0a o r l) w:=by
 refine ⟨by rw[g0k];exact h.l0,by rw[g0k];exact h.l1,h.w0,h.w1,fun j s hs => ?_⟩;rw[g0k];unfold m0a at hs;rw[List.getElem?_map] at hs;cases ha:l[j]? with
 | none=>rw[ha] at hs;cases hs
 | some a =>
  rw[ha] at hs;simp only[Option.map_some,Option.some.injEq] at hs;split at hs
  ·rw[←hs];exact h.s j a ha
  ·exact .inl hs.symm
theorem t0r {o r} {l:List Slo} {a:Int} (h:a0k l a):a0k (m0a o r l) a:=by
 intro s hs hc;unfold m0a at hs;obtain ⟨x,hx,e⟩:=List.mem_map.1 hs;split at e
 ·rw[←e] at hc ⊢;exact h x hx hc
 ·rw[←e] at hc;exact absurd hc (by decide)
def n0q (c:Conf) (last:Int):Int×Int:=(last / c.2.1.2.1*(c.2.1.2.1 / c.2.1.1),last / c.2.1.2.1*(c.2.1.2.1 / c.2.1.1)+c.2.1.2.1 / c.2.1.1)
def o0n (c:Conf) (last:Int):Int×Int:=(last / c.2.1.2.2*(c.2.1.2.2 / c.2.1.2.1),last / c.2.1.2.2*(c.2.1.2.2 / c.2.1.2.1)+c.2.1.2.2 / c.2.1.2.1)
noncomputable def i0l (c:Conf) (now:Int) (x:Ser):Ser :=
 (x.1,(x.2.1,(x.2.2.1,((m0a (oldV now c.2.1.1 c.2.2.1.1).1 (n0q c x.2.1) x.2.2.2.1.1,(m0a (oldV now c.2.1.2.1 c.2.2.1.2.1).1 (o0n c x.2.1) x.2.2.2.1.2.1,m0a (oldV now c.2.1.2.2 c.2.2.1.2.2).1 (0,0) x.2.2.2.1.2.2)),x.2.2.2.2))))
theorem z1q {c:Conf} {now:Int} {x:Ser} (h:FoldOk c x.2.2.2.1):FoldOk c (i0l c now x).2.2.2.1 :=
 ⟨h.cok,by simpa [i0l,g0k] using h.n0,by simpa [i0l,g0k] using h.n1,by simpa [i0l,g0k] using h.n2,o1r h.t0,o1r h.t1,o1r h.t2⟩
theorem n2j {c:Conf} {now:Int} {x:Ser} (h:SerOk c x):SerOk c (i0l c now x):=by
 refine ⟨z1q h.fold,h.lab,h.raw,?_⟩;rcases h.st with ⟨k1,k2⟩ | ⟨k1,k2⟩
 ·exact .inl ⟨k1,k2.raw,k2.opn,t0r k2.b0,t0r k2.b1,t0r k2.b2⟩
 ·exact .inr ⟨k1,k2.last,k2.ol,k2.fit,t0r k2.b0,t0r k2.b1,t0r k2.b2⟩
theorem d0d {a b:Cel} (ha:b0d a) (hb:b0d b) (h:Ahead a b):mrgE a b=(mrg a b,0):=by
 unfold mrgE;rw[if_pos ⟨ha,hb⟩,if_pos h]
theorem o2f {w:Int}:∀(L:List Slo) (c:Cel) (lo hi:Int),Up L→(∀s∈L,FitsP s.2 w s.1∧lo≤s.1∧s.1<hi)→b0d c→(c=z0∨c.2.2.1.1 / w<lo)→lo≤hi→(allE c (L.map (·.2))).1=z0∨(allE c (L.map (·.2))).1.2.2.1.1 / w<hi:=by
 intro L;induction L with
 | nil=>intro c lo hi _ _ _ h hle;rcases h with h | h;exact .inl h;exact .inr (by simp only[List.map_nil,allE];omega)
 | cons s L ih =>
  intro c lo hi hu hs hc hl hle;unfold Up at hu;rw[List.pairwise_cons] at hu;obtain ⟨hf,h1,h2⟩:=hs s (by simp);have ha:Ahead c s.2:=by
   rcases hl with h | h
   ·exact .inl h
   ·refine .inr (.inr ?_);have e:=hf.f;rcases Int.lt_or_le c.2.2.1.1 s.2.2.1.1 with q | q
    ·exact q
    ·have:=Int.ediv_le_ediv (c:=w) (by have:=hf.w0;omega) q;omega
  simp only[List.map_cons,allE];rw[d0d hc hf.n.ok ha,if_pos rfl];refine ih _ (s.1+1) hi hu.2 (fun x hx=>⟨(hs x (by simp[hx])).1,by have:=hu.1 x hx;omega,(hs x (by simp[hx])).2.2⟩) (u0w hc hf.n.ok ha) (.inr ?_) (by omega);have el:(mrg c s.2).2.2.1.1=s.2.2.2.1.1:=by
   unfold mrg;by_cases k:c=z0
   ·rw[if_pos k]
   ·rw[if_neg k,if_neg hf.n.ne]
  rw[el,hf.l];omega
theorem k0v {t:List Slo} {w i j a:Int} (h:TierOk t w) (hb:a0k t a) (h0:0≤i) (ha:i≤a):b0d (tfold t i j).1∧((tfold t i j).1=z0∨(tfold t i j).1.2.2.1.1 / w<a):=by
 refine ⟨n0t _ _ _,?_⟩;unfold tfold;split
 ·exact .inl rfl
 ·unfold within;have hn:=(e0e h a).1 hb;refine o2f (w:=w) _ z0 i a ((m0y h).filter _) (fun s hs => ?_) i0i (.inl rfl) ha;obtain ⟨s1,s2⟩:=List.mem_filter.1 hs;have s2:=of_decide_eq_true s2;exact ⟨(d0y h s1).1,s2.1,hn s s1⟩
theorem t0w {a b:Cel} {w k:Int} (hw:1≤w) (ha:a=z0∨a.2.2.1.1 / w<k) (hb:b=z0∨b.2.1.1 / w=k):Ahead a b:=by
 rcases ha with ha | ha
 ·exact .inl ha
 rcases hb with hb | hb
 ·exact .inr (.inl hb)
 refine .inr (.inr ?_);rcases Int.lt_or_le a.2.2.1.1 b.2.1.1 with q | q
 ·exact q
 ·have:=Int.ediv_le_ediv (c:=w) (by omega) q;omega
theorem h2l {w:Int}:∀(L:List Slo) (c:Cel) (lo:Int),Up L→(∀s∈L,FitsP s.2 w s.1∧lo≤s.1)→b0d c→(c=z0∨c.2.2.1.1 / w<lo)→∀b:Int,(c=z0∨b≤c.2.1.1 / w)→b≤lo→(allE c (L.map (·.2))).1=z0∨b≤(allE c (L.map (·.2))).1.2.1.1 / w:=by
 intro L;induction L with
 | nil=>intro c lo _ _ _ _ b hb _;exact hb
 | cons s L ih =>
  intro c lo hu hs hc hl b hb hbl;unfold Up at hu;rw[List.pairwise_cons] at hu;obtain ⟨hf,h1⟩:=hs s (by simp);have ha:Ahead c s.2:=by
   rcases hl with h | h
   ·exact .inl h
   ·refine .inr (.inr ?_);have e:=hf.f;rcases Int.lt_or_le c.2.2.1.1 s.2.2.1.1 with q | q
    ·exact q
    ·have:=Int.ediv_le_ediv (c:=w) (by have:=hf.w0;omega) q;omega
  simp only[List.map_cons,allE];rw[d0d hc hf.n.ok ha,if_pos rfl];refine ih _ (s.1+1) hu.2 (fun x hx=>⟨(hs x (by simp[hx])).1,by have:=hu.1 x hx;omega⟩) (u0w hc hf.n.ok ha) (.inr ?_) b ?_ (by omega)
  ·have el:(mrg c s.2).2.2.1.1=s.2.2.2.1.1:=by
    unfold mrg;by_cases k:c=z0
    ·rw[if_pos k]
    ·rw[if_neg k,if_neg hf.n.ne]
   rw[el,hf.l];omega
  ·unfold mrg;by_cases k:c=z0
   ·rw[if_pos k,hf.f];exact .inr (by omega)
   ·rw[if_neg k,if_neg hf.n.ne];rcases hb with hb | hb
    ·exact absurd hb k
    ·exact .inr hb
theorem v1z {t:List Slo} {w i j:Int} (h:TierOk t w) (h0:0≤i):(tfold t i j).1=z0∨i≤(tfold t i j).1.2.1.1 / w:=by
 unfold tfold;split
 ·exact .inl rfl
 ·unfold within;refine h2l (w:=w) _ z0 i ((m0y h).filter _) (fun s hs => ?_) i0i (.inl rfl) i (.inl rfl) (Int.le_refl _);obtain ⟨s1,s2⟩:=List.mem_filter.1 hs;have s2:=of_decide_eq_true s2;exact ⟨(d0y h s1).1,s2.1⟩
theorem now_up {t:List Slo} {a b T:Int} {cur:Cel} (h:TierOk t a) (hb:a0k t (T / a)) (ha:1≤a) (hb1:1≤b) (hm:b % a=0) (hT:0≤T) (hc:CellN cur) (hf:cur.2.1.1 / a=T / a) :
  ∃m,mrgE (tfold t (T / b*(b / a)) (T / a)).1 cur=(m,0)∧CellN m∧m.2.1.1 / b=T / b:=by
 have hp:=f0z ha hb1 hm;have q:=(edvm (t:=T) ha hb1 hm).2;have hT':0≤T / b:=Int.ediv_nonneg hT (by omega);have u0:T / b*(b / a)≤T / a:=by rw[←q];exact Int.ediv_mul_le _ (by omega)
 have p0:0≤T / b*(b / a):=Int.mul_nonneg hT' (by omega);obtain ⟨k1,k2⟩:=k0v (j:=T / a) h hb p0 u0;have k3:=v1z (j:=T / a) h p0;have hah:=t0w ha k2 (.inr hf);refine ⟨_,d0d k1 hc.ok hah,?_,?_⟩
 ·rcases k1 with z | z
  ·rw[z,i0j];exact hc
  ·rcases hah with y | y | y
   ·rw[y,i0j];exact hc
   ·exact absurd y hc.ne
   ·exact y1r z hc y
 ·unfold mrg;by_cases z:(tfold t (T / b*(b / a)) (T / a)).1=z0
  ·rw[if_pos z,←(edvm (t:=cur.2.1.1) ha hb1 hm).2,hf,q]
  ·rw[if_neg z,if_neg hc.ne];have z1:=k2.resolve_left z;have z2:=k3.resolve_left z;have z3:=(k1.n z).ft;have z4:(tfold t (T / b*(b / a)) (T / a)).1.2.1.1 / a≤(tfold t (T / b*(b / a)) (T / a)).1.2.2.1.1 / a:=Int.ediv_le_ediv (by omega) z3;rw[←(edvm (t:=(tfold t (T / b*(b / a)) (T / a)).1.2.1.1) ha hb1 hm).2];have z5:(tfold t (T / b*(b / a)) (T / a)).1.2.1.1 / a / (b / a)≤T / a / (b / a):=Int.ediv_le_ediv (by omega) (by omega);have z6:T / b≤(tfold t (T / b*(b / a)) (T / a)).1.2.1.1 / a / (b / a):=by rw[Int.le_ediv_iff_mul_le hp];exact z2
   omega
theorem z0x {t:List Slo} {w T i j:Int} {cur:Cel} {ok:Prop} [Decidable ok] (hok:ok) (h:TierOk t w) (hb:T = -1∨a0k t (T / w)∧CellN cur∧cur.2.1.1 / w=T / w) (h0:0≤i) (hij:i≤j):(b0r ok i j T w t (cur,0)).2=0:=by
 unfold b0r;rw[if_pos hok,if_neg (by omega),if_neg (by omega)];by_cases h1:T = -1
 ·rw[if_pos h1]
 rw[if_neg h1];obtain ⟨hb,hc,hf⟩:=hb.resolve_left h1;by_cases h2:T / w<i
 ·rw[if_pos h2];exact g0x h h0 hij
 rw[if_neg h2];by_cases h3:j≤T / w
 ·rw[if_pos h3];exact g0x h h0 hij
 rw[if_neg h3,if_neg (nn rfl)];obtain ⟨k1,k2⟩:=k0v (j:=j) h hb h0 (by omega:i≤T / w);rw[d0d k1 hc.ok (t0w h.w0 k2 (.inr hf))]
theorem e2w {t:List Slo} {w T i j:Int} {now:Cel×Int} {ok:Prop} [Decidable ok] (hok:ok) (h:TierOk t w) (hb:a0k t (T / w+1)) (h0:0≤i) (hij:i≤j) (hi:T / w<i):b0r ok i j T w t now=(z0,0):=by
 have e:tfold t i j=(z0,0):=by
  unfold tfold;rw[if_neg (by omega)];have hn:=(e0e h _).1 hb;have:within t i j=[]:=by
   unfold within;rw[List.filter_eq_nil_iff.2 (fun s hs=>by have:=hn s hs;simp;omega)];rfl
  rw[this];rfl
 unfold b0r;rw[if_pos hok,if_neg (by omega),if_neg (by omega),if_pos hi,e];split<;>rfl
structure Ends3 (c:Conf) (s:Ser):Prop where
 t0:s.2.1 = -1∨a0k s.2.2.2.1.1 (s.2.1 / c.2.1.1)∧CellN s.2.2.2.2.2∧s.2.2.2.2.2.2.1.1 / c.2.1.1=s.2.1 / c.2.1.1
 t1:s.2.1 = -1∨∃m,now1 c s=(m,0)∧a0k s.2.2.2.1.2.1 (s.2.1 / c.2.1.2.1)∧CellN m∧m.2.1.1 / c.2.1.2.1=s.2.1 / c.2.1.2.1
 t2:s.2.1 = -1∨∃m,now2 c s=(m,0)∧a0k s.2.2.2.1.2.2 (s.2.1 / c.2.1.2.2)∧CellN m∧m.2.1.1 / c.2.1.2.2=s.2.1 / c.2.1.2.2
theorem v0j {c:Conf} {s:Ser} (h:SerOk c s):Ends3 c s:=by
 have hr:=h.fold.cok.rng;by_cases hn:s.2.1 = -1
 ·exact ⟨.inl hn,.inl hn,.inl hn⟩
 have ht:=f0w h hn;obtain ⟨he,_⟩:=j1x h hn;have hf:s.2.2.2.2.2.2.1.1 / c.2.1.1=s.2.1 / c.2.1.1:=by
  rw[he.fit.f,←he.fit.l,he.ol]
 obtain ⟨m1,a1,a2,a3⟩:=now_up h.fold.t0 he.b0 hr.w0.1 hr.w1.1 h.fold.cok.m1 ht.1 he.fit.n hf;obtain ⟨m2,b1,b2,b3⟩:=now_up h.fold.t1 he.b1 hr.w1.1 hr.w2.1 h.fold.cok.m2 ht.1 a2 a3;have e1:now1 c s=(m1,0):=a1;refine ⟨.inr ⟨he.b0,he.fit.n,hf⟩,.inr ⟨m1,e1,he.b1,a2,a3⟩,.inr ⟨m2,?_,he.b2,b2,b3⟩⟩;unfold now2;rw[e1,if_neg (nn rfl)];exact b1
noncomputable def rangeK (c:Conf) (s:Ser) (k i j:Int):Cel×Int :=
 if k=0 then b0r (SerOk c s) i j s.2.1 c.2.1.1 s.2.2.2.1.1 (s.2.2.2.2.2,0)
 else if k=1 then b0r (SerOk c s) i j s.2.1 c.2.1.2.1 s.2.2.2.1.2.1 (now1 c s)
 else b0r (SerOk c s) i j s.2.1 c.2.1.2.2 s.2.2.2.1.2.2 (now2 c s)
theorem f1b {c:Conf} {s:Ser} (h:SerOk c s) (k:Int) {i j:Int} (h0:0≤i) (hij:i≤j):(rangeK c s k i j).2=0:=by
 have he:=v0j h;unfold rangeK;split
 ·exact z0x h h.fold.t0 he.t0 h0 hij
 split
 ·by_cases hn:s.2.1 = -1
  ·unfold b0r;rw[if_pos h,if_neg (by omega),if_neg (by omega),if_pos hn]
  ·obtain ⟨m,e,k1,k2,k3⟩:=he.t1.resolve_left hn;rw[e];exact z0x h h.fold.t1 (.inr ⟨k1,k2,k3⟩) h0 hij
 ·by_cases hn:s.2.1 = -1
  ·unfold b0r;rw[if_pos h,if_neg (by omega),if_neg (by omega),if_pos hn]
  ·obtain ⟨m,e,k1,k2,k3⟩:=he.t2.resolve_left hn;rw[e];exact z0x h h.fold.t2 (.inr ⟨k1,k2,k3⟩) h0 hij
theorem nb_all {c:Conf} {s:Ser} (h:SerOk c s):a0k s.2.2.2.1.1 (s.2.1 / c.2.1.1+1)∧a0k s.2.2.2.1.2.1 (s.2.1 / c.2.1.2.1+1)∧a0k s.2.2.2.1.2.2 (s.2.1 / c.2.1.2.2+1):=by
 have hr:=h.fold.cok.rng;rcases h.st with ⟨k1,k2⟩ | ⟨k1,k2⟩
 ·rw[k1];have e:∀w:Int,1≤w→(-1:Int) / w = -1:=fun w hw=>Int.ediv_eq_iff_of_pos (by omega) |>.2 ⟨by omega,by omega⟩
  rw[e _ hr.w0.1,e _ hr.w1.1,e _ hr.w2.1];exact ⟨k2.b0,k2.b1,k2.b2⟩
 ·exact ⟨e0w k2.b0 (by omega),e0w k2.b1 (by omega),e0w k2.b2 (by omega)⟩
noncomputable def z1h (s:Sta) (i:Nat):Bool:=match s.2.2.2[i]? with | some x=>a1z s.1 x.2.1 s.2.1 | none=>false
noncomputable def dueV (s:Sta):List Nat:=if StaOk s then (o0o s).filter (z1h s) else []
def b1j (s:Sta):Sta:=(s.1,(s.2.1,(s.2.1,s.2.2.2)))
noncomputable def s0l (s:Sta) (x:Ser):Ser:=if LvX s x then i0l s.1 s.2.1 x else ser0
noncomputable def c1b (s:Sta):Sta:=(s.1,(s.2.1,(s.2.2.1,s.2.2.2.map (s0l s))))
theorem swept_lv {s:Sta} {x:Ser} (h:StaOk s):LvX (b1j s) x↔x≠ser0∧a1z s.1 x.2.1 s.2.1=false:=by
 have:=h.clock.1.1;constructor
 ·rintro ⟨h1,h2 | h2⟩
  ·exfalso;have h2:s.2.1 = -1:=h2;omega
  ·exact ⟨h1,h2⟩
 ·rintro ⟨h1,h2⟩;exact ⟨h1,.inr h2⟩
theorem d1h {a b w m:Int} (ha:OfP a w) (hb:OfP b w) (hab:a≤b) (hm:1≤m∧m≤4096):(oldV a w m).1≤(oldV b w m).1:=by
 unfold oldV;rw[if_pos (show OfP a w∧1≤m∧m≤4096 from ⟨ha,hm.1,hm.2⟩),if_pos (show OfP b w∧1≤m∧m≤4096 from ⟨hb,hm.1,hm.2⟩)];have:a / w≤b / w:=Int.ediv_le_ediv (by have:=ha.2.2.1;omega) hab;simp only;split<;>split<;>omega
theorem g1l {t a b w m:Int} (ha:OfP a w) (hb:OfP b w) (hab:a≤b) (hm:1≤m∧m≤4096) (h:u0d t a w m=true):u0d t b w m=true:=by
 unfold u0d at *
 have h:=of_decide_eq_true h;have:=d1h ha hb hab hm;exact decide_eq_true ⟨h.1,q0d hb hm,by omega⟩
theorem n2a {c:Conf} {t a b:Int} (ha:v0u a) (hb:v0u b) (hab:a≤b) (h:a1z c t a=true):a1z c t b=true:=by
 unfold a1z at *
 simp only[Bool.and_eq_true,decide_eq_true_eq] at h ⊢;obtain ⟨hc,h0,h1,h2⟩:=h;have hr:=hc.rng;exact ⟨hc,g1l ⟨ha.1,ha.2,hr.w0.1,hr.w0.2⟩ ⟨hb.1,hb.2,hr.w0.1,hr.w0.2⟩ hab hr.n0 h0,g1l ⟨ha.1,ha.2,hr.w1.1,hr.w1.2⟩ ⟨hb.1,hb.2,hr.w1.1,hr.w1.2⟩ hab hr.n1 h1,g1l ⟨ha.1,ha.2,hr.w2.1,hr.w2.2⟩ ⟨hb.1,hb.2,hr.w2.1,hr.w2.2⟩ hab hr.n2 h2⟩
theorem a2k {s:Sta} (h:StaOk s) {x:Ser} (hl:LvX (b1j s) x):LvX s x:=by
 obtain ⟨h1,h2⟩:=(swept_lv h).1 hl;refine ⟨h1,?_⟩;rcases h.clock.2.1 with k | k
 ·exact .inl k
 ·refine .inr ?_;cases hd:a1z s.1 x.2.1 s.2.2.1 with
  | false=>rfl
  | true=>rw[n2a k h.clock.1 h.clock.2.2 hd] at h2;cases h2
theorem swept_ok {s:Sta} (h:StaOk s):StaOk (b1j s):=by
 refine ⟨h.whole,⟨h.clock.1,.inr h.clock.1,Int.le_refl _⟩,fun i x hx => ?_⟩;rcases h.right i x hx with k | ⟨k1,k2,k3,k4⟩
 ·exact .inl k
 ·refine .inr ⟨k1,k2,k3,?_⟩;rintro ⟨q1,j,q2,y,q3,q4,q5⟩;exact k4 ⟨a2k h q1,j,q2,y,q3,a2k h q4,q5⟩
theorem n2k {c:Conf} {now:Int} {x:Ser} (h:SerOk c x):i0l c now x≠ser0:=by
 intro k;have:=h.lab.n0;have e:x.1=[]:=congrArg Prod.fst k;rw[e] at this;simp at this
theorem y1t {s:Sta} (h:StaOk s) {x:Ser} (hx:x∈s.2.2.2) (hl:LvX s x):SerOk s.1 x∧0≤x.2.1:=by
 obtain ⟨i,hi,e⟩:=List.getElem_of_mem hx;rcases h.right i x (by rw[List.getElem?_eq_getElem hi,e]) with k | k
 ·exact absurd k hl.1
 ·exact ⟨k.1,k.2.1⟩
theorem n2l {s:Sta} (h:StaOk s) {x:Ser} (hx:x∈s.2.2.2):LvX s (s0l s x)↔LvX s x:=by
 unfold s0l;by_cases hl:LvX s x
 ·rw[if_pos hl];exact ⟨fun _=>hl,fun _=>⟨n2k (y1t h hx hl).1,hl.2⟩⟩
 ·rw[if_neg hl];exact ⟨fun k=>absurd rfl k.1,fun k=>absurd k hl⟩
theorem clean_ok {s:Sta} (h:StaOk s):StaOk (c1b s):=by
 refine ⟨⟨h.whole.1,by simpa [c1b] using h.whole.2⟩,h.clock,fun i x hx => ?_⟩;have hx:(s.2.2.2.map (s0l s))[i]? = some x:=hx;rw[List.getElem?_map] at hx;cases hy:s.2.2.2[i]? with
 | none=>rw[hy] at hx;cases hx
 | some y =>
  rw[hy] at hx;simp only[Option.map_some,Option.some.injEq] at hx;by_cases hl:LvX s y
  ·have e:s0l s y=i0l s.1 s.2.1 y:=if_pos hl;rw[e] at hx;have hym:=List.mem_of_getElem? hy;rcases h.right i y hy with k | ⟨k1,k2,k3,k4⟩
   ·exact absurd k hl.1
   subst hx;refine .inr ⟨n2j k1,k2,k3,?_⟩;rintro ⟨q1,j,q2,z,q3,q4,q5⟩;have q3:(s.2.2.2.map (s0l s))[j]? = some z:=q3;rw[List.getElem?_map] at q3;cases hw:s.2.2.2[j]? with
   | none=>rw[hw] at q3;cases q3
   | some w =>
    rw[hw] at q3;simp only[Option.map_some,Option.some.injEq] at q3;have hwm:=List.mem_of_getElem? hw;have q4:LvX s z:=q4;rw[←q3] at q4 q5;have hlw:=(n2l h hwm).1 q4;have e2:s0l s w=i0l s.1 s.2.1 w:=if_pos hlw;rw[e2] at q5;exact k4 ⟨hl,j,q2,w,hw,hlw,q5⟩
  ·have e:s0l s y=ser0:=if_neg hl;rw[e] at hx;exact .inl hx.symm
theorem o1b {s:Sta} {i:Nat}:lvAt s i=true↔∃x,s.2.2.2[i]? = some x∧LvX s x:=by
 unfold lvAt;cases s.2.2.2[i]? with
 | none=>simp
 | some x=>simp
theorem tier_rng {c:Conf} (h:OkC c) (k:Int):1≤a0i c k∧a0i c k≤1099511627776∧1≤z0d c k∧z0d c k≤4096:=by
 have hr:=h.rng;have a0:=hr.w0;have a1:=hr.w1;have a2:=hr.w2;have b0:=hr.n0;have b1:=hr.n1;have b2:=hr.n2;unfold a0i z0d;split
 ·exact ⟨a0.1,a0.2,b0.1,b0.2⟩
 split
 ·exact ⟨a1.1,a1.2,b1.1,b1.2⟩
 ·exact ⟨a2.1,a2.2,b2.1,b2.2⟩
end Go.Proofs.YtgkpkajaepphjaaGreatDoor

namespace Go.Plim
set_option linter.unusedVariables false
def tz:Nat→Nat→Nat
 | 0,_=>0
 | k+1,x=>if x % 2=1 then 0 else tz k (x / 2)+1
theorem tz_odd (k x:Nat) (h:x % 2=1):tz k x=0:=by cases k<;>simp[tz,h]
theorem v0e:∀(k x:Nat),0<x→x<2^k→tz k x<k∧x=2^tz k x*(x / 2^tz k x)∧(x / 2^tz k x) % 2=1:=by
 intro k;induction k with
 | zero=>intro x h0 h1;simp at h1;omega
 | succ k ih =>
  intro x h0 h1;by_cases h:x % 2=1
  ·rw[tz_odd (k+1) x h];simp[h]
  ·have e:tz (k+1) x=tz k (x / 2)+1:=by simp[tz,h]
   rw[Nat.pow_succ] at h1;obtain ⟨a1,a2,a3⟩:=ih (x / 2) (by omega) (by omega);rw[e,Nat.pow_succ,Nat.mul_comm (2^tz k (x / 2)) 2,←Nat.div_div_eq_div_mul];refine ⟨by omega,?_,a3⟩;rw[Nat.mul_assoc,←a2];omega
theorem d1y {k x t:Nat} (h0:0<x) (h1:x<2^k) (h:x % 2^t=0) (ho:(x / 2^t) % 2=1):tz k x=t:=by
 obtain ⟨a1,a2,a3⟩:=v0e k x h0 h1;have b2:x=2^t*(x / 2^t):=by have:=Nat.div_add_mod x (2^t);omega
 generalize tz k x=s at *
 generalize hy:x / 2^s=y at *
 generalize hz:x / 2^t=z at *
 have e:2^s*y=2^t*z:=by omega
 have one:∀(s t y z:Nat),2^s*y=2^t*z→y % 2=1→z % 2=1→s<t→False:=by
  intro s t y z e hy hz hlt;obtain ⟨d,rfl⟩:∃d,t=s+(d+1):=⟨t-s-1,by omega⟩;rw[Nat.pow_add,Nat.mul_assoc] at e;have:=Nat.eq_of_mul_eq_mul_left (Nat.two_pow_pos s) e;rw[this,Nat.pow_succ,Nat.mul_comm (2^d) 2,Nat.mul_assoc,Nat.mul_mod_right] at hy;cases hy
 rcases Nat.lt_trichotomy s t with q | q | q
 ·exact (one s t y z e a3 ho q).elim
 ·exact q
 ·exact (one t s z y e.symm ho a3 q).elim
theorem z1a {a b:Nat} (ha:a % 2=1) (t:Nat):Nat.gcd a (2^t*b)=Nat.gcd a b:=by
 have hc:Nat.Coprime 2 a:=by
  unfold Nat.Coprime;rw[Nat.gcd_rec,ha];simp
 exact Nat.Coprime.gcd_mul_left_cancel_right b (Nat.Coprime.pow_left t hc)
theorem d1m {a b:Nat} (h:a≤b):Nat.gcd a (b-a)=Nat.gcd a b:=by
 have:=Nat.gcd_add_self_right (m:=a) (n:=b-a);rw[Nat.sub_add_cancel h] at this;exact this.symm
theorem l2s {x y s t a b:Nat} (hx:x=2^s*a) (hy:y=2^t*b) (ha:a % 2=1) (hb:b % 2=1):Nat.gcd x y=2^(min s t)*Nat.gcd a b:=by
 subst hx hy;rcases Nat.le_total s t with h | h
 ·rw[Nat.min_eq_left h];obtain ⟨d,rfl⟩:∃d,t=s+d:=⟨t-s,by omega⟩;rw[Nat.pow_add,Nat.mul_assoc,Nat.gcd_mul_left,z1a ha]
 ·rw[Nat.min_eq_right h];obtain ⟨d,rfl⟩:∃d,s=t+d:=⟨s-t,by omega⟩;rw[Nat.pow_add,Nat.mul_assoc,Nat.gcd_mul_left,Nat.gcd_comm (2^d*a),z1a hb,Nat.gcd_comm b a]
def bl:Nat→Nat→Nat
 | 0,_=>0
 | k+1,x=>if x=0 then 0 else bl k (x / 2)+1
theorem b1f (k:Nat):bl k 0=0:=by cases k<;>simp[bl]
theorem j0d:∀(k x:Nat),x<2^k→x<2^bl k x∧(0<x→0<bl k x∧2^(bl k x-1)≤x)∧bl k x≤k:=by
 intro k;induction k with
 | zero=>intro x h;simp[bl] at *;omega
 | succ k ih =>
  intro x h;by_cases h0:x=0
  ·subst h0;rw[b1f];simp
  ·have e:bl (k+1) x=bl k (x / 2)+1:=by simp[bl,h0]
   rw[Nat.pow_succ] at h;obtain ⟨a1,a2,a3⟩:=ih (x / 2) (by omega);rw[e];refine ⟨by rw[Nat.pow_succ];omega,fun _=>⟨by omega,?_⟩,by omega⟩;rw[Nat.add_sub_cancel];by_cases h1:x / 2=0
   ·rw[h1,b1f];simp;omega
   ·obtain ⟨b1,b2⟩:=a2 (by omega);have:2^bl k (x / 2)=2^(bl k (x / 2)-1)*2:=by rw[←Nat.pow_succ];congr 1;omega
    omega
theorem v1f {k x b:Nat} (h:x<2^k) (h0:0<x) (h1:2^b≤x) (h2:x<2^(b+1)):bl k x=b+1:=by
 obtain ⟨a1,a2,_⟩:=j0d k x h;obtain ⟨c1,c2⟩:=a2 h0;have d1:b<bl k x:=by
  rcases Nat.lt_or_ge b (bl k x) with q | q
  ·exact q
  ·have:=Nat.pow_le_pow_right (show 0<2 by decide) q;omega
 have d2:bl k x-1<b+1:=by
  rcases Nat.lt_or_ge (bl k x-1) (b+1) with q | q
  ·exact q
  ·have:=Nat.pow_le_pow_right (show 0<2 by decide) q;omega
 omega
theorem div_step {A D L i q r:Nat} (hD:0<D) (h:A / 2^(i+1)=D*q+r) (hr:r<D) :
  (D≤2*r+A / 2^i % 2→A / 2^i=D*(2*q+1)+(2*r+A / 2^i % 2-D)∧2*r+A / 2^i % 2-D<D) ∧
  (2*r+A / 2^i % 2<D→A / 2^i=D*(2*q)+(2*r+A / 2^i % 2)):=by
 rw[Nat.pow_succ,←Nat.div_div_eq_div_mul] at h;have h1:=Nat.div_add_mod (A / 2^i) 2;rw[h] at h1;have e1:2*(D*q+r)=D*(2*q)+2*r:=by rw[Nat.mul_add,Nat.mul_left_comm]
 have e2:D*(2*q+1)=D*(2*q)+D:=by rw[Nat.mul_add,Nat.mul_one]
 generalize D*(2*q)=Z at *
 constructor
 ·intro k;rw[e2];omega
 ·intro k;omega
end Go.Plim

namespace Go.Plim
set_option linter.unusedVariables false
def ofN (x:Nat):Wd:=(((x / 18446744073709551616:Nat):Int),((x % 18446744073709551616:Nat):Int))
theorem o1a (x:Nat):mkW (x:Int)=ofN x:=by
 unfold mkW ofN;rw[Prod.mk.injEq];constructor<;>omega
theorem j1e (x:Nat):wv (ofN x)=x:=by rw[←o1a,n0s]
theorem b1u {x:Nat} (h:x<340282366920938463463374607431768211456):WdOk (ofN x):=by rw[←o1a];exact u0x (by omega) (by omega)
theorem b2i (x:Nat):(decide ((ofN x).1=(0:Int))&&decide ((ofN x).2=(0:Int)))=decide (x=0):=by
 rw[←Bool.decide_and];apply decide_eq_decide.2;unfold ofN;simp only;omega
def od (x:Nat):Nat:=x / 2^tz 128 x
theorem n0p {x:Nat} (h0:0<x) (h1:x<340282366920938463463374607431768211456):tz 128 x<128∧x=2^tz 128 x*od x∧od x % 2=1 :=
 v0e 128 x h0 h1
theorem k2u {x:Nat} (h0:0<x) (h1:x<340282366920938463463374607431768211456):0<od x:=by
 have:=(n0p h0 h1).2.2;rcases Nat.eq_zero_or_pos (od x) with q | q
 ·rw[q] at this;cases this
 ·exact q
theorem od_le (x:Nat):od x≤x:=Nat.div_le_self _ _
theorem od_even {x:Nat} (h0:0<x) (h1:x<340282366920938463463374607431768211456) (he:x % 2=0):2*od x≤x:=by
 obtain ⟨_,a2,a3⟩:=n0p h0 h1;have ht:1≤tz 128 x:=by
  rcases Nat.eq_zero_or_pos (tz 128 x) with q | q
  ·rw[q] at a2;simp at a2;omega
  ·exact q
 have:2^1≤2^tz 128 x:=Nat.pow_le_pow_right (by decide) ht;have:=Nat.mul_le_mul_right (od x) this;omega
theorem l2t {a x:Nat} (ha:a % 2=1) (h0:0<x) (h1:x<340282366920938463463374607431768211456):Nat.gcd a (od x)=Nat.gcd a x:=by
 obtain ⟨_,a2,_⟩:=n0p h0 h1;have:=z1a (b:=od x) ha (tz 128 x);rw[←a2] at this;exact this.symm
theorem l2r {x y:Nat} (hx:0<x) (hx':x<340282366920938463463374607431768211456) (hy:0<y) (hy':y<340282366920938463463374607431768211456) :
  Nat.gcd x y=Nat.gcd (od x) y*2^(min (tz 128 x) (tz 128 y)):=by
 obtain ⟨_,a2,a3⟩:=n0p hx hx';obtain ⟨_,b2,b3⟩:=n0p hy hy';rw[l2s a2 b2 a3 b3,l2t a3 hy hy',Nat.mul_comm]
theorem or_pow {q k:Nat} (h:2^(k+1) ∣ q):q ||| 2^k=q+2^k:=by
 obtain ⟨m,rfl⟩:=h;exact (Nat.two_pow_add_eq_or_of_lt (i:=k+1) (b:=2^k) (by rw[Nat.pow_succ];have:=Nat.two_pow_pos k;omega) m).symm
theorem div_part {a d k q:Nat} (hd:0<d) (h:d*2^k≤a):q+2^k+(a-d*2^k) / d=q+a / d:=by
 have e:a=(a-d*2^k)+d*2^k:=by omega
 have:a / d=(a-d*2^k) / d+2^k:=by
  conv=>lhs;rw[e]
  rw[Nat.add_mul_div_left _ _ hd]
 omega
theorem half_up {x k:Nat} (hk:k<64) (h:x*2^k<340282366920938463463374607431768211456) :
  x / 18446744073709551616*2^k+x % 18446744073709551616 / 2^(64-k)=x*2^k / 18446744073709551616∧x % 18446744073709551616 / 2^(64-k)<2^k ∧
  x % 18446744073709551616*2^k % 18446744073709551616=x*2^k % 18446744073709551616:=by
 have e:18446744073709551616=2^(64-k)*2^k:=by rw[←Nat.pow_add,show 64-k+k=64 by omega]
 have hp:=Nat.two_pow_pos k;have hq:=Nat.two_pow_pos (64-k);have h0:=Nat.div_add_mod x 18446744073709551616;have h1:=Nat.mod_lt x (show 0<18446744073709551616 by decide);generalize x / 18446744073709551616=H at *
 generalize x % 18446744073709551616=L at *
 subst h0;have e1:(18446744073709551616*H+L)*2^k=L*2^k+18446744073709551616*(H*2^k):=by rw[Nat.add_mul,Nat.mul_assoc];omega
 have e2:L*2^k / 18446744073709551616=L / 2^(64-k):=by
  conv=>lhs;rw[e]
  exact Nat.mul_div_mul_right _ _ hp
 refine ⟨?_,?_,?_⟩
 ·rw[e1,Nat.add_mul_div_left _ _ (by decide),e2];omega
 ·exact Nat.div_lt_of_lt_mul (by rw[←e];exact h1)
 ·rw[e1,Nat.add_mul_mod_self_left]
theorem l2p {x k:Nat} (hk:k<64) (h:x<340282366920938463463374607431768211456) :
  x / 18446744073709551616 / 2^k=x / 2^k / 18446744073709551616 ∧
  x % 18446744073709551616 / 2^k+x / 18446744073709551616*2^(64-k) % 18446744073709551616=x / 2^k % 18446744073709551616∧x % 18446744073709551616 / 2^k<2^(64-k) ∧
  ∃m,x / 18446744073709551616*2^(64-k) % 18446744073709551616=2^(64-k)*m:=by
 have e:18446744073709551616=2^k*2^(64-k):=by rw[←Nat.pow_add,show k+(64-k)=64 by omega]
 have hp:=Nat.two_pow_pos k;have hq:=Nat.two_pow_pos (64-k);have c1:x / 18446744073709551616 / 2^k=x / 2^k / 18446744073709551616:=by rw[Nat.div_div_eq_div_mul,Nat.div_div_eq_div_mul,Nat.mul_comm]
 have h0:=Nat.div_add_mod x 18446744073709551616;have h1:=Nat.mod_lt x (show 0<18446744073709551616 by decide);have hm0:∀H:Nat,H*2^(64-k) % 18446744073709551616=2^(64-k)*(H % 2^k):=by
  intro H
  conv=>lhs;rw[e]
  rw[Nat.mul_mod_mul_right,Nat.mul_comm]
 have hm:=hm0 (x / 18446744073709551616);have c3:x % 18446744073709551616 / 2^k<2^(64-k):=Nat.div_lt_of_lt_mul (by rw[←e];exact h1);refine ⟨c1,?_,c3,_,hm⟩;rw[hm];generalize x / 18446744073709551616=H at *
 generalize x % 18446744073709551616=L at *
 subst h0;have e1:(18446744073709551616*H+L) / 2^k=L / 2^k+2^(64-k)*H:=by
  conv=>lhs;rw[e]
  rw[Nat.mul_assoc,Nat.add_comm,Nat.add_mul_div_left _ _ hp]
 have h2:=Nat.div_add_mod H (2^k);have e2:2^(64-k)*H=18446744073709551616*(H / 2^k)+2^(64-k)*(H % 2^k):=by
  conv=>lhs;rw[←h2]
  rw[Nat.mul_add,←Nat.mul_assoc,Nat.mul_comm (2^(64-k)),←e]
 rw[e1,e2];have hlt:L / 2^k+2^(64-k)*(H % 2^k)<18446744073709551616:=by
  have h3:=Nat.mod_lt H hp;have h4:2^(64-k)*(H % 2^k+1)≤2^(64-k)*2^k:=Nat.mul_le_mul_left _ h3;rw[Nat.mul_comm (2^(64-k)) (2^k),←e,Nat.mul_add,Nat.mul_one] at h4;omega
 omega
end Go.Plim

namespace Go.Plim
set_option linter.unusedVariables false
theorem n2c:∀(k a b:Nat),a+b+1=2^k→a &&& b=0:=by
 intro k;induction k with
 | zero => intro a b h; have : a = 0 := by simp at h; omega
           rw[this];simp
 | succ k ih =>
  intro a b h;rw[Nat.pow_succ] at h;have h1:(a &&& b) % 2≠1:=by rw[ne_eq,Nat.and_mod_two_eq_one];omega
  have h2:(a &&& b) / 2=0:=by rw[Nat.and_div_two];exact ih _ _ (by omega)
  omega
theorem low_bit {x:Nat} (h0:0<x) (h:x<18446744073709551616):x &&& (18446744073709551616-x)=2^tz 64 x:=by
 obtain ⟨a1,a2,a3⟩:=v0e 64 x h0 h;generalize hs:tz 64 x=s at *
 generalize x / 2^s=o at *
 have e:18446744073709551616=2^s*2^(64-s):=by rw[←Nat.pow_add,show s+(64-s)=64 by omega]
 have hp:=Nat.two_pow_pos s;have e1:18446744073709551616-x=2^s*(2^(64-s)-o):=by rw[Nat.mul_sub,←e,←a2]
 have ho:o<2^(64-s):=by
  rcases Nat.lt_or_ge o (2^(64-s)) with q | q
  ·exact q
  ·have:=Nat.mul_le_mul_left (2^s) q;rw[←e,←a2] at this;omega
 obtain ⟨c,hc⟩:∃c,2^(64-s)=2*2^c:=⟨63-s,by rw[show 64-s=(63-s)+1 by omega,Nat.pow_succ,Nat.mul_comm]⟩;have e2:o &&& (2^(64-s)-o)=1:=by
  have h1:(o &&& (2^(64-s)-o)) % 2=1:=by rw[Nat.and_mod_two_eq_one];omega
  have h2:(o &&& (2^(64-s)-o)) / 2=0:=by rw[Nat.and_div_two];exact n2c c _ _ (by omega)
  omega
 rw[e1]
 conv=>lhs;rw[a2]
 rw[Nat.mul_comm (2^s) o,Nat.mul_comm (2^s),←Nat.shiftLeft_eq,←Nat.shiftLeft_eq,←Nat.shiftLeft_and_distrib,e2,Nat.shiftLeft_eq,Nat.one_mul]
theorem tz_lo {x:Nat} (h:x<340282366920938463463374607431768211456) (h0:0<x % 18446744073709551616):tz 128 x=tz 64 (x % 18446744073709551616):=by
 obtain ⟨a1,a2,a3⟩:=v0e 64 _ h0 (Nat.mod_lt x (by decide));generalize tz 64 (x % 18446744073709551616)=s at *
 have e:18446744073709551616=2^s*(2*2^(63-s)):=by rw[←Nat.pow_succ',←Nat.pow_add,show s+(63-s).succ=64 by omega]
 have hp:=Nat.two_pow_pos s;have h2:=Nat.div_add_mod x 18446744073709551616;generalize x % 18446744073709551616=L at *
 generalize x / 18446744073709551616=H at *
 generalize L / 2^s=o at *
 have e1:x=2^s*(2*(2^(63-s)*H)+o):=by
  rw[Nat.mul_add,←a2,←Nat.mul_assoc 2,←Nat.mul_assoc (2^s),←e];omega
 refine d1y (by omega) h ?_ ?_
 ·rw[e1,Nat.mul_mod_right]
 ·rw[e1,Nat.mul_div_cancel_left _ hp];omega
theorem tz_hi {x:Nat} (h:x<340282366920938463463374607431768211456) (h0:x % 18446744073709551616=0) (hx:0<x):tz 128 x=64+tz 64 (x / 18446744073709551616):=by
 have hH:0<x / 18446744073709551616:=by omega
 obtain ⟨a1,a2,a3⟩:=v0e 64 _ hH (by omega);generalize tz 64 (x / 18446744073709551616)=s at *
 have h2:=Nat.div_add_mod x 18446744073709551616;generalize x / 18446744073709551616=H at *
 generalize H / 2^s=o at *
 have hp:=Nat.two_pow_pos (64+s);have e1:x=2^(64+s)*o:=by
  rw[Nat.pow_add,Nat.mul_assoc,←a2];omega
 refine d1y hx h ?_ ?_
 ·rw[e1,Nat.mul_mod_right]
 ·rw[e1,Nat.mul_div_cancel_left _ hp];exact a3
theorem c2y {k x s:Nat} (h:x<2^k) (hs:2^s≤x):bl k x=s+bl k (x / 2^s):=by
 have hp:=Nat.two_pow_pos s;have h0:0<x / 2^s:=Nat.div_pos hs hp;have h1:x / 2^s<2^k:=Nat.lt_of_le_of_lt (Nat.div_le_self _ _) h;obtain ⟨a1,a2,a3⟩:=j0d k (x / 2^s) h1;obtain ⟨b1,b2⟩:=a2 h0;obtain ⟨c,hc⟩:∃c,bl k (x / 2^s)=c+1:=⟨bl k (x / 2^s)-1,by omega⟩;rw[hc] at a1 b2 ⊢;rw[Nat.add_sub_cancel] at b2;rw[←Nat.add_assoc];refine v1f h (by omega) ?_ ?_
 ·rw[Nat.pow_add,Nat.mul_comm];exact (Nat.le_div_iff_mul_le hp).1 b2
 ·rw[Nat.add_assoc,Nat.pow_add,Nat.mul_comm];exact (Nat.div_lt_iff_lt_mul hp).1 a1
theorem c2x {k m x:Nat} (h:x<2^k) (h':x<2^m):bl k x=bl m x:=by
 rcases Nat.eq_zero_or_pos x with q | q
 ·subst q;rw[b1f,b1f]
 ·obtain ⟨a1,a2,_⟩:=j0d m x h';obtain ⟨b1,b2⟩:=a2 q;obtain ⟨c,hc⟩:∃c,bl m x=c+1:=⟨bl m x-1,by omega⟩;rw[hc] at a1 b2 ⊢;rw[Nat.add_sub_cancel] at b2;exact v1f h q b2 a1
theorem bl_up {a d k:Nat} (ha:a<2^128) (hd:d<2^128) (hk:bl 128 d+k≤bl 128 a) (h0:0<a):d*2^k<2^128:=by
 obtain ⟨a1,a2,a3⟩:=j0d 128 a ha;obtain ⟨d1,d2,d3⟩:=j0d 128 d hd;have h1:d*2^k<2^bl 128 d*2^k:=Nat.mul_lt_mul_of_pos_right d1 (Nat.two_pow_pos k);rw[←Nat.pow_add] at h1;exact Nat.lt_of_lt_of_le h1 (Nat.pow_le_pow_right (by decide) (by omega))
theorem bl_over {a d:Nat} (ha:a<2^128) (hd:d<2^128) (h0:0<d):a<d*2^(bl 128 a-bl 128 d+1):=by
 obtain ⟨a1,a2,a3⟩:=j0d 128 a ha;obtain ⟨d1,d2,d3⟩:=j0d 128 d hd;obtain ⟨b1,b2⟩:=d2 h0;have h1:2^(bl 128 d-1)*2^(bl 128 a-bl 128 d+1)≤d*2^(bl 128 a-bl 128 d+1):=Nat.mul_le_mul_right _ b2;rw[←Nat.pow_add] at h1;have h2:2^bl 128 a≤2^(bl 128 d-1+(bl 128 a-bl 128 d+1)):=Nat.pow_le_pow_right (by decide) (by omega);omega
theorem bl_less {a d:Nat} (ha:a<2^128) (hd:d<2^128) (h:bl 128 a<bl 128 d):a<d:=by
 obtain ⟨a1,a2,a3⟩:=j0d 128 a ha;obtain ⟨d1,d2,d3⟩:=j0d 128 d hd;rcases Nat.eq_zero_or_pos d with q | q
 ·subst q;rw[b1f] at h;omega
 ·obtain ⟨b1,b2⟩:=d2 q;have:2^bl 128 a≤2^(bl 128 d-1):=Nat.pow_le_pow_right (by decide) (by omega);omega
def byt (v j:Nat):Nat:=v / 256^j % 256
theorem byt_or {v i:Nat} (h:2^(i+1) ∣ v) (j:Nat):byt (v+2^i) j=if i / 8=j then byt v j ||| 2^(i % 8) else byt v j:=by
 unfold byt;have e:(256:Nat)^j=2^(8*j):=by rw[Nat.pow_mul]
 rw[←or_pow h,e,Nat.or_div_two_pow,show (256:Nat)=2^8 from rfl,Nat.or_mod_two_pow];have e2:2^i / 2^(8*j) % 2^8=if i / 8=j then 2^(i % 8) else 0:=by
  rcases Nat.lt_or_ge i (8*j) with q | q
  ·rw[Nat.div_eq_of_lt (Nat.pow_lt_pow_right (by decide) q),if_neg (by omega)]
  ·rw[Nat.pow_div q (by decide)];split
   ·rw[show i-8*j=i % 8 by omega];exact Nat.mod_eq_of_lt (Nat.pow_lt_pow_right (by decide) (Nat.mod_lt _ (by decide)))
   ·obtain ⟨c,hc⟩:∃c,i-8*j=8+c:=⟨i-8*j-8,by omega⟩;rw[hc,Nat.pow_add,Nat.mul_mod_right]
 rw[e2];split
 ·rfl
 ·rw[Nat.or_zero]
theorem u1z (v j:Nat):byt v j<256:=Nat.mod_lt _ (by decide)
theorem bit_byt (v i:Nat):byt v (i / 8) / 2^(i % 8) % 2=v / 2^i % 2:=by
 unfold byt;have e:(256:Nat)^(i / 8)=2^(8*(i / 8)):=by rw[Nat.pow_mul]
 obtain ⟨c,hc⟩:∃c,(256:Nat)=2^(i % 8)*(2*2^c):=⟨7-i % 8,by rw[←Nat.pow_succ',←Nat.pow_add,show i % 8+(7-i % 8).succ=8 by have:=Nat.mod_lt i (show 0<8 by decide);omega]⟩;rw[e];generalize hw:v / 2^(8*(i / 8))=w;have e1:v / 2^i=w / 2^(i % 8):=by
  rw[←hw,Nat.div_div_eq_div_mul,←Nat.pow_add,show 8*(i / 8)+i % 8=i by omega]
 rw[e1]
 conv=>lhs;rw[hc]
 rw[Nat.mod_mul_right_div_self,Nat.mod_mul_right_mod]
end Go.Plim

namespace Go.Proofs.YtgkpkajaepphjaaGreatDoor
open Go.Flat Go.Plim
set_option linter.unusedVariables false
set_option linter.unusedSimpArgs false
theorem wrapN (x:Nat):IntKind.wrap .u64 (x:Int)=((x % 18446744073709551616:Nat):Int):=by
 rw[IntKind.wrap_u64];omega
theorem shlN (x k:Nat) (hk:k≤64):shlI .u64 (x:Int) (k:Int)=((x*2^k % 18446744073709551616:Nat):Int):=by
 show IntKind.wrap .u64 ((x:Int)*2^(min (k:Int).toNat 64))=_;rw[show min (k:Int).toNat 64=k by omega,←wrapN];congr 1
theorem shrN (x k:Nat) (hk:k≤64):shrI .u64 (x:Int) (k:Int)=((x / 2^k:Nat):Int):=by
 rw[n0k _ _ hk];simp
theorem orN {x y:Nat} (hx:x<18446744073709551616) (hy:y<18446744073709551616):orI .u64 (x:Int) (y:Int)=((x ||| y:Nat):Int):=by
 unfold orI;have e2:(BitVec.ofInt IntKind.u64.bits (x:Int) ||| BitVec.ofInt IntKind.u64.bits (y:Int)).toNat=x ||| y:=by
  show (BitVec.ofInt 64 (x:Int) ||| BitVec.ofInt 64 (y:Int)).toNat=_;rw[BitVec.toNat_or,BitVec.ofInt_natCast,BitVec.ofInt_natCast,BitVec.toNat_ofNat,BitVec.toNat_ofNat,Nat.mod_eq_of_lt (by omega),Nat.mod_eq_of_lt (by omega)]
 rw[e2];have:x ||| y<2^64:=Nat.or_lt_two_pow (by omega) (by omega)
 exact wu64 (by omega) (by omega)
theorem andN {x y:Nat} (hx:x<18446744073709551616) (hy:y<18446744073709551616):andI .u64 (x:Int) (y:Int)=((x &&& y:Nat):Int):=by
 unfold andI;have e2:(BitVec.ofInt IntKind.u64.bits (x:Int) &&& BitVec.ofInt IntKind.u64.bits (y:Int)).toNat=x &&& y:=by
  show (BitVec.ofInt 64 (x:Int) &&& BitVec.ofInt 64 (y:Int)).toNat=_;rw[BitVec.toNat_and,BitVec.ofInt_natCast,BitVec.ofInt_natCast,BitVec.toNat_ofNat,BitVec.toNat_ofNat,Nat.mod_eq_of_lt (by omega),Nat.mod_eq_of_lt (by omega)]
 rw[e2];have:x &&& y≤x:=Nat.and_le_left;exact wu64 (by omega) (by omega)
theorem b2f {H L k:Nat} (h:L<2^k):H*2^k ||| L=H*2^k+L:=by
 rw[Nat.mul_comm];exact (Nat.two_pow_add_eq_or_of_lt h H).symm
end Go.Proofs.YtgkpkajaepphjaaGreatDoor
namespace Go.Proofs.YtgkpkajaepphjaaGreatDoor
open Go.Flat Go.Plim
set_option linter.unusedVariables false
def lenT:List UInt8 :=
 g0b
theorem f2y (n:Nat) (x:Int):d0e (n+1) x =
 tif ((decide ((4294967296:Int)≤x))) (
 tif ((decide ((65536:Int)≤(shrI .u64 x (32:Int))))) (
 tif ((decide ((256:Int)≤(shrI .u64 (shrI .u64 x (32:Int)) (16:Int))))) (
 a0a (at? lenT (IntKind.wrap .u8 (shrI .u64 (shrI .u64 (shrI .u64 x (32:Int)) (16:Int)) (8:Int)))) fun r0 =>
 some (IntKind.wrap .i64 ((56:Int)+(IntKind.wrap .i64 (((UInt8.toNat r0):Nat):Int))))) (
 a0a (at? lenT (IntKind.wrap .u8 (shrI .u64 (shrI .u64 x (32:Int)) (16:Int)))) fun r1 =>
 some (IntKind.wrap .i64 ((48:Int)+(IntKind.wrap .i64 (((UInt8.toNat r1):Nat):Int)))))) (
 tif ((decide ((256:Int)≤(shrI .u64 x (32:Int))))) (
 a0a (at? lenT (IntKind.wrap .u8 (shrI .u64 (shrI .u64 x (32:Int)) (8:Int)))) fun r2 =>
 some (IntKind.wrap .i64 ((40:Int)+(IntKind.wrap .i64 (((UInt8.toNat r2):Nat):Int))))) (
 a0a (at? lenT (IntKind.wrap .u8 (shrI .u64 x (32:Int)))) fun r3 =>
 some (IntKind.wrap .i64 ((32:Int)+(IntKind.wrap .i64 (((UInt8.toNat r3):Nat):Int))))))) (
 tif ((decide ((65536:Int)≤x))) (
 tif ((decide ((256:Int)≤(shrI .u64 x (16:Int))))) (
 a0a (at? lenT (IntKind.wrap .u8 (shrI .u64 (shrI .u64 x (16:Int)) (8:Int)))) fun r4 =>
 some (IntKind.wrap .i64 ((24:Int)+(IntKind.wrap .i64 (((UInt8.toNat r4):Nat):Int))))) (
 a0a (at? lenT (IntKind.wrap .u8 (shrI .u64 x (16:Int)))) fun r5 =>
 some (IntKind.wrap .i64 ((16:Int)+(IntKind.wrap .i64 (((UInt8.toNat r5):Nat):Int)))))) (
 tif ((decide ((256:Int)≤x))) (
 a0a (at? lenT (IntKind.wrap .u8 (shrI .u64 x (8:Int)))) fun r6 =>
 some (IntKind.wrap .i64 ((8:Int)+(IntKind.wrap .i64 (((UInt8.toNat r6):Nat):Int))))) (
 a0a (at? lenT (IntKind.wrap .u8 x)) fun r7 =>
 some (IntKind.wrap .i64 ((0:Int)+(IntKind.wrap .i64 (((UInt8.toNat r7):Nat):Int))))))):=y0b n x
theorem lenT_all:((List.range 256).all fun z=>match lenT[z]? with | some r=>decide (r.toNat=bl 64 z) | none=>false)=true:=by decide +kernel
end Go.Proofs.YtgkpkajaepphjaaGreatDoor
namespace Go.Proofs.YtgkpkajaepphjaaGreatDoor
open Go.Flat Go.Plim
set_option linter.unusedVariables false
set_option linter.unusedSimpArgs false
theorem e0r (n x:Nat):k0x (n+1) (ofN x)=some (decide (x=0)):=by
 rw[m1s,b2i]
theorem up_small {x k:Nat} (hk:k≤128) (h:x*2^k<340282366920938463463374607431768211456):x<2^(128-k):=by
 have e:340282366920938463463374607431768211456=2^(128-k)*2^k:=by rw[←Nat.pow_add,show 128-k+k=128 by omega]
 rw[e] at h;exact Nat.lt_of_mul_lt_mul_right h
theorem r0m (n x k:Nat) (hk:k<128) (h:x*2^k<340282366920938463463374607431768211456):x0e (n+1) (ofN x) (k:Int)=some (ofN (x*2^k)):=by
 rw[x1g];simp only[tfd];by_cases c:64≤k
 ·have e:(k:Int)-64=((k-64:Nat):Int):=by omega
  have hx:x<18446744073709551616:=Nat.lt_of_lt_of_le (up_small (by omega) h) (show 2^(128-k)≤2^64 from Nat.pow_le_pow_right (by decide) (by omega));have e2:x*2^k=18446744073709551616*(x*2^(k-64)):=by
   rw[show (18446744073709551616:Nat)=2^64 from rfl,Nat.mul_left_comm,←Nat.pow_add,show 64+(k-64)=k by omega]
  rw[if_pos (by omega),w64 (by omega) (by omega),if_neg (by omega),e];show some (shlI .u64 ((x % 18446744073709551616:Nat):Int) _,_)=some (((x*2^k / 18446744073709551616:Nat):Int),((x*2^k % 18446744073709551616:Nat):Int));rw[shlN _ _ (by omega),Nat.mod_eq_of_lt hx,e2,Nat.mul_div_cancel_left _ (by decide),Nat.mul_mod_right];rw[e2] at h;have:x*2^(k-64)<18446744073709551616:=Nat.lt_of_mul_lt_mul_left (show 18446744073709551616*(x*2^(k-64))<18446744073709551616*18446744073709551616 from h);rw[Nat.mod_eq_of_lt this];rfl
 ·have e:(64:Int)-k=((64-k:Nat):Int):=by omega
  obtain ⟨a1,a2,a3⟩:=half_up (show k<64 by omega) h;rw[if_neg (by omega),if_neg (by omega),w64 (by omega) (by omega),if_neg (by omega),if_neg (by omega),e];show some (orI .u64 (shlI .u64 ((x / 18446744073709551616:Nat):Int) _) (shrI .u64 ((x % 18446744073709551616:Nat):Int) _),shlI .u64 ((x % 18446744073709551616:Nat):Int) _)=some (((x*2^k / 18446744073709551616:Nat):Int),((x*2^k % 18446744073709551616:Nat):Int));have hq:x*2^k / 18446744073709551616<18446744073709551616:=Nat.div_lt_of_lt_mul h
  have h1:x / 18446744073709551616*2^k<18446744073709551616:=Nat.lt_of_le_of_lt (by rw[←a1];exact Nat.le_add_right _ _) hq;have h2:x % 18446744073709551616 / 2^(64-k)<18446744073709551616:=Nat.lt_of_le_of_lt (Nat.div_le_self _ _) (Nat.mod_lt _ (by decide));rw[shlN _ _ (by omega),shrN _ _ (by omega),shlN _ _ (by omega),Nat.mod_eq_of_lt h1,orN h1 h2,b2f a2,a1,a3]
theorem u0r (n x k:Nat) (hk:k<128) (h:x<340282366920938463463374607431768211456):t0j (n+1) (ofN x) (k:Int)=some (ofN (x / 2^k)):=by
 rw[m1v];simp only[tfd];have hq:x / 18446744073709551616<18446744073709551616:=Nat.div_lt_of_lt_mul h;by_cases c:64≤k
 ·have e:(k:Int)-64=((k-64:Nat):Int):=by omega
  rw[if_pos (by omega),w64 (by omega) (by omega),if_neg (by omega),e];show some (_,shrI .u64 ((x / 18446744073709551616:Nat):Int) _)=some (((x / 2^k / 18446744073709551616:Nat):Int),((x / 2^k % 18446744073709551616:Nat):Int));have e2:x / 2^k=x / 18446744073709551616 / 2^(k-64):=by
   rw[Nat.div_div_eq_div_mul,show (18446744073709551616:Nat)=2^64 from rfl,←Nat.pow_add,show 64+(k-64)=k by omega]
  have hlt:x / 18446744073709551616 / 2^(k-64)<18446744073709551616:=Nat.lt_of_le_of_lt (Nat.div_le_self _ _) hq;rw[shrN _ _ (by omega),e2,Nat.div_eq_of_lt hlt,Nat.mod_eq_of_lt hlt];rfl
 ·have e:(64:Int)-k=((64-k:Nat):Int):=by omega
  obtain ⟨a1,a2,a3,m,a4⟩:=l2p (show k<64 by omega) h;rw[if_neg (by omega),if_neg (by omega),if_neg (by omega),w64 (by omega) (by omega),if_neg (by omega),e];show some (shrI .u64 ((x / 18446744073709551616:Nat):Int) _,orI .u64 (shrI .u64 ((x % 18446744073709551616:Nat):Int) _) (shlI .u64 ((x / 18446744073709551616:Nat):Int) _))=some (((x / 2^k / 18446744073709551616:Nat):Int),((x / 2^k % 18446744073709551616:Nat):Int));have h3:x % 18446744073709551616 / 2^k<18446744073709551616:=Nat.lt_of_le_of_lt (Nat.div_le_self _ _) (Nat.mod_lt _ (by decide))
  have h4:x / 18446744073709551616*2^(64-k) % 18446744073709551616<18446744073709551616:=Nat.mod_lt _ (by decide);rw[shrN _ _ (by omega),shrN _ _ (by omega),shlN _ _ (by omega),orN h3 h4,Nat.or_comm];have a4':x / 18446744073709551616*2^(64-k) % 18446744073709551616=m*2^(64-k):=by rw[Nat.mul_comm m];exact a4
  rw[a4',b2f a3,←a4',Nat.add_comm];rw[show x % 18446744073709551616 / 2^k+x / 18446744073709551616*2^(64-k) % 18446744073709551616=x / 2^k % 18446744073709551616 from a2,show x / 18446744073709551616 / 2^k=x / 2^k / 18446744073709551616 from a1]
theorem wide_sub (n:Nat) {x y:Nat} (hx:x<340282366920938463463374607431768211456) (h:y≤x):l1i (n+2) (ofN x) (ofN y)=some (ofN (x-y),0):=by
 rw[v1n];have h1:x / 18446744073709551616<18446744073709551616:=Nat.div_lt_of_lt_mul hx;have h2:y / 18446744073709551616<18446744073709551616:=Nat.div_lt_of_lt_mul (Nat.lt_of_le_of_lt h hx);have h3:x % 18446744073709551616<18446744073709551616:=Nat.mod_lt _ (by decide);have h4:y % 18446744073709551616<18446744073709551616:=Nat.mod_lt _ (by decide);have e:∀z:Nat,ofN z=(((z / 18446744073709551616:Nat):Int),((z % 18446744073709551616:Nat):Int)):=fun _=>rfl
 rw[e x,e y,e (x-y)];have ex:=Nat.div_add_mod x 18446744073709551616;have ey:=Nat.div_add_mod y 18446744073709551616;have ez:=Nat.div_add_mod (x-y) 18446744073709551616;have h5:(x-y) % 18446744073709551616<18446744073709551616:=Nat.mod_lt _ (by decide);generalize x / 18446744073709551616=a at *
 generalize x % 18446744073709551616=b at *
 generalize y / 18446744073709551616=c at *
 generalize y % 18446744073709551616=d at *
 generalize (x-y) / 18446744073709551616=p at *
 generalize (x-y) % 18446744073709551616=q at *
 simp only[r0b,tfd,tft];by_cases hb:b<d
 ·have hb':(b:Int)<(d:Int)+0:=by omega
  rw[if_pos (by omega),if_pos (by omega),if_pos (by omega),if_pos (by omega),if_pos (by omega),if_pos (by omega),if_pos hb',if_pos (by omega),if_pos (by omega),if_neg (by omega),k0i,obs,if_pos rfl];congr 3<;>omega
 ·have hb':¬(b:Int)<(d:Int)+0:=by omega
  rw[if_pos (by omega),if_pos (by omega),if_pos (by omega),if_pos (by omega),if_pos (by omega),if_pos (by omega),if_neg hb',if_pos (by omega),if_pos (by omega),if_neg (by omega),k0i,obs,if_pos rfl];congr 3<;>omega
theorem n0l (n:Nat) {x y:Nat} (hx:x<340282366920938463463374607431768211456) (h:y≤x):i0u (n+3) (ofN x) (ofN y)=some (ofN (x-y)):=by
 rw[m1u,wide_sub n hx h];rfl
theorem j1h (n:Nat) {x y:Nat} (hx:x<340282366920938463463374607431768211456) (hy:y<340282366920938463463374607431768211456):l0e (n+1) (ofN x) (ofN y)=some (decide (x<y)):=by
 rw[p1y n (b1u hx) (b1u hy),j1e,j1e];congr 1;exact decide_eq_decide.2 (by omega)
theorem tz_pow (n:Nat):((List.range 64).all fun t=>match j0t (n+1) ((2^t:Nat):Int) with | some r=>decide (r=(t:Int)) | none=>false)=true:=by kernel_rfl
theorem tz_at (n t:Nat) (ht:t<64):j0t (n+1) ((2^t:Nat):Int)=some (t:Int):=by
 have h:=List.all_eq_true.1 (tz_pow n) t (List.mem_range.2 ht);split at h
 ·rename_i r hr;rw[hr,of_decide_eq_true h]
 ·cases h
theorem b2r {x:Nat} (h0:0<x) (h:x<18446744073709551616):andI .u64 (x:Int) (IntKind.wrap .u64 ((0:Int)-x))=((2^tz 64 x:Nat):Int):=by
 rw[show IntKind.wrap .u64 ((0:Int)-x)=((18446744073709551616-x:Nat):Int) by rw[IntKind.wrap_u64];omega,andN h (by omega)];exact congrArg Int.ofNat (low_bit h0 h)
theorem tz_val (n:Nat) {x:Nat} (h0:0<x) (h:x<18446744073709551616):j0t (n+1) (x:Int)=some ((tz 64 x:Nat):Int):=by
 have ht:=(v0e 64 x h0 h).1;have hp:=Nat.two_pow_pos (tz 64 x);have hp2:2^tz 64 x<18446744073709551616:=Nat.pow_lt_pow_right (a:=2) (by decide) ht;rw[←tz_at n _ ht];have e:tz 64 (2^tz 64 x)=tz 64 x:=d1y hp hp2 (Nat.mod_self _) (by rw[Nat.div_self hp]);rw[c1c,c1c,b2r h0 h,b2r hp hp2,e,decide_eq_false (show ¬((x:Int)=0) by omega),decide_eq_false (show ¬(((2^tz 64 x:Nat):Int)=0) by omega)]
theorem v0p (n:Nat) {x:Nat} (h0:0<x) (h:x<340282366920938463463374607431768211456):f0y (n+2) (ofN x)=some ((tz 128 x:Nat):Int):=by
 rw[c1m];show tif (decide (((x % 18446744073709551616:Nat):Int)=0)) (a0a (j0t (n+1) ((x / 18446744073709551616:Nat):Int)) fun r0=>some (IntKind.wrap .i64 (64+r0))) (a0a (j0t (n+1) ((x % 18446744073709551616:Nat):Int)) fun r1=>some r1)=_;rw[tfd];by_cases c:x % 18446744073709551616=0
 ·have h1:0<x / 18446744073709551616:=by omega
  have h2:x / 18446744073709551616<18446744073709551616:=Nat.div_lt_of_lt_mul h;have ht:=(v0e 64 _ h1 h2).1;rw[if_pos (by omega),tz_val n h1 h2,obs,w64 (by omega) (by omega),tz_hi h c h0];congr 1
 ·rw[if_neg (by omega),tz_val n (by omega) (Nat.mod_lt _ (by decide)),obs,tz_lo h (by omega)]
theorem lenT_at {z:Nat} (h:z<256):∃r,at? lenT (z:Int)=some r∧r.toNat=bl 64 z:=by
 have h1:=List.all_eq_true.1 lenT_all z (List.mem_range.2 h);split at h1
 ·rename_i r hr;refine ⟨r,?_,of_decide_eq_true h1⟩;unfold at?;rw[decide_eq_true (by omega)];exact hr
 ·cases h1
theorem m0t {x s K:Nat} {I S:Int} (hK:K=2^s) (hI:I=((x / K:Nat):Int)) (hS:S=s) (h2:x / K<256) (h1:K≤x∨s=0) (hx:x<18446744073709551616) (hs:s≤56) :
  (a0a (at? lenT (IntKind.wrap .u8 I)) fun r=>some (IntKind.wrap .i64 (S+IntKind.wrap .i64 (((UInt8.toNat r):Nat):Int))))=some ((bl 64 x:Nat):Int):=by
 obtain ⟨r,hr,hb⟩:=lenT_at h2;have hle:=(j0d 64 (x / K) (Nat.lt_of_le_of_lt (Nat.div_le_self _ _) hx)).2.2;have e:bl 64 x=s+bl 64 (x / K):=by
  rcases h1 with h1 | rfl
  ·rw[hK] at h1 ⊢;exact c2y hx h1
  ·subst hK;simp
 rw[hI,e];generalize x / K=z at *
 rw[wu8 (by omega) (by omega),hr,obs,hb,w64 (x:=((bl 64 z:Nat):Int)) (by omega) (by omega),hS,w64 (by omega) (by omega)];congr 1
theorem t1r (n:Nat) {x:Nat} (h:x<18446744073709551616):d0e (n+1) (x:Int)=some ((bl 64 x:Nat):Int):=by
 have s32:∀z:Nat,shrI .u64 (z:Int) (32:Int)=((z / 4294967296:Nat):Int):=fun z=>shrN z 32 (by decide)
 have s16:∀z:Nat,shrI .u64 (z:Int) (16:Int)=((z / 65536:Nat):Int):=fun z=>shrN z 16 (by decide)
 have s8:∀z:Nat,shrI .u64 (z:Int) (8:Int)=((z / 256:Nat):Int):=fun z=>shrN z 8 (by decide)
 have h':=h;rw[f2y];simp only[s32,s16,s8,tfd];by_cases c5:4294967296≤x
 ·rw[if_pos (by omega)];by_cases c4:65536≤x / 4294967296
  ·rw[if_pos (by omega)];by_cases c3:256≤x / 4294967296 / 65536
   ·rw[if_pos (by omega)];exact m0t (s:=56) (K:=72057594037927936) rfl (by omega) rfl (by omega) (.inl (by omega)) h (by decide)
   ·rw[if_neg (by omega)];exact m0t (s:=48) (K:=281474976710656) rfl (by omega) rfl (by omega) (.inl (by omega)) h (by decide)
  ·rw[if_neg (by omega)];by_cases c3:256≤x / 4294967296
   ·rw[if_pos (by omega)];exact m0t (s:=40) (K:=1099511627776) rfl (by omega) rfl (by omega) (.inl (by omega)) h (by decide)
   ·rw[if_neg (by omega)];exact m0t (s:=32) (K:=4294967296) rfl (by omega) rfl (by omega) (.inl (by omega)) h (by decide)
 ·rw[if_neg (by omega)];by_cases c4:65536≤x
  ·rw[if_pos (by omega)];by_cases c3:256≤x / 65536
   ·rw[if_pos (by omega)];exact m0t (s:=24) (K:=16777216) rfl (by omega) rfl (by omega) (.inl (by omega)) h (by decide)
   ·rw[if_neg (by omega)];exact m0t (s:=16) (K:=65536) rfl (by omega) rfl (by omega) (.inl (by omega)) h (by decide)
  ·rw[if_neg (by omega)];by_cases c3:256≤x
   ·rw[if_pos (by omega)];exact m0t (s:=8) (K:=256) rfl (by omega) rfl (by omega) (.inl (by omega)) h (by decide)
   ·rw[if_neg (by omega)];exact m0t (s:=0) (K:=1) rfl (by omega) rfl (by omega) (.inr rfl) h (by decide)
theorem b2t (n:Nat) {x:Nat} (h:x<340282366920938463463374607431768211456):t0i (n+2) (ofN x)=some ((bl 128 x:Nat):Int):=by
 rw[m1t];show tif (!decide (((x / 18446744073709551616:Nat):Int)=0)) (a0a (d0e (n+1) ((x / 18446744073709551616:Nat):Int)) fun r0=>some (IntKind.wrap .i64 (64+r0))) (a0a (d0e (n+1) ((x % 18446744073709551616:Nat):Int)) fun r1=>some r1)=_;have hq:x / 18446744073709551616<18446744073709551616:=Nat.div_lt_of_lt_mul h;rw[tfn,tfd];by_cases c:x / 18446744073709551616=0
 ·have hx:x<18446744073709551616:=by omega
  rw[if_pos (by omega),t1r n (Nat.mod_lt _ (by decide)),obs,Nat.mod_eq_of_lt hx,c2x (k:=64) (m:=128) hx h]
 ·have hle:=(j0d 64 (x / 18446744073709551616) hq).2.2;rw[if_neg (by omega),t1r n hq,obs,w64 (by omega) (by omega),c2y (k:=128) (s:=64) h (by omega)];rw[←c2x (k:=128) (m:=64) (x:=x / 18446744073709551616) (Nat.lt_of_lt_of_le hq (by decide)) hq];congr 1
theorem or_ofN {x y:Nat} (hx:x<340282366920938463463374607431768211456) (hy:y<340282366920938463463374607431768211456):((orI .u64 (ofN x).1 (ofN y).1,orI .u64 (ofN x).2 (ofN y).2):Wd)=ofN (x ||| y):=by
 show ((orI .u64 ((x / 18446744073709551616:Nat):Int) ((y / 18446744073709551616:Nat):Int),orI .u64 ((x % 18446744073709551616:Nat):Int) ((y % 18446744073709551616:Nat):Int)):Wd)=((((x ||| y) / 18446744073709551616:Nat):Int),(((x ||| y) % 18446744073709551616:Nat):Int));have e1:(x ||| y) / 18446744073709551616=x / 18446744073709551616 ||| y / 18446744073709551616:=Nat.or_div_two_pow (n:=64)
 have e2:(x ||| y) % 18446744073709551616=x % 18446744073709551616 ||| y % 18446744073709551616:=Nat.or_mod_two_pow (n:=64)
 rw[e1,e2,orN (Nat.div_lt_of_lt_mul hx) (Nat.div_lt_of_lt_mul hy),orN (Nat.mod_lt _ (by decide)) (Nat.mod_lt _ (by decide))]
theorem one_ofN:((0,1):Wd)=ofN 1:=rfl
theorem a2c:((0,0):Wd)=ofN 0:=rfl
theorem whole_l3 (n:Nat) {d A:Nat} (hd:0<d) (hA:A<340282366920938463463374607431768211456) (hdM:d<340282366920938463463374607431768211456) (s4:Wd):∀(k f a q:Nat),q+a / d=A / d→a≤A→a<d*2^k→2^k ∣ q→(k=0∨d*2^(k-1)<340282366920938463463374607431768211456)→k≤128→k<f →
  g0h (n+3) f (ofN a,ofN d,s4,ofN q,(k:Int)-1,())=some (.inl (s4,ofN (A / d),())):=by
 intro k;induction k with
 | zero =>
  intro f a q h1 h2 h3 h4 h5 h6 hf;obtain ⟨f,rfl⟩:∃g,f=g+1:=⟨f-1,by omega⟩;rw[i0t,decide_eq_false (by omega),tff];rw[Nat.pow_zero,Nat.mul_one] at h3;rw[Nat.div_eq_of_lt h3,Nat.add_zero] at h1;rw[h1]
 | succ k ih =>
  intro f a q h1 h2 h3 h4 h5 h6 hf;obtain ⟨f,rfl⟩:∃g,f=g+1:=⟨f-1,by omega⟩;have h5':d*2^k<340282366920938463463374607431768211456:=by
   rcases h5 with h | h
   ·cases h
   ·exact h
  have hk5:k=0∨d*2^(k-1)<340282366920938463463374607431768211456:=by
   rcases Nat.eq_zero_or_pos k with e | e
   ·exact .inl e
   ·refine .inr (Nat.lt_of_le_of_lt (Nat.mul_le_mul_left d (Nat.pow_le_pow_right (by decide) (Nat.sub_le _ _))) h5')
  have hpk:2^k<340282366920938463463374607431768211456:=Nat.lt_of_lt_of_le (Nat.pow_lt_pow_right (a:=2) (n:=128) (by decide) (by omega)) (by decide);have eb:((k+1:Nat):Int)-1=(k:Int):=by omega
  have hq2:2^k ∣ q:=Nat.dvd_trans (Nat.pow_dvd_pow 2 (Nat.le_succ k)) h4;rw[i0t,eb,decide_eq_true (by omega),tft,r0m (n+2) d k (by omega) h5',obs,j1h (n+2) (by omega) h5',obs,w64 (by omega) (by omega),tfd];by_cases hlt:a<d*2^k
  ·rw[if_pos hlt];exact ih f a q h1 h2 hlt hq2 hk5 (by omega) (by omega)
  ·rw[if_neg hlt,n0l n (by omega) (by omega),obs,d1s,obs,one_ofN,r0m (n+2) 1 k (by omega) (by rw[Nat.one_mul];exact hpk),obs,Nat.one_mul];have hqA:q≤A / d:=by rw[←h1];exact Nat.le_add_right _ _
   have hqM:q<340282366920938463463374607431768211456:=Nat.lt_of_le_of_lt (Nat.le_trans hqA (Nat.div_le_self _ _)) hA;rw[or_ofN hqM hpk,or_pow h4];refine ih f (a-d*2^k) (q+2^k) ?_ (by omega) ?_ (Nat.dvd_add hq2 (Nat.dvd_refl _)) hk5 (by omega) (by omega)
   ·rw[div_part hd (by omega)];exact h1
   ·rw[Nat.pow_succ,←Nat.mul_assoc] at h3;omega
theorem r0l (n:Nat) {a d:Nat} (ha:a<340282366920938463463374607431768211456) (hd:0<d) (hdM:d<340282366920938463463374607431768211456):p0w (n+4) (ofN a) (ofN d)=some (ofN (a / d)):=by
 have la:=(j0d 128 a ha).2.2;have ld:=(j0d 128 d hdM).2;have ld1:=(ld.1 hd).1;rw[i1j,b2t (n+1) ha,obs,b2t (n+1) hdM,obs,w64 (by omega) (by omega)];by_cases h:bl 128 d≤bl 128 a
 ·have h0:0<a:=by
   rcases Nat.eq_zero_or_pos a with e | e
   ·rw[e,b1f] at h;omega
   ·exact e
  have e:((bl 128 a:Nat):Int)-((bl 128 d:Nat):Int)=((bl 128 a-bl 128 d+1:Nat):Int)-1:=by omega
  rw[e,a2c,whole_l3 n hd ha hdM _ (bl 128 a-bl 128 d+1) a0b a 0 (by omega) (Nat.le_refl _) (bl_over ha hdM hd) (Nat.dvd_zero _) (.inr (by rw[Nat.add_sub_cancel];exact bl_up ha hdM (by omega) h0)) (by omega) (by unfold a0b;omega),obs,a0w]
 ·have hlt:=bl_less ha hdM (by omega);rw[show a0b=(2^70-1)+1 from rfl,i0t,decide_eq_false (by omega),tff,obs,a0w,Nat.div_eq_of_lt hlt];rfl
theorem c2b (n:Nat) {A B f:Nat} (ha0:0<A) (ha:A<340282366920938463463374607431768211456) (hb0:0<B) (hb:B<340282366920938463463374607431768211456) (s4:Wd) (tw:Int):c0t (n+3) (f+1) (ofN A,ofN B,s4,tw,()) =
  if od B<A then c0t (n+3) f (ofN (od B),ofN (A-od B),s4,tw,()) else c0t (n+3) f (ofN A,ofN (od B-A),s4,tw,()):=by
 have ht:=(n0p hb0 hb).1;have hle:od B<340282366920938463463374607431768211456:=Nat.lt_of_le_of_lt (od_le B) hb;rw[l0v,e0r,obs,tfn,decide_eq_false (by omega),tff,v0p (n+1) hb0 hb,obs,u0r (n+2) B _ ht hb,obs]
 change a0a (l0e (n+3) (ofN (od B)) (ofN A)) _=_
 rw[j1h (n+2) hle ha,obs,tfd];by_cases h:od B<A
 ·rw[if_pos h,if_pos h]
  change a0a (i0u (n+3) (ofN A) (ofN (od B))) _=_
  rw[n0l n ha (by omega),obs];rfl
 ·rw[if_neg h,if_neg h]
  change a0a (i0u (n+3) (ofN (od B)) (ofN A)) _=_
  rw[n0l n hle (by omega),obs]
theorem gcd_l5 (n:Nat) (s4:Wd) (tw:Int):∀(k f A B:Nat),0<A→A<340282366920938463463374607431768211456→A % 2=1→B<340282366920938463463374607431768211456→B % 2=0→A*B<2^k→k<f →
  c0t (n+3) f (ofN A,ofN B,s4,tw,())=some (.inl (ofN (Nat.gcd A B),s4,tw,())):=by
 intro k;induction k with
 | zero =>
  intro f A B h1 h2 h3 h4 h5 h6 hf;obtain ⟨f,rfl⟩:∃g,f=g+1:=⟨f-1,by omega⟩;have:B=0:=by
   rcases Nat.eq_zero_or_pos B with e | e
   ·exact e
   ·have:=Nat.mul_pos h1 e;omega
  subst this;rw[l0v,e0r,obs,tfn,decide_eq_true rfl,tft,Nat.gcd_zero_right]
 | succ k ih =>
  intro f A B h1 h2 h3 h4 h5 h6 hf;obtain ⟨f,rfl⟩:∃g,f=g+1:=⟨f-1,by omega⟩;rcases Nat.eq_zero_or_pos B with e | hB
  ·subst e;rw[l0v,e0r,obs,tfn,decide_eq_true rfl,tft,Nat.gcd_zero_right]
  ·have hev:=od_even hB h4 h5;have hod:=(n0p hB h4).2.2;have hpos:=k2u hB h4;have hg:=l2t h3 hB h4;have hp:A*od B<2^k:=by
    have:A*(2*od B)≤A*B:=Nat.mul_le_mul_left A hev;rw[Nat.mul_left_comm] at this;rw[Nat.pow_succ] at h6;omega
   rw[c2b n h1 h2 hB h4];by_cases h:od B<A
   ·rw[if_pos h,ih f (od B) (A-od B) hpos (by omega) hod (by omega) (by omega) (Nat.lt_of_le_of_lt (by rw[Nat.mul_comm A];exact Nat.mul_le_mul_left _ (Nat.sub_le _ _)) hp) (by omega),d1m (by omega),Nat.gcd_comm,hg]
   ·rw[if_neg h,ih f A (od B-A) h1 h2 h3 (by omega) (by omega) (Nat.lt_of_le_of_lt (Nat.mul_le_mul_left _ (Nat.sub_le _ _)) hp) (by omega),d1m (by omega),hg]
theorem gcd_any (n:Nat) (s4:Wd) (tw:Int) {A B:Nat} (h1:0<A) (h2:A<340282366920938463463374607431768211456) (h3:A % 2=1) (hB:0<B) (h4:B<340282366920938463463374607431768211456):c0t (n+3) a0b (ofN A,ofN B,s4,tw,())=some (.inl (ofN (Nat.gcd A B),s4,tw,())):=by
 have hod:=(n0p hB h4).2.2;have hpos:=k2u hB h4;have hle:=od_le B;have hg:=l2t h3 hB h4;have hm:∀ {x y:Nat},x<340282366920938463463374607431768211456→y<340282366920938463463374607431768211456→x*y<2^256:=fun hx hy=>Nat.lt_of_lt_of_le (Nat.mul_lt_mul'' hx hy) (by decide)
 rw[show a0b=(2^70-1)+1 from rfl,c2b n h1 h2 hB h4];by_cases h:od B<A
 ·rw[if_pos h,gcd_l5 n s4 tw 256 _ (od B) (A-od B) hpos (by omega) hod (by omega) (by omega) (hm (by omega) (by omega)) (by decide),d1m (by omega),Nat.gcd_comm,hg]
 ·rw[if_neg h,gcd_l5 n s4 tw 256 _ A (od B-A) h1 h2 h3 (by omega) (by omega) (hm (by omega) (by omega)) (by decide),d1m (by omega),hg]
theorem j2l (n:Nat) {x y:Nat} (hx:x<340282366920938463463374607431768211456) (hy:y<340282366920938463463374607431768211456):e1x (n+4) (ofN x) (ofN y)=some (ofN (Nat.gcd x y)):=by
 rw[r1q,e0r,obs,or_ofN hx hy];by_cases h0:x=0
 ·subst h0;rw[decide_eq_true rfl,tft,Nat.gcd_zero_left,Nat.zero_or]
 rw[decide_eq_false h0,tff,e0r,obs];by_cases h1:y=0
 ·subst h1;rw[decide_eq_true rfl,tft,Nat.gcd_zero_right,Nat.or_zero]
 have hx0:0<x:=by omega
 have hy0:0<y:=by omega
 obtain ⟨a1,a2,a3⟩:=n0p hx0 hx;obtain ⟨b1,b2,b3⟩:=n0p hy0 hy;have hle:od x<340282366920938463463374607431768211456:=Nat.lt_of_le_of_lt (od_le x) hx;rw[decide_eq_false h1,tff,v0p (n+1) hx0 hx,obs,v0p (n+1) hy0 hy,obs,obs,u0r (n+2) x _ a1 hx,obs]
 change a0a (c0t (n+3) a0b (ofN (od x),ofN y,_,_,())) _=_
 rw[gcd_any n _ _ (k2u hx0 hx) hle a3 hy0 hy,obs,a0w];have e:(if ((tz 128 y:Nat):Int)<((tz 128 x:Nat):Int) then ((tz 128 y:Nat):Int) else ((tz 128 x:Nat):Int))=((min (tz 128 x) (tz 128 y):Nat):Int):=by
  split<;>omega
 have hg:=l2r hx0 hx hy0 hy;have hlt:Nat.gcd x y<340282366920938463463374607431768211456:=Nat.lt_of_le_of_lt (Nat.gcd_le_left y hx0) hx;simp only;rw[e,r0m (n+2) _ _ (by omega) (by rw[←hg];exact hlt),obs,←hg]
def bys (x:Nat):List Int:=(List.range 16).map fun j=>((byt x j:Nat):Int)
theorem g1z (x:Nat):(bys x).length=16:=by simp[bys]
theorem v1a (x:Nat) {j:Nat} (h:j<16):(bys x)[j]? = some ((byt x j:Nat):Int):=by
 unfold bys;rw[List.getElem?_map,List.getElem?_range h];rfl
theorem bys_eq (x:Nat):bys x=[((x % 256:Nat):Int),((x / 256 % 256:Nat):Int),((x / 65536 % 256:Nat):Int),((x / 16777216 % 256:Nat):Int),((x / 4294967296 % 256:Nat):Int),((x / 1099511627776 % 256:Nat):Int),((x / 281474976710656 % 256:Nat):Int),((x / 72057594037927936 % 256:Nat):Int),
  ((x / 18446744073709551616 % 256:Nat):Int),((x / 4722366482869645213696 % 256:Nat):Int),((x / 1208925819614629174706176 % 256:Nat):Int),((x / 309485009821345068724781056 % 256:Nat):Int),((x / 79228162514264337593543950336 % 256:Nat):Int),((x / 20282409603651670423947251286016 % 256:Nat):Int),((x / 5192296858534827628530496329220096 % 256:Nat):Int),((x / 1329227995784915872903807060280344576 % 256:Nat):Int)]:=by
 unfold bys byt;simp[List.range,List.range.loop]
abbrev l16 (r:B16):List Int:=[r.1,r.2.1,r.2.2.1,r.2.2.2.1,r.2.2.2.2.1,r.2.2.2.2.2.1,r.2.2.2.2.2.2.1,r.2.2.2.2.2.2.2.1,r.2.2.2.2.2.2.2.2.1,r.2.2.2.2.2.2.2.2.2.1,r.2.2.2.2.2.2.2.2.2.2.1,r.2.2.2.2.2.2.2.2.2.2.2.1,r.2.2.2.2.2.2.2.2.2.2.2.2.1,r.2.2.2.2.2.2.2.2.2.2.2.2.2.1,r.2.2.2.2.2.2.2.2.2.2.2.2.2.2.1,r.2.2.2.2.2.2.2.2.2.2.2.2.2.2.2]
theorem bys_list (x:Nat):bys x=[((byt x 0:Nat):Int),((byt x 1:Nat):Int),((byt x 2:Nat):Int),((byt x 3:Nat):Int),((byt x 4:Nat):Int),((byt x 5:Nat):Int),((byt x 6:Nat):Int),((byt x 7:Nat):Int),((byt x 8:Nat):Int),((byt x 9:Nat):Int),((byt x 10:Nat):Int),((byt x 11:Nat):Int),((byt x 12:Nat):Int),((byt x 13:Nat):Int),((byt x 14:Nat):Int),((byt x 15:Nat):Int)]:=by
 unfold bys;simp[List.range,List.range.loop]
theorem m2y {v x0 x1 x2 x3 x4 x5 x6 x7:Int} (b:Byt x0∧Byt x1∧Byt x2∧Byt x3∧Byt x4∧Byt x5∧Byt x6∧Byt x7) (h:v=x0+x1*256+x2*65536+x3*16777216+x4*4294967296+x5*1099511627776+x6*281474976710656+x7*72057594037927936) :
  x0=v % 256∧x1=v / 256 % 256∧x2=v / 65536 % 256∧x3=v / 16777216 % 256∧x4=v / 4294967296 % 256∧x5=v / 1099511627776 % 256∧x6=v / 281474976710656 % 256∧x7=v / 72057594037927936 % 256:=by
 simp only[Byt] at b;obtain ⟨⟨_,_⟩,⟨_,_⟩,⟨_,_⟩,⟨_,_⟩,⟨_,_⟩,⟨_,_⟩,⟨_,_⟩,⟨_,_⟩⟩:=b;refine ⟨?_,?_,?_,?_,?_,?_,?_,?_⟩<;>omega
theorem t0l (n:Nat) {x:Nat} (h:x<340282366920938463463374607431768211456):∃r:B16,g0i (n+1) (ofN x)=some r∧l16 r=bys x:=by
 obtain ⟨x0,x1,x2,x3,x4,x5,x6,x7,x8,x9,x10,x11,x12,x13,x14,x15,hr,⟨b0,b1,b2,b3,b4,b5,b6,b7,b8,b9,b10,b11,b12,b13,b14,b15⟩,hlo,hhi⟩:=o0f n (b1u h);refine ⟨_,hr,?_⟩;obtain ⟨c0,c1,c2,c3,c4,c5,c6,c7⟩:=m2y ⟨b0,b1,b2,b3,b4,b5,b6,b7⟩ hlo;obtain ⟨d0,d1,d2,d3,d4,d5,d6,d7⟩:=m2y ⟨b8,b9,b10,b11,b12,b13,b14,b15⟩ hhi;have elo:(ofN x).2=((x % 18446744073709551616:Nat):Int):=rfl;have ehi:(ofN x).1=((x / 18446744073709551616:Nat):Int):=rfl;rw[elo] at c0 c1 c2 c3 c4 c5 c6 c7;rw[ehi] at d0 d1 d2 d3 d4 d5 d6 d7;rw[bys_eq];simp only[l16]
 clear hr hlo hhi b0 b1 b2 b3 b4 b5 b6 b7 b8 b9 b10 b11 b12 b13 b14 b15;subst c0 c1 c2 c3 c4 c5 c6 c7 d0 d1 d2 d3 d4 d5 d6 d7;simp only[List.cons.injEq,and_true];refine ⟨?_,?_,?_,?_,?_,?_,?_,?_,?_,?_,?_,?_,?_,?_,?_,?_⟩
 all_goals omega
theorem r01_ofN (n:Nat) {x:Nat} (h:x<340282366920938463463374607431768211456):b1s (n+1) (((byt x 0:Nat):Int),((byt x 1:Nat):Int),((byt x 2:Nat):Int),((byt x 3:Nat):Int),((byt x 4:Nat):Int),((byt x 5:Nat):Int),((byt x 6:Nat):Int),((byt x 7:Nat):Int),((byt x 8:Nat):Int),((byt x 9:Nat):Int),((byt x 10:Nat):Int),((byt x 11:Nat):Int),((byt x 12:Nat):Int),((byt x 13:Nat):Int),((byt x 14:Nat):Int),((byt x 15:Nat):Int))=some (ofN x):=by
 obtain ⟨r,hr,hl⟩:=t0l n h;obtain ⟨x0,x1,x2,x3,x4,x5,x6,x7,x8,x9,x10,x11,x12,x13,x14,x15,hr',hb,hlo,hhi⟩:=o0f n (b1u h);have hr':=Option.some.inj (hr.symm.trans hr');subst hr';rw[bys_list] at hl;simp only[l16,List.cons.injEq,and_true] at hl;obtain ⟨rfl,rfl,rfl,rfl,rfl,rfl,rfl,rfl,rfl,rfl,rfl,rfl,rfl,rfl,rfl,rfl⟩:=hl;obtain ⟨b0,b1,b2,b3,b4,b5,b6,b7,b8,b9,b10,b11,b12,b13,b14,b15⟩:=hb;rw[r01_of n b0 b1 b2 b3 b4 b5 b6 b7 b8 b9 b10 b11 b12 b13 b14 b15,←hlo,←hhi]
theorem j2y (n:Nat) {x:Nat} (h:x<340282366920938463463374607431768211456) {R:Type} (k:Wd→Option R) {l:List Int} (hl:l=bys x) :
  (a0a (l[0]?) fun r0=>a0a (l[1]?) fun r1=>a0a (l[2]?) fun r2=>a0a (l[3]?) fun r3=>a0a (l[4]?) fun r4=>a0a (l[5]?) fun r5=>a0a (l[6]?) fun r6=>a0a (l[7]?) fun r7=>a0a (l[8]?) fun r8=>a0a (l[9]?) fun r9=>a0a (l[10]?) fun r10=>a0a (l[11]?) fun r11=>a0a (l[12]?) fun r12=>a0a (l[13]?) fun r13=>a0a (l[14]?) fun r14=>a0a (l[15]?) fun r15=>a0a (b1s (n+1) (r0,(r1,(r2,(r3,(r4,(r5,(r6,(r7,(r8,(r9,(r10,(r11,(r12,(r13,(r14,r15)))))))))))))))) k)=k (ofN x):=by
 subst hl;have e:∀j:Nat,j<16→(bys x)[j]? = some ((byt x j:Nat):Int):=fun j hj=>v1a x hj
 rw[e 0 (by decide),e 1 (by decide),e 2 (by decide),e 3 (by decide),e 4 (by decide),e 5 (by decide),e 6 (by decide),e 7 (by decide),e 8 (by decide),e 9 (by decide),e 10 (by decide),e 11 (by decide),e 12 (by decide),e 13 (by decide),e 14 (by decide),e 15 (by decide)];simp only[obs,r01_ofN n h]
theorem n1m (n:Nat) {x y:Nat} (hx:x<340282366920938463463374607431768211456) (hy:y<340282366920938463463374607431768211456):n0m (n+2) (ofN x) (ofN y)=some (if x+y<340282366920938463463374607431768211456 then (ofN (x+y),0) else ((0,0),1)):=by
 rw[a1c n (b1u hx) (b1u hy)];unfold addW;rw[j1e,j1e];have e:(x:Int)+y=((x+y:Nat):Int):=by omega
 rw[e,o1a];by_cases h:x+y<340282366920938463463374607431768211456
 ·rw[if_pos h,if_pos (by omega)]
 ·rw[if_neg h,if_neg (by omega)]
theorem s1p (n:Nat) {x y:Nat} (hx:x<340282366920938463463374607431768211456) (hy:y<340282366920938463463374607431768211456):k0m (n+2) (ofN x) (ofN y)=some (decide (x<y)):=by
 rw[b2a n (b1u hx) (b1u hy),j1e,j1e];congr 1;exact decide_eq_decide.2 (by omega)
def subL (A B i:Nat):List Int:=(List.range 16).map fun j=>(((if j<i then byt (A-B) j else byt A j):Nat):Int)
def owe (A B i:Nat):Nat:=if A % 256^i<B % 256^i then 1 else 0
theorem c1x (A B i:Nat):(subL A B i).length=16:=by simp[subL]
theorem w1d (A B i:Nat) {j:Nat} (h:j<16):(subL A B i)[j]? = some (((if j<i then byt (A-B) j else byt A j):Nat):Int):=by
 unfold subL;rw[List.getElem?_map,List.getElem?_range h];rfl
theorem a2m (A B:Nat) {i:Nat} (h:i<16):(subL A B i).set i ((byt (A-B) i:Nat):Int)=subL A B (i+1):=by
 apply List.ext_getElem?;intro j;rw[List.getElem?_set,c1x];by_cases hj:j<16
 ·rw[w1d _ _ _ hj,w1d _ _ _ hj];by_cases e:i=j
  ·subst e;rw[if_pos rfl,if_pos h,if_pos (by omega)]
  ·rw[if_neg e];by_cases hlt:j<i
   ·rw[if_pos hlt,if_pos (by omega)]
   ·rw[if_neg hlt,if_neg (by omega)]
 ·rw[if_neg (by omega),List.getElem?_eq_none (by rw[c1x];omega),List.getElem?_eq_none (by rw[c1x];omega)]
theorem owe_step {A B:Nat} (hle:B≤A) (i:Nat) :
  (byt A i<byt B i+owe A B i→owe A B (i+1)=1∧byt (A-B) i+byt B i+owe A B i=byt A i+256) ∧
  (byt B i+owe A B i≤byt A i→owe A B (i+1)=0∧byt (A-B) i+byt B i+owe A B i=byt A i):=by
 have hp:0<256^i:=Nat.pow_pos (by decide);have ea:=Nat.div_add_mod A (256^i);have eb:=Nat.div_add_mod B (256^i);have la:=Nat.mod_lt A hp;have lb:=Nat.mod_lt B hp;have ea2:A % 256^(i+1)=256^i*(A / 256^i % 256)+A % 256^i:=by rw[Nat.pow_succ,Nat.mod_mul];omega
 have eb2:B % 256^(i+1)=256^i*(B / 256^i % 256)+B % 256^i:=by rw[Nat.pow_succ,Nat.mod_mul];omega
 unfold owe byt;rw[ea2,eb2];generalize hP:256^i=P at *
 generalize hA':A / P=A' at *
 generalize hB':B / P=B' at *
 generalize ha:A % P=a at *
 generalize hb:B % P=b at *
 have key:(A-B) / P+B'+(if a<b then 1 else 0)=A':=by
  by_cases hlt:a<b
  ·rw[if_pos hlt];have hAB:B'+1≤A':=by
    rcases Nat.lt_or_ge B' A' with q | q
    ·exact q
    ·have:=Nat.mul_le_mul_left P q;omega
   obtain ⟨c,hc⟩:∃c,A'=B'+1+c:=⟨A'-(B'+1),by omega⟩;have e1:P*A'=P*B'+P+P*c:=by rw[hc,Nat.mul_add,Nat.mul_add,Nat.mul_one]
   have e2:A-B=P*c+(P+a-b):=by omega
   rw[e2,Nat.mul_add_div hp,Nat.div_eq_of_lt (by omega)];omega
  ·rw[if_neg hlt];have hAB:B'≤A':=by
    rcases Nat.lt_or_ge A' B' with q | q
    ·have:=Nat.mul_le_mul_left P q;rw[Nat.mul_succ] at this;omega
    ·exact q
   obtain ⟨c,hc⟩:∃c,A'=B'+c:=⟨A'-B',by omega⟩;have e1:P*A'=P*B'+P*c:=by rw[hc,Nat.mul_add]
   have e2:A-B=P*c+(a-b):=by omega
   rw[e2,Nat.mul_add_div hp,Nat.div_eq_of_lt (by omega)];omega
 generalize (A-B) / P=D at *
 have cmp:(P*(A' % 256)+a<P*(B' % 256)+b)↔(A' % 256<B' % 256∨A' % 256=B' % 256∧a<b):=by
  rcases Nat.lt_trichotomy (A' % 256) (B' % 256) with q | q | q
  ·have:=Nat.mul_le_mul_left P q;rw[Nat.mul_succ] at this;constructor
   ·intro _;exact .inl q
   ·intro _;omega
  ·rw[q];constructor
   ·intro h;exact .inr ⟨rfl,by omega⟩
   ·rintro (h | ⟨_,h⟩)<;>omega
  ·have:=Nat.mul_le_mul_left P q;rw[Nat.mul_succ] at this;constructor
   ·intro h;omega
   ·rintro (h | ⟨h,_⟩)<;>omega
 by_cases hab:a<b
 ·simp only[if_pos hab] at key ⊢;constructor
  ·intro h;rw[if_pos (cmp.2 (by omega))];exact ⟨rfl,by omega⟩
  ·intro h;rw[if_neg (fun q=>by have:=cmp.1 q;omega)];exact ⟨rfl,by omega⟩
 ·simp only[if_neg hab] at key ⊢;constructor
  ·intro h;rw[if_pos (cmp.2 (by omega))];exact ⟨rfl,by omega⟩
  ·intro h;rw[if_neg (fun q=>by have:=cmp.1 q;omega)];exact ⟨rfl,by omega⟩
theorem f2f (n:Nat) {A B:Nat} (hle:B≤A) (s4:Wd):∀(k f i:Nat),i+k=16→k<f →
  k0y n f (s4,subL A B i,bys B,((owe A B i:Nat):Int),(i:Int),())=some (.inl (s4,bys (A-B),())):=by
 intro k;induction k with
 | zero =>
  intro f i hi hf;obtain ⟨f,rfl⟩:∃g,f=g+1:=⟨f-1,by omega⟩;have:i=16:=by omega
  subst this;rw[x0o,decide_eq_false (by decide),tff];congr 3
 | succ k ih =>
  intro f i hi hf;obtain ⟨f,rfl⟩:∃g,f=g+1:=⟨f-1,by omega⟩;have hlt:i<16:=by omega
  have g1:=u1z A i;have g2:=u1z B i;have g3:=u1z (A-B) i;have g4:owe A B i≤1:=by unfold owe;split<;>omega
  obtain ⟨s1,s2⟩:=owe_step hle i;have next:=ih f (i+1) (by omega) (by omega);rw[x0o,c1x,g1z,Int.toNat_natCast,w1d _ _ _ hlt,v1a _ hlt,if_neg (Nat.lt_irrefl i)];simp only[decide_eq_true (show (i:Int)<16 by omega),decide_eq_true (show (0:Int)≤(i:Int) by omega),decide_eq_true (show (i:Int)<((16:Nat):Int) by omega),Bool.and_self,tft,obs];rw[w64 (x:=((byt A i:Nat):Int)-((byt B i:Nat):Int)) (by omega) (by omega),w64 (x:=((byt A i:Nat):Int)-((byt B i:Nat):Int)-((owe A B i:Nat):Int)) (by omega) (by omega),w64 (x:=(i:Int)+1) (by omega) (by omega),tfd]
  by_cases h:byt A i<byt B i+owe A B i
  ·obtain ⟨t1,t2⟩:=s1 h;rw[t1] at next;rw[if_pos (by omega),w64 (by omega) (by omega),show ((byt A i:Nat):Int)-((byt B i:Nat):Int)-((owe A B i:Nat):Int)+256=((byt (A-B) i:Nat):Int) by omega,a2m _ _ hlt];exact next
  ·obtain ⟨t1,t2⟩:=s2 (by omega);rw[t1] at next;rw[if_neg (by omega),show ((byt A i:Nat):Int)-((byt B i:Nat):Int)-((owe A B i:Nat):Int)=((byt (A-B) i:Nat):Int) by omega,a2m _ _ hlt];exact next
theorem n1k (n:Nat) {A B:Nat} (hA:A<340282366920938463463374607431768211456) (hle:B≤A):f1p (n+3) (ofN A) (ofN B)=some (ofN (A-B),0):=by
 obtain ⟨ra,ha,hla⟩:=t0l (n+1) hA;obtain ⟨rb,hb,hlb⟩:=t0l (n+1) (Nat.lt_of_le_of_lt hle hA);rw[f2h,s1p n hA (Nat.lt_of_le_of_lt hle hA),obs,decide_eq_false (by omega),tff,ha,obs,hb,obs];rw[show (decide (16=((((((((((((((((1+1)+1)+1)+1)+1)+1)+1)+1)+1)+1)+1)+1)+1)+1)+1) / 1)))=true from rfl,tft,tft];have e0:subL A B 0=bys A:=by unfold subL bys;apply List.map_congr_left;intro j _;rw[if_neg (Nat.not_lt_zero j)]
 have:=f2f (n+2) hle (0,0) 16 a0b 0 rfl (by decide);rw[e0,show owe A B 0=0 by unfold owe;simp[Nat.mod_one],←hla,←hlb] at this
 change a0a (k0y (n+2) a0b ((0,0),l16 ra,l16 rb,((0:Nat):Int),((0:Nat):Int),())) _=_
 rw[this,obs,a0w];exact j2y (n+1) (Nat.lt_of_le_of_lt (Nat.sub_le _ _) hA) (fun r=>some (r,0)) rfl
theorem lo_ofN {b:Nat} (h:b<18446744073709551616):(((0:Int),(b:Int)):Wd)=ofN b:=by
 unfold ofN;rw[Nat.div_eq_of_lt h,Nat.mod_eq_of_lt h];rfl
theorem shr64 (v k:Nat) (hk:k≤64):shrI .i64 (v:Int) (k:Int)=((v / 2^k:Nat):Int):=shrN v k hk
theorem and1 {v:Nat} (h:v<256):andI .i64 (v:Int) (1:Int)=((v % 2:Nat):Int):=by
 unfold andI;have e2:(BitVec.ofInt IntKind.i64.bits (v:Int) &&& BitVec.ofInt IntKind.i64.bits (1:Int)).toNat=v % 2:=by
  show (BitVec.ofInt 64 (v:Int) &&& BitVec.ofInt 64 ((1:Nat):Int)).toNat=_;rw[BitVec.toNat_and,BitVec.ofInt_natCast,BitVec.ofInt_natCast,BitVec.toNat_ofNat,BitVec.toNat_ofNat,Nat.mod_eq_of_lt (by omega),Nat.mod_eq_of_lt (by omega)];exact Nat.and_one_is_mod v
 rw[e2];exact w64 (by omega) (by omega)
theorem orbit {v j:Nat} (h:v<256) (hj:j<8):orI .i64 (v:Int) (shlI .i64 (1:Int) (j:Int))=((v ||| 2^j:Nat):Int):=by
 have hp:2^j<256:=Nat.lt_of_lt_of_le (Nat.pow_lt_pow_right (a:=2) (n:=8) (by decide) hj) (by decide);have e1:shlI .i64 (1:Int) (j:Int)=((2^j:Nat):Int):=by
  show IntKind.wrap .i64 ((1:Int)*2^(min (j:Int).toNat 64))=_;rw[show min (j:Int).toNat 64=j by omega,Int.one_mul];have:(2:Int)^j=((2^j:Nat):Int):=by simp
  rw[this];generalize 2^j=p at hp;exact w64 (by omega) (by omega)
 rw[e1];unfold orI;have e2:(BitVec.ofInt IntKind.i64.bits (v:Int) ||| BitVec.ofInt IntKind.i64.bits ((2^j:Nat):Int)).toNat=v ||| 2^j:=by
  show (BitVec.ofInt 64 (v:Int) ||| BitVec.ofInt 64 ((2^j:Nat):Int)).toNat=_;rw[BitVec.toNat_or,BitVec.ofInt_natCast,BitVec.ofInt_natCast,BitVec.toNat_ofNat,BitVec.toNat_ofNat,Nat.mod_eq_of_lt (by omega),Nat.mod_eq_of_lt (by omega)]
 rw[e2];have:v ||| 2^j<2^8:=Nat.or_lt_two_pow (by omega) (by omega)
 exact w64 (by omega) (by omega)
theorem bys_set {v i:Nat} (hi:i<128) (h:2^(i+1) ∣ v):(bys v).set (i / 8) ((byt v (i / 8) ||| 2^(i % 8):Nat):Int)=bys (v+2^i):=by
 apply List.ext_getElem?;intro j;rw[List.getElem?_set,g1z];by_cases hj:j<16
 ·rw[v1a _ hj,v1a _ hj,byt_or h];by_cases e:i / 8=j
  ·rw[if_pos e,if_pos e,if_pos (by omega),e]
  ·rw[if_neg e,if_neg e]
 ·rw[if_neg (by omega),List.getElem?_eq_none (by rw[g1z];omega),List.getElem?_eq_none (by rw[g1z];omega)]
theorem bit_at (A:Nat) {k:Nat}:IntKind.wrap .u64 (andI .i64 (shrI .i64 ((byt A (k / 8):Nat):Int) ((k % 8:Nat):Int)) (1:Int))=((A / 2^k % 2:Nat):Int):=by
 have hb:=u1z A (k / 8);rw[shr64 _ _ (by omega),and1 (Nat.lt_of_le_of_lt (Nat.div_le_self _ _) hb),bit_byt,wu64 (by omega) (by omega)]
theorem s1m (n:Nat) {A D:Nat} (hA:A<340282366920938463463374607431768211456) (hD:D<340282366920938463463374607431768211456) (hD0:0<D) (s4 s5:Wd):∀(k f q r:Nat),k≤128→A / 2^k=D*q+r→r<D→k<f →
  f0l (n+3) f (ofN D,s4,s5,bys (q*2^k),ofN r,bys A,(k:Int)-1,())=some (.inl (s4,s5,bys (A / D),ofN (A % D),())):=by
 intro k;induction k with
 | zero =>
  intro f q r hk h hr hf;obtain ⟨f,rfl⟩:∃g,f=g+1:=⟨f-1,by omega⟩;rw[Nat.pow_zero,Nat.div_one] at h;obtain ⟨e1,e2⟩:=(Nat.div_mod_unique (a:=A) (c:=r) (d:=q) hD0).2 ⟨by omega,hr⟩;rw[r0y,decide_eq_false (by omega),tff,e1,e2,Nat.pow_zero,Nat.mul_one]
 | succ k ih =>
  intro f q r hk h hr hf;obtain ⟨f,rfl⟩:∃g,f=g+1:=⟨f-1,by omega⟩;obtain ⟨d1,d2⟩:=div_step (L:=0) hD0 h hr;have e1:IntKind.wrap .i64 (Int.tdiv (k:Int) 8)=((k / 8:Nat):Int):=by rw[g0p (by omega),w64 (by omega) (by omega)];omega
  have e2:Int.tmod (k:Int) 8=((k % 8:Nat):Int):=by rw[d0x (by omega)];omega
  have eb:((k+1:Nat):Int)-1=(k:Int):=by omega
  have hk8:k / 8<16:=by omega
  have hbit:A / 2^k % 2<2:=Nat.mod_lt _ (by decide);have hdvd:2^(k+1) ∣ q*2^(k+1):=Nat.dvd_mul_left _ _;have eq1:(2*q+1)*2^k=q*2^(k+1)+2^k:=by rw[Nat.pow_succ,Nat.add_mul,Nat.one_mul,Nat.mul_comm 2 q,Nat.mul_assoc,Nat.mul_comm 2 (2^k)]
  have eq0:(2*q)*2^k=q*2^(k+1):=by rw[Nat.pow_succ,Nat.mul_comm 2 q,Nat.mul_assoc,Nat.mul_comm 2 (2^k)]
  have hset:=bys_set (v:=q*2^(k+1)) (i:=k) (by omega) hdvd;have hob:=orbit (v:=byt (q*2^(k+1)) (k / 8)) (j:=k % 8) (u1z _ _) (by omega);have c1:decide ((0:Int)≤((k / 8:Nat):Int))=true:=decide_eq_true (by omega);have c2:decide (((k / 8:Nat):Int)<(16:Int))=true:=decide_eq_true (by omega);have c3:decide (((k / 8:Nat):Int)<((16:Nat):Int))=true:=decide_eq_true (by omega);have c4:decide (((k % 8:Nat):Int)<(0:Int))=false:=decide_eq_false (by omega);rw[r0y,eb,decide_eq_true (by omega),tft,n1m (n+1) (by omega) (by omega),obs]
  simp only[e1,e2,g1z,c1,c2,c3,c4,Bool.and_self,tft,tff,Int.toNat_natCast,v1a _ hk8,obs,bit_at,hob,hset];rw[w64 (x:=(k:Int)-1) (by omega) (by omega),lo_ofN (b:=A / 2^k % 2) (by omega)];generalize hb:A / 2^k % 2=b at *
  by_cases hov:r+r<340282366920938463463374607431768211456
  ·rw[if_pos hov];simp only[decide_true,Bool.not_true,tff];rw[n1m (n+1) hov (by omega),obs,if_pos (by omega)];simp only;rw[s1p (n+1) (by omega) hD,obs,tfn,tfd];by_cases hlt:r+r+b<D
   ·rw[if_pos hlt];have:=ih f (2*q) (r+r+b) (by omega) (by rw[d2 (by omega)];omega) hlt (by omega);rw[eq0] at this;exact this
   ·obtain ⟨t1,t2⟩:=d1 (by omega);rw[if_neg hlt,n1k n (by omega) (by omega),obs];have:=ih f (2*q+1) (r+r+b-D) (by omega) (by rw[t1];omega) (by omega) (by omega);rw[eq1] at this;exact this
  ·rw[if_neg hov];simp only[show (decide ((1:Int)=0))=false from rfl,Bool.not_false,tft];obtain ⟨t1,t2⟩:=d1 (by omega);rw[n1k n hD (by omega),obs];simp only;rw[n1k n (by omega) (by omega),obs];simp only;rw[n1m (n+1) (by omega) (by omega),obs,if_pos (by omega)];simp only;have:=ih f (2*q+1) (r-(D-r)+b) (by omega) (by rw[t1];omega) (by omega) (by omega);rw[eq1] at this;exact this
theorem r02_whole (n:Nat) {A D:Nat} (hA:A<340282366920938463463374607431768211456) (hD:D<340282366920938463463374607431768211456):s1o (n+4) (ofN A) (ofN D)=some (if D=0 then (ofN 0,ofN A) else (ofN (A / D),ofN (A % D))):=by
 rw[s1n,b2i,tfd];by_cases h0:D=0
 ·rw[if_pos h0,if_pos h0];rfl
 ·obtain ⟨ra,ha,hla⟩:=t0l (n+2) hA;rw[if_neg h0,if_neg h0,ha,obs];rw[show (decide (16=((((((((((((((((1+1)+1)+1)+1)+1)+1)+1)+1)+1)+1)+1)+1)+1)+1)+1) / 1)))=true from rfl,tft];have:=s1m n hA hD (by omega) (0,0) (0,0) 128 a0b 0 0 (Nat.le_refl _) (by rw[Nat.mul_zero];exact Nat.div_eq_of_lt hA) (by omega) (by unfold a0b;omega);rw[Nat.zero_mul,show bys 0=List.replicate 16 (0:Int) from rfl,←hla,show (((128:Nat):Int)-1)=127 from rfl,←a2c] at this
  change a0a (f0l (n+3) a0b (ofN D,(0,0),(0,0),List.replicate 16 (0:Int),(0,0),l16 ra,127,())) _=_
  rw[this,obs,a0w];exact j2y (n+2) (Nat.lt_of_le_of_lt (Nat.div_le_self _ _) hA) (fun r=>some (r,ofN (A % D))) rfl
def redV (x y:Nat):(Wd×Wd)×Int:=if y=0 then (((0,0),(0,0)),1) else ((ofN (x / Nat.gcd x y),ofN (y / Nat.gcd x y)),0)
theorem r1p (n:Nat) {x y:Nat} (hx:x<340282366920938463463374607431768211456) (hy:y<340282366920938463463374607431768211456):r0n (n+5) (ofN x) (ofN y)=some (redV x y):=by
 rw[e1w,e0r,obs,tfd];unfold redV;by_cases h:y=0
 ·rw[if_pos h,if_pos h]
 ·have hg:0<Nat.gcd x y:=Nat.gcd_pos_of_pos_right x (by omega);have hl:Nat.gcd x y<340282366920938463463374607431768211456:=Nat.lt_of_le_of_lt (Nat.gcd_le_right x (by omega)) hy;rw[if_neg h,if_neg h,j2l n hx hy,obs,r0l n hx hg hl,obs,r0l n hy hg hl,obs]
def rateV (a:Wd) (ms:Int):(Wd×Wd)×Int :=
 if ms=0 then (((0,0),(0,0)),12) else if wv a*1000<340282366920938463463374607431768211456 then redV (wv a*1000).toNat ms.toNat else (((0,0),(0,0)),1)
theorem e2v {a:Wd} (ha:WdOk a) {ms:Int} (hm:0≤ms∧ms≤18446744073709551615) (h:wv a*1000<340282366920938463463374607431768211456):mkW (wv a*1000)=ofN (wv a*1000).toNat∧(wv a*1000).toNat<340282366920938463463374607431768211456∧(((0:Int),ms):Wd)=ofN ms.toNat∧ms.toNat<340282366920938463463374607431768211456:=by
 obtain ⟨h1,h2⟩:=e0f ha;have e:wv a*1000=(((wv a*1000).toNat:Nat):Int):=by omega
 refine ⟨?_,by omega,?_,by omega⟩
 ·conv=>lhs;rw[e]
  exact o1a _
 ·rw[←lo_ofN (by omega)];congr 1;omega
theorem e2u (n:Nat) {a:Wd} (ha:WdOk a) {ms:Int} (hm:0≤ms∧ms≤18446744073709551615):z0w (n+6) a ms=some (rateV a ms):=by
 rw[m1w,tfd];unfold rateV;by_cases h0:ms=0
 ·rw[if_pos h0,if_pos h0]
 rw[if_neg h0,if_neg h0,j1g (n+3) ha 1000 (by omega),obs];unfold e1b;by_cases h:wv a*1000<340282366920938463463374607431768211456
 ·obtain ⟨p1,p2,p3,p4⟩:=e2v ha hm h;rw[if_pos h,if_pos h];simp only[decide_true,Bool.not_true,tff];rw[d1s,obs,p1,p3,r1p n p2 p4,obs]
 ·rw[if_neg h,if_neg h];rfl
section
variable {del:Ev×Unit→Option Bool} {p:Ev→Bool} {L:List Ev} (hd:∀x∈L,del (x,())=some (p x))
include hd
end
def WidP (w:Int):Prop:=1≤w∧w≤1099511627776
instance (w:Int):Decidable (WidP w):=by unfold WidP;infer_instance
def RngP (a b:Int):Prop:=0≤a∧b≤35184372088832∧a<b
instance (a b:Int):Decidable (RngP a b):=by unfold RngP;infer_instance
def n0f (a b w:Int):Int×(Int×Int):=if WidP w∧RngP a b then (if a % w=0∧b % w=0 then (a / w,(b / w,0)) else (0,(0,10))) else (0,(0,1))
theorem i2y {w:Int} (a b:Int) (hw:WidP w) :
  (tif (decide (a<(0:Int))) (some ((0:Int),((0:Int),(1:Int)))) (
  tif (decide ((35184372088832:Int)<b)) (some ((0:Int),((0:Int),(1:Int)))) (
  tif (decide (b≤a)) (some ((0:Int),((0:Int),(1:Int)))) (
  tif (decide (w=(0:Int))) none (
  tif (!(decide ((Int.tmod a w)=(0:Int)))) (some ((0:Int),((0:Int),(10:Int)))) (
  tif (decide (w=(0:Int))) none (
  tif (!(decide ((Int.tmod b w)=(0:Int)))) (some ((0:Int),((0:Int),(10:Int)))) (
  tif (decide (w=(0:Int))) none (
  tif (decide (w=(0:Int))) none (
  some ((IntKind.wrap .i64 (Int.tdiv a w)),((IntKind.wrap .i64 (Int.tdiv b w)),(0:Int)))))))))))))=some (n0f a b w):=by
 obtain ⟨w1,w2⟩:=hw;unfold n0f;simp only[tfd,tfn];by_cases h:RngP a b
 ·obtain ⟨h1,h2,h3⟩:=h;have qa:0≤a / w∧a / w≤a:=⟨Int.ediv_nonneg h1 (by omega),Int.ediv_le_self _ h1⟩;have qb:0≤b / w∧b / w≤b:=⟨Int.ediv_nonneg (by omega) (by omega),Int.ediv_le_self _ (by omega)⟩;rw[if_neg (by omega),if_neg (by omega),if_neg (by omega),if_neg (by omega),if_pos (show WidP w∧RngP a b from ⟨⟨w1,w2⟩,h1,h2,h3⟩),d0x h1,d0x (show 0≤b by omega),g0p h1,g0p (show 0≤b by omega),w64 (by omega) (by omega),w64 (by omega) (by omega)];by_cases ha:a % w=0
  ·rw[if_pos ha,if_neg (by omega)];by_cases hb:b % w=0
   ·rw[if_pos hb,if_neg (by omega),if_neg (by omega),if_pos ⟨ha,hb⟩]
   ·rw[if_neg hb,if_neg (fun k=>hb k.2)]
  ·rw[if_neg ha,if_neg (fun k=>ha k.1)]
 ·rw[if_neg (show ¬(WidP w∧RngP a b) from fun k=>h k.2)];by_cases h1:a<0
  ·rw[if_pos h1]
  rw[if_neg h1];by_cases h2:35184372088832<b
  ·rw[if_pos h2]
  rw[if_neg h2,if_pos (by unfold RngP at h;omega)]
theorem v0d (n:Nat) (a b w:Int):e0t (n+3) a b w=some (n0f a b w):=by
 rw[d2h,d1t,wi_in,obs,obs,tfn,tfd];by_cases h:WidP w
 ·rw[if_pos (show 1≤w∧w≤1099511627776 from h)];exact i2y a b h
 ·rw[if_neg (show ¬(1≤w∧w≤1099511627776) from h)];unfold n0f;rw[if_neg (fun k=>h k.1)]
noncomputable def oneV (s:Sta) (k a b:Int):Int :=
 if (n0f a b (a0i s.1 k)).2.2=0 then (if (n0f a b (a0i s.1 k)).1<(oldV s.2.1 (a0i s.1 k) (z0d s.1 k)).1 then 11 else 0) else (n0f a b (a0i s.1 k)).2.2
theorem kept_ok {s:Sta} (h:StaOk s) {k:Int} (h0:0≤k) (h2:k≤2):keptV s k=((oldV s.2.1 (a0i s.1 k) (z0d s.1 k)).1,(s.2.1 / a0i s.1 k,0)):=by
 unfold keptV;rw[if_pos h,if_neg (by omega)]
theorem tier3 {t:Int} (h1:1≤t) (h3:t≤3):IntKind.wrap .i64 (t-1)=t-1:=w64 (by omega) (by omega)
theorem x0r (n:Nat) {s:Sta} (hw:StaW s) (h:StaOk s) {t:Int} (h1:1≤t) (h3:t≤3) (a b:Int):x0s (n+17) s t a b=some (oneV s (t-1) a b):=by
 rw[s1t,tier3 h1 h3];have hk:=kept_ok h (k:=t-1) (by omega) (by omega);unfold oneV;rcases (by omega:t=1∨t=2∨t=3) with e | e | e<;>subst e
 ·rw[show ((1:Int)-1)=0 from rfl] at hk ⊢;rw[decide_eq_true (show (0:Int)=0 from rfl),tft]
  change a0a (e0t _ a b (a0i s.1 0)) _=_
  rw[v0d (n+13),obs,tfn,tfd,p1a n hw 0,hk,obs];by_cases hs:(n0f a b (a0i s.1 0)).2.2=0
  ·rw[if_pos hs,if_pos hs,decide_eq_true rfl,tft,tfd];split<;>rfl
  ·rw[if_neg hs,if_neg hs]
 ·rw[show ((2:Int)-1)=1 from rfl] at hk ⊢;rw[decide_eq_false (show ¬((1:Int)=0) by decide),tff];rw[decide_eq_true (show (1:Int)=1 from rfl),tft]
  change a0a (e0t _ a b (a0i s.1 1)) _=_
  rw[v0d (n+13),obs,tfn,tfd,p1a n hw 1,hk,obs];by_cases hs:(n0f a b (a0i s.1 1)).2.2=0
  ·rw[if_pos hs,if_pos hs,decide_eq_true rfl,tft,tfd];split<;>rfl
  ·rw[if_neg hs,if_neg hs]
 ·rw[show ((3:Int)-1)=2 from rfl] at hk ⊢;rw[decide_eq_false (show ¬((2:Int)=0) by decide),tff];rw[decide_eq_false (show ¬((2:Int)=1) by decide),tff];rw[decide_eq_true (show (2:Int)=2 from rfl),tft]
  change a0a (e0t _ a b (a0i s.1 2)) _=_
  rw[v0d (n+13),obs,tfn,tfd,p1a n hw 2,hk,obs];by_cases hs:(n0f a b (a0i s.1 2)).2.2=0
  ·rw[if_pos hs,if_pos hs,decide_eq_true rfl,tft,tfd];split<;>rfl
  ·rw[if_neg hs,if_neg hs]
theorem span_why (a b w:Int):(n0f a b w).2.2=0∨(n0f a b w).2.2=1∨(n0f a b w).2.2=10:=by
 unfold n0f;split
 ·split
  ·exact .inl rfl
  ·exact .inr (.inr rfl)
 ·exact .inr (.inl rfl)
theorem k2r (s:Sta) (k a b:Int):oneV s k a b=0∨oneV s k a b=1∨oneV s k a b=10∨oneV s k a b=11:=by
 unfold oneV;rcases span_why a b (a0i s.1 k) with h | h | h<;>rw[h]
 ·rw[if_pos rfl];split
  ·exact .inr (.inr (.inr rfl))
  ·exact .inl rfl
 ·exact .inr (.inl rfl)
 ·exact .inr (.inr (.inl rfl))
noncomputable def d0w (s:Sta) (a b:Int):Nat→Int→Int→Int×Int
 | 0,_,why=>(0,why)
 | d+1,t,why=>if oneV s (t-1) a b=0 then (t,0) else if oneV s (t-1) a b=1 then (0,1) else d0w s a b d (t+1) (if oneV s (t-1) a b=11 then 11 else why)
theorem h2w {s:Sta} {a b t:Int} (e:oneV s (t-1) a b=0) (d:Nat) (why:Int):d0w s a b (d+1) t why=(t,0):=by
 conv=>lhs;unfold d0w
 rw[if_pos e]
theorem h2v {s:Sta} {a b t:Int} (e:oneV s (t-1) a b=1) (d:Nat) (why:Int):d0w s a b (d+1) t why=(0,1):=by
 conv=>lhs;unfold d0w
 rw[if_neg (by omega),if_pos e]
theorem a2i {s:Sta} {a b t:Int} (e:oneV s (t-1) a b=10) (d:Nat) (why:Int):d0w s a b (d+1) t why=d0w s a b d (t+1) why:=by
 conv=>lhs;unfold d0w
 rw[if_neg (by omega),if_neg (by omega),if_neg (by omega)]
theorem a2h {s:Sta} {a b t:Int} (e:oneV s (t-1) a b=11) (d:Nat) (why:Int):d0w s a b (d+1) t why=d0w s a b d (t+1) 11:=by
 conv=>lhs;unfold d0w
 rw[if_neg (by omega),if_neg (by omega),if_pos e]
theorem i1n (n:Nat) {s:Sta} (hw:StaW s) (h:StaOk s) (a b:Int):∀(d f:Nat) (t why:Int),1≤t→t+d=4→d<f →
  c0n (n+17) f (a,b,s,why,t,())=some (if (d0w s a b d t why).2=0 then .inr (d0w s a b d t why) else if (d0w s a b d t why).2=1 then .inr (d0w s a b d t why) else .inl ((d0w s a b d t why).2,()))∨(why≠10∧why≠11):=by
 intro d;induction d with
 | zero =>
  intro f t why h1 ht hf;obtain ⟨f,rfl⟩:∃g,f=g+1:=⟨f-1,by omega⟩;by_cases hy:why≠10∧why≠11
  ·exact .inr hy
  refine .inl ?_;rw[j0o,decide_eq_false (by omega),tff];unfold d0w;rw[if_neg (by simp only;omega),if_neg (by simp only;omega)]
 | succ d ih =>
  intro f t why h1 ht hf;obtain ⟨f,rfl⟩:∃g,f=g+1:=⟨f-1,by omega⟩;by_cases hy:why≠10∧why≠11
  ·exact .inr hy
  refine .inl ?_;rw[j0o,decide_eq_true (by omega),tft,x0r n hw h h1 (by omega),obs,w64 (by omega) (by omega)];simp only[tfd];rcases k2r s (t-1) a b with e | e | e | e
  ·rw[h2w e,e,if_pos rfl,if_pos rfl]
  ·rw[h2v e,e,if_neg (by decide),if_neg (by decide),if_neg (by decide),if_neg (by decide),if_pos rfl]
  ·rw[a2i e,e,if_neg (by decide),if_pos rfl];exact (ih f (t+1) why (by omega) (by omega) (by omega)).resolve_right hy
  ·rw[a2h e,e,if_neg (by decide),if_neg (by decide),if_pos rfl];exact (ih f (t+1) 11 (by omega) (by omega) (by omega)).resolve_right (by decide)
theorem y1f (n:Nat) {s:Sta} (hw:StaW s) (h:StaOk s) (a b:Int):l0y (n+18) s a b=some (d0w s a b 3 1 10):=by
 rw[x0q]
 change a0a (c0n (n+17) a0b (a,b,s,10,1,())) _=_
 rw[(i1n n hw h a b 3 a0b 1 10 (by decide) rfl (by unfold a0b;omega)).resolve_right (by decide),obs];split
 ·rfl
 ·split
  ·rfl
  ·rename_i h0 h1;rw[a0w];have hz:(d0w s a b 3 1 10).1=0:=by
    have key:∀(d:Nat) (t why:Int),(d0w s a b d t why).2≠0→(d0w s a b d t why).1=0:=by
     intro d;induction d with
     | zero=>intro t why _;rfl
     | succ d ih =>
      intro t why;unfold d0w;split
      ·intro k;exact absurd rfl k
      ·split
       ·intro _;rfl
       ·exact ih _ _
    exact key 3 1 10 h0
   exact congrArg some (Prod.ext hz.symm rfl)
noncomputable def j0l (s:Sta) (t a b:Int):Int×Int :=
 if StaOk s then (if t<0∨3<t then (0,1) else if t=0 then d0w s a b 3 1 10 else if oneV s (t-1) a b=0 then (t,0) else (0,oneV s (t-1) a b)) else (0,2)
theorem f2j (n:Nat) {s:Sta} (hw:StaW s) (t a b:Int):a1e (n+19) s t a b=some (j0l s t a b):=by
 rw[n1p,h0m (n+4) hw,obs,tfn,tfd];unfold j0l;by_cases h:StaOk s
 case neg=>rw[if_neg h,if_neg h];rfl
 rw[if_pos h,if_pos h,if_pos rfl];simp only[tfd,tfn];by_cases h0:t<0
 ·rw[if_pos h0,if_pos (.inl h0)]
 by_cases h3:3<t
 ·rw[if_neg h0,if_pos h3,if_pos (.inr h3)]
 rw[if_neg h0,if_neg h3,if_neg (show ¬(t<0∨3<t) by omega)];by_cases hz:t=0
 ·rw[if_pos hz,if_pos hz,y1f n hw h,obs]
 ·rw[if_neg hz,if_neg hz,x0r (n+1) hw h (by omega) (by omega),obs];by_cases ho:oneV s (t-1) a b=0
  ·rw[if_pos ho,if_pos ho]
  ·rw[if_neg ho,if_neg ho]
end Go.Proofs.YtgkpkajaepphjaaGreatDoor
