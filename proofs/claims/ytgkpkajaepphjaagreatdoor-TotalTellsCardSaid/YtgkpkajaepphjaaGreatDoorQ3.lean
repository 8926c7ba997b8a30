/-
 Plain proofs about the functions of this seat, part 3 of 4.
-/
import Derived.Test.YtgkpkajaepphjaaGreatDoorQ2
namespace Go.Proofs.YtgkpkajaepphjaaGreatDoor
open Go.Flat Go.Plim
set_option linter.unusedVariables false
set_option linter.unusedSimpArgs false
theorem now_up {t:List Slo} {a b T:Int} {cur:Cel} (h:TierOk t a) (hb:b0b t (T / a)) (ha:1≤a) (hb1:1≤b) (hm:b % a=0) (hT:0≤T) (hc:CellN cur) (hf:cur.2.1.1 / a=T / a) :
  ∃m,mrgE (h0x t (T / b*(b / a)) (T / a)).1 cur=(m,0)∧CellN m∧m.2.1.1 / b=T / b:=by
 have hp:=j2c ha hb1 hm;have q:=(edvm (t:=T) ha hb1 hm).2;have hT':0≤T / b:=Int.ediv_nonneg hT (by omega);have u0:T / b*(b / a)≤T / a:=by rw[←q];exact Int.ediv_mul_le _ (by omega)
 have p0:0≤T / b*(b / a):=Int.mul_nonneg hT' (by omega);obtain ⟨k1,k2⟩:=o1f (j:=T / a) h hb p0 u0;have k3:=z1o (j:=T / a) h p0;have hah:=f2r ha k2 (.inr hf);refine ⟨_,a1m k1 hc.ok hah,?_,?_⟩
 ·rcases k1 with z | z
  ·rw[z,u1e];exact hc
  ·rcases hah with y | y | y
   ·rw[y,u1e];exact hc
   ·exact absurd y hc.ne
   ·exact mrg_N z hc y
 ·unfold mrg;by_cases z:(h0x t (T / b*(b / a)) (T / a)).1=z0
  ·rw[if_pos z,←(edvm (t:=cur.2.1.1) ha hb1 hm).2,hf,q]
  ·rw[if_neg z,if_neg hc.ne];have z1:=k2.resolve_left z;have z2:=k3.resolve_left z;have z3:=(k1.n z).ft;have z4:(h0x t (T / b*(b / a)) (T / a)).1.2.1.1 / a≤(h0x t (T / b*(b / a)) (T / a)).1.2.2.1.1 / a:=Int.ediv_le_ediv (by omega) z3;rw[←(edvm (t:=(h0x t (T / b*(b / a)) (T / a)).1.2.1.1) ha hb1 hm).2];have z5:(h0x t (T / b*(b / a)) (T / a)).1.2.1.1 / a / (b / a)≤T / a / (b / a):=Int.ediv_le_ediv (by omega) (by omega);have z6:T / b≤(h0x t (T / b*(b / a)) (T / a)).1.2.1.1 / a / (b / a):=by rw[Int.le_ediv_iff_mul_le hp];exact z2
   omega
theorem b1p {t:List Slo} {w T i j:Int} {cur:Cel} {ok:Prop} [Decidable ok] (hok:ok) (h:TierOk t w) (hb:T = -1∨b0b t (T / w)∧CellN cur∧cur.2.1.1 / w=T / w) (h0:0≤i) (hij:i≤j):(d0l ok i j T w t (cur,0)).2=0:=by
 unfold d0l;rw[if_pos hok,if_neg (by omega),if_neg (by omega)];by_cases h1:T = -1
 ·rw[if_pos h1]
 rw[if_neg h1];obtain ⟨hb,hc,hf⟩:=hb.resolve_left h1;by_cases h2:T / w<i
 ·rw[if_pos h2];exact e0p h h0 hij
 rw[if_neg h2];by_cases h3:j≤T / w
 ·rw[if_pos h3];exact e0p h h0 hij
 rw[if_neg h3,if_neg (nn rfl)];obtain ⟨k1,k2⟩:=o1f (j:=j) h hb h0 (by omega:i≤T / w);rw[a1m k1 hc.ok (f2r h.w0 k2 (.inr hf))]
structure Ends3 (c:Conf) (s:Ser):Prop where
 t0:s.2.1 = -1∨b0b s.2.2.2.1.1 (s.2.1 / c.2.1.1)∧CellN s.2.2.2.2.2∧s.2.2.2.2.2.2.1.1 / c.2.1.1=s.2.1 / c.2.1.1
 t1:s.2.1 = -1∨∃m,now1 c s=(m,0)∧b0b s.2.2.2.1.2.1 (s.2.1 / c.2.1.2.1)∧CellN m∧m.2.1.1 / c.2.1.2.1=s.2.1 / c.2.1.2.1
 t2:s.2.1 = -1∨∃m,now2 c s=(m,0)∧b0b s.2.2.2.1.2.2 (s.2.1 / c.2.1.2.2)∧CellN m∧m.2.1.1 / c.2.1.2.2=s.2.1 / c.2.1.2.2
theorem a2d {c:Conf} {s:Ser} (h:SerOk c s):Ends3 c s:=by
 have hr:=h.fold.cok.rng;by_cases hn:s.2.1 = -1
 ·exact ⟨.inl hn,.inl hn,.inl hn⟩
 have ht:=i0f h hn;obtain ⟨he,_⟩:=p0w h hn;have hf:s.2.2.2.2.2.2.1.1 / c.2.1.1=s.2.1 / c.2.1.1:=by
  rw[he.fit.f,←he.fit.l,he.ol]
 obtain ⟨m1,a1,a2,a3⟩:=now_up h.fold.t0 he.b0 hr.w0.1 hr.w1.1 h.fold.cok.m1 ht.1 he.fit.n hf;obtain ⟨m2,b1,b2,b3⟩:=now_up h.fold.t1 he.b1 hr.w1.1 hr.w2.1 h.fold.cok.m2 ht.1 a2 a3;have e1:now1 c s=(m1,0):=a1;refine ⟨.inr ⟨he.b0,he.fit.n,hf⟩,.inr ⟨m1,e1,he.b1,a2,a3⟩,.inr ⟨m2,?_,he.b2,b2,b3⟩⟩;unfold now2;rw[e1,if_neg (nn rfl)];exact b1
noncomputable def t0h (c:Conf) (s:Ser) (k i j:Int):Cel×Int :=
 if k=0 then d0l (SerOk c s) i j s.2.1 c.2.1.1 s.2.2.2.1.1 (s.2.2.2.2.2,0)
 else if k=1 then d0l (SerOk c s) i j s.2.1 c.2.1.2.1 s.2.2.2.1.2.1 (now1 c s)
 else d0l (SerOk c s) i j s.2.1 c.2.1.2.2 s.2.2.2.1.2.2 (now2 c s)
theorem g1b {c:Conf} {s:Ser} (h:SerOk c s) (k:Int) {i j:Int} (h0:0≤i) (hij:i≤j):(t0h c s k i j).2=0:=by
 have he:=a2d h;unfold t0h;split
 ·exact b1p h h.fold.t0 he.t0 h0 hij
 split
 ·by_cases hn:s.2.1 = -1
  ·unfold d0l;rw[if_pos h,if_neg (by omega),if_neg (by omega),if_pos hn]
  ·obtain ⟨m,e,k1,k2,k3⟩:=he.t1.resolve_left hn;rw[e];exact b1p h h.fold.t1 (.inr ⟨k1,k2,k3⟩) h0 hij
 ·by_cases hn:s.2.1 = -1
  ·unfold d0l;rw[if_pos h,if_neg (by omega),if_neg (by omega),if_pos hn]
  ·obtain ⟨m,e,k1,k2,k3⟩:=he.t2.resolve_left hn;rw[e];exact b1p h h.fold.t2 (.inr ⟨k1,k2,k3⟩) h0 hij
theorem m2r {s:Sta} (h:StaOk s) {x:Ser} (hx:x∈s.2.2.2) (hl:LvX s x):SerOk s.1 x∧0≤x.2.1:=by
 obtain ⟨i,hi,e⟩:=List.getElem_of_mem hx;rcases h.right i x (by rw[List.getElem?_eq_getElem hi,e]) with k | k
 ·exact absurd k hl.1
 ·exact ⟨k.1,k.2.1⟩
end Go.Proofs.YtgkpkajaepphjaaGreatDoor

namespace Go.Plim
set_option linter.unusedVariables false
theorem mod_half {a b:Nat} (h:0<b) (hab:b≤a):2*(a % b)<a:=by
 have h1:=Nat.mod_lt a h;have h2:=Nat.div_add_mod a b;have h3:1≤a / b:=(Nat.le_div_iff_mul_le h).2 (by omega);have h4:b*1≤b*(a / b):=Nat.mul_le_mul_left b h3;omega
def tz:Nat→Nat→Nat
 | 0,_=>0
 | k+1,x=>if x % 2=1 then 0 else tz k (x / 2)+1
theorem tz_odd (k x:Nat) (h:x % 2=1):tz k x=0:=by cases k<;>simp[tz,h]
theorem x0e:∀(k x:Nat),0<x→x<2^k→tz k x<k∧x=2^tz k x*(x / 2^tz k x)∧(x / 2^tz k x) % 2=1:=by
 intro k;induction k with
 | zero=>intro x h0 h1;simp at h1;omega
 | succ k ih =>
  intro x h0 h1;by_cases h:x % 2=1
  ·rw[tz_odd (k+1) x h];simp[h]
  ·have e:tz (k+1) x=tz k (x / 2)+1:=by simp[tz,h]
   rw[Nat.pow_succ] at h1;obtain ⟨a1,a2,a3⟩:=ih (x / 2) (by omega) (by omega);rw[e,Nat.pow_succ,Nat.mul_comm (2^tz k (x / 2)) 2,←Nat.div_div_eq_div_mul];refine ⟨by omega,?_,a3⟩;rw[Nat.mul_assoc,←a2];omega
theorem f1i {k x t:Nat} (h0:0<x) (h1:x<2^k) (h:x % 2^t=0) (ho:(x / 2^t) % 2=1):tz k x=t:=by
 obtain ⟨a1,a2,a3⟩:=x0e k x h0 h1;have b2:x=2^t*(x / 2^t):=by have:=Nat.div_add_mod x (2^t);omega
 generalize tz k x=s at *
 generalize hy:x / 2^s=y at *
 generalize hz:x / 2^t=z at *
 have e:2^s*y=2^t*z:=by omega
 have one:∀(s t y z:Nat),2^s*y=2^t*z→y % 2=1→z % 2=1→s<t→False:=by
  intro s t y z e hy hz hlt;obtain ⟨d,rfl⟩:∃d,t=s+(d+1):=⟨t-s-1,by omega⟩;rw[Nat.pow_add,Nat.mul_assoc] at e;have:=Nat.eq_of_mul_eq_mul_left (Nat.two_pow_pos s) e;rw[this,Nat.pow_succ,Nat.mul_comm (2^d) 2,Nat.mul_assoc,Nat.mul_mod_right] at hy;cases hy
 rcases Nat.lt_trichotomy s t with q | q | q
 ·exact (one s t y z e a3 ho q).elim
 ·exact q
 ·exact (one t s z y e.symm ho a3 q).elim
theorem c2s {a b:Nat} (ha:a % 2=1) (t:Nat):Nat.gcd a (2^t*b)=Nat.gcd a b:=by
 have hc:Nat.Coprime 2 a:=by
  unfold Nat.Coprime;rw[Nat.gcd_rec,ha];simp
 exact Nat.Coprime.gcd_mul_left_cancel_right b (Nat.Coprime.pow_left t hc)
theorem e1z {a b:Nat} (h:a≤b):Nat.gcd a (b-a)=Nat.gcd a b:=by
 have:=Nat.gcd_add_self_right (m:=a) (n:=b-a);rw[Nat.sub_add_cancel h] at this;exact this.symm
theorem n2q {x y s t a b:Nat} (hx:x=2^s*a) (hy:y=2^t*b) (ha:a % 2=1) (hb:b % 2=1):Nat.gcd x y=2^(min s t)*Nat.gcd a b:=by
 subst hx hy;rcases Nat.le_total s t with h | h
 ·rw[Nat.min_eq_left h];obtain ⟨d,rfl⟩:∃d,t=s+d:=⟨t-s,by omega⟩;rw[Nat.pow_add,Nat.mul_assoc,Nat.gcd_mul_left,c2s ha]
 ·rw[Nat.min_eq_right h];obtain ⟨d,rfl⟩:∃d,s=t+d:=⟨s-t,by omega⟩;rw[Nat.pow_add,Nat.mul_assoc,Nat.gcd_mul_left,Nat.gcd_comm (2^d*a),c2s hb,Nat.gcd_comm b a]
def bl:Nat→Nat→Nat
 | 0,_=>0
 | k+1,x=>if x=0 then 0 else bl k (x / 2)+1
theorem c1q (k:Nat):bl k 0=0:=by cases k<;>simp[bl]
theorem k0o:∀(k x:Nat),x<2^k→x<2^bl k x∧(0<x→0<bl k x∧2^(bl k x-1)≤x)∧bl k x≤k:=by
 intro k;induction k with
 | zero=>intro x h;simp[bl] at *;omega
 | succ k ih =>
  intro x h;by_cases h0:x=0
  ·subst h0;rw[c1q];simp
  ·have e:bl (k+1) x=bl k (x / 2)+1:=by simp[bl,h0]
   rw[Nat.pow_succ] at h;obtain ⟨a1,a2,a3⟩:=ih (x / 2) (by omega);rw[e];refine ⟨by rw[Nat.pow_succ];omega,fun _=>⟨by omega,?_⟩,by omega⟩;rw[Nat.add_sub_cancel];by_cases h1:x / 2=0
   ·rw[h1,c1q];simp;omega
   ·obtain ⟨b1,b2⟩:=a2 (by omega);have:2^bl k (x / 2)=2^(bl k (x / 2)-1)*2:=by rw[←Nat.pow_succ];congr 1;omega
    omega
theorem y1z {k x b:Nat} (h:x<2^k) (h0:0<x) (h1:2^b≤x) (h2:x<2^(b+1)):bl k x=b+1:=by
 obtain ⟨a1,a2,_⟩:=k0o k x h;obtain ⟨c1,c2⟩:=a2 h0;have d1:b<bl k x:=by
  rcases Nat.lt_or_ge b (bl k x) with q | q
  ·exact q
  ·have:=Nat.pow_le_pow_right (show 0<2 by decide) q;omega
 have d2:bl k x-1<b+1:=by
  rcases Nat.lt_or_ge (bl k x-1) (b+1) with q | q
  ·exact q
  ·have:=Nat.pow_le_pow_right (show 0<2 by decide) q;omega
 omega
theorem div_step {A D L i q r:Nat} (hD:0<D) (h:A / 2^(i+1)=D*q+r) (hr:r<D) :
  (D≤2*r+A / 2^i % 2→A / 2^i=D*(2*q+1)+(2*r+A / 2^i % 2-D)∧2*r+A / 2^i % 2-D<D) ∧
  (2*r+A / 2^i % 2<D→A / 2^i=D*(2*q)+(2*r+A / 2^i % 2)):=by
 rw[Nat.pow_succ,←Nat.div_div_eq_div_mul] at h;have h1:=Nat.div_add_mod (A / 2^i) 2;rw[h] at h1;have e1:2*(D*q+r)=D*(2*q)+2*r:=by rw[Nat.mul_add,Nat.mul_left_comm]
 have e2:D*(2*q+1)=D*(2*q)+D:=by rw[Nat.mul_add,Nat.mul_one]
 generalize D*(2*q)=Z at *
 constructor
 ·intro k;rw[e2];omega
 ·intro k;omega
end Go.Plim

namespace Go.Plim
set_option linter.unusedVariables false
def ofN (x:Nat):Wd:=(((x / 18446744073709551616:Nat):Int),((x % 18446744073709551616:Nat):Int))
theorem b1z (x:Nat):mkW (x:Int)=ofN x:=by
 unfold mkW ofN;rw[Prod.mk.injEq];constructor<;>omega
theorem ofN_of {a:Wd} (h:WdOk a):∃x:Nat,x<340282366920938463463374607431768211456∧a=ofN x∧wv a=x:=by
 obtain ⟨h1,h2⟩:=f0c h;obtain ⟨x,hx⟩:=Int.eq_ofNat_of_zero_le h1;exact ⟨x,by omega,by rw[←p1a h,hx,b1z],hx⟩
theorem n1x (x:Nat):wv (ofN x)=x:=by rw[←b1z,w0c]
theorem d1m {x:Nat} (h:x<340282366920938463463374607431768211456):WdOk (ofN x):=by rw[←b1z];exact w0t (by omega) (by omega)
theorem v0t (x:Nat):(decide ((ofN x).1=(0:Int))&&decide ((ofN x).2=(0:Int)))=decide (x=0):=by
 rw[←Bool.decide_and];apply decide_eq_decide.2;unfold ofN;simp only;omega
def od (x:Nat):Nat:=x / 2^tz 128 x
theorem p0l {x:Nat} (h0:0<x) (h1:x<340282366920938463463374607431768211456):tz 128 x<128∧x=2^tz 128 x*od x∧od x % 2=1 :=
 x0e 128 x h0 h1
theorem m2j {x:Nat} (h0:0<x) (h1:x<340282366920938463463374607431768211456):0<od x:=by
 have:=(p0l h0 h1).2.2;rcases Nat.eq_zero_or_pos (od x) with q | q
 ·rw[q] at this;cases this
 ·exact q
theorem od_le (x:Nat):od x≤x:=Nat.div_le_self _ _
theorem od_even {x:Nat} (h0:0<x) (h1:x<340282366920938463463374607431768211456) (he:x % 2=0):2*od x≤x:=by
 obtain ⟨_,a2,a3⟩:=p0l h0 h1;have ht:1≤tz 128 x:=by
  rcases Nat.eq_zero_or_pos (tz 128 x) with q | q
  ·rw[q] at a2;simp at a2;omega
  ·exact q
 have:2^1≤2^tz 128 x:=Nat.pow_le_pow_right (by decide) ht;have:=Nat.mul_le_mul_right (od x) this;omega
theorem n2r {a x:Nat} (ha:a % 2=1) (h0:0<x) (h1:x<340282366920938463463374607431768211456):Nat.gcd a (od x)=Nat.gcd a x:=by
 obtain ⟨_,a2,_⟩:=p0l h0 h1;have:=c2s (b:=od x) ha (tz 128 x);rw[←a2] at this;exact this.symm
theorem n2p {x y:Nat} (hx:0<x) (hx':x<340282366920938463463374607431768211456) (hy:0<y) (hy':y<340282366920938463463374607431768211456) :
  Nat.gcd x y=Nat.gcd (od x) y*2^(min (tz 128 x) (tz 128 y)):=by
 obtain ⟨_,a2,a3⟩:=p0l hx hx';obtain ⟨_,b2,b3⟩:=p0l hy hy';rw[n2q a2 b2 a3 b3,n2r a3 hy hy',Nat.mul_comm]
theorem or_pow {q k:Nat} (h:2^(k+1) ∣ q):q ||| 2^k=q+2^k:=by
 obtain ⟨m,rfl⟩:=h;exact (Nat.two_pow_add_eq_or_of_lt (i:=k+1) (b:=2^k) (by rw[Nat.pow_succ];have:=Nat.two_pow_pos k;omega) m).symm
theorem div_part {a d k q:Nat} (hd:0<d) (h:d*2^k≤a):q+2^k+(a-d*2^k) / d=q+a / d:=by
 have e:a=(a-d*2^k)+d*2^k:=by omega
 have:a / d=(a-d*2^k) / d+2^k:=by
  conv=>lhs;rw[e]
  rw[Nat.add_mul_div_left _ _ hd]
 omega
theorem half_up {x k:Nat} (hk:k<64) (h:x*2^k<340282366920938463463374607431768211456) :
  x / 18446744073709551616*2^k+x % 18446744073709551616 / 2^(64-k)=x*2^k / 18446744073709551616∧x % 18446744073709551616 / 2^(64-k)<2^k ∧
  x % 18446744073709551616*2^k % 18446744073709551616=x*2^k % 18446744073709551616:=by
 have e:18446744073709551616=2^(64-k)*2^k:=by rw[←Nat.pow_add,show 64-k+k=64 by omega]
 have hp:=Nat.two_pow_pos k;have hq:=Nat.two_pow_pos (64-k);have h0:=Nat.div_add_mod x 18446744073709551616;have h1:=Nat.mod_lt x (show 0<18446744073709551616 by decide);generalize x / 18446744073709551616=H at *
 generalize x % 18446744073709551616=L at *
 subst h0;have e1:(18446744073709551616*H+L)*2^k=L*2^k+18446744073709551616*(H*2^k):=by rw[Nat.add_mul,Nat.mul_assoc];omega
 have e2:L*2^k / 18446744073709551616=L / 2^(64-k):=by
  conv=>lhs;rw[e]
  exact Nat.mul_div_mul_right _ _ hp
 refine ⟨?_,?_,?_⟩
 ·rw[e1,Nat.add_mul_div_left _ _ (by decide),e2];omega
 ·exact Nat.div_lt_of_lt_mul (by rw[←e];exact h1)
 ·rw[e1,Nat.add_mul_mod_self_left]
theorem n2o {x k:Nat} (hk:k<64) (h:x<340282366920938463463374607431768211456) :
  x / 18446744073709551616 / 2^k=x / 2^k / 18446744073709551616 ∧
  x % 18446744073709551616 / 2^k+x / 18446744073709551616*2^(64-k) % 18446744073709551616=x / 2^k % 18446744073709551616∧x % 18446744073709551616 / 2^k<2^(64-k) ∧
  ∃m,x / 18446744073709551616*2^(64-k) % 18446744073709551616=2^(64-k)*m:=by
 have e:18446744073709551616=2^k*2^(64-k):=by rw[←Nat.pow_add,show k+(64-k)=64 by omega]
 have hp:=Nat.two_pow_pos k;have hq:=Nat.two_pow_pos (64-k);have c1:x / 18446744073709551616 / 2^k=x / 2^k / 18446744073709551616:=by rw[Nat.div_div_eq_div_mul,Nat.div_div_eq_div_mul,Nat.mul_comm]
 have h0:=Nat.div_add_mod x 18446744073709551616;have h1:=Nat.mod_lt x (show 0<18446744073709551616 by decide);have hm0:∀H:Nat,H*2^(64-k) % 18446744073709551616=2^(64-k)*(H % 2^k):=by
  intro H
  conv=>lhs;rw[e]
  rw[Nat.mul_mod_mul_right,Nat.mul_comm]
 have hm:=hm0 (x / 18446744073709551616);have c3:x % 18446744073709551616 / 2^k<2^(64-k):=Nat.div_lt_of_lt_mul (by rw[←e];exact h1);refine ⟨c1,?_,c3,_,hm⟩;rw[hm];generalize x / 18446744073709551616=H at *
 generalize x % 18446744073709551616=L at *
 subst h0;have e1:(18446744073709551616*H+L) / 2^k=L / 2^k+2^(64-k)*H:=by
  conv=>lhs;rw[e]
  rw[Nat.mul_assoc,Nat.add_comm,Nat.add_mul_div_left _ _ hp]
 have h2:=Nat.div_add_mod H (2^k);have e2:2^(64-k)*H=18446744073709551616*(H / 2^k)+2^(64-k)*(H % 2^k):=by
  conv=>lhs;rw[←h2]
  rw[Nat.mul_add,←Nat.mul_assoc,Nat.mul_comm (2^(64-k)),←e]
 rw[e1,e2];have hlt:L / 2^k+2^(64-k)*(H % 2^k)<18446744073709551616:=by
  have h3:=Nat.mod_lt H hp;have h4:2^(64-k)*(H % 2^k+1)≤2^(64-k)*2^k:=Nat.mul_le_mul_left _ h3;rw[Nat.mul_comm (2^(64-k)) (2^k),←e,Nat.mul_add,Nat.mul_one] at h4;omega
 omega
end Go.Plim

namespace Go.Plim
set_option linter.unusedVariables false
theorem o2p:∀(k a b:Nat),a+b+1=2^k→a &&& b=0:=by
 intro k;induction k with
 | zero => intro a b h; have : a = 0 := by simp at h; omega
           rw[this];simp
 | succ k ih =>
  intro a b h;rw[Nat.pow_succ] at h;have h1:(a &&& b) % 2≠1:=by rw[ne_eq,Nat.and_mod_two_eq_one];omega
  have h2:(a &&& b) / 2=0:=by rw[Nat.and_div_two];exact ih _ _ (by omega)
  omega
theorem low_bit {x:Nat} (h0:0<x) (h:x<18446744073709551616):x &&& (18446744073709551616-x)=2^tz 64 x:=by
 obtain ⟨a1,a2,a3⟩:=x0e 64 x h0 h;generalize hs:tz 64 x=s at *
 generalize x / 2^s=o at *
 have e:18446744073709551616=2^s*2^(64-s):=by rw[←Nat.pow_add,show s+(64-s)=64 by omega]
 have hp:=Nat.two_pow_pos s;have e1:18446744073709551616-x=2^s*(2^(64-s)-o):=by rw[Nat.mul_sub,←e,←a2]
 have ho:o<2^(64-s):=by
  rcases Nat.lt_or_ge o (2^(64-s)) with q | q
  ·exact q
  ·have:=Nat.mul_le_mul_left (2^s) q;rw[←e,←a2] at this;omega
 obtain ⟨c,hc⟩:∃c,2^(64-s)=2*2^c:=⟨63-s,by rw[show 64-s=(63-s)+1 by omega,Nat.pow_succ,Nat.mul_comm]⟩;have e2:o &&& (2^(64-s)-o)=1:=by
  have h1:(o &&& (2^(64-s)-o)) % 2=1:=by rw[Nat.and_mod_two_eq_one];omega
  have h2:(o &&& (2^(64-s)-o)) / 2=0:=by rw[Nat.and_div_two];exact o2p c _ _ (by omega)
  omega
 rw[e1]
 conv=>lhs;rw[a2]
 rw[Nat.mul_comm (2^s) o,Nat.mul_comm (2^s),←Nat.shiftLeft_eq,←Nat.shiftLeft_eq,←Nat.shiftLeft_and_distrib,e2,Nat.shiftLeft_eq,Nat.one_mul]
theorem tz_lo {x:Nat} (h:x<340282366920938463463374607431768211456) (h0:0<x % 18446744073709551616):tz 128 x=tz 64 (x % 18446744073709551616):=by
 obtain ⟨a1,a2,a3⟩:=x0e 64 _ h0 (Nat.mod_lt x (by decide));generalize tz 64 (x % 18446744073709551616)=s at *
 have e:18446744073709551616=2^s*(2*2^(63-s)):=by rw[←Nat.pow_succ',←Nat.pow_add,show s+(63-s).succ=64 by omega]
 have hp:=Nat.two_pow_pos s;have h2:=Nat.div_add_mod x 18446744073709551616;generalize x % 18446744073709551616=L at *
 generalize x / 18446744073709551616=H at *
 generalize L / 2^s=o at *
 have e1:x=2^s*(2*(2^(63-s)*H)+o):=by
  rw[Nat.mul_add,←a2,←Nat.mul_assoc 2,←Nat.mul_assoc (2^s),←e];omega
 refine f1i (by omega) h ?_ ?_
 ·rw[e1,Nat.mul_mod_right]
 ·rw[e1,Nat.mul_div_cancel_left _ hp];omega
theorem tz_hi {x:Nat} (h:x<340282366920938463463374607431768211456) (h0:x % 18446744073709551616=0) (hx:0<x):tz 128 x=64+tz 64 (x / 18446744073709551616):=by
 have hH:0<x / 18446744073709551616:=by omega
 obtain ⟨a1,a2,a3⟩:=x0e 64 _ hH (by omega);generalize tz 64 (x / 18446744073709551616)=s at *
 have h2:=Nat.div_add_mod x 18446744073709551616;generalize x / 18446744073709551616=H at *
 generalize H / 2^s=o at *
 have hp:=Nat.two_pow_pos (64+s);have e1:x=2^(64+s)*o:=by
  rw[Nat.pow_add,Nat.mul_assoc,←a2];omega
 refine f1i hx h ?_ ?_
 ·rw[e1,Nat.mul_mod_right]
 ·rw[e1,Nat.mul_div_cancel_left _ hp];exact a3
theorem f2m {k x s:Nat} (h:x<2^k) (hs:2^s≤x):bl k x=s+bl k (x / 2^s):=by
 have hp:=Nat.two_pow_pos s;have h0:0<x / 2^s:=Nat.div_pos hs hp;have h1:x / 2^s<2^k:=Nat.lt_of_le_of_lt (Nat.div_le_self _ _) h;obtain ⟨a1,a2,a3⟩:=k0o k (x / 2^s) h1;obtain ⟨b1,b2⟩:=a2 h0;obtain ⟨c,hc⟩:∃c,bl k (x / 2^s)=c+1:=⟨bl k (x / 2^s)-1,by omega⟩;rw[hc] at a1 b2 ⊢;rw[Nat.add_sub_cancel] at b2;rw[←Nat.add_assoc];refine y1z h (by omega) ?_ ?_
 ·rw[Nat.pow_add,Nat.mul_comm];exact (Nat.le_div_iff_mul_le hp).1 b2
 ·rw[Nat.add_assoc,Nat.pow_add,Nat.mul_comm];exact (Nat.div_lt_iff_lt_mul hp).1 a1
theorem f2l {k m x:Nat} (h:x<2^k) (h':x<2^m):bl k x=bl m x:=by
 rcases Nat.eq_zero_or_pos x with q | q
 ·subst q;rw[c1q,c1q]
 ·obtain ⟨a1,a2,_⟩:=k0o m x h';obtain ⟨b1,b2⟩:=a2 q;obtain ⟨c,hc⟩:∃c,bl m x=c+1:=⟨bl m x-1,by omega⟩;rw[hc] at a1 b2 ⊢;rw[Nat.add_sub_cancel] at b2;exact y1z h q b2 a1
theorem bl_up {a d k:Nat} (ha:a<2^128) (hd:d<2^128) (hk:bl 128 d+k≤bl 128 a) (h0:0<a):d*2^k<2^128:=by
 obtain ⟨a1,a2,a3⟩:=k0o 128 a ha;obtain ⟨d1,d2,d3⟩:=k0o 128 d hd;have h1:d*2^k<2^bl 128 d*2^k:=Nat.mul_lt_mul_of_pos_right d1 (Nat.two_pow_pos k);rw[←Nat.pow_add] at h1;exact Nat.lt_of_lt_of_le h1 (Nat.pow_le_pow_right (by decide) (by omega))
theorem bl_over {a d:Nat} (ha:a<2^128) (hd:d<2^128) (h0:0<d):a<d*2^(bl 128 a-bl 128 d+1):=by
 obtain ⟨a1,a2,a3⟩:=k0o 128 a ha;obtain ⟨d1,d2,d3⟩:=k0o 128 d hd;obtain ⟨b1,b2⟩:=d2 h0;have h1:2^(bl 128 d-1)*2^(bl 128 a-bl 128 d+1)≤d*2^(bl 128 a-bl 128 d+1):=Nat.mul_le_mul_right _ b2;rw[←Nat.pow_add] at h1;have h2:2^bl 128 a≤2^(bl 128 d-1+(bl 128 a-bl 128 d+1)):=Nat.pow_le_pow_right (by decide) (by omega);omega
theorem bl_less {a d:Nat} (ha:a<2^128) (hd:d<2^128) (h:bl 128 a<bl 128 d):a<d:=by
 obtain ⟨a1,a2,a3⟩:=k0o 128 a ha;obtain ⟨d1,d2,d3⟩:=k0o 128 d hd;rcases Nat.eq_zero_or_pos d with q | q
 ·subst q;rw[c1q] at h;omega
 ·obtain ⟨b1,b2⟩:=d2 q;have:2^bl 128 a≤2^(bl 128 d-1):=Nat.pow_le_pow_right (by decide) (by omega);omega
def byt (v j:Nat):Nat:=v / 256^j % 256
theorem byt_or {v i:Nat} (h:2^(i+1) ∣ v) (j:Nat):byt (v+2^i) j=if i / 8=j then byt v j ||| 2^(i % 8) else byt v j:=by
 unfold byt;have e:(256:Nat)^j=2^(8*j):=by rw[Nat.pow_mul]
 rw[←or_pow h,e,Nat.or_div_two_pow,show (256:Nat)=2^8 from rfl,Nat.or_mod_two_pow];have e2:2^i / 2^(8*j) % 2^8=if i / 8=j then 2^(i % 8) else 0:=by
  rcases Nat.lt_or_ge i (8*j) with q | q
  ·rw[Nat.div_eq_of_lt (Nat.pow_lt_pow_right (by decide) q),if_neg (by omega)]
  ·rw[Nat.pow_div q (by decide)];split
   ·rw[show i-8*j=i % 8 by omega];exact Nat.mod_eq_of_lt (Nat.pow_lt_pow_right (by decide) (Nat.mod_lt _ (by decide)))
   ·obtain ⟨c,hc⟩:∃c,i-8*j=8+c:=⟨i-8*j-8,by omega⟩;rw[hc,Nat.pow_add,Nat.mul_mod_right]
 rw[e2];split
 ·rfl
 ·rw[Nat.or_zero]
theorem y1v (v j:Nat):byt v j<256:=Nat.mod_lt _ (by decide)
theorem bit_byt (v i:Nat):byt v (i / 8) / 2^(i % 8) % 2=v / 2^i % 2:=by
 unfold byt;have e:(256:Nat)^(i / 8)=2^(8*(i / 8)):=by rw[Nat.pow_mul]
 obtain ⟨c,hc⟩:∃c,(256:Nat)=2^(i % 8)*(2*2^c):=⟨7-i % 8,by rw[←Nat.pow_succ',←Nat.pow_add,show i % 8+(7-i % 8).succ=8 by have:=Nat.mod_lt i (show 0<8 by decide);omega]⟩;rw[e];generalize hw:v / 2^(8*(i / 8))=w;have e1:v / 2^i=w / 2^(i % 8):=by
  rw[←hw,Nat.div_div_eq_div_mul,←Nat.pow_add,show 8*(i / 8)+i % 8=i by omega]
 rw[e1]
 conv=>lhs;rw[hc]
 rw[Nat.mod_mul_right_div_self,Nat.mod_mul_right_mod]
end Go.Plim

namespace Go.Proofs.YtgkpkajaepphjaaGreatDoor
open Go.Flat Go.Plim
set_option linter.unusedVariables false
set_option linter.unusedSimpArgs false
theorem wrapN (x:Nat):IntKind.wrap .u64 (x:Int)=((x % 18446744073709551616:Nat):Int):=by
 rw[IntKind.wrap_u64];omega
theorem shlN (x k:Nat) (hk:k≤64):shlI .u64 (x:Int) (k:Int)=((x*2^k % 18446744073709551616:Nat):Int):=by
 show IntKind.wrap .u64 ((x:Int)*2^(min (k:Int).toNat 64))=_;rw[show min (k:Int).toNat 64=k by omega,←wrapN];congr 1
theorem shrN (x k:Nat) (hk:k≤64):shrI .u64 (x:Int) (k:Int)=((x / 2^k:Nat):Int):=by
 rw[p0h _ _ hk];simp
theorem orN {x y:Nat} (hx:x<18446744073709551616) (hy:y<18446744073709551616):orI .u64 (x:Int) (y:Int)=((x ||| y:Nat):Int):=by
 unfold orI;have e2:(BitVec.ofInt IntKind.u64.bits (x:Int) ||| BitVec.ofInt IntKind.u64.bits (y:Int)).toNat=x ||| y:=by
  show (BitVec.ofInt 64 (x:Int) ||| BitVec.ofInt 64 (y:Int)).toNat=_;rw[BitVec.toNat_or,BitVec.ofInt_natCast,BitVec.ofInt_natCast,BitVec.toNat_ofNat,BitVec.toNat_ofNat,Nat.mod_eq_of_lt (by omega),Nat.mod_eq_of_lt (by omega)]
 rw[e2];have:x ||| y<2^64:=Nat.or_lt_two_pow (by omega) (by omega)
 exact wu64 (by omega) (by omega)
theorem andN {x y:Nat} (hx:x<18446744073709551616) (hy:y<18446744073709551616):andI .u64 (x:Int) (y:Int)=((x &&& y:Nat):Int):=by
 unfold andI;have e2:(BitVec.ofInt IntKind.u64.bits (x:Int) &&& BitVec.ofInt IntKind.u64.bits (y:Int)).toNat=x &&& y:=by
  show (BitVec.ofInt 64 (x:Int) &&& BitVec.ofInt 64 (y:Int)).toNat=_;rw[BitVec.toNat_and,BitVec.ofInt_natCast,BitVec.ofInt_natCast,BitVec.toNat_ofNat,BitVec.toNat_ofNat,Nat.mod_eq_of_lt (by omega),Nat.mod_eq_of_lt (by omega)]
 rw[e2];have:x &&& y≤x:=Nat.and_le_left;exact wu64 (by omega) (by omega)
theorem e2f {H L k:Nat} (h:L<2^k):H*2^k ||| L=H*2^k+L:=by
 rw[Nat.mul_comm];exact (Nat.two_pow_add_eq_or_of_lt h H).symm
end Go.Proofs.YtgkpkajaepphjaaGreatDoor
namespace Go.Proofs.YtgkpkajaepphjaaGreatDoor
open Go.Flat Go.Plim
set_option linter.unusedVariables false
def lenT:List UInt8 :=
 h0h
theorem i2o (n:Nat) (x:Int):e0h (n+1) x =
 tif ((decide ((4294967296:Int)≤x))) (
 tif ((decide ((65536:Int)≤(shrI .u64 x (32:Int))))) (
 tif ((decide ((256:Int)≤(shrI .u64 (shrI .u64 x (32:Int)) (16:Int))))) (
 a0b (at? lenT (IntKind.wrap .u8 (shrI .u64 (shrI .u64 (shrI .u64 x (32:Int)) (16:Int)) (8:Int)))) fun r0 =>
 some (IntKind.wrap .i64 ((56:Int)+(IntKind.wrap .i64 (((UInt8.toNat r0):Nat):Int))))) (
 a0b (at? lenT (IntKind.wrap .u8 (shrI .u64 (shrI .u64 x (32:Int)) (16:Int)))) fun r1 =>
 some (IntKind.wrap .i64 ((48:Int)+(IntKind.wrap .i64 (((UInt8.toNat r1):Nat):Int)))))) (
 tif ((decide ((256:Int)≤(shrI .u64 x (32:Int))))) (
 a0b (at? lenT (IntKind.wrap .u8 (shrI .u64 (shrI .u64 x (32:Int)) (8:Int)))) fun r2 =>
 some (IntKind.wrap .i64 ((40:Int)+(IntKind.wrap .i64 (((UInt8.toNat r2):Nat):Int))))) (
 a0b (at? lenT (IntKind.wrap .u8 (shrI .u64 x (32:Int)))) fun r3 =>
 some (IntKind.wrap .i64 ((32:Int)+(IntKind.wrap .i64 (((UInt8.toNat r3):Nat):Int))))))) (
 tif ((decide ((65536:Int)≤x))) (
 tif ((decide ((256:Int)≤(shrI .u64 x (16:Int))))) (
 a0b (at? lenT (IntKind.wrap .u8 (shrI .u64 (shrI .u64 x (16:Int)) (8:Int)))) fun r4 =>
 some (IntKind.wrap .i64 ((24:Int)+(IntKind.wrap .i64 (((UInt8.toNat r4):Nat):Int))))) (
 a0b (at? lenT (IntKind.wrap .u8 (shrI .u64 x (16:Int)))) fun r5 =>
 some (IntKind.wrap .i64 ((16:Int)+(IntKind.wrap .i64 (((UInt8.toNat r5):Nat):Int)))))) (
 tif ((decide ((256:Int)≤x))) (
 a0b (at? lenT (IntKind.wrap .u8 (shrI .u64 x (8:Int)))) fun r6 =>
 some (IntKind.wrap .i64 ((8:Int)+(IntKind.wrap .i64 (((UInt8.toNat r6):Nat):Int))))) (
 a0b (at? lenT (IntKind.wrap .u8 x)) fun r7 =>
 some (IntKind.wrap .i64 ((0:Int)+(IntKind.wrap .i64 (((UInt8.toNat r7):Nat):Int))))))):=a1p n x
theorem lenT_all:((List.range 256).all fun z=>match lenT[z]? with | some r=>decide (r.toNat=bl 64 z) | none=>false)=true:=by decide +kernel
end Go.Proofs.YtgkpkajaepphjaaGreatDoor
namespace Go.Proofs.YtgkpkajaepphjaaGreatDoor
open Go.Flat Go.Plim
set_option linter.unusedVariables false
set_option linter.unusedSimpArgs false
theorem f0z (n x:Nat):m0q (n+1) (ofN x)=some (decide (x=0)):=by
 rw[q1u,v0t]
theorem up_small {x k:Nat} (hk:k≤128) (h:x*2^k<340282366920938463463374607431768211456):x<2^(128-k):=by
 have e:340282366920938463463374607431768211456=2^(128-k)*2^k:=by rw[←Nat.pow_add,show 128-k+k=128 by omega]
 rw[e] at h;exact Nat.lt_of_mul_lt_mul_right h
theorem t0f (n x k:Nat) (hk:k<128) (h:x*2^k<340282366920938463463374607431768211456):z0c (n+1) (ofN x) (k:Int)=some (ofN (x*2^k)):=by
 rw[a2j];simp only[tfd];by_cases c:64≤k
 ·have e:(k:Int)-64=((k-64:Nat):Int):=by omega
  have hx:x<18446744073709551616:=Nat.lt_of_lt_of_le (up_small (by omega) h) (show 2^(128-k)≤2^64 from Nat.pow_le_pow_right (by decide) (by omega));have e2:x*2^k=18446744073709551616*(x*2^(k-64)):=by
   rw[show (18446744073709551616:Nat)=2^64 from rfl,Nat.mul_left_comm,←Nat.pow_add,show 64+(k-64)=k by omega]
  rw[if_pos (by omega),w64 (by omega) (by omega),if_neg (by omega),e];show some (shlI .u64 ((x % 18446744073709551616:Nat):Int) _,_)=some (((x*2^k / 18446744073709551616:Nat):Int),((x*2^k % 18446744073709551616:Nat):Int));rw[shlN _ _ (by omega),Nat.mod_eq_of_lt hx,e2,Nat.mul_div_cancel_left _ (by decide),Nat.mul_mod_right];rw[e2] at h;have:x*2^(k-64)<18446744073709551616:=Nat.lt_of_mul_lt_mul_left (show 18446744073709551616*(x*2^(k-64))<18446744073709551616*18446744073709551616 from h);rw[Nat.mod_eq_of_lt this];rfl
 ·have e:(64:Int)-k=((64-k:Nat):Int):=by omega
  obtain ⟨a1,a2,a3⟩:=half_up (show k<64 by omega) h;rw[if_neg (by omega),if_neg (by omega),w64 (by omega) (by omega),if_neg (by omega),if_neg (by omega),e];show some (orI .u64 (shlI .u64 ((x / 18446744073709551616:Nat):Int) _) (shrI .u64 ((x % 18446744073709551616:Nat):Int) _),shlI .u64 ((x % 18446744073709551616:Nat):Int) _)=some (((x*2^k / 18446744073709551616:Nat):Int),((x*2^k % 18446744073709551616:Nat):Int));have hq:x*2^k / 18446744073709551616<18446744073709551616:=Nat.div_lt_of_lt_mul h
  have h1:x / 18446744073709551616*2^k<18446744073709551616:=Nat.lt_of_le_of_lt (by rw[←a1];exact Nat.le_add_right _ _) hq;have h2:x % 18446744073709551616 / 2^(64-k)<18446744073709551616:=Nat.lt_of_le_of_lt (Nat.div_le_self _ _) (Nat.mod_lt _ (by decide));rw[shlN _ _ (by omega),shrN _ _ (by omega),shlN _ _ (by omega),Nat.mod_eq_of_lt h1,orN h1 h2,e2f a2,a1,a3]
theorem w0l (n x k:Nat) (hk:k<128) (h:x<340282366920938463463374607431768211456):v0j (n+1) (ofN x) (k:Int)=some (ofN (x / 2^k)):=by
 rw[q1x];simp only[tfd];have hq:x / 18446744073709551616<18446744073709551616:=Nat.div_lt_of_lt_mul h;by_cases c:64≤k
 ·have e:(k:Int)-64=((k-64:Nat):Int):=by omega
  rw[if_pos (by omega),w64 (by omega) (by omega),if_neg (by omega),e];show some (_,shrI .u64 ((x / 18446744073709551616:Nat):Int) _)=some (((x / 2^k / 18446744073709551616:Nat):Int),((x / 2^k % 18446744073709551616:Nat):Int));have e2:x / 2^k=x / 18446744073709551616 / 2^(k-64):=by
   rw[Nat.div_div_eq_div_mul,show (18446744073709551616:Nat)=2^64 from rfl,←Nat.pow_add,show 64+(k-64)=k by omega]
  have hlt:x / 18446744073709551616 / 2^(k-64)<18446744073709551616:=Nat.lt_of_le_of_lt (Nat.div_le_self _ _) hq;rw[shrN _ _ (by omega),e2,Nat.div_eq_of_lt hlt,Nat.mod_eq_of_lt hlt];rfl
 ·have e:(64:Int)-k=((64-k:Nat):Int):=by omega
  obtain ⟨a1,a2,a3,m,a4⟩:=n2o (show k<64 by omega) h;rw[if_neg (by omega),if_neg (by omega),if_neg (by omega),w64 (by omega) (by omega),if_neg (by omega),e];show some (shrI .u64 ((x / 18446744073709551616:Nat):Int) _,orI .u64 (shrI .u64 ((x % 18446744073709551616:Nat):Int) _) (shlI .u64 ((x / 18446744073709551616:Nat):Int) _))=some (((x / 2^k / 18446744073709551616:Nat):Int),((x / 2^k % 18446744073709551616:Nat):Int));have h3:x % 18446744073709551616 / 2^k<18446744073709551616:=Nat.lt_of_le_of_lt (Nat.div_le_self _ _) (Nat.mod_lt _ (by decide))
  have h4:x / 18446744073709551616*2^(64-k) % 18446744073709551616<18446744073709551616:=Nat.mod_lt _ (by decide);rw[shrN _ _ (by omega),shrN _ _ (by omega),shlN _ _ (by omega),orN h3 h4,Nat.or_comm];have a4':x / 18446744073709551616*2^(64-k) % 18446744073709551616=m*2^(64-k):=by rw[Nat.mul_comm m];exact a4
  rw[a4',e2f a3,←a4',Nat.add_comm];rw[show x % 18446744073709551616 / 2^k+x / 18446744073709551616*2^(64-k) % 18446744073709551616=x / 2^k % 18446744073709551616 from a2,show x / 18446744073709551616 / 2^k=x / 2^k / 18446744073709551616 from a1]
theorem wide_sub (n:Nat) {x y:Nat} (hx:x<340282366920938463463374607431768211456) (h:y≤x):p1p (n+2) (ofN x) (ofN y)=some (ofN (x-y),0):=by
 rw[z1d];have h1:x / 18446744073709551616<18446744073709551616:=Nat.div_lt_of_lt_mul hx;have h2:y / 18446744073709551616<18446744073709551616:=Nat.div_lt_of_lt_mul (Nat.lt_of_le_of_lt h hx);have h3:x % 18446744073709551616<18446744073709551616:=Nat.mod_lt _ (by decide);have h4:y % 18446744073709551616<18446744073709551616:=Nat.mod_lt _ (by decide);have e:∀z:Nat,ofN z=(((z / 18446744073709551616:Nat):Int),((z % 18446744073709551616:Nat):Int)):=fun _=>rfl
 rw[e x,e y,e (x-y)];have ex:=Nat.div_add_mod x 18446744073709551616;have ey:=Nat.div_add_mod y 18446744073709551616;have ez:=Nat.div_add_mod (x-y) 18446744073709551616;have h5:(x-y) % 18446744073709551616<18446744073709551616:=Nat.mod_lt _ (by decide);generalize x / 18446744073709551616=a at *
 generalize x % 18446744073709551616=b at *
 generalize y / 18446744073709551616=c at *
 generalize y % 18446744073709551616=d at *
 generalize (x-y) / 18446744073709551616=p at *
 generalize (x-y) % 18446744073709551616=q at *
 simp only[f1m,tfd,tft];by_cases hb:b<d
 ·have hb':(b:Int)<(d:Int)+0:=by omega
  rw[if_pos (by omega),if_pos (by omega),if_pos (by omega),if_pos (by omega),if_pos (by omega),if_pos (by omega),if_pos hb',if_pos (by omega),if_pos (by omega),if_neg (by omega),m0e,obs,if_pos rfl];congr 3<;>omega
 ·have hb':¬(b:Int)<(d:Int)+0:=by omega
  rw[if_pos (by omega),if_pos (by omega),if_pos (by omega),if_pos (by omega),if_pos (by omega),if_pos (by omega),if_neg hb',if_pos (by omega),if_pos (by omega),if_neg (by omega),m0e,obs,if_pos rfl];congr 3<;>omega
theorem p0i (n:Nat) {x y:Nat} (hx:x<340282366920938463463374607431768211456) (h:y≤x):k0i (n+3) (ofN x) (ofN y)=some (ofN (x-y)):=by
 rw[q1w,wide_sub n hx h];rfl
theorem o1a (n:Nat) {x y:Nat} (hx:x<340282366920938463463374607431768211456) (hy:y<340282366920938463463374607431768211456):n0g (n+1) (ofN x) (ofN y)=some (decide (x<y)):=by
 rw[u1g n (d1m hx) (d1m hy),n1x,n1x];congr 1;exact decide_eq_decide.2 (by omega)
theorem tz_pow (n:Nat):((List.range 64).all fun t=>match l0j (n+1) ((2^t:Nat):Int) with | some r=>decide (r=(t:Int)) | none=>false)=true:=by kernel_rfl
theorem tz_at (n t:Nat) (ht:t<64):l0j (n+1) ((2^t:Nat):Int)=some (t:Int):=by
 have h:=List.all_eq_true.1 (tz_pow n) t (List.mem_range.2 ht);split at h
 ·rename_i r hr;rw[hr,of_decide_eq_true h]
 ·cases h
theorem e2n {x:Nat} (h0:0<x) (h:x<18446744073709551616):andI .u64 (x:Int) (IntKind.wrap .u64 ((0:Int)-x))=((2^tz 64 x:Nat):Int):=by
 rw[show IntKind.wrap .u64 ((0:Int)-x)=((18446744073709551616-x:Nat):Int) by rw[IntKind.wrap_u64];omega,andN h (by omega)];exact congrArg Int.ofNat (low_bit h0 h)
theorem tz_val (n:Nat) {x:Nat} (h0:0<x) (h:x<18446744073709551616):l0j (n+1) (x:Int)=some ((tz 64 x:Nat):Int):=by
 have ht:=(x0e 64 x h0 h).1;have hp:=Nat.two_pow_pos (tz 64 x);have hp2:2^tz 64 x<18446744073709551616:=Nat.pow_lt_pow_right (a:=2) (by decide) ht;rw[←tz_at n _ ht];have e:tz 64 (2^tz 64 x)=tz 64 x:=f1i hp hp2 (Nat.mod_self _) (by rw[Nat.div_self hp]);rw[d1v,d1v,e2n h0 h,e2n hp hp2,e,decide_eq_false (show ¬((x:Int)=0) by omega),decide_eq_false (show ¬(((2^tz 64 x:Nat):Int)=0) by omega)]
theorem x0n (n:Nat) {x:Nat} (h0:0<x) (h:x<340282366920938463463374607431768211456):h0g (n+2) (ofN x)=some ((tz 128 x:Nat):Int):=by
 rw[e1c];show tif (decide (((x % 18446744073709551616:Nat):Int)=0)) (a0b (l0j (n+1) ((x / 18446744073709551616:Nat):Int)) fun r0=>some (IntKind.wrap .i64 (64+r0))) (a0b (l0j (n+1) ((x % 18446744073709551616:Nat):Int)) fun r1=>some r1)=_;rw[tfd];by_cases c:x % 18446744073709551616=0
 ·have h1:0<x / 18446744073709551616:=by omega
  have h2:x / 18446744073709551616<18446744073709551616:=Nat.div_lt_of_lt_mul h;have ht:=(x0e 64 _ h1 h2).1;rw[if_pos (by omega),tz_val n h1 h2,obs,w64 (by omega) (by omega),tz_hi h c h0];congr 1
 ·rw[if_neg (by omega),tz_val n (by omega) (Nat.mod_lt _ (by decide)),obs,tz_lo h (by omega)]
theorem lenT_at {z:Nat} (h:z<256):∃r,at? lenT (z:Int)=some r∧r.toNat=bl 64 z:=by
 have h1:=List.all_eq_true.1 lenT_all z (List.mem_range.2 h);split at h1
 ·rename_i r hr;refine ⟨r,?_,of_decide_eq_true h1⟩;unfold at?;rw[decide_eq_true (by omega)];exact hr
 ·cases h1
theorem o0t {x s K:Nat} {I S:Int} (hK:K=2^s) (hI:I=((x / K:Nat):Int)) (hS:S=s) (h2:x / K<256) (h1:K≤x∨s=0) (hx:x<18446744073709551616) (hs:s≤56) :
  (a0b (at? lenT (IntKind.wrap .u8 I)) fun r=>some (IntKind.wrap .i64 (S+IntKind.wrap .i64 (((UInt8.toNat r):Nat):Int))))=some ((bl 64 x:Nat):Int):=by
 obtain ⟨r,hr,hb⟩:=lenT_at h2;have hle:=(k0o 64 (x / K) (Nat.lt_of_le_of_lt (Nat.div_le_self _ _) hx)).2.2;have e:bl 64 x=s+bl 64 (x / K):=by
  rcases h1 with h1 | rfl
  ·rw[hK] at h1 ⊢;exact f2m hx h1
  ·subst hK;simp
 rw[hI,e];generalize x / K=z at *
 rw[wu8 (by omega) (by omega),hr,obs,hb,w64 (x:=((bl 64 z:Nat):Int)) (by omega) (by omega),hS,w64 (by omega) (by omega)];congr 1
theorem x1r (n:Nat) {x:Nat} (h:x<18446744073709551616):e0h (n+1) (x:Int)=some ((bl 64 x:Nat):Int):=by
 have s32:∀z:Nat,shrI .u64 (z:Int) (32:Int)=((z / 4294967296:Nat):Int):=fun z=>shrN z 32 (by decide)
 have s16:∀z:Nat,shrI .u64 (z:Int) (16:Int)=((z / 65536:Nat):Int):=fun z=>shrN z 16 (by decide)
 have s8:∀z:Nat,shrI .u64 (z:Int) (8:Int)=((z / 256:Nat):Int):=fun z=>shrN z 8 (by decide)
 have h':=h;rw[i2o];simp only[s32,s16,s8,tfd];by_cases c5:4294967296≤x
 ·rw[if_pos (by omega)];by_cases c4:65536≤x / 4294967296
  ·rw[if_pos (by omega)];by_cases c3:256≤x / 4294967296 / 65536
   ·rw[if_pos (by omega)];exact o0t (s:=56) (K:=72057594037927936) rfl (by omega) rfl (by omega) (.inl (by omega)) h (by decide)
   ·rw[if_neg (by omega)];exact o0t (s:=48) (K:=281474976710656) rfl (by omega) rfl (by omega) (.inl (by omega)) h (by decide)
  ·rw[if_neg (by omega)];by_cases c3:256≤x / 4294967296
   ·rw[if_pos (by omega)];exact o0t (s:=40) (K:=1099511627776) rfl (by omega) rfl (by omega) (.inl (by omega)) h (by decide)
   ·rw[if_neg (by omega)];exact o0t (s:=32) (K:=4294967296) rfl (by omega) rfl (by omega) (.inl (by omega)) h (by decide)
 ·rw[if_neg (by omega)];by_cases c4:65536≤x
  ·rw[if_pos (by omega)];by_cases c3:256≤x / 65536
   ·rw[if_pos (by omega)];exact o0t (s:=24) (K:=16777216) rfl (by omega) rfl (by omega) (.inl (by omega)) h (by decide)
   ·rw[if_neg (by omega)];exact o0t (s:=16) (K:=65536) rfl (by omega) rfl (by omega) (.inl (by omega)) h (by decide)
  ·rw[if_neg (by omega)];by_cases c3:256≤x
   ·rw[if_pos (by omega)];exact o0t (s:=8) (K:=256) rfl (by omega) rfl (by omega) (.inl (by omega)) h (by decide)
   ·rw[if_neg (by omega)];exact o0t (s:=0) (K:=1) rfl (by omega) rfl (by omega) (.inr rfl) h (by decide)
theorem e2p (n:Nat) {x:Nat} (h:x<340282366920938463463374607431768211456):v0i (n+2) (ofN x)=some ((bl 128 x:Nat):Int):=by
 rw[q1v];show tif (!decide (((x / 18446744073709551616:Nat):Int)=0)) (a0b (e0h (n+1) ((x / 18446744073709551616:Nat):Int)) fun r0=>some (IntKind.wrap .i64 (64+r0))) (a0b (e0h (n+1) ((x % 18446744073709551616:Nat):Int)) fun r1=>some r1)=_;have hq:x / 18446744073709551616<18446744073709551616:=Nat.div_lt_of_lt_mul h;rw[tfn,tfd];by_cases c:x / 18446744073709551616=0
 ·have hx:x<18446744073709551616:=by omega
  rw[if_pos (by omega),x1r n (Nat.mod_lt _ (by decide)),obs,Nat.mod_eq_of_lt hx,f2l (k:=64) (m:=128) hx h]
 ·have hle:=(k0o 64 (x / 18446744073709551616) hq).2.2;rw[if_neg (by omega),x1r n hq,obs,w64 (by omega) (by omega),f2m (k:=128) (s:=64) h (by omega)];rw[←f2l (k:=128) (m:=64) (x:=x / 18446744073709551616) (Nat.lt_of_lt_of_le hq (by decide)) hq];congr 1
theorem or_ofN {x y:Nat} (hx:x<340282366920938463463374607431768211456) (hy:y<340282366920938463463374607431768211456):((orI .u64 (ofN x).1 (ofN y).1,orI .u64 (ofN x).2 (ofN y).2):Wd)=ofN (x ||| y):=by
 show ((orI .u64 ((x / 18446744073709551616:Nat):Int) ((y / 18446744073709551616:Nat):Int),orI .u64 ((x % 18446744073709551616:Nat):Int) ((y % 18446744073709551616:Nat):Int)):Wd)=((((x ||| y) / 18446744073709551616:Nat):Int),(((x ||| y) % 18446744073709551616:Nat):Int));have e1:(x ||| y) / 18446744073709551616=x / 18446744073709551616 ||| y / 18446744073709551616:=Nat.or_div_two_pow (n:=64)
 have e2:(x ||| y) % 18446744073709551616=x % 18446744073709551616 ||| y % 18446744073709551616:=Nat.or_mod_two_pow (n:=64)
 rw[e1,e2,orN (Nat.div_lt_of_lt_mul hx) (Nat.div_lt_of_lt_mul hy),orN (Nat.mod_lt _ (by decide)) (Nat.mod_lt _ (by decide))]
theorem one_ofN:((0,1):Wd)=ofN 1:=rfl
theorem d2k:((0,0):Wd)=ofN 0:=rfl
theorem whole_l3 (n:Nat) {d A:Nat} (hd:0<d) (hA:A<340282366920938463463374607431768211456) (hdM:d<340282366920938463463374607431768211456) (s4:Wd):∀(k f a q:Nat),q+a / d=A / d→a≤A→a<d*2^k→2^k ∣ q→(k=0∨d*2^(k-1)<340282366920938463463374607431768211456)→k≤128→k<f →
  i0a (n+3) f (ofN a,ofN d,s4,ofN q,(k:Int)-1,())=some (.inl (s4,ofN (A / d),())):=by
 intro k;induction k with
 | zero =>
  intro f a q h1 h2 h3 h4 h5 h6 hf;obtain ⟨f,rfl⟩:∃g,f=g+1:=⟨f-1,by omega⟩;rw[k0h,decide_eq_false (by omega),tff];rw[Nat.pow_zero,Nat.mul_one] at h3;rw[Nat.div_eq_of_lt h3,Nat.add_zero] at h1;rw[h1]
 | succ k ih =>
  intro f a q h1 h2 h3 h4 h5 h6 hf;obtain ⟨f,rfl⟩:∃g,f=g+1:=⟨f-1,by omega⟩;have h5':d*2^k<340282366920938463463374607431768211456:=by
   rcases h5 with h | h
   ·cases h
   ·exact h
  have hk5:k=0∨d*2^(k-1)<340282366920938463463374607431768211456:=by
   rcases Nat.eq_zero_or_pos k with e | e
   ·exact .inl e
   ·refine .inr (Nat.lt_of_le_of_lt (Nat.mul_le_mul_left d (Nat.pow_le_pow_right (by decide) (Nat.sub_le _ _))) h5')
  have hpk:2^k<340282366920938463463374607431768211456:=Nat.lt_of_lt_of_le (Nat.pow_lt_pow_right (a:=2) (n:=128) (by decide) (by omega)) (by decide);have eb:((k+1:Nat):Int)-1=(k:Int):=by omega
  have hq2:2^k ∣ q:=Nat.dvd_trans (Nat.pow_dvd_pow 2 (Nat.le_succ k)) h4;rw[k0h,eb,decide_eq_true (by omega),tft,t0f (n+2) d k (by omega) h5',obs,o1a (n+2) (by omega) h5',obs,w64 (by omega) (by omega),tfd];by_cases hlt:a<d*2^k
  ·rw[if_pos hlt];exact ih f a q h1 h2 hlt hq2 hk5 (by omega) (by omega)
  ·rw[if_neg hlt,p0i n (by omega) (by omega),obs,f1e,obs,one_ofN,t0f (n+2) 1 k (by omega) (by rw[Nat.one_mul];exact hpk),obs,Nat.one_mul];have hqA:q≤A / d:=by rw[←h1];exact Nat.le_add_right _ _
   have hqM:q<340282366920938463463374607431768211456:=Nat.lt_of_le_of_lt (Nat.le_trans hqA (Nat.div_le_self _ _)) hA;rw[or_ofN hqM hpk,or_pow h4];refine ih f (a-d*2^k) (q+2^k) ?_ (by omega) ?_ (Nat.dvd_add hq2 (Nat.dvd_refl _)) hk5 (by omega) (by omega)
   ·rw[div_part hd (by omega)];exact h1
   ·rw[Nat.pow_succ,←Nat.mul_assoc] at h3;omega
theorem t0e (n:Nat) {a d:Nat} (ha:a<340282366920938463463374607431768211456) (hd:0<d) (hdM:d<340282366920938463463374607431768211456):r0r (n+4) (ofN a) (ofN d)=some (ofN (a / d)):=by
 have la:=(k0o 128 a ha).2.2;have ld:=(k0o 128 d hdM).2;have ld1:=(ld.1 hd).1;rw[j1q,e2p (n+1) ha,obs,e2p (n+1) hdM,obs,w64 (by omega) (by omega)];by_cases h:bl 128 d≤bl 128 a
 ·have h0:0<a:=by
   rcases Nat.eq_zero_or_pos a with e | e
   ·rw[e,c1q] at h;omega
   ·exact e
  have e:((bl 128 a:Nat):Int)-((bl 128 d:Nat):Int)=((bl 128 a-bl 128 d+1:Nat):Int)-1:=by omega
  rw[e,d2k,whole_l3 n hd ha hdM _ (bl 128 a-bl 128 d+1) a0d a 0 (by omega) (Nat.le_refl _) (bl_over ha hdM hd) (Nat.dvd_zero _) (.inr (by rw[Nat.add_sub_cancel];exact bl_up ha hdM (by omega) h0)) (by omega) (by unfold a0d;omega),obs,a0n]
 ·have hlt:=bl_less ha hdM (by omega);rw[show a0d=(2^70-1)+1 from rfl,k0h,decide_eq_false (by omega),tff,obs,a0n,Nat.div_eq_of_lt hlt];rfl
theorem e2u (n:Nat) {A B f:Nat} (ha0:0<A) (ha:A<340282366920938463463374607431768211456) (hb0:0<B) (hb:B<340282366920938463463374607431768211456) (s4:Wd) (tw:Int):d0w (n+3) (f+1) (ofN A,ofN B,s4,tw,()) =
  if od B<A then d0w (n+3) f (ofN (od B),ofN (A-od B),s4,tw,()) else d0w (n+3) f (ofN A,ofN (od B-A),s4,tw,()):=by
 have ht:=(p0l hb0 hb).1;have hle:od B<340282366920938463463374607431768211456:=Nat.lt_of_le_of_lt (od_le B) hb;rw[n0v,f0z,obs,tfn,decide_eq_false (by omega),tff,x0n (n+1) hb0 hb,obs,w0l (n+2) B _ ht hb,obs]
 change a0b (n0g (n+3) (ofN (od B)) (ofN A)) _=_
 rw[o1a (n+2) hle ha,obs,tfd];by_cases h:od B<A
 ·rw[if_pos h,if_pos h]
  change a0b (k0i (n+3) (ofN A) (ofN (od B))) _=_
  rw[p0i n ha (by omega),obs];rfl
 ·rw[if_neg h,if_neg h]
  change a0b (k0i (n+3) (ofN (od B)) (ofN A)) _=_
  rw[p0i n hle (by omega),obs]
theorem gcd_l5 (n:Nat) (s4:Wd) (tw:Int):∀(k f A B:Nat),0<A→A<340282366920938463463374607431768211456→A % 2=1→B<340282366920938463463374607431768211456→B % 2=0→A*B<2^k→k<f →
  d0w (n+3) f (ofN A,ofN B,s4,tw,())=some (.inl (ofN (Nat.gcd A B),s4,tw,())):=by
 intro k;induction k with
 | zero =>
  intro f A B h1 h2 h3 h4 h5 h6 hf;obtain ⟨f,rfl⟩:∃g,f=g+1:=⟨f-1,by omega⟩;have:B=0:=by
   rcases Nat.eq_zero_or_pos B with e | e
   ·exact e
   ·have:=Nat.mul_pos h1 e;omega
  subst this;rw[n0v,f0z,obs,tfn,decide_eq_true rfl,tft,Nat.gcd_zero_right]
 | succ k ih =>
  intro f A B h1 h2 h3 h4 h5 h6 hf;obtain ⟨f,rfl⟩:∃g,f=g+1:=⟨f-1,by omega⟩;rcases Nat.eq_zero_or_pos B with e | hB
  ·subst e;rw[n0v,f0z,obs,tfn,decide_eq_true rfl,tft,Nat.gcd_zero_right]
  ·have hev:=od_even hB h4 h5;have hod:=(p0l hB h4).2.2;have hpos:=m2j hB h4;have hg:=n2r h3 hB h4;have hp:A*od B<2^k:=by
    have:A*(2*od B)≤A*B:=Nat.mul_le_mul_left A hev;rw[Nat.mul_left_comm] at this;rw[Nat.pow_succ] at h6;omega
   rw[e2u n h1 h2 hB h4];by_cases h:od B<A
   ·rw[if_pos h,ih f (od B) (A-od B) hpos (by omega) hod (by omega) (by omega) (Nat.lt_of_le_of_lt (by rw[Nat.mul_comm A];exact Nat.mul_le_mul_left _ (Nat.sub_le _ _)) hp) (by omega),e1z (by omega),Nat.gcd_comm,hg]
   ·rw[if_neg h,ih f A (od B-A) h1 h2 h3 (by omega) (by omega) (Nat.lt_of_le_of_lt (Nat.mul_le_mul_left _ (Nat.sub_le _ _)) hp) (by omega),e1z (by omega),hg]
theorem gcd_any (n:Nat) (s4:Wd) (tw:Int) {A B:Nat} (h1:0<A) (h2:A<340282366920938463463374607431768211456) (h3:A % 2=1) (hB:0<B) (h4:B<340282366920938463463374607431768211456):d0w (n+3) a0d (ofN A,ofN B,s4,tw,())=some (.inl (ofN (Nat.gcd A B),s4,tw,())):=by
 have hod:=(p0l hB h4).2.2;have hpos:=m2j hB h4;have hle:=od_le B;have hg:=n2r h3 hB h4;have hm:∀ {x y:Nat},x<340282366920938463463374607431768211456→y<340282366920938463463374607431768211456→x*y<2^256:=fun hx hy=>Nat.lt_of_lt_of_le (Nat.mul_lt_mul'' hx hy) (by decide)
 rw[show a0d=(2^70-1)+1 from rfl,e2u n h1 h2 hB h4];by_cases h:od B<A
 ·rw[if_pos h,gcd_l5 n s4 tw 256 _ (od B) (A-od B) hpos (by omega) hod (by omega) (by omega) (hm (by omega) (by omega)) (by decide),e1z (by omega),Nat.gcd_comm,hg]
 ·rw[if_neg h,gcd_l5 n s4 tw 256 _ A (od B-A) h1 h2 h3 (by omega) (by omega) (hm (by omega) (by omega)) (by decide),e1z (by omega),hg]
theorem l2a (n:Nat) {x y:Nat} (hx:x<340282366920938463463374607431768211456) (hy:y<340282366920938463463374607431768211456):g1a (n+4) (ofN x) (ofN y)=some (ofN (Nat.gcd x y)):=by
 rw[v1p,f0z,obs,or_ofN hx hy];by_cases h0:x=0
 ·subst h0;rw[decide_eq_true rfl,tft,Nat.gcd_zero_left,Nat.zero_or]
 rw[decide_eq_false h0,tff,f0z,obs];by_cases h1:y=0
 ·subst h1;rw[decide_eq_true rfl,tft,Nat.gcd_zero_right,Nat.or_zero]
 have hx0:0<x:=by omega
 have hy0:0<y:=by omega
 obtain ⟨a1,a2,a3⟩:=p0l hx0 hx;obtain ⟨b1,b2,b3⟩:=p0l hy0 hy;have hle:od x<340282366920938463463374607431768211456:=Nat.lt_of_le_of_lt (od_le x) hx;rw[decide_eq_false h1,tff,x0n (n+1) hx0 hx,obs,x0n (n+1) hy0 hy,obs,obs,w0l (n+2) x _ a1 hx,obs]
 change a0b (d0w (n+3) a0d (ofN (od x),ofN y,_,_,())) _=_
 rw[gcd_any n _ _ (m2j hx0 hx) hle a3 hy0 hy,obs,a0n];have e:(if ((tz 128 y:Nat):Int)<((tz 128 x:Nat):Int) then ((tz 128 y:Nat):Int) else ((tz 128 x:Nat):Int))=((min (tz 128 x) (tz 128 y):Nat):Int):=by
  split<;>omega
 have hg:=n2p hx0 hx hy0 hy;have hlt:Nat.gcd x y<340282366920938463463374607431768211456:=Nat.lt_of_le_of_lt (Nat.gcd_le_left y hx0) hx;simp only;rw[e,t0f (n+2) _ _ (by omega) (by rw[←hg];exact hlt),obs,←hg]
def bys (x:Nat):List Int:=(List.range 16).map fun j=>((byt x j:Nat):Int)
theorem i1y (x:Nat):(bys x).length=16:=by simp[bys]
theorem y1w (x:Nat) {j:Nat} (h:j<16):(bys x)[j]? = some ((byt x j:Nat):Int):=by
 unfold bys;rw[List.getElem?_map,List.getElem?_range h];rfl
theorem bys_eq (x:Nat):bys x=[((x % 256:Nat):Int),((x / 256 % 256:Nat):Int),((x / 65536 % 256:Nat):Int),((x / 16777216 % 256:Nat):Int),((x / 4294967296 % 256:Nat):Int),((x / 1099511627776 % 256:Nat):Int),((x / 281474976710656 % 256:Nat):Int),((x / 72057594037927936 % 256:Nat):Int),
  ((x / 18446744073709551616 % 256:Nat):Int),((x / 4722366482869645213696 % 256:Nat):Int),((x / 1208925819614629174706176 % 256:Nat):Int),((x / 309485009821345068724781056 % 256:Nat):Int),((x / 79228162514264337593543950336 % 256:Nat):Int),((x / 20282409603651670423947251286016 % 256:Nat):Int),((x / 5192296858534827628530496329220096 % 256:Nat):Int),((x / 1329227995784915872903807060280344576 % 256:Nat):Int)]:=by
 unfold bys byt;simp[List.range,List.range.loop]
abbrev l16 (r:B16):List Int:=[r.1,r.2.1,r.2.2.1,r.2.2.2.1,r.2.2.2.2.1,r.2.2.2.2.2.1,r.2.2.2.2.2.2.1,r.2.2.2.2.2.2.2.1,r.2.2.2.2.2.2.2.2.1,r.2.2.2.2.2.2.2.2.2.1,r.2.2.2.2.2.2.2.2.2.2.1,r.2.2.2.2.2.2.2.2.2.2.2.1,r.2.2.2.2.2.2.2.2.2.2.2.2.1,r.2.2.2.2.2.2.2.2.2.2.2.2.2.1,r.2.2.2.2.2.2.2.2.2.2.2.2.2.2.1,r.2.2.2.2.2.2.2.2.2.2.2.2.2.2.2]
theorem bys_list (x:Nat):bys x=[((byt x 0:Nat):Int),((byt x 1:Nat):Int),((byt x 2:Nat):Int),((byt x 3:Nat):Int),((byt x 4:Nat):Int),((byt x 5:Nat):Int),((byt x 6:Nat):Int),((byt x 7:Nat):Int),((byt x 8:Nat):Int),((byt x 9:Nat):Int),((byt x 10:Nat):Int),((byt x 11:Nat):Int),((byt x 12:Nat):Int),((byt x 13:Nat):Int),((byt x 14:Nat):Int),((byt x 15:Nat):Int)]:=by
 unfold bys;simp[List.range,List.range.loop]
theorem o2n {v x0 x1 x2 x3 x4 x5 x6 x7:Int} (b:Byt x0∧Byt x1∧Byt x2∧Byt x3∧Byt x4∧Byt x5∧Byt x6∧Byt x7) (h:v=x0+x1*256+x2*65536+x3*16777216+x4*4294967296+x5*1099511627776+x6*281474976710656+x7*72057594037927936) :
  x0=v % 256∧x1=v / 256 % 256∧x2=v / 65536 % 256∧x3=v / 16777216 % 256∧x4=v / 4294967296 % 256∧x5=v / 1099511627776 % 256∧x6=v / 281474976710656 % 256∧x7=v / 72057594037927936 % 256:=by
 simp only[Byt] at b;obtain ⟨⟨_,_⟩,⟨_,_⟩,⟨_,_⟩,⟨_,_⟩,⟨_,_⟩,⟨_,_⟩,⟨_,_⟩,⟨_,_⟩⟩:=b;refine ⟨?_,?_,?_,?_,?_,?_,?_,?_⟩<;>omega
theorem v0p (n:Nat) {x:Nat} (h:x<340282366920938463463374607431768211456):∃r:B16,i0b (n+1) (ofN x)=some r∧l16 r=bys x:=by
 obtain ⟨x0,x1,x2,x3,x4,x5,x6,x7,x8,x9,x10,x11,x12,x13,x14,x15,hr,⟨b0,b1,b2,b3,b4,b5,b6,b7,b8,b9,b10,b11,b12,b13,b14,b15⟩,hlo,hhi⟩:=q0i n (d1m h);refine ⟨_,hr,?_⟩;obtain ⟨c0,c1,c2,c3,c4,c5,c6,c7⟩:=o2n ⟨b0,b1,b2,b3,b4,b5,b6,b7⟩ hlo;obtain ⟨d0,d1,d2,d3,d4,d5,d6,d7⟩:=o2n ⟨b8,b9,b10,b11,b12,b13,b14,b15⟩ hhi;have elo:(ofN x).2=((x % 18446744073709551616:Nat):Int):=rfl;have ehi:(ofN x).1=((x / 18446744073709551616:Nat):Int):=rfl;rw[elo] at c0 c1 c2 c3 c4 c5 c6 c7;rw[ehi] at d0 d1 d2 d3 d4 d5 d6 d7;rw[bys_eq];simp only[l16]
 clear hr hlo hhi b0 b1 b2 b3 b4 b5 b6 b7 b8 b9 b10 b11 b12 b13 b14 b15;subst c0 c1 c2 c3 c4 c5 c6 c7 d0 d1 d2 d3 d4 d5 d6 d7;simp only[List.cons.injEq,and_true];refine ⟨?_,?_,?_,?_,?_,?_,?_,?_,?_,?_,?_,?_,?_,?_,?_,?_⟩
 all_goals omega
theorem r01_ofN (n:Nat) {x:Nat} (h:x<340282366920938463463374607431768211456):d1j (n+1) (((byt x 0:Nat):Int),((byt x 1:Nat):Int),((byt x 2:Nat):Int),((byt x 3:Nat):Int),((byt x 4:Nat):Int),((byt x 5:Nat):Int),((byt x 6:Nat):Int),((byt x 7:Nat):Int),((byt x 8:Nat):Int),((byt x 9:Nat):Int),((byt x 10:Nat):Int),((byt x 11:Nat):Int),((byt x 12:Nat):Int),((byt x 13:Nat):Int),((byt x 14:Nat):Int),((byt x 15:Nat):Int))=some (ofN x):=by
 obtain ⟨r,hr,hl⟩:=v0p n h;obtain ⟨x0,x1,x2,x3,x4,x5,x6,x7,x8,x9,x10,x11,x12,x13,x14,x15,hr',hb,hlo,hhi⟩:=q0i n (d1m h);have hr':=Option.some.inj (hr.symm.trans hr');subst hr';rw[bys_list] at hl;simp only[l16,List.cons.injEq,and_true] at hl;obtain ⟨rfl,rfl,rfl,rfl,rfl,rfl,rfl,rfl,rfl,rfl,rfl,rfl,rfl,rfl,rfl,rfl⟩:=hl;obtain ⟨b0,b1,b2,b3,b4,b5,b6,b7,b8,b9,b10,b11,b12,b13,b14,b15⟩:=hb;rw[r01_of n b0 b1 b2 b3 b4 b5 b6 b7 b8 b9 b10 b11 b12 b13 b14 b15,←hlo,←hhi]
theorem l2r (n:Nat) {x:Nat} (h:x<340282366920938463463374607431768211456) {R:Type} (k:Wd→Option R) {l:List Int} (hl:l=bys x) :
  (a0b (l[0]?) fun r0=>a0b (l[1]?) fun r1=>a0b (l[2]?) fun r2=>a0b (l[3]?) fun r3=>a0b (l[4]?) fun r4=>a0b (l[5]?) fun r5=>a0b (l[6]?) fun r6=>a0b (l[7]?) fun r7=>a0b (l[8]?) fun r8=>a0b (l[9]?) fun r9=>a0b (l[10]?) fun r10=>a0b (l[11]?) fun r11=>a0b (l[12]?) fun r12=>a0b (l[13]?) fun r13=>a0b (l[14]?) fun r14=>a0b (l[15]?) fun r15=>a0b (d1j (n+1) (r0,(r1,(r2,(r3,(r4,(r5,(r6,(r7,(r8,(r9,(r10,(r11,(r12,(r13,(r14,r15)))))))))))))))) k)=k (ofN x):=by
 subst hl;have e:∀j:Nat,j<16→(bys x)[j]? = some ((byt x j:Nat):Int):=fun j hj=>y1w x hj
 rw[e 0 (by decide),e 1 (by decide),e 2 (by decide),e 3 (by decide),e 4 (by decide),e 5 (by decide),e 6 (by decide),e 7 (by decide),e 8 (by decide),e 9 (by decide),e 10 (by decide),e 11 (by decide),e 12 (by decide),e 13 (by decide),e 14 (by decide),e 15 (by decide)];simp only[obs,r01_ofN n h]
theorem e1u (n:Nat) {x y:Nat} (hx:x<340282366920938463463374607431768211456) (hy:y<340282366920938463463374607431768211456):l0o (n+2) (ofN x) (ofN y)=some (if x+y<340282366920938463463374607431768211456 then (ofN (x+y),0) else ((0,0),1)):=by
 rw[b1u n (d1m hx) (d1m hy)];unfold addW;rw[n1x,n1x];have e:(x:Int)+y=((x+y:Nat):Int):=by omega
 rw[e,b1z];by_cases h:x+y<340282366920938463463374607431768211456
 ·rw[if_pos h,if_pos (by omega)]
 ·rw[if_neg h,if_neg (by omega)]
theorem w1q (n:Nat) {x y:Nat} (hx:x<340282366920938463463374607431768211456) (hy:y<340282366920938463463374607431768211456):j0o (n+2) (ofN x) (ofN y)=some (decide (x<y)):=by
 rw[r1s n (d1m hx) (d1m hy),n1x,n1x];congr 1;exact decide_eq_decide.2 (by omega)
def subL (A B i:Nat):List Int:=(List.range 16).map fun j=>(((if j<i then byt (A-B) j else byt A j):Nat):Int)
def owe (A B i:Nat):Nat:=if A % 256^i<B % 256^i then 1 else 0
theorem e1l (A B i:Nat):(subL A B i).length=16:=by simp[subL]
theorem z1p (A B i:Nat) {j:Nat} (h:j<16):(subL A B i)[j]? = some (((if j<i then byt (A-B) j else byt A j):Nat):Int):=by
 unfold subL;rw[List.getElem?_map,List.getElem?_range h];rfl
theorem d2p (A B:Nat) {i:Nat} (h:i<16):(subL A B i).set i ((byt (A-B) i:Nat):Int)=subL A B (i+1):=by
 apply List.ext_getElem?;intro j;rw[List.getElem?_set,e1l];by_cases hj:j<16
 ·rw[z1p _ _ _ hj,z1p _ _ _ hj];by_cases e:i=j
  ·subst e;rw[if_pos rfl,if_pos h,if_pos (by omega)]
  ·rw[if_neg e];by_cases hlt:j<i
   ·rw[if_pos hlt,if_pos (by omega)]
   ·rw[if_neg hlt,if_neg (by omega)]
 ·rw[if_neg (by omega),List.getElem?_eq_none (by rw[e1l];omega),List.getElem?_eq_none (by rw[e1l];omega)]
theorem owe_step {A B:Nat} (hle:B≤A) (i:Nat) :
  (byt A i<byt B i+owe A B i→owe A B (i+1)=1∧byt (A-B) i+byt B i+owe A B i=byt A i+256) ∧
  (byt B i+owe A B i≤byt A i→owe A B (i+1)=0∧byt (A-B) i+byt B i+owe A B i=byt A i):=by
 have hp:0<256^i:=Nat.pow_pos (by decide);have ea:=Nat.div_add_mod A (256^i);have eb:=Nat.div_add_mod B (256^i);have la:=Nat.mod_lt A hp;have lb:=Nat.mod_lt B hp;have ea2:A % 256^(i+1)=256^i*(A / 256^i % 256)+A % 256^i:=by rw[Nat.pow_succ,Nat.mod_mul];omega
 have eb2:B % 256^(i+1)=256^i*(B / 256^i % 256)+B % 256^i:=by rw[Nat.pow_succ,Nat.mod_mul];omega
 unfold owe byt;rw[ea2,eb2];generalize hP:256^i=P at *
 generalize hA':A / P=A' at *
 generalize hB':B / P=B' at *
 generalize ha:A % P=a at *
 generalize hb:B % P=b at *
 have key:(A-B) / P+B'+(if a<b then 1 else 0)=A':=by
  by_cases hlt:a<b
  ·rw[if_pos hlt];have hAB:B'+1≤A':=by
    rcases Nat.lt_or_ge B' A' with q | q
    ·exact q
    ·have:=Nat.mul_le_mul_left P q;omega
   obtain ⟨c,hc⟩:∃c,A'=B'+1+c:=⟨A'-(B'+1),by omega⟩;have e1:P*A'=P*B'+P+P*c:=by rw[hc,Nat.mul_add,Nat.mul_add,Nat.mul_one]
   have e2:A-B=P*c+(P+a-b):=by omega
   rw[e2,Nat.mul_add_div hp,Nat.div_eq_of_lt (by omega)];omega
  ·rw[if_neg hlt];have hAB:B'≤A':=by
    rcases Nat.lt_or_ge A' B' with q | q
    ·have:=Nat.mul_le_mul_left P q;rw[Nat.mul_succ] at this;omega
    ·exact q
   obtain ⟨c,hc⟩:∃c,A'=B'+c:=⟨A'-B',by omega⟩;have e1:P*A'=P*B'+P*c:=by rw[hc,Nat.mul_add]
   have e2:A-B=P*c+(a-b):=by omega
   rw[e2,Nat.mul_add_div hp,Nat.div_eq_of_lt (by omega)];omega
 generalize (A-B) / P=D at *
 have cmp:(P*(A' % 256)+a<P*(B' % 256)+b)↔(A' % 256<B' % 256∨A' % 256=B' % 256∧a<b):=by
  rcases Nat.lt_trichotomy (A' % 256) (B' % 256) with q | q | q
  ·have:=Nat.mul_le_mul_left P q;rw[Nat.mul_succ] at this;constructor
   ·intro _;exact .inl q
   ·intro _;omega
  ·rw[q];constructor
   ·intro h;exact .inr ⟨rfl,by omega⟩
   ·rintro (h | ⟨_,h⟩)<;>omega
  ·have:=Nat.mul_le_mul_left P q;rw[Nat.mul_succ] at this;constructor
   ·intro h;omega
   ·rintro (h | ⟨h,_⟩)<;>omega
 by_cases hab:a<b
 ·simp only[if_pos hab] at key ⊢;constructor
  ·intro h;rw[if_pos (cmp.2 (by omega))];exact ⟨rfl,by omega⟩
  ·intro h;rw[if_neg (fun q=>by have:=cmp.1 q;omega)];exact ⟨rfl,by omega⟩
 ·simp only[if_neg hab] at key ⊢;constructor
  ·intro h;rw[if_pos (cmp.2 (by omega))];exact ⟨rfl,by omega⟩
  ·intro h;rw[if_neg (fun q=>by have:=cmp.1 q;omega)];exact ⟨rfl,by omega⟩
theorem h2v (n:Nat) {A B:Nat} (hle:B≤A) (s4:Wd):∀(k f i:Nat),i+k=16→k<f →
  m0r n f (s4,subL A B i,bys B,((owe A B i:Nat):Int),(i:Int),())=some (.inl (s4,bys (A-B),())):=by
 intro k;induction k with
 | zero =>
  intro f i hi hf;obtain ⟨f,rfl⟩:∃g,f=g+1:=⟨f-1,by omega⟩;have:i=16:=by omega
  subst this;rw[z0w,decide_eq_false (by decide),tff];congr 3
 | succ k ih =>
  intro f i hi hf;obtain ⟨f,rfl⟩:∃g,f=g+1:=⟨f-1,by omega⟩;have hlt:i<16:=by omega
  have g1:=y1v A i;have g2:=y1v B i;have g3:=y1v (A-B) i;have g4:owe A B i≤1:=by unfold owe;split<;>omega
  obtain ⟨s1,s2⟩:=owe_step hle i;have next:=ih f (i+1) (by omega) (by omega);rw[z0w,e1l,i1y,Int.toNat_natCast,z1p _ _ _ hlt,y1w _ hlt,if_neg (Nat.lt_irrefl i)];simp only[decide_eq_true (show (i:Int)<16 by omega),decide_eq_true (show (0:Int)≤(i:Int) by omega),decide_eq_true (show (i:Int)<((16:Nat):Int) by omega),Bool.and_self,tft,obs];rw[w64 (x:=((byt A i:Nat):Int)-((byt B i:Nat):Int)) (by omega) (by omega),w64 (x:=((byt A i:Nat):Int)-((byt B i:Nat):Int)-((owe A B i:Nat):Int)) (by omega) (by omega),w64 (x:=(i:Int)+1) (by omega) (by omega),tfd]
  by_cases h:byt A i<byt B i+owe A B i
  ·obtain ⟨t1,t2⟩:=s1 h;rw[t1] at next;rw[if_pos (by omega),w64 (by omega) (by omega),show ((byt A i:Nat):Int)-((byt B i:Nat):Int)-((owe A B i:Nat):Int)+256=((byt (A-B) i:Nat):Int) by omega,d2p _ _ hlt];exact next
  ·obtain ⟨t1,t2⟩:=s2 (by omega);rw[t1] at next;rw[if_neg (by omega),show ((byt A i:Nat):Int)-((byt B i:Nat):Int)-((owe A B i:Nat):Int)=((byt (A-B) i:Nat):Int) by omega,d2p _ _ hlt];exact next
theorem r1r (n:Nat) {A B:Nat} (hA:A<340282366920938463463374607431768211456) (hle:B≤A):g1q (n+3) (ofN A) (ofN B)=some (ofN (A-B),0):=by
 obtain ⟨ra,ha,hla⟩:=v0p (n+1) hA;obtain ⟨rb,hb,hlb⟩:=v0p (n+1) (Nat.lt_of_le_of_lt hle hA);rw[h2y,w1q n hA (Nat.lt_of_le_of_lt hle hA),obs,decide_eq_false (by omega),tff,ha,obs,hb,obs];rw[show (decide (16=((((((((((((((((1+1)+1)+1)+1)+1)+1)+1)+1)+1)+1)+1)+1)+1)+1)+1) / 1)))=true from rfl,tft,tft];have e0:subL A B 0=bys A:=by unfold subL bys;apply List.map_congr_left;intro j _;rw[if_neg (Nat.not_lt_zero j)]
 have:=h2v (n+2) hle (0,0) 16 a0d 0 rfl (by decide);rw[e0,show owe A B 0=0 by unfold owe;simp[Nat.mod_one],←hla,←hlb] at this
 change a0b (m0r (n+2) a0d ((0,0),l16 ra,l16 rb,((0:Nat):Int),((0:Nat):Int),())) _=_
 rw[this,obs,a0n];exact l2r (n+1) (Nat.lt_of_le_of_lt (Nat.sub_le _ _) hA) (fun r=>some (r,0)) rfl
theorem lo_ofN {b:Nat} (h:b<18446744073709551616):(((0:Int),(b:Int)):Wd)=ofN b:=by
 unfold ofN;rw[Nat.div_eq_of_lt h,Nat.mod_eq_of_lt h];rfl
theorem shr64 (v k:Nat) (hk:k≤64):shrI .i64 (v:Int) (k:Int)=((v / 2^k:Nat):Int):=shrN v k hk
theorem and1 {v:Nat} (h:v<256):andI .i64 (v:Int) (1:Int)=((v % 2:Nat):Int):=by
 unfold andI;have e2:(BitVec.ofInt IntKind.i64.bits (v:Int) &&& BitVec.ofInt IntKind.i64.bits (1:Int)).toNat=v % 2:=by
  show (BitVec.ofInt 64 (v:Int) &&& BitVec.ofInt 64 ((1:Nat):Int)).toNat=_;rw[BitVec.toNat_and,BitVec.ofInt_natCast,BitVec.ofInt_natCast,BitVec.toNat_ofNat,BitVec.toNat_ofNat,Nat.mod_eq_of_lt (by omega),Nat.mod_eq_of_lt (by omega)];exact Nat.and_one_is_mod v
 rw[e2];exact w64 (by omega) (by omega)
theorem orbit {v j:Nat} (h:v<256) (hj:j<8):orI .i64 (v:Int) (shlI .i64 (1:Int) (j:Int))=((v ||| 2^j:Nat):Int):=by
 have hp:2^j<256:=Nat.lt_of_lt_of_le (Nat.pow_lt_pow_right (a:=2) (n:=8) (by decide) hj) (by decide);have e1:shlI .i64 (1:Int) (j:Int)=((2^j:Nat):Int):=by
  show IntKind.wrap .i64 ((1:Int)*2^(min (j:Int).toNat 64))=_;rw[show min (j:Int).toNat 64=j by omega,Int.one_mul];have:(2:Int)^j=((2^j:Nat):Int):=by simp
  rw[this];generalize 2^j=p at hp;exact w64 (by omega) (by omega)
 rw[e1];unfold orI;have e2:(BitVec.ofInt IntKind.i64.bits (v:Int) ||| BitVec.ofInt IntKind.i64.bits ((2^j:Nat):Int)).toNat=v ||| 2^j:=by
  show (BitVec.ofInt 64 (v:Int) ||| BitVec.ofInt 64 ((2^j:Nat):Int)).toNat=_;rw[BitVec.toNat_or,BitVec.ofInt_natCast,BitVec.ofInt_natCast,BitVec.toNat_ofNat,BitVec.toNat_ofNat,Nat.mod_eq_of_lt (by omega),Nat.mod_eq_of_lt (by omega)]
 rw[e2];have:v ||| 2^j<2^8:=Nat.or_lt_two_pow (by omega) (by omega)
 exact w64 (by omega) (by omega)
theorem bys_set {v i:Nat} (hi:i<128) (h:2^(i+1) ∣ v):(bys v).set (i / 8) ((byt v (i / 8) ||| 2^(i % 8):Nat):Int)=bys (v+2^i):=by
 apply List.ext_getElem?;intro j;rw[List.getElem?_set,i1y];by_cases hj:j<16
 ·rw[y1w _ hj,y1w _ hj,byt_or h];by_cases e:i / 8=j
  ·rw[if_pos e,if_pos e,if_pos (by omega),e]
  ·rw[if_neg e,if_neg e]
 ·rw[if_neg (by omega),List.getElem?_eq_none (by rw[i1y];omega),List.getElem?_eq_none (by rw[i1y];omega)]
theorem bit_at (A:Nat) {k:Nat}:IntKind.wrap .u64 (andI .i64 (shrI .i64 ((byt A (k / 8):Nat):Int) ((k % 8:Nat):Int)) (1:Int))=((A / 2^k % 2:Nat):Int):=by
 have hb:=y1v A (k / 8);rw[shr64 _ _ (by omega),and1 (Nat.lt_of_le_of_lt (Nat.div_le_self _ _) hb),bit_byt,wu64 (by omega) (by omega)]
theorem w1n (n:Nat) {A D:Nat} (hA:A<340282366920938463463374607431768211456) (hD:D<340282366920938463463374607431768211456) (hD0:0<D) (s4 s5:Wd):∀(k f q r:Nat),k≤128→A / 2^k=D*q+r→r<D→k<f →
  g0u (n+3) f (ofN D,s4,s5,bys (q*2^k),ofN r,bys A,(k:Int)-1,())=some (.inl (s4,s5,bys (A / D),ofN (A % D),())):=by
 intro k;induction k with
 | zero =>
  intro f q r hk h hr hf;obtain ⟨f,rfl⟩:∃g,f=g+1:=⟨f-1,by omega⟩;rw[Nat.pow_zero,Nat.div_one] at h;obtain ⟨e1,e2⟩:=(Nat.div_mod_unique (a:=A) (c:=r) (d:=q) hD0).2 ⟨by omega,hr⟩;rw[t0z,decide_eq_false (by omega),tff,e1,e2,Nat.pow_zero,Nat.mul_one]
 | succ k ih =>
  intro f q r hk h hr hf;obtain ⟨f,rfl⟩:∃g,f=g+1:=⟨f-1,by omega⟩;obtain ⟨d1,d2⟩:=div_step (L:=0) hD0 h hr;have e1:IntKind.wrap .i64 (Int.tdiv (k:Int) 8)=((k / 8:Nat):Int):=by rw[l0l (by omega),w64 (by omega) (by omega)];omega
  have e2:Int.tmod (k:Int) 8=((k % 8:Nat):Int):=by rw[g0d (by omega)];omega
  have eb:((k+1:Nat):Int)-1=(k:Int):=by omega
  have hk8:k / 8<16:=by omega
  have hbit:A / 2^k % 2<2:=Nat.mod_lt _ (by decide);have hdvd:2^(k+1) ∣ q*2^(k+1):=Nat.dvd_mul_left _ _;have eq1:(2*q+1)*2^k=q*2^(k+1)+2^k:=by rw[Nat.pow_succ,Nat.add_mul,Nat.one_mul,Nat.mul_comm 2 q,Nat.mul_assoc,Nat.mul_comm 2 (2^k)]
  have eq0:(2*q)*2^k=q*2^(k+1):=by rw[Nat.pow_succ,Nat.mul_comm 2 q,Nat.mul_assoc,Nat.mul_comm 2 (2^k)]
  have hset:=bys_set (v:=q*2^(k+1)) (i:=k) (by omega) hdvd;have hob:=orbit (v:=byt (q*2^(k+1)) (k / 8)) (j:=k % 8) (y1v _ _) (by omega);have c1:decide ((0:Int)≤((k / 8:Nat):Int))=true:=decide_eq_true (by omega);have c2:decide (((k / 8:Nat):Int)<(16:Int))=true:=decide_eq_true (by omega);have c3:decide (((k / 8:Nat):Int)<((16:Nat):Int))=true:=decide_eq_true (by omega);have c4:decide (((k % 8:Nat):Int)<(0:Int))=false:=decide_eq_false (by omega);rw[t0z,eb,decide_eq_true (by omega),tft,e1u (n+1) (by omega) (by omega),obs]
  simp only[e1,e2,i1y,c1,c2,c3,c4,Bool.and_self,tft,tff,Int.toNat_natCast,y1w _ hk8,obs,bit_at,hob,hset];rw[w64 (x:=(k:Int)-1) (by omega) (by omega),lo_ofN (b:=A / 2^k % 2) (by omega)];generalize hb:A / 2^k % 2=b at *
  by_cases hov:r+r<340282366920938463463374607431768211456
  ·rw[if_pos hov];simp only[decide_true,Bool.not_true,tff];rw[e1u (n+1) hov (by omega),obs,if_pos (by omega)];simp only;rw[w1q (n+1) (by omega) hD,obs,tfn,tfd];by_cases hlt:r+r+b<D
   ·rw[if_pos hlt];have:=ih f (2*q) (r+r+b) (by omega) (by rw[d2 (by omega)];omega) hlt (by omega);rw[eq0] at this;exact this
   ·obtain ⟨t1,t2⟩:=d1 (by omega);rw[if_neg hlt,r1r n (by omega) (by omega),obs];have:=ih f (2*q+1) (r+r+b-D) (by omega) (by rw[t1];omega) (by omega) (by omega);rw[eq1] at this;exact this
  ·rw[if_neg hov];simp only[show (decide ((1:Int)=0))=false from rfl,Bool.not_false,tft];obtain ⟨t1,t2⟩:=d1 (by omega);rw[r1r n hD (by omega),obs];simp only;rw[r1r n (by omega) (by omega),obs];simp only;rw[e1u (n+1) (by omega) (by omega),obs,if_pos (by omega)];simp only;have:=ih f (2*q+1) (r-(D-r)+b) (by omega) (by rw[t1];omega) (by omega) (by omega);rw[eq1] at this;exact this
theorem z0u (n:Nat) {A D:Nat} (hA:A<340282366920938463463374607431768211456) (hD:D<340282366920938463463374607431768211456):u0a (n+4) (ofN A) (ofN D)=some (if D=0 then (ofN 0,ofN A) else (ofN (A / D),ofN (A % D))):=by
 rw[w1o,v0t,tfd];by_cases h0:D=0
 ·rw[if_pos h0,if_pos h0];rfl
 ·obtain ⟨ra,ha,hla⟩:=v0p (n+2) hA;rw[if_neg h0,if_neg h0,ha,obs];rw[show (decide (16=((((((((((((((((1+1)+1)+1)+1)+1)+1)+1)+1)+1)+1)+1)+1)+1)+1)+1) / 1)))=true from rfl,tft];have:=w1n n hA hD (by omega) (0,0) (0,0) 128 a0d 0 0 (Nat.le_refl _) (by rw[Nat.mul_zero];exact Nat.div_eq_of_lt hA) (by omega) (by unfold a0d;omega);rw[Nat.zero_mul,show bys 0=List.replicate 16 (0:Int) from rfl,←hla,show (((128:Nat):Int)-1)=127 from rfl,←d2k] at this
  change a0b (g0u (n+3) a0d (ofN D,(0,0),(0,0),List.replicate 16 (0:Int),(0,0),l16 ra,127,())) _=_
  rw[this,obs,a0n];exact l2r (n+2) (Nat.lt_of_le_of_lt (Nat.div_le_self _ _) hA) (fun r=>some (r,ofN (A % D))) rfl
theorem o1t (n:Nat) (s4:Wd):∀(k f a b:Nat),a<340282366920938463463374607431768211456→b≤a→a*b<2^k→k<f→v0o (n+4) f (ofN a,ofN b,s4,())=some (.inl (ofN (Nat.gcd a b),s4,())):=by
 intro k;induction k with
 | zero =>
  intro f a b ha hb hp hf;obtain ⟨f,rfl⟩:∃g,f=g+1:=⟨f-1,by omega⟩;have:b=0:=by
   rcases Nat.eq_zero_or_pos b with e | e
   ·exact e
   ·have:=Nat.mul_pos (show 0<a by omega) e;omega
  subst this;rw[r0v,v0t,decide_eq_true rfl,Bool.not_true,tff,Nat.gcd_zero_right]
 | succ k ih =>
  intro f a b ha hb hp hf;obtain ⟨f,rfl⟩:∃g,f=g+1:=⟨f-1,by omega⟩;rw[r0v,v0t];rcases Nat.eq_zero_or_pos b with e | e
  ·subst e;rw[decide_eq_true rfl,Bool.not_true,tff,Nat.gcd_zero_right]
  ·have hm:=Nat.mod_lt a e;have hh:=mod_half e hb;have hq:b*(a % b)<2^k:=by
    have:b*(2*(a % b))<b*a:=Nat.mul_lt_mul_of_pos_left hh e;rw[Nat.mul_left_comm,Nat.mul_comm b a] at this;rw[Nat.pow_succ] at hp;omega
   rw[decide_eq_false (by omega),Bool.not_false,tft,z0u n ha (by omega),obs,if_neg (by omega)];rw[ih f b (a % b) (by omega) (by omega) hq (by omega),Nat.gcd_comm b,←Nat.gcd_rec,Nat.gcd_comm]
theorem r02_gcd (n:Nat) {a b:Nat} (ha:a<340282366920938463463374607431768211456) (hb:b<340282366920938463463374607431768211456):b2w (n+5) (ofN a) (ofN b)=some (ofN (Nat.gcd a b)):=by
 have hm:∀ {x y:Nat},x<340282366920938463463374607431768211456→y<340282366920938463463374607431768211456→x*y<2^256:=fun hx hy=>Nat.lt_of_lt_of_le (Nat.mul_lt_mul'' hx hy) (by decide)
 rw[h2u];by_cases h:b≤a
 ·rw[o1t n (0,0) 256 a0d a b ha h (hm ha hb) (by unfold a0d;omega),obs,a0n]
 ·rw[show a0d=(2^70-1)+1 from rfl,r0v,v0t,decide_eq_false (by omega),Bool.not_false,tft,z0u n ha hb,obs,if_neg (by omega),Nat.mod_eq_of_lt (by omega)];rw[o1t n (0,0) 256 _ b a hb (by omega) (hm hb ha) (by omega),obs,a0n,Nat.gcd_comm]
def redV (x y:Nat):(Wd×Wd)×Int:=if y=0 then (((0,0),(0,0)),1) else ((ofN (x / Nat.gcd x y),ofN (y / Nat.gcd x y)),0)
theorem v1o (n:Nat) {x y:Nat} (hx:x<340282366920938463463374607431768211456) (hy:y<340282366920938463463374607431768211456):t0g (n+5) (ofN x) (ofN y)=some (redV x y):=by
 rw[f1z,f0z,obs,tfd];unfold redV;by_cases h:y=0
 ·rw[if_pos h,if_pos h]
 ·have hg:0<Nat.gcd x y:=Nat.gcd_pos_of_pos_right x (by omega);have hl:Nat.gcd x y<340282366920938463463374607431768211456:=Nat.lt_of_le_of_lt (Nat.gcd_le_right x (by omega)) hy;rw[if_neg h,if_neg h,l2a n hx hy,obs,t0e n hx hg hl,obs,t0e n hy hg hl,obs]
theorem h2t (n:Nat) {x y:Nat} (hx:x<340282366920938463463374607431768211456) (hy:y<340282366920938463463374607431768211456):b1t (n+6) (ofN x) (ofN y)=some (redV x y):=by
 rw[r1p,v0t,tfd];unfold redV;by_cases h:y=0
 ·rw[if_pos h,if_pos h]
 ·have hg:0<Nat.gcd x y:=Nat.gcd_pos_of_pos_right x (by omega);have hl:Nat.gcd x y<340282366920938463463374607431768211456:=Nat.lt_of_le_of_lt (Nat.gcd_le_right x (by omega)) hy;rw[if_neg h,if_neg h,r02_gcd n hx hy,obs,z0u (n+1) hx hl,obs,z0u (n+1) hy hl,obs,if_neg (by omega),if_neg (by omega)]
def l2b (a:Wd) (ms:Int):(Wd×Wd)×Int :=
 if ms=0 then (((0,0),(0,0)),12) else if wv a*1000<340282366920938463463374607431768211456 then redV (wv a*1000).toNat ms.toNat else (((0,0),(0,0)),1)
theorem o1r {a:Wd} (ha:WdOk a) {ms:Int} (hm:0≤ms∧ms≤18446744073709551615) (h:wv a*1000<340282366920938463463374607431768211456):mkW (wv a*1000)=ofN (wv a*1000).toNat∧(wv a*1000).toNat<340282366920938463463374607431768211456∧(((0:Int),ms):Wd)=ofN ms.toNat∧ms.toNat<340282366920938463463374607431768211456:=by
 obtain ⟨h1,h2⟩:=f0c ha;have e:wv a*1000=(((wv a*1000).toNat:Nat):Int):=by omega
 refine ⟨?_,by omega,?_,by omega⟩
 ·conv=>lhs;rw[e]
  exact b1z _
 ·rw[←lo_ofN (by omega)];congr 1;omega
theorem g2x (n:Nat) {a:Wd} (ha:WdOk a) {ms:Int} (hm:0≤ms∧ms≤18446744073709551615):b1o (n+6) a ms=some (l2b a ms):=by
 rw[q1y,tfd];unfold l2b;by_cases h0:ms=0
 ·rw[if_pos h0,if_pos h0]
 rw[if_neg h0,if_neg h0,n1z (n+3) ha 1000 (by omega),obs];unfold c1z;by_cases h:wv a*1000<340282366920938463463374607431768211456
 ·obtain ⟨p1,p2,p3,p4⟩:=o1r ha hm h;rw[if_pos h,if_pos h];simp only[decide_true,Bool.not_true,tff];rw[f1e,obs,p1,p3,v1o n p2 p4,obs]
 ·rw[if_neg h,if_neg h];rfl
theorem r02_rate (n:Nat) {a:Wd} (ha:WdOk a) {ms:Int} (hm:0≤ms∧ms≤18446744073709551615):r1q (n+7) a ms=some (l2b a ms):=by
 rw[b2v,tfd];unfold l2b;by_cases h0:ms=0
 ·rw[if_pos h0,if_pos h0]
 rw[if_neg h0,if_neg h0,w1p (n+3) ha 1000 (by omega),obs];unfold c1z;by_cases h:wv a*1000<340282366920938463463374607431768211456
 ·obtain ⟨p1,p2,p3,p4⟩:=o1r ha hm h;rw[if_pos h,if_pos h];simp only[decide_true,Bool.not_true,tff];rw[p1,p3,h2t n p2 p4,obs]
 ·rw[if_neg h,if_neg h];rfl
section
variable {del:Ev×Unit→Option Bool} {p:Ev→Bool} {L:List Ev} (hd:∀x∈L,del (x,())=some (p x))
include hd
end
def WidP (w:Int):Prop:=1≤w∧w≤1099511627776
instance (w:Int):Decidable (WidP w):=by unfold WidP;infer_instance
def RngP (a b:Int):Prop:=0≤a∧b≤35184372088832∧a<b
instance (a b:Int):Decidable (RngP a b):=by unfold RngP;infer_instance
def m0f (a b w:Int):Int×(Int×Int):=if WidP w∧RngP a b then (if a % w=0∧b % w=0 then (a / w,(b / w,0)) else (0,(0,10))) else (0,(0,1))
theorem v1e {w:Int} (a b:Int) (hw:WidP w) :
  (tif (decide (a<(0:Int))) (some ((0:Int),((0:Int),(1:Int)))) (
  tif (decide ((35184372088832:Int)<b)) (some ((0:Int),((0:Int),(1:Int)))) (
  tif (decide (b≤a)) (some ((0:Int),((0:Int),(1:Int)))) (
  tif (decide (w=(0:Int))) none (
  tif (!(decide ((Int.tmod a w)=(0:Int)))) (some ((0:Int),((0:Int),(10:Int)))) (
  tif (decide (w=(0:Int))) none (
  tif (!(decide ((Int.tmod b w)=(0:Int)))) (some ((0:Int),((0:Int),(10:Int)))) (
  tif (decide (w=(0:Int))) none (
  tif (decide (w=(0:Int))) none (
  some ((IntKind.wrap .i64 (Int.tdiv a w)),((IntKind.wrap .i64 (Int.tdiv b w)),(0:Int)))))))))))))=some (m0f a b w):=by
 obtain ⟨w1,w2⟩:=hw;unfold m0f;simp only[tfd,tfn];by_cases h:RngP a b
 ·obtain ⟨h1,h2,h3⟩:=h;have qa:0≤a / w∧a / w≤a:=⟨Int.ediv_nonneg h1 (by omega),Int.ediv_le_self _ h1⟩;have qb:0≤b / w∧b / w≤b:=⟨Int.ediv_nonneg (by omega) (by omega),Int.ediv_le_self _ (by omega)⟩;rw[if_neg (by omega),if_neg (by omega),if_neg (by omega),if_neg (by omega),if_pos (show WidP w∧RngP a b from ⟨⟨w1,w2⟩,h1,h2,h3⟩),g0d h1,g0d (show 0≤b by omega),l0l h1,l0l (show 0≤b by omega),w64 (by omega) (by omega),w64 (by omega) (by omega)];by_cases ha:a % w=0
  ·rw[if_pos ha,if_neg (by omega)];by_cases hb:b % w=0
   ·rw[if_pos hb,if_neg (by omega),if_neg (by omega),if_pos ⟨ha,hb⟩]
   ·rw[if_neg hb,if_neg (fun k=>hb k.2)]
  ·rw[if_neg ha,if_neg (fun k=>ha k.1)]
 ·rw[if_neg (show ¬(WidP w∧RngP a b) from fun k=>h k.2)];by_cases h1:a<0
  ·rw[if_pos h1]
  rw[if_neg h1];by_cases h2:35184372088832<b
  ·rw[if_pos h2]
  rw[if_neg h2,if_pos (by unfold RngP at h;omega)]
theorem b1c (n:Nat) (a b w:Int):h0p (n+3) a b w=some (m0f a b w):=by
 rw[f2v,f1f,wi_in,obs,obs,tfn,tfd];by_cases h:WidP w
 ·rw[if_pos (show 1≤w∧w≤1099511627776 from h)];exact v1e a b h
 ·rw[if_neg (show ¬(1≤w∧w≤1099511627776) from h)];unfold m0f;rw[if_neg (fun k=>h k.1)]
theorem v0m (n:Nat) (a b w:Int):g0h (n+2) a b w=some (m0f a b w):=by
 rw[b2i,d1i];by_cases h:WidP w
 ·rw[decide_eq_true h.1,tft,decide_eq_true h.2,obs,Bool.not_true,tff];exact v1e a b h
 ·have e:(tif (decide ((1:Int)≤w)) (some (decide (w≤(1099511627776:Int)))) (some false))=some false:=by
   rw[tfd];split
   ·rw[decide_eq_false (fun k=>h ⟨by assumption,k⟩)]
   ·rfl
  rw[e,obs,Bool.not_false,tft];unfold m0f;rw[if_neg (fun k=>h k.1)]
noncomputable def oneV (s:Sta) (k a b:Int):Int :=
 if (m0f a b (f0j s.1 k)).2.2=0 then (if (m0f a b (f0j s.1 k)).1<(oldV s.2.1 (f0j s.1 k) (tierN s.1 k)).1 then 11 else 0) else (m0f a b (f0j s.1 k)).2.2
theorem n2e {s:Sta} (h:StaOk s) {k:Int} (h0:0≤k) (h2:k≤2):i2u s k=((oldV s.2.1 (f0j s.1 k) (tierN s.1 k)).1,(s.2.1 / f0j s.1 k,0)):=by
 unfold i2u;rw[if_pos h,if_neg (by omega)]
theorem tier3 {t:Int} (h1:1≤t) (h3:t≤3):IntKind.wrap .i64 (t-1)=t-1:=w64 (by omega) (by omega)
theorem z0z (n:Nat) {s:Sta} (hw:StaW s) (h:StaOk s) {t:Int} (h1:1≤t) (h3:t≤3) (a b:Int):q0j (n+17) s t a b=some (oneV s (t-1) a b):=by
 rw[u0b,tier3 h1 h3];have hk:=n2e h (k:=t-1) (by omega) (by omega);unfold oneV;rcases (by omega:t=1∨t=2∨t=3) with e | e | e<;>subst e
 ·rw[show ((1:Int)-1)=0 from rfl] at hk ⊢;rw[decide_eq_true (show (0:Int)=0 from rfl),tft]
  change a0b (h0p _ a b (f0j s.1 0)) _=_
  rw[b1c (n+13),obs,tfn,tfd,t1k n hw 0,hk,obs];by_cases hs:(m0f a b (f0j s.1 0)).2.2=0
  ·rw[if_pos hs,if_pos hs,decide_eq_true rfl,tft,tfd];split<;>rfl
  ·rw[if_neg hs,if_neg hs]
 ·rw[show ((2:Int)-1)=1 from rfl] at hk ⊢;rw[decide_eq_false (show ¬((1:Int)=0) by decide),tff];rw[decide_eq_true (show (1:Int)=1 from rfl),tft]
  change a0b (h0p _ a b (f0j s.1 1)) _=_
  rw[b1c (n+13),obs,tfn,tfd,t1k n hw 1,hk,obs];by_cases hs:(m0f a b (f0j s.1 1)).2.2=0
  ·rw[if_pos hs,if_pos hs,decide_eq_true rfl,tft,tfd];split<;>rfl
  ·rw[if_neg hs,if_neg hs]
 ·rw[show ((3:Int)-1)=2 from rfl] at hk ⊢;rw[decide_eq_false (show ¬((2:Int)=0) by decide),tff];rw[decide_eq_false (show ¬((2:Int)=1) by decide),tff];rw[decide_eq_true (show (2:Int)=2 from rfl),tft]
  change a0b (h0p _ a b (f0j s.1 2)) _=_
  rw[b1c (n+13),obs,tfn,tfd,t1k n hw 2,hk,obs];by_cases hs:(m0f a b (f0j s.1 2)).2.2=0
  ·rw[if_pos hs,if_pos hs,decide_eq_true rfl,tft,tfd];split<;>rfl
  ·rw[if_neg hs,if_neg hs]
theorem g1c (n:Nat) {s:Sta} (hw:StaW s) (h:StaOk s) {t:Int} (h1:1≤t) (h3:t≤3) (a b:Int):r1c (n+11) s t a b=some (oneV s (t-1) a b):=by
 rw[h2e,tier3 h1 h3];have hk:=n2e h (k:=t-1) (by omega) (by omega);unfold oneV;rcases (by omega:t=1∨t=2∨t=3) with e | e | e<;>subst e
 ·rw[show ((1:Int)-1)=0 from rfl] at hk ⊢;rw[decide_eq_true (show (0:Int)=0 from rfl),tft]
  change a0b (g0h _ a b (f0j s.1 0)) _=_
  rw[v0m (n+8),obs,tfn,tfd,r1d n hw 0,hk,obs];by_cases hs:(m0f a b (f0j s.1 0)).2.2=0
  ·rw[if_pos hs,if_pos hs,tfd];split<;>rfl
  ·rw[if_neg hs,if_neg hs]
 ·rw[show ((2:Int)-1)=1 from rfl] at hk ⊢;rw[decide_eq_false (show ¬((1:Int)=0) by decide),tff];rw[decide_eq_true (show (1:Int)=1 from rfl),tft]
  change a0b (g0h _ a b (f0j s.1 1)) _=_
  rw[v0m (n+8),obs,tfn,tfd,r1d n hw 1,hk,obs];by_cases hs:(m0f a b (f0j s.1 1)).2.2=0
  ·rw[if_pos hs,if_pos hs,tfd];split<;>rfl
  ·rw[if_neg hs,if_neg hs]
 ·rw[show ((3:Int)-1)=2 from rfl] at hk ⊢;rw[decide_eq_false (show ¬((2:Int)=0) by decide),tff];rw[decide_eq_false (show ¬((2:Int)=1) by decide),tff];rw[decide_eq_true (show (2:Int)=2 from rfl),tft]
  change a0b (g0h _ a b (f0j s.1 2)) _=_
  rw[v0m (n+8),obs,tfn,tfd,r1d n hw 2,hk,obs];by_cases hs:(m0f a b (f0j s.1 2)).2.2=0
  ·rw[if_pos hs,if_pos hs,tfd];split<;>rfl
  ·rw[if_neg hs,if_neg hs]
theorem span_why (a b w:Int):(m0f a b w).2.2=0∨(m0f a b w).2.2=1∨(m0f a b w).2.2=10:=by
 unfold m0f;split
 ·split
  ·exact .inl rfl
  ·exact .inr (.inr rfl)
 ·exact .inr (.inl rfl)
theorem c2i (s:Sta) (k a b:Int):oneV s k a b=0∨oneV s k a b=1∨oneV s k a b=10∨oneV s k a b=11:=by
 unfold oneV;rcases span_why a b (f0j s.1 k) with h | h | h<;>rw[h]
 ·rw[if_pos rfl];split
  ·exact .inr (.inr (.inr rfl))
  ·exact .inl rfl
 ·exact .inr (.inl rfl)
 ·exact .inr (.inr (.inl rfl))
noncomputable def c0p (s:Sta) (a b:Int):Nat→Int→Int→Int×Int
 | 0,_,why=>(0,why)
 | d+1,t,why=>if oneV s (t-1) a b=0 then (t,0) else if oneV s (t-1) a b=1 then (0,1) else c0p s a b d (t+1) (if oneV s (t-1) a b=11 then 11 else why)
theorem z1h {s:Sta} {a b t:Int} (e:oneV s (t-1) a b=0) (d:Nat) (why:Int):c0p s a b (d+1) t why=(t,0):=by
 conv=>lhs;unfold c0p
 rw[if_pos e]
theorem z1g {s:Sta} {a b t:Int} (e:oneV s (t-1) a b=1) (d:Nat) (why:Int):c0p s a b (d+1) t why=(0,1):=by
 conv=>lhs;unfold c0p
 rw[if_neg (by omega),if_pos e]
theorem p1t {s:Sta} {a b t:Int} (e:oneV s (t-1) a b=10) (d:Nat) (why:Int):c0p s a b (d+1) t why=c0p s a b d (t+1) why:=by
 conv=>lhs;unfold c0p
 rw[if_neg (by omega),if_neg (by omega),if_neg (by omega)]
theorem p1s {s:Sta} {a b t:Int} (e:oneV s (t-1) a b=11) (d:Nat) (why:Int):c0p s a b (d+1) t why=c0p s a b d (t+1) 11:=by
 conv=>lhs;unfold c0p
 rw[if_neg (by omega),if_neg (by omega),if_pos e]
theorem j1x (n:Nat) {s:Sta} (hw:StaW s) (h:StaOk s) (a b:Int):∀(d f:Nat) (t why:Int),1≤t→t+d=4→d<f →
  d0i (n+17) f (a,b,s,why,t,())=some (if (c0p s a b d t why).2=0 then .inr (c0p s a b d t why) else if (c0p s a b d t why).2=1 then .inr (c0p s a b d t why) else .inl ((c0p s a b d t why).2,()))∨(why≠10∧why≠11):=by
 intro d;induction d with
 | zero =>
  intro f t why h1 ht hf;obtain ⟨f,rfl⟩:∃g,f=g+1:=⟨f-1,by omega⟩;by_cases hy:why≠10∧why≠11
  ·exact .inr hy
  refine .inl ?_;rw[l0d,decide_eq_false (by omega),tff];unfold c0p;rw[if_neg (by simp only;omega),if_neg (by simp only;omega)]
 | succ d ih =>
  intro f t why h1 ht hf;obtain ⟨f,rfl⟩:∃g,f=g+1:=⟨f-1,by omega⟩;by_cases hy:why≠10∧why≠11
  ·exact .inr hy
  refine .inl ?_;rw[l0d,decide_eq_true (by omega),tft,z0z n hw h h1 (by omega),obs,w64 (by omega) (by omega)];simp only[tfd];rcases c2i s (t-1) a b with e | e | e | e
  ·rw[z1h e,e,if_pos rfl,if_pos rfl]
  ·rw[z1g e,e,if_neg (by decide),if_neg (by decide),if_neg (by decide),if_neg (by decide),if_pos rfl]
  ·rw[p1t e,e,if_neg (by decide),if_pos rfl];exact (ih f (t+1) why (by omega) (by omega) (by omega)).resolve_right hy
  ·rw[p1s e,e,if_neg (by decide),if_neg (by decide),if_pos rfl];exact (ih f (t+1) 11 (by omega) (by omega) (by omega)).resolve_right (by decide)
theorem c2a (n:Nat) {s:Sta} (hw:StaW s) (h:StaOk s) (a b:Int):o0a (n+18) s a b=some (c0p s a b 3 1 10):=by
 rw[z0y]
 change a0b (d0i (n+17) a0d (a,b,s,10,1,())) _=_
 rw[(j1x n hw h a b 3 a0d 1 10 (by decide) rfl (by unfold a0d;omega)).resolve_right (by decide),obs];split
 ·rfl
 ·split
  ·rfl
  ·rename_i h0 h1;rw[a0n];have hz:(c0p s a b 3 1 10).1=0:=by
    have key:∀(d:Nat) (t why:Int),(c0p s a b d t why).2≠0→(c0p s a b d t why).1=0:=by
     intro d;induction d with
     | zero=>intro t why _;rfl
     | succ d ih =>
      intro t why;unfold c0p;split
      ·intro k;exact absurd rfl k
      ·split
       ·intro _;rfl
       ·exact ih _ _
    exact key 3 1 10 h0
   exact congrArg some (Prod.ext hz.symm rfl)
theorem r1b (n:Nat) {s:Sta} (hw:StaW s) (h:StaOk s) (a b:Int):∀(d f:Nat) (t:Int) (ex:Bool),1≤t→t+d=4→d<f →
  l0b (n+11) f (a,b,s,ex,t,())=some (if (c0p s a b d t (if ex then 11 else 10)).2=0 then .inr (c0p s a b d t (if ex then 11 else 10)) else if (c0p s a b d t (if ex then 11 else 10)).2=1 then .inr (c0p s a b d t (if ex then 11 else 10)) else .inl (decide ((c0p s a b d t (if ex then 11 else 10)).2=11),())):=by
 intro d;induction d with
 | zero =>
  intro f t ex h1 ht hf;obtain ⟨f,rfl⟩:∃g,f=g+1:=⟨f-1,by omega⟩;rw[t0l,decide_eq_false (by omega),tff];unfold c0p;cases ex<;>rfl
 | succ d ih =>
  intro f t ex h1 ht hf;obtain ⟨f,rfl⟩:∃g,f=g+1:=⟨f-1,by omega⟩;rw[t0l,decide_eq_true (by omega),tft,g1c n hw h h1 (by omega),obs,w64 (by omega) (by omega)];simp only[tfd];rcases c2i s (t-1) a b with e | e | e | e
  ·rw[z1h e,e,if_pos rfl,if_pos rfl]
  ·rw[z1g e,e,if_neg (by decide),if_pos rfl,if_neg (by decide),if_pos rfl]
  ·rw[p1t e,e,if_neg (by decide),if_neg (by decide)];cases ex with
   | true=>rw[tft];exact ih f (t+1) true (by omega) (by omega) (by omega)
   | false=>rw[tff];exact ih f (t+1) false (by omega) (by omega) (by omega)
  ·rw[p1s e,e,if_neg (by decide),if_neg (by decide)];cases ex with
   | true=>rw[tft];exact ih f (t+1) true (by omega) (by omega) (by omega)
   | false=>rw[tff];exact ih f (t+1) true (by omega) (by omega) (by omega)
theorem j2s (s:Sta) (a b:Int):∀(d:Nat) (t why:Int),(why=10∨why=11)→(c0p s a b d t why).2=0∨((c0p s a b d t why).1=0∧((c0p s a b d t why).2=1∨(c0p s a b d t why).2=10∨(c0p s a b d t why).2=11)):=by
 intro d;induction d with
 | zero=>intro t why h;exact .inr ⟨rfl,.inr h⟩
 | succ d ih =>
  intro t why h;unfold c0p;split
  ·exact .inl rfl
  ·split
   ·exact .inr ⟨rfl,.inl rfl⟩
   ·refine ih _ _ ?_;split
    ·exact .inr rfl
    ·exact h
noncomputable def d0h (s:Sta) (t a b:Int):Int×Int :=
 if StaOk s then (if t<0∨3<t then (0,1) else if t=0 then c0p s a b 3 1 10 else if oneV s (t-1) a b=0 then (t,0) else (0,oneV s (t-1) a b)) else (0,2)
theorem o1v (n:Nat) {s:Sta} (hw:StaW s) (t a b:Int):m0s (n+19) s t a b=some (d0h s t a b):=by
 rw[r0x,y0p (n+4) hw,obs,tfn,tfd];unfold d0h;by_cases h:StaOk s
 case neg=>rw[if_neg h,if_neg h];rfl
 rw[if_pos h,if_pos h,if_pos rfl];simp only[tfd,tfn];by_cases h0:t<0
 ·rw[if_pos h0,if_pos (.inl h0)]
 by_cases h3:3<t
 ·rw[if_neg h0,if_pos h3,if_pos (.inr h3)]
 rw[if_neg h0,if_neg h3,if_neg (show ¬(t<0∨3<t) by omega)];by_cases hz:t=0
 ·rw[if_pos hz,if_pos hz,c2a n hw h,obs]
 ·rw[if_neg hz,if_neg hz,z0z (n+1) hw h (by omega) (by omega),obs];by_cases ho:oneV s (t-1) a b=0
  ·rw[if_pos ho,if_pos ho]
  ·rw[if_neg ho,if_neg ho]
theorem d2u (n:Nat) {s:Sta} (hw:StaW s) (t a b:Int):e1r (n+12) s t a b=some (d0h s t a b):=by
 rw[a2n,z0g (n+2) hw,obs,tfn,tfd];unfold d0h;by_cases h:StaOk s
 case neg=>rw[if_neg h,if_neg h];rfl
 rw[if_pos h,if_pos h,if_pos rfl];simp only[tfd,tfn];by_cases h0:t<0
 ·rw[if_pos h0,if_pos (.inl h0)]
 by_cases h3:3<t
 ·rw[if_neg h0,if_pos h3,if_pos (.inr h3)]
 rw[if_neg h0,if_neg h3,if_neg (show ¬(t<0∨3<t) by omega)];by_cases hz:t=0
 ·subst hz;rw[if_neg (by decide),if_pos rfl,r1b n hw h a b 3 a0d 1 false (by decide) rfl (by unfold a0d;omega),obs];rcases j2s s a b 3 1 10 (.inl rfl) with k | ⟨k1,k⟩
  ·have k':(c0p s a b 3 1 (if false=true then 11 else 10)).2=0:=k;rw[if_pos k',f0u];rfl
  ·have e:c0p s a b 3 1 (if false=true then 11 else 10)=c0p s a b 3 1 10:=rfl;rw[e];rcases k with k | k | k
   ·rw[if_neg (by rw[k];decide),if_pos k,f0u]
   ·rw[if_neg (by rw[k];decide),if_neg (by rw[k];decide),a0n,k];exact congrArg some (Prod.ext k1.symm k.symm)
   ·rw[if_neg (by rw[k];decide),if_neg (by rw[k];decide),a0n,k];exact congrArg some (Prod.ext k1.symm k.symm)
 ·rw[if_pos (by omega),if_neg hz,g1c n hw h (by omega) (by omega),obs];by_cases ho:oneV s (t-1) a b=0
  ·rw[if_pos ho,if_pos ho]
  ·rw[if_neg ho,if_neg ho]
def g2y (c:Cel):(Wd×Wd)×Int:=if c.2.2.2.2.2.2<1 then (((0,0),(0,0)),12) else l2b c.2.2.2.1 c.2.2.2.2.2.2
theorem i2b (n:Nat) {c:Cel} (hw:WdOk c.2.2.2.1) (hs:c.2.2.2.2.2.2≤9223372036854775807):q0k (n+7) c=some (g2y c):=by
 rw[r1u,tfd];unfold g2y;by_cases h:c.2.2.2.2.2.2<1
 ·rw[if_pos h,if_pos h]
 ·rw[if_neg h,if_neg h,wu64 (by omega) (by omega),g2x n hw ⟨by omega,by omega⟩,obs]
theorem d2v (n:Nat) {c:Cel} (hw:WdOk c.2.2.2.1) (hs:c.2.2.2.2.2.2≤9223372036854775807):o0n (n+8) c=some (g2y c):=by
 rw[a2o,tfd];unfold g2y;by_cases h:c.2.2.2.2.2.2<1
 ·rw[if_pos h,if_pos h]
 ·rw[if_neg h,if_neg h,wu64 (by omega) (by omega),r02_rate n hw ⟨by omega,by omega⟩,obs]
theorem g2t (n:Nat) (c:Conf) {s:Ser} (hw:SerW s) {k:Int} (h0:0≤k) (h2:k≤2) (i j:Int):d0g (n+22) c s k i j=some (t0h c s k i j):=by
 unfold t0h;rcases (by omega:k=0∨k=1∨k=2) with e | e | e
 ·subst e;rw[if_pos rfl];exact q1p n c hw i j
 ·subst e;rw[if_neg (by decide),if_pos rfl];exact q1o n c hw i j
 ·subst e;rw[if_neg (by decide),if_neg (by decide)];exact q1m n c hw i j
theorem h2f (n:Nat) (c:Conf) {s:Ser} (hw:SerW s) {k:Int} (h0:0≤k) (h2:k≤2) (i j:Int):g0s (n+10) c s k i j=some (t0h c s k i j):=by
 unfold t0h;rcases (by omega:k=0∨k=1∨k=2) with e | e | e
 ·subst e;rw[if_pos rfl];exact h2i n c hw i j
 ·subst e;rw[if_neg (by decide),if_pos rfl];exact h2h n c hw i j
 ·subst e;rw[if_neg (by decide),if_neg (by decide)];exact h2g n c hw i j
theorem k2n {a b w:Int} (h:(m0f a b w).2.2=0):WidP w∧RngP a b∧a % w=0∧b % w=0∧m0f a b w=(a / w,(b / w,0))∧0≤a / w∧a / w≤b / w:=by
 unfold m0f at h ⊢;split at h
 ·rename_i h1;split at h
  ·rename_i h2;rw[if_pos h1,if_pos h2];exact ⟨h1.1,h1.2,h2.1,h2.2,rfl,Int.ediv_nonneg h1.2.1 (by have:=h1.1.1;omega),Int.ediv_le_ediv (by have:=h1.1.1;omega) (Int.le_of_lt h1.2.2.2)⟩
  ·cases h
 ·cases h
theorem one_ok {s:Sta} {k a b:Int} (h:oneV s k a b=0):(m0f a b (f0j s.1 k)).2.2=0∧(oldV s.2.1 (f0j s.1 k) (tierN s.1 k)).1≤(m0f a b (f0j s.1 k)).1:=by
 unfold oneV at h;split at h
 ·rename_i h1;split at h
  ·cases h
  ·exact ⟨h1,by omega⟩
 ·rename_i h1;exact absurd h h1
theorem which_ok {s:Sta} {a b:Int}:∀(d:Nat) (t why:Int),why≠0→(c0p s a b d t why).2=0→t≤(c0p s a b d t why).1∧(c0p s a b d t why).1<t+d∧oneV s ((c0p s a b d t why).1-1) a b=0:=by
 intro d;induction d with
 | zero=>intro t why hw h;exact absurd h hw
 | succ d ih =>
  intro t why hw h;rcases c2i s (t-1) a b with e | e | e | e
  ·rw[z1h e];exact ⟨by simp only;omega,by simp only;omega,e⟩
  ·rw[z1g e] at h;cases h
  ·rw[p1t e] at h ⊢;obtain ⟨h1,h2,h3⟩:=ih (t+1) why hw h;exact ⟨by omega,by omega,h3⟩
  ·rw[p1s e] at h ⊢;obtain ⟨h1,h2,h3⟩:=ih (t+1) 11 (by decide) h;exact ⟨by omega,by omega,h3⟩
theorem z1j {s:Sta} {t a b:Int} (h:(d0h s t a b).2=0):StaOk s∧1≤(d0h s t a b).1∧(d0h s t a b).1≤3∧oneV s ((d0h s t a b).1-1) a b=0∧0≤t∧t≤3∧(1≤t→(d0h s t a b).1=t):=by
 unfold d0h at h ⊢;by_cases hs:StaOk s
 case neg=>rw[if_neg hs] at h;cases h
 rw[if_pos hs] at h ⊢;by_cases h1:t<0∨3<t
 ·rw[if_pos h1] at h;cases h
 rw[if_neg h1] at h ⊢;by_cases h0:t=0
 ·rw[if_pos h0] at h ⊢;obtain ⟨k1,k2,k3⟩:=which_ok 3 1 10 (by decide) h;exact ⟨hs,k1,by omega,k3,by omega,by omega,by omega⟩
 ·rw[if_neg h0] at h ⊢;by_cases ho:oneV s (t-1) a b=0
  ·rw[if_pos ho];exact ⟨hs,by simp only;omega,by simp only;omega,ho,by omega,by omega,fun _=>rfl⟩
  ·rw[if_neg ho] at h;exact absurd h ho
noncomputable def e1i (s:Sta) (l:List Lab) (k a b:Int):Cel :=
 match x0s s l with
 | some i=>(t0h s.1 ((s.2.2.2[i]?).getD ser0) k (a / f0j s.1 k) (b / f0j s.1 k)).1
 | none=>z0
theorem found {s:Sta} (hs:StaOk s) {l:List Lab} {i:Nat} (h:x0s s l=some i):∃x,s.2.2.2[i]? = some x∧x.1=l∧LvX s x∧SerOk s.1 x:=by
 obtain ⟨x,hx,h1,h2,_⟩:=p1h.1 h;exact ⟨x,hx,h1,h2,(m2r hs (List.mem_of_getElem? hx) h2).1⟩
theorem w1t (n:Nat) {s:Sta} (hw:StaW s) (hs:StaOk s) {q:List Lab×(Int×(Int×Int))} {k:Int} (h0:0≤k) (h2:k≤2) (ho:oneV s k q.2.2.1 q.2.2.2=0):a1a (n+23) s q k=some (e1i s q.1 k q.2.2.1 q.2.2.2,0):=by
 obtain ⟨l,t,a,b⟩:=q;simp only at ho ⊢;rw[x0j];simp only;rw[stt_find (n+12) hw l,obs,tfn,tfd];unfold e1i;cases hf:x0s s l with
 | none=>rw[p1j hs.whole hf,if_neg (show ¬((3:Int)=0) by decide)];rfl
 | some i =>
  obtain ⟨x,hx,hxl,hlv,hok⟩:=found hs hf;obtain ⟨s1,s2⟩:=one_ok ho;obtain ⟨_,_,_,_,e,e1,e2⟩:=k2n s1;have hfine:=g1b hok k e1 e2;rw[p1i hs.whole hf,if_pos rfl];simp only[hx,Option.getD_some];have fin:∀(x':Ser),x'=x→a0b (d0g (n+22) s.1 x' k (a / f0j s.1 k) (b / f0j s.1 k)) (fun r=>some r)=some ((t0h s.1 x k (a / f0j s.1 k) (b / f0j s.1 k)).1,0):=by
   rintro x' rfl;rw[g2t n s.1 (hw.at hx).1 h0 h2,obs];exact congrArg some (Prod.ext rfl hfine)
  rcases (by omega:k=0∨k=1∨k=2) with ek | ek | ek<;>subst ek
  ·rw[decide_eq_true rfl,tft]
   change a0b (h0p (n+22) a b (f0j s.1 0)) _=_
   rw[b1c (n+19),obs,e];simp only[decide_true,Bool.not_true,tff];rw[u0u hx,obs];exact fin x rfl
  ·rw[decide_eq_false (show ¬((1:Int)=0) by decide),tff,decide_eq_true rfl,tft]
   change a0b (h0p (n+22) a b (f0j s.1 1)) _=_
   rw[b1c (n+19),obs,e];simp only[decide_true,Bool.not_true,tff];rw[u0u hx,obs];exact fin x rfl
  ·rw[decide_eq_false (show ¬((2:Int)=0) by decide),tff,decide_eq_false (show ¬((2:Int)=1) by decide),tff,decide_eq_true rfl,tft]
   change a0b (h0p (n+22) a b (f0j s.1 2)) _=_
   rw[b1c (n+19),obs,e];simp only[decide_true,Bool.not_true,tff];rw[u0u hx,obs];exact fin x rfl
theorem mrgE_okc (a b:Cel):b0y (mrgE a b).1:=by
 unfold mrgE;split
 ·rename_i h;split
  ·rename_i ha;exact x1n h.1 h.2 ha
  ·exact u0j
 ·exact u0j
theorem b1q (ok:Prop) [Decidable ok] (i j last w:Int) (t:List Slo) (now:Cel×Int):b0y (d0l ok i j last w t now).1:=by
 unfold d0l;split
 ·split
  ·exact u0j
  split
  ·exact u0j
  split
  ·exact u0j
  split
  ·exact y0k _ _ _
  split
  ·exact y0k _ _ _
  split
  ·exact u0j
  ·exact mrgE_okc _ _
 ·exact u0j
theorem g2z (c:Conf) (s:Ser) (k i j:Int):b0y (t0h c s k i j).1:=by
 unfold t0h;split
 ·exact b1q _ _ _ _ _ _ _
 split
 ·exact b1q _ _ _ _ _ _ _
 ·exact b1q _ _ _ _ _ _ _
theorem t1y (s:Sta) (l:List Lab) (k a b:Int):b0y (e1i s l k a b):=by
 unfold e1i;split
 ·exact g2z _ _ _ _ _
 ·exact u0j
theorem x0y {c:Cel} (h:b0y c):WdOk c.2.2.2.1∧c.2.2.2.2.2.2≤9223372036854775807:=by
 rcases h with rfl | h
 ·exact ⟨⟨by simp[z0],by simp[z0]⟩,by simp[z0]⟩
 ·have h1:=h.s1;have h2:=h.l.t1;have h3:=h.f.t0;exact ⟨h.w,by omega⟩
abbrev zr:Int×(Cel×((Wd×Wd)×Int)):=(0,(z0,(((0,0),(0,0)),0)))
noncomputable def doQ (s:Sta) (l:List Lab) (t a b:Int):(Int×(Cel×((Wd×Wd)×Int)))×Int :=
 if StaOk s then (if LabOk l then (if (d0h s t a b).2=0 then (((d0h s t a b).1,(e1i s l ((d0h s t a b).1-1) a b,g2y (e1i s l ((d0h s t a b).1-1) a b))),0) else (zr,(d0h s t a b).2)) else (zr,8)) else (zr,2)
theorem r1t (n:Nat) {s:Sta} (hw:StaW s) (l:List Lab):u0d (n+15) s l=some (if StaOk s then (if LabOk l then 0 else 8) else 2):=by
 rw[u0c,y0p n hw,obs,tfn,tfd];by_cases h:StaOk s
 ·rw[if_pos h,if_pos h,if_pos rfl,x0q (n+8) l,obs]
 ·rw[if_neg h,if_neg h,if_neg (by decide)]
theorem query_do (n:Nat) {s:Sta} (hw:StaW s) (q:List Lab×(Int×(Int×Int))):a1b (n+24) s q=some (doQ s q.1 q.2.1 q.2.2.1 q.2.2.2):=by
 rw[x0k,r1t (n+8) hw,obs,tfn,tfd];unfold doQ;by_cases h:StaOk s
 case neg=>rw[if_neg h,if_neg h,if_neg (by decide)];rfl
 rw[if_pos h,if_pos h];by_cases hl:LabOk q.1
 case neg=>rw[if_neg hl,if_neg hl,if_neg (by decide)];rfl
 rw[if_pos hl,if_pos hl,if_pos rfl,o1v (n+4) hw,obs,tfn,tfd];by_cases ht:(d0h s q.2.1 q.2.2.1 q.2.2.2).2=0
 case neg=>rw[if_neg ht,if_neg ht];rfl
 obtain ⟨_,t1,t3,ho,_⟩:=z1j ht;have hr:=x0y (t1y s q.1 ((d0h s q.2.1 q.2.2.1 q.2.2.2).1-1) q.2.2.1 q.2.2.2);rw[if_pos ht,if_pos ht,w64 (by omega) (by omega),w1t n hw h (by omega) (by omega) ho,obs];simp only[decide_true,Bool.not_true,tff];rw[i2b (n+16) hr.1 hr.2,obs]
theorem r22_do (n:Nat) {s:Sta} (hw:StaW s) (q:List Lab×(Int×(Int×Int))):l2f (n+13) s q=some (doQ s q.1 q.2.1 q.2.2.1 q.2.2.2):=by
 obtain ⟨l,t,a,b⟩:=q;rw[l2e];simp only;rw[z0g (n+3) hw,obs,tfn,tfd];unfold doQ;by_cases h:StaOk s
 case neg=>rw[if_neg h,if_neg h,if_neg (by decide)];rfl
 rw[if_pos h,if_pos h,if_pos rfl,g1n (n+10) l,obs,tfn,tfd];by_cases hl:LabOk l
 case neg=>rw[if_neg hl,if_neg hl,if_neg (by decide)];rfl
 rw[if_pos hl,if_pos hl,if_pos rfl,d2u n hw,obs,tfn,tfd];by_cases ht:(d0h s t a b).2=0
 case neg=>rw[if_neg ht,if_neg ht];rfl
 obtain ⟨_,t1,t3,ho,_⟩:=z1j ht;have hc:=t1y s l ((d0h s t a b).1-1) a b;have hr:=x0y hc;generalize hk:(d0h s t a b).1=k at *
 rw[if_pos ht,if_pos ht,w64 (by omega) (by omega),r17_find (n+5) hw l,obs,tfd];cases hf:x0s s l with
 | none =>
  have e:e1i s l (k-1) a b=z0:=by unfold e1i;rw[hf]
  rw[p1j h.whole hf,if_neg (show ¬((3:Int)=0) by decide)]
  change a0b (o0n (n+12) z0) _=_
  rw[d2v (n+4) (c:=z0) (e ▸ hr).1 (e ▸ hr).2,obs,e];rfl
 | some i =>
  obtain ⟨x,hx,hxl,hlv,hok⟩:=found h hf;obtain ⟨s1,s2⟩:=one_ok ho;obtain ⟨_,_,_,_,e,e1,e2⟩:=k2n s1;have hfine:=g1b hok (k-1) e1 e2;have ec:e1i s l (k-1) a b=(t0h s.1 x (k-1) (a / f0j s.1 (k-1)) (b / f0j s.1 (k-1))).1:=by unfold e1i;simp only[hf,hx,Option.getD_some]
  rw[p1i h.whole hf,if_pos rfl];simp only;have fin:(a0b (g0s (n+12) s.1 x (k-1) (a / f0j s.1 (k-1)) (b / f0j s.1 (k-1))) fun r6=>tif (!(decide (r6.2=(0:Int)))) (some (zr,r6.2)) (a0b (o0n (n+12) r6.1) fun r7=>some ((k,(r6.1,r7)),(0:Int))))=some ((k,(e1i s l (k-1) a b,g2y (e1i s l (k-1) a b))),0):=by
   rw[h2f (n+2) s.1 (hw.at hx).1 (by omega) (by omega),obs,tfn,tfd,if_pos hfine,←ec,d2v (n+4) hr.1 hr.2,obs]
  rcases (by omega:k=1∨k=2∨k=3) with ek | ek | ek<;>subst ek
  ·rw[decide_eq_true (show (1:Int)-1=0 from rfl),tft]
   change a0b (g0h (n+12) a b (f0j s.1 (1-1))) _=_
   rw[v0m (n+10),obs,e,u0u hx,obs];exact fin
  ·rw[decide_eq_false (show ¬((2:Int)-1=0) by decide),tff,decide_eq_true (show (2:Int)-1=1 from rfl),tft]
   change a0b (g0h (n+12) a b (f0j s.1 (2-1))) _=_
   rw[v0m (n+10),obs,e,u0u hx,obs];exact fin
  ·rw[decide_eq_false (show ¬((3:Int)-1=0) by decide),tff,decide_eq_false (show ¬((3:Int)-1=1) by decide),tff,decide_eq_true (show (3:Int)-1=2 from rfl),tft]
   change a0b (g0h (n+12) a b (f0j s.1 (3-1))) _=_
   rw[v0m (n+10),obs,e,u0u hx,obs];exact fin
def valOf:List Lab→List UInt8→List UInt8
 | [],_=>[]
 | x::l,nm=>if (x.1==nm)=true then x.2 else valOf l nm
theorem o1b (nm:List UInt8):∀(A B:List Lab),(∀y∈A,(y.1==nm)=false)→valOf (A++B) nm=valOf B nm:=by
 intro A;induction A with
 | nil=>intro B _;rfl
 | cons x A ih =>
  intro B h;rw[List.cons_append,valOf,h x (by simp),if_neg (by decide),ih B fun y hy=>h y (by simp[hy])]
theorem o1c (nm:List UInt8) (l:List Lab) (h:∀y∈l,(y.1==nm)=false):valOf l nm=[]:=by
 have:=o1b nm l [] h;rw[List.append_nil] at this;rw[this];rfl
def hitM (m:Int×Lab) (l:List Lab):Bool :=
 if m.1=1 then valOf l m.2.1==m.2.2 else if m.1=2 then !(valOf l m.2.1==m.2.2) else if m.1=3 then decide (m.2.2.length≤(valOf l m.2.1).length)&&(List.take m.2.2.length (valOf l m.2.1)==m.2.2) else false
def s0p (ms:List (Int×Lab)) (l:List Lab):Bool:=ms.all fun m=>hitM m l
def MatR (m:Int×Lab):Prop:=1≤m.1∧m.1≤3∧LabOk [m.2]
def c1w (ms:List (Int×Lab)):Prop:=ms.length≤16∧∀m∈ms,MatR m
noncomputable instance (m:Int×Lab):Decidable (MatR m):=Classical.propDecidable _
noncomputable instance (ms:List (Int×Lab)):Decidable (c1w ms):=Classical.propDecidable _
theorem n2k (n:Nat) {del:Lab×Unit→Option Bool} {p:Lab→Bool} (hd:∀x,del (x,())=some (p x)) (l:List Lab) (hL:l.length≤1000000):∀(rest pre:List Lab) (f:Nat) (i len:Int),l=pre++rest→i=pre.length→len=l.length→rest.length<f →
  (d0e n f (l,del,len,i,())=some (.inl ())∧∀x∈rest,p x=false) ∨
  (∃A x B,rest=A++x::B∧(∀y∈A,p y=false)∧p x=true∧d0e n f (l,del,len,i,())=some (.inr (i+A.length))):=by
 intro rest;induction rest with
 | nil =>
  intro pre f i len hl hi hn hf;obtain ⟨f,rfl⟩:∃g,f=g+1:=⟨f-1,by simp at hf;omega⟩;rw[i0r];exact .inl ⟨by simp only[tfd,if_neg (idxe hl hi hn)],by simp⟩
 | cons x rest ih =>
  intro pre f i len hl hi hn hf;obtain ⟨f,rfl⟩:∃g,f=g+1:=⟨f-1,by simp at hf;omega⟩;rw[i0r];simp only[tfd,if_pos (idx hl hi hn),b0g hl hi,obs,hd,idxw hl hi (show l.length≤1000000000000 by omega)];cases hp:p x with
  | true=>exact .inr ⟨[],x,rest,rfl,by simp,hp,by simp⟩
  | false =>
   rw[tff];rcases ih (pre++[x]) f (i+1) len (idxl hl) (idxs hi) hn (by simp at hf;omega) with ⟨h1,h2⟩ | ⟨A,y,B,h1,h2,h3,h4⟩
   ·exact .inl ⟨h1,by intro z hz;rcases List.mem_cons.1 hz with rfl | hz;exact hp;exact h2 z hz⟩
   ·refine .inr ⟨x::A,y,B,by rw[h1];rfl,?_,h3,by rw[h4,List.length_cons,show i+1+(A.length:Int)=i+((A.length+1:Nat):Int) by omega]⟩;intro z hz;rcases List.mem_cons.1 hz with rfl | hz
    ·exact hp
    ·exact h2 z hz
theorem c2o (n:Nat) (l:List Lab) (hL:l.length≤1000000) (nm:List UInt8):x0r (n+2) l nm=some (valOf l nm):=by
 rw[n1o,s0z];rcases n2k n (del:=fun y0=>s0g (n+1) y0.1 nm) (p:=fun x=>x.1==nm) (fun x=>e1f n x nm) l hL l [] a0d 0 l.length rfl rfl rfl (by unfold a0d;omega) with ⟨h1,h2⟩ | ⟨A,x,B,h1,h2,h3,h4⟩
 ·rw[h1,o1c nm l h2];rfl
 ·rw[h4];simp only[obs,f0u];rw[decide_eq_false (by omega),tff,b0g h1 (by omega),obs,h1,o1b nm A _ h2,valOf,if_pos h3]
theorem b2r (n:Nat) (nm:List UInt8) (l:List Lab) (hL:l.length≤1000000):∀(rest pre:List Lab) (f:Nat) (i len:Int),l=pre++rest→i=pre.length→len=l.length→rest.length<f →
  o0r n f (nm,l,len,i,())=some (if (∀x∈rest,(x.1==nm)=false) then .inl () else .inr (valOf rest nm)):=by
 intro rest;induction rest with
 | nil =>
  intro pre f i len hl hi hn hf;obtain ⟨f,rfl⟩:∃g,f=g+1:=⟨f-1,by simp at hf;omega⟩;rw[t0w,decide_eq_false (idxe hl hi hn),tff,if_pos (by simp)]
 | cons x rest ih =>
  intro pre f i len hl hi hn hf;obtain ⟨f,rfl⟩:∃g,f=g+1:=⟨f-1,by simp at hf;omega⟩;rw[t0w,decide_eq_true (idx hl hi hn),tft,b0g hl hi,obs,idxw hl hi (show l.length≤1000000000000 by omega)];cases h:x.1==nm with
  | true=>rw[tft,if_neg (fun k=>by rw[k x (by simp)] at h;cases h),valOf,if_pos h]
  | false =>
   rw[tff,ih (pre++[x]) f (i+1) len (idxl hl) (idxs hi) hn (by simp at hf;omega),valOf,h,if_neg (show ¬false=true by decide)];by_cases k:∀y∈rest,(y.1==nm)=false
   ·rw[if_pos k,if_pos];intro y hy;rcases List.mem_cons.1 hy with rfl | hy
    ·exact h
    ·exact k y hy
   ·rw[if_neg k,if_neg fun q=>k fun y hy=>q y (by simp[hy])]
theorem l2p (n:Nat) (l:List Lab) (hL:l.length≤1000000) (nm:List UInt8):g1p (n+1) l nm=some (valOf l nm):=by
 rw[w1l,b2r n nm l hL l [] a0d 0 l.length rfl rfl rfl (by unfold a0d;omega),obs];by_cases k:∀y∈l,(y.1==nm)=false
 ·rw[if_pos k,o1c nm l k];rfl
 ·rw[if_neg k];rfl
theorem i2x (n:Nat) (s p:List UInt8):strings_HasPrefix (n+2) s p=some (decide (p.length≤s.length)&&(List.take p.length s==p)):=by
 rw[v0z,p0r];by_cases h:p.length≤s.length
 ·rw[decide_eq_true (show ((p.length:Nat):Int)≤((s.length:Nat):Int) by omega),decide_eq_true (show (0:Int)≤((p.length:Nat):Int) by omega),decide_eq_true h,Int.toNat_natCast,List.drop_zero];rfl
 ·rw[decide_eq_false (show ¬((p.length:Nat):Int)≤((s.length:Nat):Int) by omega),decide_eq_false h];rfl
theorem i2l (n:Nat) (m:Int×Lab) (l:List Lab) (hL:l.length≤1000000):c1c (n+3) m l=some (hitM m l):=by
 rw[s1g,c2o n l hL,obs,tfd,tfd,tfd,i2x];unfold hitM;by_cases h1:m.1=1
 ·rw[if_pos h1,if_pos h1]
 rw[if_neg h1,if_neg h1];by_cases h2:m.1=2
 ·rw[if_pos h2,if_pos h2]
 rw[if_neg h2,if_neg h2];by_cases h3:m.1=3
 ·rw[if_pos h3,if_pos h3];rfl
 ·rw[if_neg h3,if_neg h3]
theorem r06_hits (n:Nat) (m:Int×Lab) (l:List Lab) (hL:l.length≤1000000):r1n (n+2) m l=some (hitM m l):=by
 rw[b2p,l2p n l hL,obs,tfd,tfd,tfd];unfold hitM;by_cases h1:m.1=1
 ·rw[if_pos h1,if_pos h1]
 rw[if_neg h1,if_neg h1];by_cases h2:m.1=2
 ·rw[if_pos h2,if_pos h2]
 rw[if_neg h2,if_neg h2];by_cases h3:m.1=3
 case neg=>rw[if_neg h3,if_neg h3]
 rw[if_pos h3,if_pos h3];generalize valOf l m.2.1=s;generalize m.2.2=p;by_cases h:p.length≤s.length
 ·rw[decide_eq_true (show ((p.length:Nat):Int)≤((s.length:Nat):Int) by omega),decide_eq_true (show (0:Int)≤((p.length:Nat):Int) by omega),decide_eq_true h,Int.toNat_natCast,List.drop_zero];rfl
 ·rw[decide_eq_false (show ¬((p.length:Nat):Int)≤((s.length:Nat):Int) by omega),decide_eq_false h];rfl
theorem n2j (n:Nat) {del:(Int×Lab)×Unit→Option Bool} {p:Int×Lab→Bool} (l:List (Int×Lab)) (hd:∀x∈l,del (x,())=some (p x)) (hL:l.length≤1000000):∀(rest pre:List (Int×Lab)) (f:Nat) (i len:Int),l=pre++rest→i=pre.length→len=l.length→rest.length<f →
  (c0w n f (l,del,len,i,())=some (.inl ())∧∀x∈rest,p x=false) ∨
  (∃k:Int,0≤k∧c0w n f (l,del,len,i,())=some (.inr k)∧∃x∈rest,p x=true):=by
 intro rest;induction rest with
 | nil =>
  intro pre f i len hl hi hn hf;obtain ⟨f,rfl⟩:∃g,f=g+1:=⟨f-1,by simp at hf;omega⟩;rw[h0m];exact .inl ⟨by simp only[tfd,if_neg (idxe hl hi hn)],by simp⟩
 | cons x rest ih =>
  intro pre f i len hl hi hn hf;obtain ⟨f,rfl⟩:∃g,f=g+1:=⟨f-1,by simp at hf;omega⟩;rw[h0m];simp only[tfd,if_pos (idx hl hi hn),b0g hl hi,obs,hd x (by rw[hl];simp),idxw hl hi (show l.length≤1000000000000 by omega)];cases hp:p x with
  | true=>exact .inr ⟨i,by omega,by simp,x,by simp,hp⟩
  | false =>
   rw[tff];rcases ih (pre++[x]) f (i+1) len (idxl hl) (idxs hi) hn (by simp at hf;omega) with ⟨h1,h2⟩ | ⟨k,h1,h2,y,hy,h3⟩
   ·exact .inl ⟨h1,by intro z hz;rcases List.mem_cons.1 hz with rfl | hz;exact hp;exact h2 z hz⟩
   ·exact .inr ⟨k,h1,h2,y,by simp[hy],h3⟩
theorem d1s (n:Nat) {del:(Int×Lab)×Unit→Option Bool} {p:Int×Lab→Bool} (l:List (Int×Lab)) (hd:∀x∈l,del (x,())=some (p x)) (hL:l.length≤1000000):d0o (n+2) l del=some (l.any p):=by
 rw[o0j,r0l];rcases n2j n l hd hL l [] a0d 0 l.length rfl rfl rfl (by unfold a0d;omega) with ⟨h1,h2⟩ | ⟨k,h1,h2,x,hx,h3⟩
 ·rw[h1];have:l.any p=false:=by rw[List.any_eq_false];intro x hx;simp[h2 x hx]
  rw[this];rfl
 ·rw[h2];have:l.any p=true:=List.any_eq_true.2 ⟨x,hx,h3⟩;simp[this,h1]
theorem s1f (n:Nat) (ms:List (Int×Lab)) (hm:ms.length≤1000000) (l:List Lab) (hL:l.length≤1000000):o0d (n+5) ms l=some (s0p ms l):=by
 rw[x1o,d1s (n+2) (p:=fun m => !hitM m l) ms (fun m _=>by
  show x0p (n+3+1) m l=_
  rw[k1b,i2l n m l hL];rfl) hm,obs]
 refine congrArg some ?_;unfold s0p;rw[List.any_eq_not_all_not];simp
theorem l2o (n:Nat) (ms:List (Int×Lab)) (hm:ms.length≤1000000) (l:List Lab) (hL:l.length≤1000000):∀(rest pre:List (Int×Lab)) (f:Nat) (i len:Int),ms=pre++rest→i=pre.length→len=ms.length→rest.length<f →
  v0n (n+2) f (l,ms,len,i,())=some (if s0p rest l=true then .inl () else .inr false):=by
 intro rest;induction rest with
 | nil =>
  intro pre f i len hl hi hn hf;obtain ⟨f,rfl⟩:∃g,f=g+1:=⟨f-1,by simp at hf;omega⟩;rw[z0s,decide_eq_false (idxe hl hi hn),tff];rfl
 | cons x rest ih =>
  intro pre f i len hl hi hn hf;obtain ⟨f,rfl⟩:∃g,f=g+1:=⟨f-1,by simp at hf;omega⟩;rw[z0s,decide_eq_true (idx hl hi hn),tft,b0g hl hi,obs,r06_hits n x l hL,obs,idxw hl hi (show ms.length≤1000000000000 by omega)];have e:s0p (x::rest) l=(hitM x l&&s0p rest l):=rfl;rw[e];cases h:hitM x l with
  | true=>rw[Bool.not_true,tff,ih (pre++[x]) f (i+1) len (idxl hl) (idxs hi) hn (by simp at hf;omega),Bool.true_and]
  | false=>rfl
theorem b2o (n:Nat) (ms:List (Int×Lab)) (hm:ms.length≤1000000) (l:List Lab) (hL:l.length≤1000000):b2q (n+4) ms l=some (s0p ms l):=by
 rw[h2q,l2o (n+1) ms hm l hL ms [] a0d 0 ms.length rfl rfl rfl (by unfold a0d;omega),obs];cases s0p ms l<;>rfl
theorem h1m (n:Nat) (m:Int×Lab) (h0:0≤m.1):x0o (n+7) m=some (decide (MatR m)):=by
 rw[j1z,x0q n,obs,tfn,tfd,tfd];have e1:MatR m→1≤m.1:=fun k=>k.1
 have e2:MatR m→m.1≤3:=fun k=>k.2.1
 by_cases h1:m.1=0
 ·rw[if_pos h1,decide_eq_false (fun k=>by have:=e1 k;omega)]
 rw[if_neg h1];by_cases h2:m.1<4
 case neg=>rw[if_neg h2,decide_eq_false (fun k=>by have:=e2 k;omega)]
 rw[if_pos h2];by_cases h3:LabOk [m.2]
 ·rw[if_pos h3,decide_eq_true (show MatR m from ⟨by omega,by omega,h3⟩)];rfl
 ·rw[if_neg h3,decide_eq_false (fun k:MatR m=>h3 k.2.2)];rfl
theorem h1o (n:Nat) (ms:List (Int×Lab)) (hm:ms.length≤1000000) (hk:∀m∈ms,0≤m.1):o0c (n+10) ms=some (if c1w ms then 0 else 2):=by
 rw[k1a,tfd];have e0:c1w ms→ms.length≤16:=fun k=>k.1
 by_cases h1:16<ms.length
 ·rw[if_pos (by omega),if_neg (fun k=>by have:=e0 k;omega)]
 rw[if_neg (by omega),d1s (n+7) (p:=fun m => !decide (MatR m)) ms (fun m h=>by
  show s0d (n+8+1) m=_
  rw[e1e,h1m (n+1) m (hk m h)];rfl) hm,obs]
 by_cases h:∀m∈ms,MatR m
 ·rw[if_pos (show c1w ms from ⟨by omega,h⟩),List.any_eq_false.2 (fun m hm=>by simp[h m hm])];rfl
 ·rw[if_neg (fun k:c1w ms=>h k.2)];have:∃m∈ms,¬MatR m:=Classical.byContradiction fun k=>h fun x hx=>Classical.byContradiction fun q=>k ⟨x,hx,q⟩
  obtain ⟨m,hm,q⟩:=this;rw[List.any_eq_true.2 ⟨m,hm,by simp[q]⟩];rfl
theorem b2n (n:Nat) (ms:List (Int×Lab)) (hm:ms.length≤1000000):∀(rest pre:List (Int×Lab)) (f:Nat) (i len:Int),ms=pre++rest→i=pre.length→len=ms.length→rest.length<f →
  o0q (n+2) f (ms,len,i,())=some (if (∀m∈rest,MatR m) then .inl () else .inr 2):=by
 intro rest;induction rest with
 | nil =>
  intro pre f i len hl hi hn hf;obtain ⟨f,rfl⟩:∃g,f=g+1:=⟨f-1,by simp at hf;omega⟩;rw[t0v,decide_eq_false (idxe hl hi hn),tff,if_pos (by simp)]
 | cons x rest ih =>
  intro pre f i len hl hi hn hf;obtain ⟨f,rfl⟩:∃g,f=g+1:=⟨f-1,by simp at hf;omega⟩;rw[t0v,decide_eq_true (idx hl hi hn),tft,b0g hl hi,obs,g1n n,obs,idxw hl hi (show ms.length≤1000000000000 by omega),tfd,tfd,tfn];have hx:(∀m∈x::rest,MatR m)→MatR x:=fun k=>k x (by simp)
  by_cases h1:x.1<1
  ·rw[if_pos h1,if_neg fun k=>by have:=(hx k).1;omega]
  rw[if_neg h1];by_cases h2:3<x.1
  ·rw[if_pos h2,if_neg fun k=>by have:=(hx k).2.1;omega]
  rw[if_neg h2];by_cases h3:LabOk [x.2]
  ·rw[if_pos h3];have hx':MatR x:=⟨by omega,by omega,h3⟩;rw[show decide ((0:Int)=0)=true from rfl,tft,ih (pre++[x]) f (i+1) len (idxl hl) (idxs hi) hn (by simp at hf;omega)];by_cases k:∀m∈rest,MatR m
   ·rw[if_pos k,if_pos];intro m hm;rcases List.mem_cons.1 hm with rfl | hm
    ·exact hx'
    ·exact k m hm
   ·rw[if_neg k,if_neg fun q=>k fun m hm=>q m (by simp[hm])]
  ·rw[if_neg h3,if_neg fun k=>h3 (hx k).2.2];rfl
theorem r1m (n:Nat) (ms:List (Int×Lab)) (hm:ms.length≤1000000) (hk:∀m∈ms,0≤m.1):g1m (n+7) ms=some (if c1w ms then 0 else 2):=by
 rw[w1j,tfd];have e0:c1w ms→ms.length≤16:=fun k=>k.1
 by_cases h1:16<ms.length
 ·rw[if_pos (by omega),if_neg (fun k=>by have:=e0 k;omega)]
 rw[if_neg (by omega),b2n (n+4) ms hm ms [] a0d 0 ms.length rfl rfl rfl (by unfold a0d;omega),obs];by_cases h:∀m∈ms,MatR m
 ·rw[if_pos h,if_pos (show c1w ms from ⟨by omega,h⟩)];rfl
 ·rw[if_neg h,if_neg (fun k:c1w ms=>h k.2)];rfl
theorem len_test (L:Nat) (k:Nat) (hL:L*k≤140737488355328):((decide ((0:Int)≤(L:Int)))&&((decide ((L:Int)≤(L:Int)))&&(decide (((L:Int)*(k:Int))≤(140737488355328:Int)))))=true:=by
 have h1:(0:Int)≤(L:Int):=by omega
 have h2:((L:Int)*(k:Int))≤140737488355328:=by rw[←Int.natCast_mul];omega
 rw[decide_eq_true h1,decide_eq_true (Int.le_refl _),decide_eq_true h2];rfl
end Go.Proofs.YtgkpkajaepphjaaGreatDoor

namespace Go.Plim
set_option linter.unusedVariables false
variable {α:Type}
def Stb (key:α→Int) (d' d:List α):Prop:=∀c:Int,(d'.filter fun x=>decide (key x=c))=d.filter fun x=>decide (key x=c)
structure Mvk (key:α→Int) (d d':List α) (a b:Nat):Prop where
 mv:Mv d d' a b
 st:Stb key d' d
theorem Mvk.perm {key:α→Int} {d d':List α} {a b:Nat} (h:Mvk key d d' a b):d'.Perm d:=h.mv.perm
theorem Mvk.out {key:α→Int} {d d':List α} {a b:Nat} (h:Mvk key d d' a b):∀i,(i<a∨b≤i)→d'[i]? = d[i]? := h.mv.out
theorem Mvk.len {key:α→Int} {d d':List α} {a b:Nat} (h:Mvk key d d' a b):d'.length=d.length:=h.mv.len
theorem Mvk.refl {key:α→Int} (d:List α) (a b:Nat):Mvk key d d a b:=⟨.refl _ _ _,fun _=>rfl⟩
theorem Mvk.trans {key:α→Int} {d d' d'':List α} {a b:Nat} (h:Mvk key d d' a b) (g:Mvk key d' d'' a b):Mvk key d d'' a b:=⟨h.mv.trans g.mv,fun c=>(g.st c).trans (h.st c)⟩
theorem Mvk.mono {key:α→Int} {d d':List α} {a b a' b':Nat} (h:Mvk key d d' a b) (ha:a'≤a) (hb:b≤b'):Mvk key d d' a' b':=⟨h.mv.mono ha hb,h.st⟩
theorem Mvk.all {key:α→Int} {d d':List α} {a b:Nat} {P:α→Prop} (h:Mvk key d d' a b) (hP:∀x∈d,P x):∀x∈d',P x:=fun x hx=>hP x (h.perm.mem_iff.1 hx)
theorem Srt.keepk {key key':α→Int} {d d':List α} {a b p q:Nat} (h:Srt key d p q) (m:Mvk key' d d' a b) (hd:q≤a∨b≤p):Srt key d' p q:=h.keep m.mv hd
theorem f1p {key:α→Int} {d:List α} {i:Nat} {x y:α} (hi:d[i]? = some x) (hj:d[i+1]? = some y) (hne:key x≠key y):Stb key ((d.set i y).set (i+1) x) d∧Stb key ((d.set (i+1) x).set i y) d:=by
 have li:=(List.getElem?_eq_some_iff.1 hi).1;have lj:=(List.getElem?_eq_some_iff.1 hj).1;have e1:d=d.take i++(x::y::d.drop (i+2)):=by
  conv=>lhs;rw[←List.take_append_drop i d]
  congr 1;rw[List.drop_eq_getElem_cons li,List.drop_eq_getElem_cons lj];rw[List.getElem?_eq_getElem li] at hi;rw[List.getElem?_eq_getElem lj] at hj;rw[Option.some.inj hi,Option.some.inj hj]
 have lt:(d.take i).length=i:=by simp;omega
 generalize d.take i=A at *
 generalize d.drop (i+2)=B at *
 subst e1;have e2:((A++(x::y::B)).set i y).set (i+1) x=A++(y::x::B):=by
  rw[List.set_append_right _ _ (by omega),List.set_append_right _ _ (by omega),lt,Nat.sub_self,show i+1-i=1 by omega];rfl
 have e3:((A++(x::y::B)).set (i+1) x).set i y=A++(y::x::B):=by
  rw[List.set_append_right _ _ (by omega),List.set_append_right _ _ (by omega),lt,Nat.sub_self,show i+1-i=1 by omega];rfl
 have st:Stb key (A++(y::x::B)) (A++(x::y::B)):=by
  intro c;rw[List.filter_append,List.filter_append];congr 1;by_cases hx:key x=c
  ·have hy:¬key y=c:=fun h=>hne (by omega)
   simp[List.filter_cons,hx,hy]
  ·simp[List.filter_cons,hx]
 rw[e2,e3];exact ⟨st,st⟩
theorem f2z {key:α→Int} {d d':List α} {a m b:Nat} (t:Turned d d' a m b) (h1:a≤m) (h2:m≤b) (h3:b≤d.length)
  (hlt:∀i j x y,a≤i→i<m→m≤j→j<b→d[i]? = some x→d[j]? = some y→key y<key x):Stb key d' d:=by
 obtain ⟨P,U,V,S,hd,la,lm,lb⟩:=cut4 d h1 h2 h3;have ld:d.length=P.length+(U.length+(V.length+S.length)):=by rw[hd];simp
 have gU:∀i,i<U.length→d[a+i]? = U[i]? := by
  intro i hi;rw[hd,List.getElem?_append_right (by omega),List.getElem?_append_left (by omega)];congr 1;omega
 have gV:∀i,i<V.length→d[m+i]? = V[i]? := by
  intro i hi;rw[hd,List.getElem?_append_right (by omega),List.getElem?_append_right (by omega),List.getElem?_append_left (by omega)];congr 1;omega
 have e:d'=P++(V++(U++S)):=by
  apply List.ext_getElem?;intro i;by_cases c1:i<a
  ·rw[t.mv.out i (.inl c1),hd,List.getElem?_append_left (by omega),List.getElem?_append_left (by omega)]
  by_cases c2:i<a+(b-m)
  ·rw[t.lo i (by omega) c2,List.getElem?_append_right (by omega),List.getElem?_append_left (by omega)];rw[show i+(m-a)=m+(i-P.length) by omega];exact gV _ (by omega)
  by_cases c3:i<b
  ·rw[t.hi i (by omega) c3,List.getElem?_append_right (by omega),List.getElem?_append_right (by omega),List.getElem?_append_left (by omega)];rw[show i-(b-m)=a+(i-P.length-V.length) by omega];exact gU _ (by omega)
  ·rw[t.mv.out i (.inr (by omega)),hd,List.getElem?_append_right (by omega),List.getElem?_append_right (by omega),List.getElem?_append_right (by omega),List.getElem?_append_right (by omega),List.getElem?_append_right (by omega),List.getElem?_append_right (by omega)];congr 1;omega
 have hUV:∀x∈U,∀y∈V,key y<key x:=by
  intro x hx y hy;obtain ⟨i,hi⟩:=List.getElem?_of_mem hx;obtain ⟨j,hj⟩:=List.getElem?_of_mem hy;have li:=(List.getElem?_eq_some_iff.1 hi).1;have lj:=(List.getElem?_eq_some_iff.1 hj).1;exact hlt (a+i) (m+j) x y (by omega) (by omega) (by omega) (by omega) ((gU i li).trans hi) ((gV j lj).trans hj)
 intro c;rw[e,hd];simp only[List.filter_append];congr 1;rw[←List.append_assoc,←List.append_assoc];congr 1;by_cases hx:∃x∈U,key x=c
 ·obtain ⟨x,hxU,hxc⟩:=hx;have:V.filter (fun x=>decide (key x=c))=[]:=by
   rw[List.filter_eq_nil_iff];intro y hy;have:=hUV x hxU y hy;simp;omega
  rw[this];simp
 ·have:U.filter (fun x=>decide (key x=c))=[]:=by
   rw[List.filter_eq_nil_iff];intro x hxU hk;exact hx ⟨x,hxU,of_decide_eq_true hk⟩
  rw[this];simp
theorem y1n {key:α→Int} {d d':List α} {a m b:Nat} (h:∀i j x y,a≤i→i<m→m≤j→j<b→d[i]? = some x→d[j]? = some y→key x≤key y)
  (t:Mvk key d d' a m∨Mvk key d d' m b):∀i j x y,a≤i→i<m→m≤j→j<b→d'[i]? = some x→d'[j]? = some y→key x≤key y :=
 t1l h (t.imp (·.mv) (·.mv))
theorem d2q {key:α→Int}:∀(A B:List α),A.Pairwise (fun x y=>key x≤key y)→B.Pairwise (fun x y=>key x≤key y)→Stb key A B→A=B:=by
 intro A;induction A with
 | nil =>
  intro B _ _ h;cases B with
  | nil=>rfl
  | cons y B =>
   have:=h (key y);simp[List.filter_cons] at this
 | cons x A ih =>
  intro B hA hB h;obtain ⟨hx,hA'⟩:=List.pairwise_cons.1 hA;cases B with
  | nil =>
   have:=h (key x);simp[List.filter_cons] at this
  | cons y B =>
   obtain ⟨hy,hB'⟩:=List.pairwise_cons.1 hB;have hxB:x∈y::B:=by
    have:x∈(y::B).filter fun z=>decide (key z=key x):=by rw[←h (key x)];simp[List.filter_cons]
    exact (List.mem_filter.1 this).1
   have hyA:y∈x::A:=by
    have:y∈(x::A).filter fun z=>decide (key z=key y):=by rw[h (key y)];simp[List.filter_cons]
    exact (List.mem_filter.1 this).1
   have k1:key y≤key x:=by
    rcases List.mem_cons.1 hxB with e | e
    ·rw[e];exact Int.le_refl _
    ·exact hy x e
   have k2:key x≤key y:=by
    rcases List.mem_cons.1 hyA with e | e
    ·rw[e];exact Int.le_refl _
    ·exact hx y e
   have ke:key y=key x:=by omega
   have e:=h (key x);rw[List.filter_cons_of_pos (by simp),List.filter_cons_of_pos (by simp[ke])] at e;injection e with e1 e2;subst e1;congr 1;refine ih B hA' hB' fun c => ?_
   by_cases hc:key x=c
   ·rw[←hc];exact e2
   ·have:=h c;rw[List.filter_cons_of_neg (by simpa using hc),List.filter_cons_of_neg (by simpa using hc)] at this;exact this
theorem u1y {key:α→Int} {d:List α} (h:Srt key d 0 d.length):d.Pairwise (fun x y=>key x≤key y):=by
 rw[List.pairwise_iff_getElem];intro i j hi hj hij;exact h i j _ _ (Nat.zero_le _) hij hj (List.getElem?_eq_getElem hi) (List.getElem?_eq_getElem hj)
end Go.Plim

namespace Go.Proofs.YtgkpkajaepphjaaGreatDoor
open Go.Flat Go.Plim
set_option linter.unusedVariables false
set_option linter.unusedSimpArgs false
def a1i (cmp:(a0a×(a0a×Unit))→Option Int) (key:a0a→Int) (Pr:a0a→Prop):Prop:=∀x y,Pr x→Pr y→∃c,cmp (x,(y,()))=some c∧(c<0↔key x<key y)
section
variable {cmp:(a0a×(a0a×Unit))→Option Int} {key:a0a→Int} {Pr:a0a→Prop} (hc:a1i cmp key Pr)
include hc
theorem x1b (n:Nat) (a b:Int) (an i:Nat) (ha:a=an):∀(k f:Nat) (d:List a0a),k≤i-an→an+k≤i→k<f→i<d.length→d.length≤1000000000000→(∀x∈d,Pr x) →
  (∀p q x y,an≤p→p<q→q≤i→p≠an+k→q≠an+k→d[p]? = some x→d[q]? = some y→key x≤key y) →
  (∀q x y,an+k<q→q≤i→d[an+k]? = some x→d[q]? = some y→key x≤key y) →
  ∃d',b0n n f (d,a,b,cmp,(i:Int),((an+k:Nat):Int),())=some (.inl (d',a,b,cmp,(i:Int),()))∧Mvk key d d' an (i+1)∧Srt key d' an (i+1):=by
 subst ha;intro k;induction k with
 | zero =>
  intro f d hk hi hf hl hL hP h1 h2;obtain ⟨f,rfl⟩:∃g,f=g+1:=⟨f-1,by omega⟩;rw[d0b];simp only[tfd,if_neg (show ¬((an:Int)<((an+0:Nat):Int)) by omega)];refine ⟨d,rfl,.refl _ _ _,fun p q x y q1 q2 q3 hx hy => ?_⟩;by_cases e:p=an+0
  ·subst e;exact h2 q x y q2 (by omega) hx hy
  ·exact h1 p q x y q1 q2 (by omega) e (by omega) hx hy
 | succ k ih =>
  intro f d hk hi hf hl hL hP h1 h2;obtain ⟨f,rfl⟩:∃g,f=g+1:=⟨f-1,by omega⟩;rw[d0b];have e1:IntKind.wrap .i64 (((an+(k+1):Nat):Int)-1)=((an+k:Nat):Int):=wn (by omega) (by omega);have lj:an+(k+1)<d.length:=by omega
  have lk:an+k<d.length:=by omega
  obtain ⟨c,hcm,hlt⟩:=hc d[an+(k+1)] d[an+k] (hP _ (List.getElem_mem _)) (hP _ (List.getElem_mem _));have gj:d[an+(k+1)]? = some d[an+(k+1)]:=List.getElem?_eq_getElem lj;have gk:d[an+k]? = some d[an+k]:=List.getElem?_eq_getElem lk;simp only[tfd,if_pos (show ((an:Int)<((an+(k+1):Nat):Int)) by omega),e1,m0c,Int.toNat_natCast,gj,gk,obs,hcm];by_cases hlt':c<0
  ·have kl:=hlt.1 hlt';have g1:(d.set (an+(k+1)) d[an+k])[an+k]? = some d[an+k]:=by rw[List.getElem?_set_ne (by omega)];exact gk
   simp only[if_pos hlt',g1,obs];have sg:=i0d (d:=d) gj gk;have mv:Mvk key d ((d.set (an+(k+1)) d[an+k]).set (an+k) d[an+(k+1)]) an (i+1):=⟨b1e (d:=d) (a:=an) (b:=i+1) gj gk (by omega) (by omega) (by omega) (by omega),(f1p (d:=d) gk gj (by omega)).2⟩;obtain ⟨d',r1,r2,r3⟩:=ih f ((d.set (an+(k+1)) d[an+k]).set (an+k) d[an+(k+1)]) (by omega) (by omega) (by omega) (by simpa using hl) (by simpa using hL) (mv.all hP)
    (fun p q x y q1 q2 q3 p1 p2 hx hy=>by
     rw[sg] at hx hy;rw[if_neg p1] at hx;rw[if_neg p2] at hy;by_cases ep:p=an+(k+1)
     ·rw[if_pos ep] at hx;rw[if_neg (by omega)] at hy;have:d[an+k]? = some x:=by rw[gk];exact hx
      exact h1 (an+k) q x y (by omega) (by omega) q3 (by omega) (by omega) this hy
     ·rw[if_neg ep] at hx;by_cases eq:q=an+(k+1)
      ·rw[if_pos eq] at hy;have:d[an+k]? = some y:=by rw[gk];exact hy
       exact h1 p (an+k) x y q1 (by omega) (by omega) ep (by omega) hx this
      ·rw[if_neg eq] at hy
       exact h1 p q x y q1 q2 q3 ep eq hx hy)
    (fun q x y q1 q2 hx hy=>by
     rw[sg] at hx hy;rw[if_pos rfl] at hx;injection hx with hx;subst hx;rw[if_neg (by omega)] at hy;by_cases eq:q=an+(k+1)
     ·rw[if_pos eq] at hy;injection hy with hy;subst hy;omega
     ·rw[if_neg eq] at hy
      exact h2 q _ y (by omega) q2 gj hy)
   exact ⟨d',r1,mv.trans r2,r3⟩
  ·simp only[if_neg hlt'];refine ⟨d,rfl,.refl _ _ _,fun p q x y q1 q2 q3 hx hy => ?_⟩;have kl:key d[an+k]≤key d[an+(k+1)]:=by
    have:=mt hlt.2 hlt';omega
   by_cases ep:p=an+(k+1)
   ·subst ep;exact h2 q x y q2 (by omega) hx hy
   ·by_cases eq:q=an+(k+1)
    ·subst eq;rw[gj] at hy;injection hy with hy;subst hy;by_cases e3:p=an+k
     ·subst e3;rw[gk] at hx;injection hx with hx;subst hx;exact kl
     ·have:=h1 p (an+k) x _ q1 (by omega) (by omega) ep (by omega) hx gk;omega
    ·exact h1 p q x y q1 q2 (by omega) ep eq hx hy
theorem x1c (n:Nat) (a b:Int) (an bn:Nat) (ha:a=an) (hb:b=bn):∀(k f:Nat) (i:Nat) (d:List a0a),bn-i≤k→k<f→an<i→(i≤bn∨bn≤an+1)→bn≤d.length→d.length≤1000000000000→(∀x∈d,Pr x)→Srt key d an i →
  ∃d',b0o n f (d,a,b,cmp,(i:Int),())=some (.inl (d',()))∧Mvk key d d' an bn∧Srt key d' an bn:=by
 intro k;induction k with
 | zero =>
  intro f i d hk hf hi hib hl hL hP hs;obtain ⟨f,rfl⟩:∃g,f=g+1:=⟨f-1,by omega⟩;rw[d0c];subst ha hb;simp only[tfd,if_neg (show ¬((i:Int)<(bn:Int)) by omega)];exact ⟨d,rfl,.refl _ _ _,hs.mono (by omega) (by omega)⟩
 | succ k ih =>
  intro f i d hk hf hi hib hl hL hP hs;obtain ⟨f,rfl⟩:∃g,f=g+1:=⟨f-1,by omega⟩;rw[d0c];by_cases hlt:i<bn
  ·obtain ⟨d',r1,r2,r3⟩:=x1b hc n a b an i ha (i-an) a0d d (by omega) (by omega) (by unfold a0d;omega) (by omega) hL hP
    (fun p q x y q1 q2 q3 p1 p2 hx hy=>hs p q x y q1 q2 (by omega) hx hy) (fun q x y q1 q2=>by omega)
   rw[show an+(i-an)=i by omega] at r1;subst ha hb;simp only[tfd,if_pos (show ((i:Int)<(bn:Int)) by omega),r1,obs,a0n];rw[wn (k:=i+1) (by omega) (by omega)];have ml:=r2.len;obtain ⟨d'',s1,s2,s3⟩:=ih f (i+1) d' (by omega) (by omega) (by omega) (by omega) (by omega) (by omega) (r2.all hP) r3;exact ⟨d'',s1,(r2.mono (by omega) (by omega)).trans s2,s3⟩
  ·subst ha hb;simp only[tfd,if_neg (show ¬((i:Int)<(bn:Int)) by omega)];exact ⟨d,rfl,.refl _ _ _,hs.mono (by omega) (by omega)⟩
theorem d1k (n:Nat) (a b:Int) (an bn:Nat) (ha:a=an) (hb:b=bn) (d:List a0a) (hab:an≤bn) (hl:bn≤d.length) (hL:d.length≤1000000000000) (hP:∀x∈d,Pr x) :
  ∃d',b0z (n+1) d a b cmp=some d'∧Mvk key d d' an bn∧Srt key d' an bn:=by
 rw[h0q];have e:IntKind.wrap .i64 (a+1)=((an+1:Nat):Int):=wn (by omega) (by omega);rw[e];obtain ⟨d',r1,r2,r3⟩:=x1c hc n a b an bn ha hb bn a0d (an+1) d (by omega) (by unfold a0d;omega) (by omega) (by omega) hl hL hP (Srt.one _ _ (by omega));rw[r1];exact ⟨d',by simp,r2,r3⟩
omit hc in
theorem a1g (n:Nat) (a b m:Int) (P:List a0a):∀(k f i:Nat) (X X' M Y Y' S:List a0a),X'.length=k→Y'.length=k→X.length=i→Y.length=i→k<f →
  a=P.length→b=P.length+X.length+X'.length+M.length→m=i+k→b+m≤2000000000000 →
  c0e n f (P++(Y++(X'++(M++(X++(Y'++S))))),a,b,m,(i:Int),())=some (.inl (P++(Y++(Y'++(M++(X++(X'++S))))),())):=by
 intro k;induction k with
 | zero =>
  intro f i X X' M Y Y' S h1 h2 h3 h4 hf ha hb hm hs;obtain ⟨f,rfl⟩:∃g,f=g+1:=⟨f-1,by omega⟩;obtain rfl:=List.length_eq_zero_iff.1 h1;obtain rfl:=List.length_eq_zero_iff.1 h2;rw[d0v];simp only[tfd,if_neg (show ¬((i:Int)<m) by omega)]
 | succ k ih =>
  intro f i X X' M Y Y' S h1 h2 h3 h4 hf ha hb hm hs;obtain ⟨f,rfl⟩:∃g,f=g+1:=⟨f-1,by omega⟩
  match X',Y' with
  | x::X',y::Y' =>
   simp only[List.length_cons] at h1 h2 hb;rw[d0v];have ea:IntKind.wrap .i64 (a+(i:Int))=((P.length+i:Nat):Int):=wn (by omega) (by omega);have eb:IntKind.wrap .i64 (b+(i:Int))=((P.length+i+(k+1)+M.length+i:Nat):Int):=wn (by omega) (by omega);have g1:(P++(Y++(x::X'++(M++(X++(y::Y'++S))))))[P.length+i]? = some x:=by
    rw[List.getElem?_append_right (by omega),List.getElem?_append_right (by omega)];rw[show P.length+i-P.length-Y.length=0 by omega];rfl
   have g2:(P++(Y++(x::X'++(M++(X++(y::Y'++S))))))[P.length+i+(k+1)+M.length+i]? = some y:=by
    rw[List.getElem?_append_right (by omega),List.getElem?_append_right (by omega),List.getElem?_append_right (by simp;omega),List.getElem?_append_right (by simp;omega),List.getElem?_append_right (by simp;omega)];simp only[List.length_cons];rw[show P.length+i+(k+1)+M.length+i-P.length-Y.length-(X'.length+1)-M.length-X.length=0 by omega];rfl
   have s1:(P++(Y++(x::X'++(M++(X++(y::Y'++S)))))).set (P.length+i) y=P++(Y++(y::X'++(M++(X++(y::Y'++S))))):=by
    rw[List.set_append_right _ _ (by omega),List.set_append_right _ _ (by omega),show P.length+i-P.length-Y.length=0 by omega];rfl
   have s2:(P++(Y++(y::X'++(M++(X++(y::Y'++S)))))).set (P.length+i+(k+1)+M.length+i) x=P++(Y++(y::X'++(M++(X++(x::Y'++S))))):=by
    rw[List.set_append_right _ _ (by omega),List.set_append_right _ _ (by omega),List.set_append_right _ _ (by simp;omega),List.set_append_right _ _ (by simp;omega),List.set_append_right _ _ (by simp;omega)];simp only[List.length_cons];rw[show P.length+i+(k+1)+M.length+i-P.length-Y.length-(X'.length+1)-M.length-X.length=0 by omega];rfl
   have g3:(P++(Y++(y::X'++(M++(X++(y::Y'++S))))))[P.length+i+(k+1)+M.length+i]? = some y:=by
    rw[List.getElem?_append_right (by omega),List.getElem?_append_right (by omega),List.getElem?_append_right (by simp;omega),List.getElem?_append_right (by simp;omega),List.getElem?_append_right (by simp;omega)];simp only[List.length_cons];rw[show P.length+i+(k+1)+M.length+i-P.length-Y.length-(X'.length+1)-M.length-X.length=0 by omega];rfl
   simp only[tfd,if_pos (show ((i:Int)<m) by omega),ea,eb,m0c,Int.toNat_natCast,g1,g2,s1,g3,s2,obs];have e6:IntKind.wrap .i64 ((i:Int)+1)=((i+1:Nat):Int):=wn (by omega) (by omega);rw[e6];have:=ih f (i+1) (X++[x]) X' M (Y++[y]) Y' S (by omega) (by omega) (by simp;omega) (by simp;omega) (by omega) ha (by simp;omega) (by omega) hs;simp only[List.append_assoc,List.singleton_append,List.cons_append] at this ⊢;exact this
omit hc in
theorem j0q (n:Nat) (a b m:Int) (P X M Y S:List a0a) (h:X.length=Y.length) (ha:a=P.length) (hb:b=P.length+X.length+M.length) (hm:m=X.length) (hs:b+m≤2000000000000) (d:List a0a) (hd:d=P++(X++(M++(Y++S)))) :
  b0s (n+1) d a b m cmp=some (P++(Y++(M++(X++S)))):=by
 subst hd;rw[j0d];have:=a1g n a b m P X.length a0d 0 [] X M [] Y S rfl h.symm rfl rfl (by unfold a0d;omega) ha (by simp;omega) (by omega) hs;simp only[List.nil_append] at this;rw[show ((0:Int))=((0:Nat):Int) from rfl,this];simp
omit hc in
theorem g1x (n:Nat) (m:Int):∀(k f:Nat) (P U V S d:List a0a) (i j:Int),U.length+V.length≤k→k<f→U≠[]→V≠[]→i=U.length→j=V.length→m=P.length+U.length→m+j≤1000000000000→d=P++(U++(V++S)) →
  ∃P' U' V' S' d',b0u (n+1) f (d,m,cmp,i,j,())=some (.inl (d',m,cmp,(U'.length:Int),()))∧U'.length=V'.length∧m=P'.length+U'.length∧d'=P'++(U'++(V'++S'))∧P'++(V'++(U'++S'))=P++(V++(U++S)):=by
 intro k;induction k with
 | zero =>
  intro f P U V S d i j hk hf hu hv;exact absurd (List.length_eq_zero_iff.1 (show U.length=0 by omega)) hu
 | succ k ih =>
  intro f P U V S d i j hk hf hu hv hi hj hm hmj hd;obtain ⟨f,rfl⟩:∃g,f=g+1:=⟨f-1,by omega⟩;have lu:=List.length_pos_iff.2 hu;have lv:=List.length_pos_iff.2 hv;rw[j0e];by_cases e:i=j
  ·simp only[tfn,tfd,if_pos e];exact ⟨P,U,V,S,d,by rw[hi],by omega,hm,hd,rfl⟩
  ·by_cases lt:j<i
   ·-- the front of U with V
    have hU:U=U.take V.length++U.drop V.length:=(List.take_append_drop _ _).symm;have l1:(U.take V.length).length=V.length:=by simp;omega
    have l2:(U.drop V.length).length=U.length-V.length:=by simp
    have hs:=j0q (cmp:=cmp) n (P.length:Int) m j P (U.take V.length) (U.drop V.length) V S l1 rfl (by omega) (by omega) (by omega) d (by rw[hd,←List.append_assoc (U.take V.length),←hU]);have e1:IntKind.wrap .i64 (m-i)=(P.length:Int):=wn (by omega) (by omega);have e2:IntKind.wrap .i64 (i-j)=((U.drop V.length).length:Int):=wn (by omega) (by omega);simp only[tfn,tfd,if_neg e,if_pos lt,e1,e2,hs,obs]
    obtain ⟨P',U',V',S',d',r1,r2,r3,r4,r5⟩:=ih f (P++V) (U.drop V.length) (U.take V.length) S (P++(V++(U.drop V.length++(U.take V.length++S)))) ((U.drop V.length).length:Int) j (by omega) (by omega)
     (by intro h;rw[h] at l2;simp at l2;omega) (by intro h;rw[h] at l1;simp at l1;omega) rfl (by omega) (by simp;omega) hmj (by simp only[List.append_assoc])
    exact ⟨P',U',V',S',d',r1,r2,r3,r4,by rw[r5];rw[List.append_assoc,←List.append_assoc (U.take V.length),←hU]⟩
   ·have hV:V=V.take (V.length-U.length)++V.drop (V.length-U.length):=(List.take_append_drop _ _).symm;have l1:(V.take (V.length-U.length)).length=V.length-U.length:=by simp
    have l2:(V.drop (V.length-U.length)).length=U.length:=by simp;omega
    have hs:=j0q (cmp:=cmp) n (P.length:Int) (m+j-i) i P U (V.take (V.length-U.length)) (V.drop (V.length-U.length)) S l2.symm rfl (by omega) (by omega) (by omega) d (by rw[hd,←List.append_assoc (V.take _) (V.drop _) S,←hV]);have e1:IntKind.wrap .i64 (m-i)=(P.length:Int):=wn (by omega) (by omega);have e2:IntKind.wrap .i64 (j-i)=((V.take (V.length-U.length)).length:Int):=wn (by omega) (by omega);have e3:IntKind.wrap .i64 (IntKind.wrap .i64 (m+j)-i)=m+j-i:=by rw[w64 (x:=m+j) (by omega) (by omega),w64 (by omega) (by omega)]
    simp only[tfn,tfd,if_neg e,if_neg lt,e1,e2,e3,hs,obs];obtain ⟨P',U',V',S',d',r1,r2,r3,r4,r5⟩:=ih f P (V.drop (V.length-U.length)) (V.take (V.length-U.length)) (U++S) _ i ((V.take (V.length-U.length)).length:Int) (by omega) (by omega)
     (by intro h;rw[h] at l2;simp at l2;omega) (by intro h;rw[h] at l1;simp at l1;omega) (by omega) rfl (by omega) (by omega) rfl
    exact ⟨P',U',V',S',d',r1,r2,r3,r4,by rw[r5];rw[←List.append_assoc (V.take _) (V.drop _),←hV]⟩
omit hc in
theorem g1w (n:Nat) (a m b:Int) (an mn bn:Nat) (ha:a=an) (hm:m=mn) (hb:b=bn) (d:List a0a) (h1:an<mn) (h2:mn<bn) (hl:bn≤d.length) (hL:d.length≤1000000000000) :
  ∃d',c0i (n+2) d a m b cmp=some d'∧Turned d d' an mn bn:=by
 obtain ⟨P,U,V,S,hd,la,lm,lb⟩:=cut4 d (a:=an) (m:=mn) (b:=bn) (by omega) (by omega) hl;rw[k0z];have e1:IntKind.wrap .i64 (m-a)=(U.length:Int):=wn (by omega) (by omega);have e2:IntKind.wrap .i64 (b-m)=(V.length:Int):=wn (by omega) (by omega);have hfl:U.length+V.length<a0d:=by
  have:d.length=P.length+(U.length+(V.length+S.length)):=by rw[hd];simp
  unfold a0d;omega
 have hu:U≠[]:=by intro h;rw[h] at lm;simp at lm;omega
 have hv:V≠[]:=by intro h;rw[h] at lb;simp at lb;omega
 obtain ⟨P',U',V',S',d',r1,r2,r3,r4,r5⟩:=g1x (cmp:=cmp) n m (U.length+V.length) a0d P U V S d (U.length:Int) (V.length:Int) (by omega) hfl hu hv rfl rfl (by omega) (by omega) hd;have ld:d'.length=d.length:=by
  have:=congrArg List.length r5;rw[r4,hd];simp at this ⊢;omega
 have hs:=j0q (cmp:=cmp) n (P'.length:Int) m (U'.length:Int) P' U' [] V' S' r2 rfl (by simp;omega) rfl (by rw[r4] at ld;simp at ld;omega) d' (by rw[r4];simp);simp only[e1,e2,r1,obs,a0n,wn (x:=m-(U'.length:Int)) (k:=P'.length) (by omega) (by rw[r4] at ld;simp at ld;omega),hs];simp only[List.nil_append];exact ⟨_,rfl,c1y (P:=P) (U:=U) (V:=V) (S:=S) hd r5 la lm lb⟩
theorem x1a (n:Nat) (a:Int) (an:Nat) (ha:a=an) (d:List a0a) (x:a0a) (hx:d[an]? = some x) (hL:d.length≤1000000000000) (hP:∀x∈d,Pr x) (lo hi:Nat) (hs:Srt key d lo hi) (hh:hi≤d.length):∀(k f i j:Nat),j-i≤k→k<f→i≤j→lo≤i→j≤hi →
  (∀p y,lo≤p→p<i→d[p]? = some y→key y<key x)→(∀p y,j≤p→p<hi→d[p]? = some y→key x≤key y) →
  ∃r:Nat,b0m n f (d,a,cmp,(i:Int),(j:Int),())=some (.inl (d,a,(r:Int),()))∧lo≤r∧r≤hi ∧
   (∀p y,lo≤p→p<r→d[p]? = some y→key y<key x)∧(∀p y,r≤p→p<hi→d[p]? = some y→key x≤key y):=by
 subst ha;intro k;induction k with
 | zero =>
  intro f i j hk hf hij hi hj h1 h2;obtain ⟨f,rfl⟩:∃g,f=g+1:=⟨f-1,by omega⟩;rw[e0g];simp only[tfd,if_neg (show ¬((i:Int)<(j:Int)) by omega)];have e:i=j:=by omega
  subst e;exact ⟨i,rfl,by omega,by omega,h1,h2⟩
 | succ k ih =>
  intro f i j hk hf hij hi hj h1 h2;obtain ⟨f,rfl⟩:∃g,f=g+1:=⟨f-1,by omega⟩;rw[e0g];by_cases lt:i<j
  ·have e1:=o0u i j (by omega);have lh:(i+j) / 2<d.length:=by omega
   obtain ⟨c,hcm,hlt⟩:=hc d[(i+j) / 2] x (hP _ (List.getElem_mem _)) (hP _ (List.mem_of_getElem? hx));have gh:d[(i+j) / 2]? = some d[(i+j) / 2]:=List.getElem?_eq_getElem lh;simp only[tfd,if_pos (show ((i:Int)<(j:Int)) by omega),e1,m0c,Int.toNat_natCast,gh,hx,obs,hcm];by_cases hlt':c<0
   ·have kl:=hlt.1 hlt';simp only[if_pos hlt'];rw[wn (x:=(((i+j) / 2:Nat):Int)+1) (k:=(i+j) / 2+1) (by omega) (by omega)];refine ih f ((i+j) / 2+1) j (by omega) (by omega) (by omega) (by omega) hj (fun p y p1 p2 hy => ?_) h2;by_cases ep:p=(i+j) / 2
    ·subst ep;rw[gh] at hy;injection hy with hy;subst hy;exact kl
    ·have:=hs p ((i+j) / 2) y _ p1 (by omega) (by omega) hy gh;omega
   ·have kl:key x≤key d[(i+j) / 2]:=by have:=mt hlt.2 hlt';omega
    simp only[if_neg hlt'];refine ih f i ((i+j) / 2) (by omega) (by omega) (by omega) hi (by omega) h1 (fun p y p1 p2 hy => ?_);by_cases ep:p=(i+j) / 2
    ·subst ep;rw[gh] at hy;injection hy with hy;subst hy;exact kl
    ·have:=hs ((i+j) / 2) p _ y (by omega) (by omega) (by omega) gh hy;omega
  ·simp only[tfd,if_neg (show ¬((i:Int)<(j:Int)) by omega)];have e:i=j:=by omega
   subst e;exact ⟨i,rfl,by omega,by omega,h1,h2⟩
theorem r1w (n:Nat) (m:Int) (mn:Nat) (hm:m=mn) (d:List a0a) (x:a0a) (hx:d[mn]? = some x) (hL:d.length≤1000000000000) (hP:∀x∈d,Pr x) (lo hi:Nat) (hs:Srt key d lo hi) (hh:hi≤d.length):∀(k f i j:Nat),j-i≤k→k<f→i≤j→lo≤i→j≤hi →
  (∀p y,lo≤p→p<i→d[p]? = some y→key y≤key x)→(∀p y,j≤p→p<hi→d[p]? = some y→key x<key y) →
  ∃r:Nat,b0h n f (d,m,cmp,(i:Int),(j:Int),())=some (.inl (d,m,(r:Int),()))∧lo≤r∧r≤hi ∧
   (∀p y,lo≤p→p<r→d[p]? = some y→key y≤key x)∧(∀p y,r≤p→p<hi→d[p]? = some y→key x<key y):=by
 subst hm;intro k;induction k with
 | zero =>
  intro f i j hk hf hij hi hj h1 h2;obtain ⟨f,rfl⟩:∃g,f=g+1:=⟨f-1,by omega⟩;rw[d0u];simp only[tfd,if_neg (show ¬((i:Int)<(j:Int)) by omega)];have e:i=j:=by omega
  subst e;exact ⟨i,rfl,by omega,by omega,h1,h2⟩
 | succ k ih =>
  intro f i j hk hf hij hi hj h1 h2;obtain ⟨f,rfl⟩:∃g,f=g+1:=⟨f-1,by omega⟩;rw[d0u];by_cases lt:i<j
  ·have e1:=o0u i j (by omega);have lh:(i+j) / 2<d.length:=by omega
   obtain ⟨c,hcm,hlt⟩:=hc x d[(i+j) / 2] (hP _ (List.mem_of_getElem? hx)) (hP _ (List.getElem_mem _));have gh:d[(i+j) / 2]? = some d[(i+j) / 2]:=List.getElem?_eq_getElem lh;simp only[tfn,tfd,if_pos (show ((i:Int)<(j:Int)) by omega),e1,m0c,Int.toNat_natCast,gh,hx,obs,hcm];by_cases hlt':c<0
   ·have kl:=hlt.1 hlt';simp only[if_pos hlt'];refine ih f i ((i+j) / 2) (by omega) (by omega) (by omega) hi (by omega) h1 (fun p y p1 p2 hy => ?_);by_cases ep:p=(i+j) / 2
    ·subst ep;rw[gh] at hy;injection hy with hy;subst hy;exact kl
    ·have:=hs ((i+j) / 2) p _ y (by omega) (by omega) (by omega) gh hy;omega
   ·have kl:key d[(i+j) / 2]≤key x:=by have:=mt hlt.2 hlt';omega
    simp only[if_neg hlt'];rw[wn (x:=(((i+j) / 2:Nat):Int)+1) (k:=(i+j) / 2+1) (by omega) (by omega)];refine ih f ((i+j) / 2+1) j (by omega) (by omega) (by omega) (by omega) hj (fun p y p1 p2 hy => ?_) h2;by_cases ep:p=(i+j) / 2
    ·subst ep;rw[gh] at hy;injection hy with hy;subst hy;exact kl
    ·have:=hs p ((i+j) / 2) y _ p1 (by omega) (by omega) hy gh;omega
  ·simp only[tfd,if_neg (show ¬((i:Int)<(j:Int)) by omega)];have e:i=j:=by omega
   subst e;exact ⟨i,rfl,by omega,by omega,h1,h2⟩
end
def u0f (key:a0a→Int) (d:List a0a) (a b k:Nat):Prop:=∀p q x y,a≤p→p<q→q<b→p≠k→q≠k→d[p]? = some x→d[q]? = some y→key x≤key y
def x0m (key:a0a→Int) (d:List a0a) (a b k i:Nat) (x:a0a):Prop :=
 (∀p z,a≤p→p<i→p≠k→d[p]? = some z→key z≤key x)∧(∀p z,i≤p→p<b→p≠k→d[p]? = some z→key x≤key z)
theorem w0s {key:a0a→Int} {d:List a0a} {a b k j:Nat} {x y:a0a} (hj:j=k+1∨k=j+1) (ja:a≤j) (jb:j<b) (hx:d[k]? = some x) (hy:d[j]? = some y) (h:u0f key d a b k):u0f key ((d.set k y).set j x) a b j:=by
 intro p q u v q1 q2 q3 p1 p2 hu hv;rw[i0d hx hy,if_neg p1] at hu;rw[i0d hx hy,if_neg p2] at hv;by_cases ep:p=k
 ·rw[if_pos ep] at hu;rw[if_neg (by omega)] at hv;injection hu with hu;subst hu;exact h j q y v (by omega) (by omega) q3 (by omega) (by omega) hy hv
 ·rw[if_neg ep] at hu;by_cases eq:q=k
  ·rw[if_pos eq] at hv;injection hv with hv;subst hv;exact h p j u y q1 (by omega) (by omega) (by omega) (by omega) hu hy
  ·rw[if_neg eq] at hv;exact h p q u v q1 q2 q3 ep eq hu hv
theorem a1h {key:a0a→Int} {d:List a0a} {a b k i:Nat} {x:a0a} (h:u0f key d a b k) (hp:x0m key d a b k i x) (hx:d[k]? = some x) (hk:k=i∨k+1=i):Srt key d a b:=by
 intro p q u v q1 q2 q3 hu hv;by_cases ep:p=k
 ·subst ep;rw[hx] at hu;injection hu with hu;subst hu;exact hp.2 q v (by omega) q3 (by omega) hv
 ·by_cases eq:q=k
  ·subst eq;rw[hx] at hv;injection hv with hv;subst hv;exact hp.1 p u q1 (by omega) ep hu
  ·exact h p q u v q1 q2 q3 ep eq hu hv
theorem w1z {key:a0a→Int} (n:Nat) (a b i:Nat) (x:a0a):∀(c f k:Nat) (d:List a0a),k+c+1=i→c<f→a≤k→i≤b→b≤d.length→d.length≤1000000000000→d[k]? = some x→u0f key d a b k→x0m key d a b k i x→(∀p z,k<p→p<i→d[p]? = some z→key z<key x) →
  ∃d',c0h n f (d,(i:Int),(k:Int),())=some (.inl (d',()))∧Mvk key d d' a b∧Srt key d' a b:=by
 intro c;induction c with
 | zero =>
  intro f k d hk hf ha hi hb hL hx h1 h2 h4;obtain ⟨f,rfl⟩:∃g,f=g+1:=⟨f-1,by omega⟩;rw[e0f];rw[wn (x:=(i:Int)-1) (k:=k) (by omega) (by omega)];simp only[tfd,if_neg (show ¬((k:Int)<(k:Int)) by omega)];exact ⟨d,rfl,.refl _ _ _,a1h h1 h2 hx (by omega)⟩
 | succ c ih =>
  intro f k d hk hf ha hi hb hL hx h1 h2 h4;obtain ⟨f,rfl⟩:∃g,f=g+1:=⟨f-1,by omega⟩;rw[e0f];have lk:k+1<d.length:=by omega
  have gy:d[k+1]? = some d[k+1]:=List.getElem?_eq_getElem lk;have g1:(d.set k d[k+1])[k+1]? = some d[k+1]:=by rw[List.getElem?_set_ne (by omega)];exact gy
  rw[wn (x:=(i:Int)-1) (k:=i-1) (by omega) (by omega),wn (x:=(k:Int)+1) (k:=k+1) (by omega) (by omega)];simp only[tfd,if_pos (show ((k:Int)<((i-1:Nat):Int)) by omega),m0c,Int.toNat_natCast,gy,hx,g1,obs];have sg:=i0d hx gy;have hlt:key d[k+1]<key x:=h4 (k+1) _ (by omega) (by omega) gy;have mv:Mvk key d ((d.set k d[k+1]).set (k+1) x) a b:=⟨b1e (a:=a) (b:=b) hx gy (by omega) (by omega) (by omega) (by omega),(f1p hx gy (by omega)).1⟩;obtain ⟨d',r1,r2,r3⟩:=ih f (k+1) ((d.set k d[k+1]).set (k+1) x) (by omega) (by omega) (by omega) hi (by simpa using hb) (by simpa using hL)
   (by rw[sg,if_pos rfl]) (w0s (.inl rfl) (by omega) (by omega) hx gy h1)
   ⟨fun p z p1 p2 p3 hz=>by
    rw[sg,if_neg p3] at hz;by_cases e:p=k
    ·rw[if_pos e] at hz;injection hz with hz;subst hz;exact h2.1 (k+1) _ (by omega) (by omega) (by omega) gy
    ·rw[if_neg e] at hz;exact h2.1 p z p1 p2 e hz,
    fun p z p1 p2 p3 hz=>by
     rw[sg,if_neg p3,if_neg (by omega)] at hz
     exact h2.2 p z p1 p2 (by omega) hz⟩
   (fun p z p1 p2 hz=>by
    rw[sg,if_neg (by omega),if_neg (by omega)] at hz
    exact h4 p z (by omega) p2 hz)
  exact ⟨d',r1,mv.trans r2,r3⟩
theorem r1v {key:a0a→Int} (n:Nat) (a b i:Nat) (x:a0a):∀(c f k:Nat) (d:List a0a),i+c=k→c<f→a≤i→k<b→b≤d.length→d.length≤1000000000000→d[k]? = some x→u0f key d a b k→x0m key d a b k i x→(∀p z,i≤p→p<k→d[p]? = some z→key x<key z) →
  ∃d',c0d n f (d,(i:Int),(k:Int),())=some (.inl (d',()))∧Mvk key d d' a b∧Srt key d' a b:=by
 intro c;induction c with
 | zero =>
  intro f k d hk hf ha hi hb hL hx h1 h2 h4;obtain ⟨f,rfl⟩:∃g,f=g+1:=⟨f-1,by omega⟩;rw[d0t];simp only[tfd,if_neg (show ¬((i:Int)<(k:Int)) by omega)];exact ⟨d,rfl,.refl _ _ _,a1h h1 h2 hx (by omega)⟩
 | succ c ih =>
  intro f k d hk hf ha hi hb hL hx h1 h2 h4;obtain ⟨f,rfl⟩:∃g,f=g+1:=⟨f-1,by omega⟩;obtain ⟨k,rfl⟩:∃g,k=g+1:=⟨k-1,by omega⟩;rw[d0t];have lk:k<d.length:=by omega
  have gy:d[k]? = some d[k]:=List.getElem?_eq_getElem lk;have g1:(d.set (k+1) d[k])[k]? = some d[k]:=by rw[List.getElem?_set_ne (by omega)];exact gy
  rw[wn (x:=((k+1:Nat):Int)-1) (k:=k) (by omega) (by omega)];simp only[tfd,if_pos (show ((i:Int)<((k+1:Nat):Int)) by omega),m0c,Int.toNat_natCast,gy,hx,g1,obs];have sg:=i0d hx gy;have hlt:key x<key d[k]:=h4 k _ (by omega) (by omega) gy;have mv:Mvk key d ((d.set (k+1) d[k]).set k x) a b:=⟨b1e (a:=a) (b:=b) hx gy (by omega) (by omega) (by omega) (by omega),(f1p gy hx (by omega)).2⟩;obtain ⟨d',r1,r2,r3⟩:=ih f k ((d.set (k+1) d[k]).set k x) (by omega) (by omega) (by omega) (by omega) (by simpa using hb) (by simpa using hL)
   (by rw[sg,if_pos rfl]) (w0s (.inr rfl) (by omega) (by omega) hx gy h1)
   ⟨fun p z p1 p2 p3 hz=>by
    rw[sg,if_neg p3,if_neg (by omega)] at hz;exact h2.1 p z p1 p2 (by omega) hz,
    fun p z p1 p2 p3 hz=>by
     rw[sg,if_neg p3] at hz;by_cases e:p=k+1
     ·rw[if_pos e] at hz;injection hz with hz;subst hz;exact h2.2 k _ (by omega) (by omega) (by omega) gy
     ·rw[if_neg e] at hz;exact h2.2 p z p1 p2 e hz⟩
   (fun p z p1 p2 hz=>by
    rw[sg,if_neg (by omega),if_neg (by omega)] at hz
    exact h4 p z p1 (by omega) hz)
  exact ⟨d',r1,mv.trans r2,r3⟩
section
variable {cmp:(a0a×(a0a×Unit))→Option Int} {key:a0a→Int} {Pr:a0a→Prop} (hc:a1i cmp key Pr)
include hc
theorem a1f (n:Nat) (a b mid n_:Int) (m p:Int) (mn bn pn:Nat) (an:Nat) (hp:p=pn) (d:List a0a) (hL:d.length≤1000000000000) (hP:∀x∈d,Pr x) (h1:Srt key d an mn) (h2:Srt key d mn bn) (hb:bn≤d.length) (lo hi:Nat)
  (hlo:an≤lo) (hhi:hi≤mn) (hq:∀c,lo≤c→c<hi→c≤pn∧mn≤pn-c∧pn-c<bn):∀(k f i j:Nat),j-i≤k→k<f→i≤j→lo≤i→j≤hi →
  (∀c x y,lo≤c→c<i→d[c]? = some x→d[pn-c]? = some y→key x≤key y)→(∀c x y,j≤c→c<hi→d[c]? = some x→d[pn-c]? = some y→key y<key x) →
  ∃r:Nat,b0a n f (d,a,m,b,cmp,mid,n_,(i:Int),(j:Int),p,())=some (.inl (d,a,m,b,cmp,mid,n_,(r:Int),()))∧lo≤r∧r≤hi ∧
   (∀c x y,lo≤c→c<r→d[c]? = some x→d[pn-c]? = some y→key x≤key y)∧(∀c x y,r≤c→c<hi→d[c]? = some x→d[pn-c]? = some y→key y<key x):=by
 subst hp;have le1:∀ {i j x y},an≤i→i≤j→j<mn→d[i]? = some x→d[j]? = some y→key x≤key y:=by
  intro i j x y q1 q2 q3 hx hy;rcases Nat.lt_or_eq_of_le q2 with q | q
  ·exact h1 i j x y q1 q q3 hx hy
  ·subst q;rw[hx] at hy;injection hy with hy;subst hy;exact Int.le_refl _
 have le2:∀ {i j x y},mn≤i→i≤j→j<bn→d[i]? = some x→d[j]? = some y→key x≤key y:=by
  intro i j x y q1 q2 q3 hx hy;rcases Nat.lt_or_eq_of_le q2 with q | q
  ·exact h2 i j x y q1 q q3 hx hy
  ·subst q;rw[hx] at hy;injection hy with hy;subst hy;exact Int.le_refl _
 intro k;induction k with
 | zero =>
  intro f i j hk hf hij hi' hj g1 g2;obtain ⟨f,rfl⟩:∃g,f=g+1:=⟨f-1,by omega⟩;rw[d0s];simp only[tfd,if_neg (show ¬((i:Int)<(j:Int)) by omega)];have e:i=j:=by omega
  subst e;exact ⟨i,rfl,hi',hj,g1,g2⟩
 | succ k ih =>
  intro f i j hk hf hij hi' hj g1 g2;obtain ⟨f,rfl⟩:∃g,f=g+1:=⟨f-1,by omega⟩;rw[d0s];by_cases lt:i<j
  ·generalize hcc:(i+j) / 2=c;have hq':=hq c (by omega) (by omega);have e1:=o0u i j (by omega);rw[hcc] at e1;have e2:IntKind.wrap .i64 ((pn:Int)-(c:Int))=((pn-c:Nat):Int):=wn (by omega) (by omega);obtain ⟨v,hcm,hlt⟩:=hc d[pn-c] d[c] (hP _ (List.getElem_mem _)) (hP _ (List.getElem_mem _));have gc:d[c]? = some d[c]:=List.getElem?_eq_getElem (by omega);have gp:d[pn-c]? = some d[pn-c]:=List.getElem?_eq_getElem (by omega);simp only[tfn,tfd,if_pos (show ((i:Int)<(j:Int)) by omega),e1,e2,m0c,Int.toNat_natCast,gc,gp,obs,hcm];by_cases hlt':v<0
   ·have kl:=hlt.1 hlt';simp only[if_pos hlt'];refine ih f i c (by omega) (by omega) (by omega) hi' (by omega) g1 (fun q x y p1 p2 hx hy => ?_);have hq2:=hq q (by omega) (by omega);have:=le1 (i:=c) (j:=q) (by omega) p1 (by omega) gc hx;have:=le2 (i:=pn-q) (j:=pn-c) (by omega) (by omega) (by omega) hy gp;omega
   ·have kl:key d[c]≤key d[pn-c]:=by have:=mt hlt.2 hlt';omega
    simp only[if_neg hlt'];rw[wn (x:=(c:Int)+1) (k:=c+1) (by omega) (by omega)];refine ih f (c+1) j (by omega) (by omega) (by omega) (by omega) hj (fun q x y p1 p2 hx hy => ?_) g2;have hq2:=hq q (by omega) (by omega);have:=le1 (i:=q) (j:=c) (by omega) (by omega) (by omega) hx gc;have:=le2 (i:=pn-c) (j:=pn-q) (by omega) (by omega) (by omega) gp hy;omega
  ·simp only[tfd,if_neg (show ¬((i:Int)<(j:Int)) by omega)];have e:i=j:=by omega
   subst e;exact ⟨i,rfl,hi',hj,g1,g2⟩
theorem q0l:∀(dd n:Nat) (a m b:Int) (an mn bn:Nat) (d:List a0a),a=an→m=mn→b=bn→an<mn→mn<bn→bn≤d.length→d.length≤1000000000000→(∀x∈d,Pr x)→bn-an≤2^dd→Srt key d an mn→Srt key d mn bn →
  ∃d',a0e (n+dd+2) d a m b cmp=some d'∧Mvk key d d' an bn∧Srt key d' an bn:=by
 intro dd;induction dd with
 | zero=>intro n a m b an mn bn d ha hm hb h1 h2 hl hL hP hd;simp at hd;omega
 | succ dd ih =>
  intro n a m b an mn bn d ha hm hb h1 h2 hl hL hP hd s1 s2;subst ha hm hb;rw[show n+(dd+1)+2=(n+dd+2)+1 by omega,k0a];rw[wn (x:=(mn:Int)-an) (k:=mn-an) (by omega) (by omega),wn (x:=(bn:Int)-mn) (k:=bn-mn) (by omega) (by omega)];simp only[j2y];simp only[tfd];have gm:d[mn]? = some d[mn]:=List.getElem?_eq_getElem (by omega);have ga:d[an]? = some d[an]:=List.getElem?_eq_getElem (by omega);by_cases c1:((mn-an:Nat):Int)=1
  ·rw[if_pos c1];have e:mn=an+1:=by omega
   obtain ⟨r,r1,r2,r3,r4,r5⟩:=x1a hc (n+dd+2) (an:Int) an rfl d d[an] ga hL hP mn bn s2 hl (bn-mn) a0d mn bn (by omega) (by unfold a0d;omega) (by omega) (by omega) (by omega) (fun p y p1 p2=>by omega) (fun p y p1 p2=>by omega);rw[r1];simp only[obs,a0n];obtain ⟨d',t1,t2,t3⟩:=w1z (key:=key) (n+dd+2) an bn r d[an] (r-an-1) a0d an d (by omega) (by unfold a0d;omega) (by omega) r3 hl hL ga
    (fun p q x y p1 p2 p3 p4 p5 hx hy=>s2 p q x y (by omega) p2 p3 hx hy)
    ⟨fun p z p1 p2 p3 hz=>Int.le_of_lt (r4 p z (by omega) p2 hz),fun p z p1 p2 p3 hz=>r5 p z p1 p2 hz⟩ (fun p z p1 p2 hz=>r4 p z (by omega) p2 hz)
   rw[t1];exact ⟨d',by simp,t2,t3⟩
  rw[if_neg c1];by_cases c2:((bn-mn:Nat):Int)=1
  ·rw[if_pos c2];obtain ⟨r,r1,r2,r3,r4,r5⟩:=r1w hc (n+dd+2) (mn:Int) mn rfl d d[mn] gm hL hP an mn s1 (by omega) (mn-an) a0d an mn (by omega) (by unfold a0d;omega) (by omega) (by omega) (by omega) (fun p y p1 p2=>by omega) (fun p y p1 p2=>by omega);rw[r1];simp only[obs,a0n];obtain ⟨d',t1,t2,t3⟩:=r1v (key:=key) (n+dd+2) an bn r d[mn] (mn-r) a0d mn d (by omega) (by unfold a0d;omega) (by omega) (by omega) hl hL gm
    (fun p q x y p1 p2 p3 p4 p5 hx hy=>s1 p q x y (by omega) p2 (by omega) hx hy)
    ⟨fun p z p1 p2 p3 hz=>r4 p z p1 p2 hz,fun p z p1 p2 p3 hz=>Int.le_of_lt (r5 p z p1 (by omega) hz)⟩ (fun p z p1 p2 hz=>r5 p z p1 (by omega) hz)
   rw[t1];exact ⟨d',by simp,t2,t3⟩
  rw[if_neg c2,o0u an bn (by omega)];generalize hmid:(an+bn) / 2=mid;have hpow:2^(dd+1)=2^dd*2:=Nat.pow_succ 2 dd;generalize 2^dd=P at *
  rw[wn (x:=(mid:Int)+mn) (k:=mid+mn) (by omega) (by omega)];have fin:∀s:Nat,an≤s→s≤mn→mn≤mid+mn-s→mid+mn-s≤bn→s≤mid →
    (∀x y,an<s→mid+mn-s<bn→d[s-1]? = some x→d[mid+mn-s]? = some y→key x≤key y) →
    (∀x y,s<mn→mn<mid+mn-s→d[mid+mn-s-1]? = some x→d[s]? = some y→key x<key y) →
    ∃d',(if (s:Int)<(mn:Int)∧(mn:Int)<((mid+mn-s:Nat):Int) then
      a0b (c0i (n+dd+2) d (s:Int) (mn:Int) ((mid+mn-s:Nat):Int) cmp) fun r14 =>
       if (an:Int)<(s:Int)∧(s:Int)<(mid:Int) then
        a0b (a0e (n+dd+2) r14 (an:Int) (s:Int) (mid:Int) cmp) fun r15 =>
         if (mid:Int)<((mid+mn-s:Nat):Int)∧((mid+mn-s:Nat):Int)<(bn:Int) then a0b (a0e (n+dd+2) r15 (mid:Int) ((mid+mn-s:Nat):Int) (bn:Int) cmp) fun r16=>some r16
         else some r15
       else if (mid:Int)<((mid+mn-s:Nat):Int)∧((mid+mn-s:Nat):Int)<(bn:Int) then a0b (a0e (n+dd+2) r14 (mid:Int) ((mid+mn-s:Nat):Int) (bn:Int) cmp) fun r17=>some r17
        else some r14
     else if (an:Int)<(s:Int)∧(s:Int)<(mid:Int) then
       a0b (a0e (n+dd+2) d (an:Int) (s:Int) (mid:Int) cmp) fun r15 =>
        if (mid:Int)<((mid+mn-s:Nat):Int)∧((mid+mn-s:Nat):Int)<(bn:Int) then a0b (a0e (n+dd+2) r15 (mid:Int) ((mid+mn-s:Nat):Int) (bn:Int) cmp) fun r16=>some r16
        else some r15
       else if (mid:Int)<((mid+mn-s:Nat):Int)∧((mid+mn-s:Nat):Int)<(bn:Int) then a0b (a0e (n+dd+2) d (mid:Int) ((mid+mn-s:Nat):Int) (bn:Int) cmp) fun r17=>some r17
        else some d)=some d'∧Mvk key d d' an bn∧Srt key d' an bn:=by
   intro s k1 k2 k3 k4 k5 q1 q2;generalize he:mid+mn-s=e at *
   have tail : ∀ d1, Turned d d1 s mn e → Stb key d1 d → ∃ d', (if (an : Int) < (s : Int) ∧ (s : Int) < (mid : Int) then
             a0b (a0e (n+dd+2) d1 (an:Int) (s:Int) (mid:Int) cmp) fun r15 =>
              if (mid:Int)<((e:Nat):Int)∧((e:Nat):Int)<(bn:Int) then a0b (a0e (n+dd+2) r15 (mid:Int) ((e:Nat):Int) (bn:Int) cmp) fun r16=>some r16
              else some r15
     else if (mid:Int)<((e:Nat):Int)∧((e:Nat):Int)<(bn:Int) then a0b (a0e (n+dd+2) d1 (mid:Int) ((e:Nat):Int) (bn:Int) cmp) fun r17=>some r17
      else some d1)=some d'∧Mvk key d d' an bn∧Srt key d' an bn:=by
    intro d1 t hst;obtain ⟨⟨w1,w2,w3,w4⟩,cr⟩:=halves (a:=an) (b:=bn) (mid:=mid) s1 s2 t k1 k2 k3 k4 (by omega) hl q1 (fun x y h1 h2 hx hy=>Int.le_of_lt (q2 x y h1 h2 hx hy));have l1:=t.mv.len;have m1:Mvk key d d1 an bn:=⟨t.mv.mono k1 k4,hst⟩;have hP1:=m1.all hP;have half1:∃d2,(((an:Int)<(s:Int)∧(s:Int)<(mid:Int))→a0e (n+dd+2) d1 (an:Int) (s:Int) (mid:Int) cmp=some d2)∧(¬((an:Int)<(s:Int)∧(s:Int)<(mid:Int))→d2=d1)∧Mvk key d1 d2 an mid∧Srt key d2 an mid:=by
     by_cases c:(an:Int)<(s:Int)∧(s:Int)<(mid:Int)
     ·obtain ⟨d2,t1,t2,t3⟩:=ih n (an:Int) (s:Int) (mid:Int) an s mid d1 rfl rfl rfl (by omega) (by omega) (by omega) (by omega) hP1 (by omega) w1 w2;exact ⟨d2,fun _=>t1,fun h=>absurd c h,t2,t3⟩
     ·refine ⟨d1,fun h=>absurd h c,fun _=>rfl,.refl _ _ _,?_⟩;by_cases c':an<s
      ·have:s=mid:=by omega
       subst this;exact w1
      ·have:s=an:=by omega
       subst this;exact w2
    obtain ⟨d2,u1,u2,u3,u4⟩:=half1;have l2:=u3.len;have w3':=w3.keepk u3 (.inr (Nat.le_refl _));have w4':=w4.keepk u3 (.inr (by omega));have cr2:=y1n cr (.inl u3);have half2:∃d3,(((mid:Int)<(e:Int)∧(e:Int)<(bn:Int))→a0e (n+dd+2) d2 (mid:Int) (e:Int) (bn:Int) cmp=some d3)∧(¬((mid:Int)<(e:Int)∧(e:Int)<(bn:Int))→d3=d2)∧Mvk key d2 d3 mid bn∧Srt key d3 mid bn:=by
     by_cases c:(mid:Int)<(e:Int)∧(e:Int)<(bn:Int)
     ·obtain ⟨d3,t1,t2,t3⟩:=ih n (mid:Int) (e:Int) (bn:Int) mid e bn d2 rfl rfl rfl (by omega) (by omega) (by omega) (by omega) (u3.all hP1) (by omega) w3' w4';exact ⟨d3,fun _=>t1,fun h=>absurd c h,t2,t3⟩
     ·refine ⟨d2,fun h=>absurd h c,fun _=>rfl,.refl _ _ _,?_⟩;by_cases c':mid<e
      ·have:e=bn:=by omega
       rw[this] at w3';exact w3'
      ·have:e=mid:=by omega
       rw[this] at w4';exact w4'
    obtain ⟨d3,v1,v2,v3,v4⟩:=half2;have fin3:Mvk key d d3 an bn∧Srt key d3 an bn :=
     ⟨(m1.trans (u3.mono (Nat.le_refl _) (by omega))).trans (v3.mono (by omega) (Nat.le_refl _)),Srt.join (u4.keepk v3 (.inl (Nat.le_refl _))) v4 (y1n cr2 (.inr v3))⟩
    refine ⟨d3,?_,fin3⟩;by_cases c:(an:Int)<(s:Int)∧(s:Int)<(mid:Int)
    ·rw[if_pos c,u1 c,obs];by_cases c':(mid:Int)<(e:Int)∧(e:Int)<(bn:Int)
     ·rw[if_pos c',v1 c',obs]
     ·rw[if_neg c',v2 c']
    ·rw[if_neg c];obtain rfl:=u2 c;by_cases c':(mid:Int)<(e:Int)∧(e:Int)<(bn:Int)
     ·rw[if_pos c',v1 c',obs]
     ·rw[if_neg c',v2 c']
   by_cases c:(s:Int)<(mn:Int)∧(mn:Int)<(e:Int)
   ·obtain ⟨d1,t1,t2⟩:=g1w (cmp:=cmp) (n+dd) (s:Int) (mn:Int) (e:Int) s mn e rfl rfl rfl d (by omega) (by omega) (by omega) hL;rw[if_pos c,t1,obs];refine tail d1 t2 (f2z t2 (by omega) (by omega) (by omega) fun i j x y i1 i2 j1 j2 hx hy => ?_);have gs:d[s]? = some d[s]:=List.getElem?_eq_getElem (by omega);have ge:d[e-1]? = some d[e-1]:=List.getElem?_eq_getElem (by omega);have k0:=q2 d[e-1] d[s] (by omega) (by omega) ge gs;have ka:key d[s]≤key x:=by
     rcases Nat.lt_or_eq_of_le i1 with h | h
     ·exact s1 s i _ _ k1 h i2 gs hx
     ·subst h;rw[gs] at hx;injection hx with hx;subst hx;exact Int.le_refl _
    have kb:key y≤key d[e-1]:=by
     rcases Nat.lt_or_eq_of_le (show j≤e-1 by omega) with h | h
     ·exact s2 j (e-1) _ _ j1 h (by omega) hy ge
     ·subst h;rw[ge] at hy;injection hy with hy;subst hy;exact Int.le_refl _
    omega
   ·rw[if_neg c];exact tail d (turned_refl d (by omega)) (fun _=>rfl)
  by_cases c3:(mid:Int)<(mn:Int)
  ·rw[if_pos c3,wn (x:=((mid+mn:Nat):Int)-bn) (k:=mid+mn-bn) (by omega) (by omega),wn (x:=((mid+mn:Nat):Int)-1) (k:=mid+mn-1) (by omega) (by omega)];obtain ⟨r,r1,r2,r3,r4,r5⟩:=a1f hc (n+dd+2) (an:Int) (bn:Int) (mid:Int) ((mid+mn:Nat):Int) (mn:Int) ((mid+mn-1:Nat):Int) mn bn (mid+mn-1) an rfl d hL hP s1 s2 hl (mid+mn-bn) mid (by omega) (by omega)
    (fun c h1 h2=>by omega) (mid-(mid+mn-bn)) a0d (mid+mn-bn) mid (by omega) (by unfold a0d;omega) (by omega) (by omega) (by omega) (fun c x y h1 h2=>by omega) (fun c x y h1 h2=>by omega)
   rw[r1];simp only[obs,a0n,wn (x:=((mid+mn:Nat):Int)-(r:Int)) (k:=mid+mn-r) (by omega) (by omega)];refine fin r (by omega) (by omega) (by omega) (by omega) (by omega) (fun x y h1 h2 hx hy => ?_) (fun x y h1 h2 hx hy => ?_)
   ·refine r4 (r-1) x y (by omega) (by omega) hx ?_;rw[show mid+mn-1-(r-1)=mid+mn-r by omega];exact hy
   ·refine r5 r y x (by omega) (by omega) hy ?_;rw[show mid+mn-1-r=mid+mn-r-1 by omega];exact hx
  ·rw[if_neg c3,wn (x:=((mid+mn:Nat):Int)-1) (k:=mid+mn-1) (by omega) (by omega)];obtain ⟨r,r1,r2,r3,r4,r5⟩:=a1f hc (n+dd+2) (an:Int) (bn:Int) (mid:Int) ((mid+mn:Nat):Int) (mn:Int) ((mid+mn-1:Nat):Int) mn bn (mid+mn-1) an rfl d hL hP s1 s2 hl an mn (by omega) (by omega)
    (fun c h1 h2=>by omega) (mn-an) a0d an mn (by omega) (by unfold a0d;omega) (by omega) (by omega) (by omega) (fun c x y h1 h2=>by omega) (fun c x y h1 h2=>by omega)
   rw[r1];simp only[obs,a0n,wn (x:=((mid+mn:Nat):Int)-(r:Int)) (k:=mid+mn-r) (by omega) (by omega)];refine fin r (by omega) (by omega) (by omega) (by omega) (by omega) (fun x y h1 h2 hx hy => ?_) (fun x y h1 h2 hx hy => ?_)
   ·refine r4 (r-1) x y (by omega) (by omega) hx ?_;rw[show mid+mn-1-(r-1)=mid+mn-r by omega];exact hy
   ·refine r5 r y x (by omega) (by omega) hy ?_;rw[show mid+mn-1-r=mid+mn-r-1 by omega];exact hx
end
end Go.Proofs.YtgkpkajaepphjaaGreatDoor
