/-
 Plain proofs about the functions of this seat, part 3 of 4.
-/
import Derived.Test.YtgkpkajaepphjaaGreatDoorQ2
namespace Go.Proofs.YtgkpkajaepphjaaGreatDoor
open Go.Flat Go.Plim
set_option linter.unusedVariables false
set_option linter.unusedSimpArgs false
theorem now_up {t:List Slo} {a b T:Int} {cur:Cel} (h:TierOk t a) (hb:a0t t (T / a)) (ha:1≤a) (hb1:1≤b) (hm:b % a=0) (hT:0≤T) (hc:CellN cur) (hf:cur.2.1.1 / a=T / a) :
  ∃m,mrgE (d0b t (T / b*(b / a)) (T / a)).1 cur=(m,0)∧CellN m∧m.2.1.1 / b=T / b:=by
 have hp:=e2k ha hb1 hm;have q:=(edvm (t:=T) ha hb1 hm).2;have hT':0≤T / b:=Int.ediv_nonneg hT (by omega);have u0:T / b*(b / a)≤T / a:=by rw[←q];exact Int.ediv_mul_le _ (by omega)
 have p0:0≤T / b*(b / a):=Int.mul_nonneg hT' (by omega);obtain ⟨k1,k2⟩:=k0r (j:=T / a) h hb p0 u0;have k3:=v1b (j:=T / a) h p0;have hah:=u0f ha k2 (.inr hf);refine ⟨_,d0l k1 hc.ok hah,?_,?_⟩
 ·rcases k1 with z | z
  ·rw[z,j0z];exact hc
  ·rcases hah with y | y | y
   ·rw[y,j0z];exact hc
   ·exact absurd y hc.ne
   ·exact i2a z hc y
 ·unfold mrg;by_cases z:(d0b t (T / b*(b / a)) (T / a)).1=z0
  ·rw[if_pos z,←(edvm (t:=cur.2.1.1) ha hb1 hm).2,hf,q]
  ·rw[if_neg z,if_neg hc.ne];have z1:=k2.resolve_left z;have z2:=k3.resolve_left z;have z3:=(k1.n z).ft;have z4:(d0b t (T / b*(b / a)) (T / a)).1.2.1.1 / a≤(d0b t (T / b*(b / a)) (T / a)).1.2.2.1.1 / a:=Int.ediv_le_ediv (by omega) z3;rw[←(edvm (t:=(d0b t (T / b*(b / a)) (T / a)).1.2.1.1) ha hb1 hm).2];have z5:(d0b t (T / b*(b / a)) (T / a)).1.2.1.1 / a / (b / a)≤T / a / (b / a):=Int.ediv_le_ediv (by omega) (by omega);have z6:T / b≤(d0b t (T / b*(b / a)) (T / a)).1.2.1.1 / a / (b / a):=by rw[Int.le_ediv_iff_mul_le hp];exact z2
   omega
theorem z0n {t:List Slo} {w T i j:Int} {cur:Cel} {ok:Prop} [Decidable ok] (hok:ok) (h:TierOk t w) (hb:T = -1∨a0t t (T / w)∧CellN cur∧cur.2.1.1 / w=T / w) (h0:0≤i) (hij:i≤j):(b0w ok i j T w t (cur,0)).2=0:=by
 unfold b0w;rw[if_pos hok,if_neg (by omega),if_neg (by omega)];by_cases h1:T = -1
 ·rw[if_pos h1]
 rw[if_neg h1];obtain ⟨hb,hc,hf⟩:=hb.resolve_left h1;by_cases h2:T / w<i
 ·rw[if_pos h2];exact d0s h h0 hij
 rw[if_neg h2];by_cases h3:j≤T / w
 ·rw[if_pos h3];exact d0s h h0 hij
 rw[if_neg h3,if_neg (nn rfl)];obtain ⟨k1,k2⟩:=k0r (j:=j) h hb h0 (by omega:i≤T / w);rw[d0l k1 hc.ok (u0f h.w0 k2 (.inr hf))]
theorem c2s {t:List Slo} {w T i j:Int} {now:Cel×Int} {ok:Prop} [Decidable ok] (hok:ok) (h:TierOk t w) (hb:a0t t (T / w+1)) (h0:0≤i) (hij:i≤j) (hi:T / w<i):b0w ok i j T w t now=(z0,0):=by
 have e:d0b t i j=(z0,0):=by
  unfold d0b;rw[if_neg (by omega)];have hn:=(e0l h _).1 hb;have:within t i j=[]:=by
   unfold within;rw[List.filter_eq_nil_iff.2 (fun s hs=>by have:=hn s hs;simp;omega)];rfl
  rw[this];rfl
 unfold b0w;rw[if_pos hok,if_neg (by omega),if_neg (by omega),if_pos hi,e];split<;>rfl
structure Ends3 (c:Conf) (s:Ser):Prop where
 t0:s.2.1 = -1∨a0t s.2.2.2.1.1 (s.2.1 / c.2.1.1)∧CellN s.2.2.2.2.2∧s.2.2.2.2.2.2.1.1 / c.2.1.1=s.2.1 / c.2.1.1
 t1:s.2.1 = -1∨∃m,now1 c s=(m,0)∧a0t s.2.2.2.1.2.1 (s.2.1 / c.2.1.2.1)∧CellN m∧m.2.1.1 / c.2.1.2.1=s.2.1 / c.2.1.2.1
 t2:s.2.1 = -1∨∃m,now2 c s=(m,0)∧a0t s.2.2.2.1.2.2 (s.2.1 / c.2.1.2.2)∧CellN m∧m.2.1.1 / c.2.1.2.2=s.2.1 / c.2.1.2.2
theorem v0i {c:Conf} {s:Ser} (h:SerOk c s):Ends3 c s:=by
 have hr:=h.fold.cok.rng;by_cases hn:s.2.1 = -1
 ·exact ⟨.inl hn,.inl hn,.inl hn⟩
 have ht:=e0q h hn;obtain ⟨he,_⟩:=o0b h hn;have hf:s.2.2.2.2.2.2.1.1 / c.2.1.1=s.2.1 / c.2.1.1:=by
  rw[he.fit.f,←he.fit.l,he.ol]
 obtain ⟨m1,a1,a2,a3⟩:=now_up h.fold.t0 he.b0 hr.w0.1 hr.w1.1 h.fold.cok.m1 ht.1 he.fit.n hf;obtain ⟨m2,b1,b2,b3⟩:=now_up h.fold.t1 he.b1 hr.w1.1 hr.w2.1 h.fold.cok.m2 ht.1 a2 a3;have e1:now1 c s=(m1,0):=a1;refine ⟨.inr ⟨he.b0,he.fit.n,hf⟩,.inr ⟨m1,e1,he.b1,a2,a3⟩,.inr ⟨m2,?_,he.b2,b2,b3⟩⟩;unfold now2;rw[e1,if_neg (nn rfl)];exact b1
noncomputable def i0c (c:Conf) (s:Ser) (k i j:Int):Cel×Int :=
 if k=0 then b0w (SerOk c s) i j s.2.1 c.2.1.1 s.2.2.2.1.1 (s.2.2.2.2.2,0)
 else if k=1 then b0w (SerOk c s) i j s.2.1 c.2.1.2.1 s.2.2.2.1.2.1 (now1 c s)
 else b0w (SerOk c s) i j s.2.1 c.2.1.2.2 s.2.2.2.1.2.2 (now2 c s)
theorem v0k {c:Conf} {s:Ser} (h:SerOk c s) (k:Int) {i j:Int} (h0:0≤i) (hij:i≤j):(i0c c s k i j).2=0:=by
 have he:=v0i h;unfold i0c;split
 ·exact z0n h h.fold.t0 he.t0 h0 hij
 split
 ·by_cases hn:s.2.1 = -1
  ·unfold b0w;rw[if_pos h,if_neg (by omega),if_neg (by omega),if_pos hn]
  ·obtain ⟨m,e,k1,k2,k3⟩:=he.t1.resolve_left hn;rw[e];exact z0n h h.fold.t1 (.inr ⟨k1,k2,k3⟩) h0 hij
 ·by_cases hn:s.2.1 = -1
  ·unfold b0w;rw[if_pos h,if_neg (by omega),if_neg (by omega),if_pos hn]
  ·obtain ⟨m,e,k1,k2,k3⟩:=he.t2.resolve_left hn;rw[e];exact z0n h h.fold.t2 (.inr ⟨k1,k2,k3⟩) h0 hij
theorem nb_all {c:Conf} {s:Ser} (h:SerOk c s):a0t s.2.2.2.1.1 (s.2.1 / c.2.1.1+1)∧a0t s.2.2.2.1.2.1 (s.2.1 / c.2.1.2.1+1)∧a0t s.2.2.2.1.2.2 (s.2.1 / c.2.1.2.2+1):=by
 have hr:=h.fold.cok.rng;rcases h.st with ⟨k1,k2⟩ | ⟨k1,k2⟩
 ·rw[k1];have e:∀w:Int,1≤w→(-1:Int) / w = -1:=fun w hw=>Int.ediv_eq_iff_of_pos (by omega) |>.2 ⟨by omega,by omega⟩
  rw[e _ hr.w0.1,e _ hr.w1.1,e _ hr.w2.1];exact ⟨k2.b0,k2.b1,k2.b2⟩
 ·exact ⟨x1x k2.b0 (by omega),x1x k2.b1 (by omega),x1x k2.b2 (by omega)⟩
theorem live_ok {s:Sta} (h:StaOk s) {x:Ser} (hx:x∈s.2.2.2) (hl:LvX s x):SerOk s.1 x∧0≤x.2.1:=by
 obtain ⟨i,hi,e⟩:=List.getElem_of_mem hx;rcases h.right i x (by rw[List.getElem?_eq_getElem hi,e]) with k | k
 ·exact absurd k hl.1
 ·exact ⟨k.1,k.2.1⟩
end Go.Proofs.YtgkpkajaepphjaaGreatDoor

namespace Go.Plim
set_option linter.unusedVariables false
theorem mod_half {a b:Nat} (h:0<b) (hab:b≤a):2*(a % b)<a:=by
 have h1:=Nat.mod_lt a h;have h2:=Nat.div_add_mod a b;have h3:1≤a / b:=(Nat.le_div_iff_mul_le h).2 (by omega);have h4:b*1≤b*(a / b):=Nat.mul_le_mul_left b h3;omega
def tz:Nat→Nat→Nat
 | 0,_=>0
 | k+1,x=>if x % 2=1 then 0 else tz k (x / 2)+1
theorem tz_odd (k x:Nat) (h:x % 2=1):tz k x=0:=by cases k<;>simp[tz,h]
theorem v0f:∀(k x:Nat),0<x→x<2^k→tz k x<k∧x=2^tz k x*(x / 2^tz k x)∧(x / 2^tz k x) % 2=1:=by
 intro k;induction k with
 | zero=>intro x h0 h1;simp at h1;omega
 | succ k ih =>
  intro x h0 h1;by_cases h:x % 2=1
  ·rw[tz_odd (k+1) x h];simp[h]
  ·have e:tz (k+1) x=tz k (x / 2)+1:=by simp[tz,h]
   rw[Nat.pow_succ] at h1;obtain ⟨a1,a2,a3⟩:=ih (x / 2) (by omega) (by omega);rw[e,Nat.pow_succ,Nat.mul_comm (2^tz k (x / 2)) 2,←Nat.div_div_eq_div_mul];refine ⟨by omega,?_,a3⟩;rw[Nat.mul_assoc,←a2];omega
theorem d1b {k x t:Nat} (h0:0<x) (h1:x<2^k) (h:x % 2^t=0) (ho:(x / 2^t) % 2=1):tz k x=t:=by
 obtain ⟨a1,a2,a3⟩:=v0f k x h0 h1;have b2:x=2^t*(x / 2^t):=by have:=Nat.div_add_mod x (2^t);omega
 generalize tz k x=s at *
 generalize hy:x / 2^s=y at *
 generalize hz:x / 2^t=z at *
 have e:2^s*y=2^t*z:=by omega
 have one:∀(s t y z:Nat),2^s*y=2^t*z→y % 2=1→z % 2=1→s<t→False:=by
  intro s t y z e hy hz hlt;obtain ⟨d,rfl⟩:∃d,t=s+(d+1):=⟨t-s-1,by omega⟩;rw[Nat.pow_add,Nat.mul_assoc] at e;have:=Nat.eq_of_mul_eq_mul_left (Nat.two_pow_pos s) e;rw[this,Nat.pow_succ,Nat.mul_comm (2^d) 2,Nat.mul_assoc,Nat.mul_mod_right] at hy;cases hy
 rcases Nat.lt_trichotomy s t with q | q | q
 ·exact (one s t y z e a3 ho q).elim
 ·exact q
 ·exact (one t s z y e.symm ho a3 q).elim
theorem y1h {a b:Nat} (ha:a % 2=1) (t:Nat):Nat.gcd a (2^t*b)=Nat.gcd a b:=by
 have hc:Nat.Coprime 2 a:=by
  unfold Nat.Coprime;rw[Nat.gcd_rec,ha];simp
 exact Nat.Coprime.gcd_mul_left_cancel_right b (Nat.Coprime.pow_left t hc)
theorem c1u {a b:Nat} (h:a≤b):Nat.gcd a (b-a)=Nat.gcd a b:=by
 have:=Nat.gcd_add_self_right (m:=a) (n:=b-a);rw[Nat.sub_add_cancel h] at this;exact this.symm
theorem i2u {x y s t a b:Nat} (hx:x=2^s*a) (hy:y=2^t*b) (ha:a % 2=1) (hb:b % 2=1):Nat.gcd x y=2^(min s t)*Nat.gcd a b:=by
 subst hx hy;rcases Nat.le_total s t with h | h
 ·rw[Nat.min_eq_left h];obtain ⟨d,rfl⟩:∃d,t=s+d:=⟨t-s,by omega⟩;rw[Nat.pow_add,Nat.mul_assoc,Nat.gcd_mul_left,y1h ha]
 ·rw[Nat.min_eq_right h];obtain ⟨d,rfl⟩:∃d,s=t+d:=⟨s-t,by omega⟩;rw[Nat.pow_add,Nat.mul_assoc,Nat.gcd_mul_left,Nat.gcd_comm (2^d*a),y1h hb,Nat.gcd_comm b a]
def bl:Nat→Nat→Nat
 | 0,_=>0
 | k+1,x=>if x=0 then 0 else bl k (x / 2)+1
theorem a1n (k:Nat):bl k 0=0:=by cases k<;>simp[bl]
theorem j0d:∀(k x:Nat),x<2^k→x<2^bl k x∧(0<x→0<bl k x∧2^(bl k x-1)≤x)∧bl k x≤k:=by
 intro k;induction k with
 | zero=>intro x h;simp[bl] at *;omega
 | succ k ih =>
  intro x h;by_cases h0:x=0
  ·subst h0;rw[a1n];simp
  ·have e:bl (k+1) x=bl k (x / 2)+1:=by simp[bl,h0]
   rw[Nat.pow_succ] at h;obtain ⟨a1,a2,a3⟩:=ih (x / 2) (by omega);rw[e];refine ⟨by rw[Nat.pow_succ];omega,fun _=>⟨by omega,?_⟩,by omega⟩;rw[Nat.add_sub_cancel];by_cases h1:x / 2=0
   ·rw[h1,a1n];simp;omega
   ·obtain ⟨b1,b2⟩:=a2 (by omega);have:2^bl k (x / 2)=2^(bl k (x / 2)-1)*2:=by rw[←Nat.pow_succ];congr 1;omega
    omega
theorem u1j {k x b:Nat} (h:x<2^k) (h0:0<x) (h1:2^b≤x) (h2:x<2^(b+1)):bl k x=b+1:=by
 obtain ⟨a1,a2,_⟩:=j0d k x h;obtain ⟨c1,c2⟩:=a2 h0;have d1:b<bl k x:=by
  rcases Nat.lt_or_ge b (bl k x) with q | q
  ·exact q
  ·have:=Nat.pow_le_pow_right (show 0<2 by decide) q;omega
 have d2:bl k x-1<b+1:=by
  rcases Nat.lt_or_ge (bl k x-1) (b+1) with q | q
  ·exact q
  ·have:=Nat.pow_le_pow_right (show 0<2 by decide) q;omega
 omega
theorem div_step {A D L i q r:Nat} (hD:0<D) (h:A / 2^(i+1)=D*q+r) (hr:r<D) :
  (D≤2*r+A / 2^i % 2→A / 2^i=D*(2*q+1)+(2*r+A / 2^i % 2-D)∧2*r+A / 2^i % 2-D<D) ∧
  (2*r+A / 2^i % 2<D→A / 2^i=D*(2*q)+(2*r+A / 2^i % 2)):=by
 rw[Nat.pow_succ,←Nat.div_div_eq_div_mul] at h;have h1:=Nat.div_add_mod (A / 2^i) 2;rw[h] at h1;have e1:2*(D*q+r)=D*(2*q)+2*r:=by rw[Nat.mul_add,Nat.mul_left_comm]
 have e2:D*(2*q+1)=D*(2*q)+D:=by rw[Nat.mul_add,Nat.mul_one]
 generalize D*(2*q)=Z at *
 constructor
 ·intro k;rw[e2];omega
 ·intro k;omega
end Go.Plim

namespace Go.Plim
set_option linter.unusedVariables false
def ofN (x:Nat):Wd:=(((x / 18446744073709551616:Nat):Int),((x % 18446744073709551616:Nat):Int))
theorem z0y (x:Nat):mkW (x:Int)=ofN x:=by
 unfold mkW ofN;rw[Prod.mk.injEq];constructor<;>omega
theorem ofN_of {a:Wd} (h:WdOk a):∃x:Nat,x<340282366920938463463374607431768211456∧a=ofN x∧wv a=x:=by
 obtain ⟨h1,h2⟩:=c0h h;obtain ⟨x,hx⟩:=Int.eq_ofNat_of_zero_le h1;exact ⟨x,by omega,by rw[←b1f h,hx,z0y],hx⟩
theorem j1d (x:Nat):wv (ofN x)=x:=by rw[←z0y,h0s]
theorem b1e {x:Nat} (h:x<340282366920938463463374607431768211456):WdOk (ofN x):=by rw[←z0y];exact m0q (by omega) (by omega)
theorem t0w (x:Nat):(decide ((ofN x).1=(0:Int))&&decide ((ofN x).2=(0:Int)))=decide (x=0):=by
 rw[←Bool.decide_and];apply decide_eq_decide.2;unfold ofN;simp only;omega
def od (x:Nat):Nat:=x / 2^tz 128 x
theorem n0r {x:Nat} (h0:0<x) (h1:x<340282366920938463463374607431768211456):tz 128 x<128∧x=2^tz 128 x*od x∧od x % 2=1 :=
 v0f 128 x h0 h1
theorem h2w {x:Nat} (h0:0<x) (h1:x<340282366920938463463374607431768211456):0<od x:=by
 have:=(n0r h0 h1).2.2;rcases Nat.eq_zero_or_pos (od x) with q | q
 ·rw[q] at this;cases this
 ·exact q
theorem od_le (x:Nat):od x≤x:=Nat.div_le_self _ _
theorem od_even {x:Nat} (h0:0<x) (h1:x<340282366920938463463374607431768211456) (he:x % 2=0):2*od x≤x:=by
 obtain ⟨_,a2,a3⟩:=n0r h0 h1;have ht:1≤tz 128 x:=by
  rcases Nat.eq_zero_or_pos (tz 128 x) with q | q
  ·rw[q] at a2;simp at a2;omega
  ·exact q
 have:2^1≤2^tz 128 x:=Nat.pow_le_pow_right (by decide) ht;have:=Nat.mul_le_mul_right (od x) this;omega
theorem i2v {a x:Nat} (ha:a % 2=1) (h0:0<x) (h1:x<340282366920938463463374607431768211456):Nat.gcd a (od x)=Nat.gcd a x:=by
 obtain ⟨_,a2,_⟩:=n0r h0 h1;have:=y1h (b:=od x) ha (tz 128 x);rw[←a2] at this;exact this.symm
theorem i2t {x y:Nat} (hx:0<x) (hx':x<340282366920938463463374607431768211456) (hy:0<y) (hy':y<340282366920938463463374607431768211456) :
  Nat.gcd x y=Nat.gcd (od x) y*2^(min (tz 128 x) (tz 128 y)):=by
 obtain ⟨_,a2,a3⟩:=n0r hx hx';obtain ⟨_,b2,b3⟩:=n0r hy hy';rw[i2u a2 b2 a3 b3,i2v a3 hy hy',Nat.mul_comm]
theorem or_pow {q k:Nat} (h:2^(k+1) ∣ q):q ||| 2^k=q+2^k:=by
 obtain ⟨m,rfl⟩:=h;exact (Nat.two_pow_add_eq_or_of_lt (i:=k+1) (b:=2^k) (by rw[Nat.pow_succ];have:=Nat.two_pow_pos k;omega) m).symm
theorem div_part {a d k q:Nat} (hd:0<d) (h:d*2^k≤a):q+2^k+(a-d*2^k) / d=q+a / d:=by
 have e:a=(a-d*2^k)+d*2^k:=by omega
 have:a / d=(a-d*2^k) / d+2^k:=by
  conv=>lhs;rw[e]
  rw[Nat.add_mul_div_left _ _ hd]
 omega
theorem half_up {x k:Nat} (hk:k<64) (h:x*2^k<340282366920938463463374607431768211456) :
  x / 18446744073709551616*2^k+x % 18446744073709551616 / 2^(64-k)=x*2^k / 18446744073709551616∧x % 18446744073709551616 / 2^(64-k)<2^k ∧
  x % 18446744073709551616*2^k % 18446744073709551616=x*2^k % 18446744073709551616:=by
 have e:18446744073709551616=2^(64-k)*2^k:=by rw[←Nat.pow_add,show 64-k+k=64 by omega]
 have hp:=Nat.two_pow_pos k;have hq:=Nat.two_pow_pos (64-k);have h0:=Nat.div_add_mod x 18446744073709551616;have h1:=Nat.mod_lt x (show 0<18446744073709551616 by decide);generalize x / 18446744073709551616=H at *
 generalize x % 18446744073709551616=L at *
 subst h0;have e1:(18446744073709551616*H+L)*2^k=L*2^k+18446744073709551616*(H*2^k):=by rw[Nat.add_mul,Nat.mul_assoc];omega
 have e2:L*2^k / 18446744073709551616=L / 2^(64-k):=by
  conv=>lhs;rw[e]
  exact Nat.mul_div_mul_right _ _ hp
 refine ⟨?_,?_,?_⟩
 ·rw[e1,Nat.add_mul_div_left _ _ (by decide),e2];omega
 ·exact Nat.div_lt_of_lt_mul (by rw[←e];exact h1)
 ·rw[e1,Nat.add_mul_mod_self_left]
theorem i2r {x k:Nat} (hk:k<64) (h:x<340282366920938463463374607431768211456) :
  x / 18446744073709551616 / 2^k=x / 2^k / 18446744073709551616 ∧
  x % 18446744073709551616 / 2^k+x / 18446744073709551616*2^(64-k) % 18446744073709551616=x / 2^k % 18446744073709551616∧x % 18446744073709551616 / 2^k<2^(64-k) ∧
  ∃m,x / 18446744073709551616*2^(64-k) % 18446744073709551616=2^(64-k)*m:=by
 have e:18446744073709551616=2^k*2^(64-k):=by rw[←Nat.pow_add,show k+(64-k)=64 by omega]
 have hp:=Nat.two_pow_pos k;have hq:=Nat.two_pow_pos (64-k);have c1:x / 18446744073709551616 / 2^k=x / 2^k / 18446744073709551616:=by rw[Nat.div_div_eq_div_mul,Nat.div_div_eq_div_mul,Nat.mul_comm]
 have h0:=Nat.div_add_mod x 18446744073709551616;have h1:=Nat.mod_lt x (show 0<18446744073709551616 by decide);have hm0:∀H:Nat,H*2^(64-k) % 18446744073709551616=2^(64-k)*(H % 2^k):=by
  intro H
  conv=>lhs;rw[e]
  rw[Nat.mul_mod_mul_right,Nat.mul_comm]
 have hm:=hm0 (x / 18446744073709551616);have c3:x % 18446744073709551616 / 2^k<2^(64-k):=Nat.div_lt_of_lt_mul (by rw[←e];exact h1);refine ⟨c1,?_,c3,_,hm⟩;rw[hm];generalize x / 18446744073709551616=H at *
 generalize x % 18446744073709551616=L at *
 subst h0;have e1:(18446744073709551616*H+L) / 2^k=L / 2^k+2^(64-k)*H:=by
  conv=>lhs;rw[e]
  rw[Nat.mul_assoc,Nat.add_comm,Nat.add_mul_div_left _ _ hp]
 have h2:=Nat.div_add_mod H (2^k);have e2:2^(64-k)*H=18446744073709551616*(H / 2^k)+2^(64-k)*(H % 2^k):=by
  conv=>lhs;rw[←h2]
  rw[Nat.mul_add,←Nat.mul_assoc,Nat.mul_comm (2^(64-k)),←e]
 rw[e1,e2];have hlt:L / 2^k+2^(64-k)*(H % 2^k)<18446744073709551616:=by
  have h3:=Nat.mod_lt H hp;have h4:2^(64-k)*(H % 2^k+1)≤2^(64-k)*2^k:=Nat.mul_le_mul_left _ h3;rw[Nat.mul_comm (2^(64-k)) (2^k),←e,Nat.mul_add,Nat.mul_one] at h4;omega
 omega
end Go.Plim

namespace Go.Plim
set_option linter.unusedVariables false
theorem j2u:∀(k a b:Nat),a+b+1=2^k→a &&& b=0:=by
 intro k;induction k with
 | zero => intro a b h; have : a = 0 := by simp at h; omega
           rw[this];simp
 | succ k ih =>
  intro a b h;rw[Nat.pow_succ] at h;have h1:(a &&& b) % 2≠1:=by rw[ne_eq,Nat.and_mod_two_eq_one];omega
  have h2:(a &&& b) / 2=0:=by rw[Nat.and_div_two];exact ih _ _ (by omega)
  omega
theorem low_bit {x:Nat} (h0:0<x) (h:x<18446744073709551616):x &&& (18446744073709551616-x)=2^tz 64 x:=by
 obtain ⟨a1,a2,a3⟩:=v0f 64 x h0 h;generalize hs:tz 64 x=s at *
 generalize x / 2^s=o at *
 have e:18446744073709551616=2^s*2^(64-s):=by rw[←Nat.pow_add,show s+(64-s)=64 by omega]
 have hp:=Nat.two_pow_pos s;have e1:18446744073709551616-x=2^s*(2^(64-s)-o):=by rw[Nat.mul_sub,←e,←a2]
 have ho:o<2^(64-s):=by
  rcases Nat.lt_or_ge o (2^(64-s)) with q | q
  ·exact q
  ·have:=Nat.mul_le_mul_left (2^s) q;rw[←e,←a2] at this;omega
 obtain ⟨c,hc⟩:∃c,2^(64-s)=2*2^c:=⟨63-s,by rw[show 64-s=(63-s)+1 by omega,Nat.pow_succ,Nat.mul_comm]⟩;have e2:o &&& (2^(64-s)-o)=1:=by
  have h1:(o &&& (2^(64-s)-o)) % 2=1:=by rw[Nat.and_mod_two_eq_one];omega
  have h2:(o &&& (2^(64-s)-o)) / 2=0:=by rw[Nat.and_div_two];exact j2u c _ _ (by omega)
  omega
 rw[e1]
 conv=>lhs;rw[a2]
 rw[Nat.mul_comm (2^s) o,Nat.mul_comm (2^s),←Nat.shiftLeft_eq,←Nat.shiftLeft_eq,←Nat.shiftLeft_and_distrib,e2,Nat.shiftLeft_eq,Nat.one_mul]
theorem tz_lo {x:Nat} (h:x<340282366920938463463374607431768211456) (h0:0<x % 18446744073709551616):tz 128 x=tz 64 (x % 18446744073709551616):=by
 obtain ⟨a1,a2,a3⟩:=v0f 64 _ h0 (Nat.mod_lt x (by decide));generalize tz 64 (x % 18446744073709551616)=s at *
 have e:18446744073709551616=2^s*(2*2^(63-s)):=by rw[←Nat.pow_succ',←Nat.pow_add,show s+(63-s).succ=64 by omega]
 have hp:=Nat.two_pow_pos s;have h2:=Nat.div_add_mod x 18446744073709551616;generalize x % 18446744073709551616=L at *
 generalize x / 18446744073709551616=H at *
 generalize L / 2^s=o at *
 have e1:x=2^s*(2*(2^(63-s)*H)+o):=by
  rw[Nat.mul_add,←a2,←Nat.mul_assoc 2,←Nat.mul_assoc (2^s),←e];omega
 refine d1b (by omega) h ?_ ?_
 ·rw[e1,Nat.mul_mod_right]
 ·rw[e1,Nat.mul_div_cancel_left _ hp];omega
theorem tz_hi {x:Nat} (h:x<340282366920938463463374607431768211456) (h0:x % 18446744073709551616=0) (hx:0<x):tz 128 x=64+tz 64 (x / 18446744073709551616):=by
 have hH:0<x / 18446744073709551616:=by omega
 obtain ⟨a1,a2,a3⟩:=v0f 64 _ hH (by omega);generalize tz 64 (x / 18446744073709551616)=s at *
 have h2:=Nat.div_add_mod x 18446744073709551616;generalize x / 18446744073709551616=H at *
 generalize H / 2^s=o at *
 have hp:=Nat.two_pow_pos (64+s);have e1:x=2^(64+s)*o:=by
  rw[Nat.pow_add,Nat.mul_assoc,←a2];omega
 refine d1b hx h ?_ ?_
 ·rw[e1,Nat.mul_mod_right]
 ·rw[e1,Nat.mul_div_cancel_left _ hp];exact a3
theorem b2e {k x s:Nat} (h:x<2^k) (hs:2^s≤x):bl k x=s+bl k (x / 2^s):=by
 have hp:=Nat.two_pow_pos s;have h0:0<x / 2^s:=Nat.div_pos hs hp;have h1:x / 2^s<2^k:=Nat.lt_of_le_of_lt (Nat.div_le_self _ _) h;obtain ⟨a1,a2,a3⟩:=j0d k (x / 2^s) h1;obtain ⟨b1,b2⟩:=a2 h0;obtain ⟨c,hc⟩:∃c,bl k (x / 2^s)=c+1:=⟨bl k (x / 2^s)-1,by omega⟩;rw[hc] at a1 b2 ⊢;rw[Nat.add_sub_cancel] at b2;rw[←Nat.add_assoc];refine u1j h (by omega) ?_ ?_
 ·rw[Nat.pow_add,Nat.mul_comm];exact (Nat.le_div_iff_mul_le hp).1 b2
 ·rw[Nat.add_assoc,Nat.pow_add,Nat.mul_comm];exact (Nat.div_lt_iff_lt_mul hp).1 a1
theorem b2d {k m x:Nat} (h:x<2^k) (h':x<2^m):bl k x=bl m x:=by
 rcases Nat.eq_zero_or_pos x with q | q
 ·subst q;rw[a1n,a1n]
 ·obtain ⟨a1,a2,_⟩:=j0d m x h';obtain ⟨b1,b2⟩:=a2 q;obtain ⟨c,hc⟩:∃c,bl m x=c+1:=⟨bl m x-1,by omega⟩;rw[hc] at a1 b2 ⊢;rw[Nat.add_sub_cancel] at b2;exact u1j h q b2 a1
theorem bl_up {a d k:Nat} (ha:a<2^128) (hd:d<2^128) (hk:bl 128 d+k≤bl 128 a) (h0:0<a):d*2^k<2^128:=by
 obtain ⟨a1,a2,a3⟩:=j0d 128 a ha;obtain ⟨d1,d2,d3⟩:=j0d 128 d hd;have h1:d*2^k<2^bl 128 d*2^k:=Nat.mul_lt_mul_of_pos_right d1 (Nat.two_pow_pos k);rw[←Nat.pow_add] at h1;exact Nat.lt_of_lt_of_le h1 (Nat.pow_le_pow_right (by decide) (by omega))
theorem bl_over {a d:Nat} (ha:a<2^128) (hd:d<2^128) (h0:0<d):a<d*2^(bl 128 a-bl 128 d+1):=by
 obtain ⟨a1,a2,a3⟩:=j0d 128 a ha;obtain ⟨d1,d2,d3⟩:=j0d 128 d hd;obtain ⟨b1,b2⟩:=d2 h0;have h1:2^(bl 128 d-1)*2^(bl 128 a-bl 128 d+1)≤d*2^(bl 128 a-bl 128 d+1):=Nat.mul_le_mul_right _ b2;rw[←Nat.pow_add] at h1;have h2:2^bl 128 a≤2^(bl 128 d-1+(bl 128 a-bl 128 d+1)):=Nat.pow_le_pow_right (by decide) (by omega);omega
theorem bl_less {a d:Nat} (ha:a<2^128) (hd:d<2^128) (h:bl 128 a<bl 128 d):a<d:=by
 obtain ⟨a1,a2,a3⟩:=j0d 128 a ha;obtain ⟨d1,d2,d3⟩:=j0d 128 d hd;rcases Nat.eq_zero_or_pos d with q | q
 ·subst q;rw[a1n] at h;omega
 ·obtain ⟨b1,b2⟩:=d2 q;have:2^bl 128 a≤2^(bl 128 d-1):=Nat.pow_le_pow_right (by decide) (by omega);omega
def byt (v j:Nat):Nat:=v / 256^j % 256
theorem byt_or {v i:Nat} (h:2^(i+1) ∣ v) (j:Nat):byt (v+2^i) j=if i / 8=j then byt v j ||| 2^(i % 8) else byt v j:=by
 unfold byt;have e:(256:Nat)^j=2^(8*j):=by rw[Nat.pow_mul]
 rw[←or_pow h,e,Nat.or_div_two_pow,show (256:Nat)=2^8 from rfl,Nat.or_mod_two_pow];have e2:2^i / 2^(8*j) % 2^8=if i / 8=j then 2^(i % 8) else 0:=by
  rcases Nat.lt_or_ge i (8*j) with q | q
  ·rw[Nat.div_eq_of_lt (Nat.pow_lt_pow_right (by decide) q),if_neg (by omega)]
  ·rw[Nat.pow_div q (by decide)];split
   ·rw[show i-8*j=i % 8 by omega];exact Nat.mod_eq_of_lt (Nat.pow_lt_pow_right (by decide) (Nat.mod_lt _ (by decide)))
   ·obtain ⟨c,hc⟩:∃c,i-8*j=8+c:=⟨i-8*j-8,by omega⟩;rw[hc,Nat.pow_add,Nat.mul_mod_right]
 rw[e2];split
 ·rfl
 ·rw[Nat.or_zero]
theorem u1e (v j:Nat):byt v j<256:=Nat.mod_lt _ (by decide)
theorem bit_byt (v i:Nat):byt v (i / 8) / 2^(i % 8) % 2=v / 2^i % 2:=by
 unfold byt;have e:(256:Nat)^(i / 8)=2^(8*(i / 8)):=by rw[Nat.pow_mul]
 obtain ⟨c,hc⟩:∃c,(256:Nat)=2^(i % 8)*(2*2^c):=⟨7-i % 8,by rw[←Nat.pow_succ',←Nat.pow_add,show i % 8+(7-i % 8).succ=8 by have:=Nat.mod_lt i (show 0<8 by decide);omega]⟩;rw[e];generalize hw:v / 2^(8*(i / 8))=w;have e1:v / 2^i=w / 2^(i % 8):=by
  rw[←hw,Nat.div_div_eq_div_mul,←Nat.pow_add,show 8*(i / 8)+i % 8=i by omega]
 rw[e1]
 conv=>lhs;rw[hc]
 rw[Nat.mod_mul_right_div_self,Nat.mod_mul_right_mod]
end Go.Plim

namespace Go.Proofs.YtgkpkajaepphjaaGreatDoor
open Go.Flat Go.Plim
set_option linter.unusedVariables false
set_option linter.unusedSimpArgs false
theorem wrapN (x:Nat):IntKind.wrap .u64 (x:Int)=((x % 18446744073709551616:Nat):Int):=by
 rw[IntKind.wrap_u64];omega
theorem shlN (x k:Nat) (hk:k≤64):shlI .u64 (x:Int) (k:Int)=((x*2^k % 18446744073709551616:Nat):Int):=by
 show IntKind.wrap .u64 ((x:Int)*2^(min (k:Int).toNat 64))=_;rw[show min (k:Int).toNat 64=k by omega,←wrapN];congr 1
theorem shrN (x k:Nat) (hk:k≤64):shrI .u64 (x:Int) (k:Int)=((x / 2^k:Nat):Int):=by
 rw[n0l _ _ hk];simp
theorem orN {x y:Nat} (hx:x<18446744073709551616) (hy:y<18446744073709551616):orI .u64 (x:Int) (y:Int)=((x ||| y:Nat):Int):=by
 unfold orI;have e2:(BitVec.ofInt IntKind.u64.bits (x:Int) ||| BitVec.ofInt IntKind.u64.bits (y:Int)).toNat=x ||| y:=by
  show (BitVec.ofInt 64 (x:Int) ||| BitVec.ofInt 64 (y:Int)).toNat=_;rw[BitVec.toNat_or,BitVec.ofInt_natCast,BitVec.ofInt_natCast,BitVec.toNat_ofNat,BitVec.toNat_ofNat,Nat.mod_eq_of_lt (by omega),Nat.mod_eq_of_lt (by omega)]
 rw[e2];have:x ||| y<2^64:=Nat.or_lt_two_pow (by omega) (by omega)
 exact wu64 (by omega) (by omega)
theorem andN {x y:Nat} (hx:x<18446744073709551616) (hy:y<18446744073709551616):andI .u64 (x:Int) (y:Int)=((x &&& y:Nat):Int):=by
 unfold andI;have e2:(BitVec.ofInt IntKind.u64.bits (x:Int) &&& BitVec.ofInt IntKind.u64.bits (y:Int)).toNat=x &&& y:=by
  show (BitVec.ofInt 64 (x:Int) &&& BitVec.ofInt 64 (y:Int)).toNat=_;rw[BitVec.toNat_and,BitVec.ofInt_natCast,BitVec.ofInt_natCast,BitVec.toNat_ofNat,BitVec.toNat_ofNat,Nat.mod_eq_of_lt (by omega),Nat.mod_eq_of_lt (by omega)]
 rw[e2];have:x &&& y≤x:=Nat.and_le_left;exact wu64 (by omega) (by omega)
theorem z1y {H L k:Nat} (h:L<2^k):H*2^k ||| L=H*2^k+L:=by
 rw[Nat.mul_comm];exact (Nat.two_pow_add_eq_or_of_lt h H).symm
end Go.Proofs.YtgkpkajaepphjaaGreatDoor
namespace Go.Proofs.YtgkpkajaepphjaaGreatDoor
open Go.Flat Go.Plim
set_option linter.unusedVariables false
def lenT:List UInt8 :=
 g0g
theorem d2x (n:Nat) (x:Int):d0m (n+1) x =
 tif ((decide ((4294967296:Int)≤x))) (
 tif ((decide ((65536:Int)≤(shrI .u64 x (32:Int))))) (
 tif ((decide ((256:Int)≤(shrI .u64 (shrI .u64 x (32:Int)) (16:Int))))) (
 a0a (at? lenT (IntKind.wrap .u8 (shrI .u64 (shrI .u64 (shrI .u64 x (32:Int)) (16:Int)) (8:Int)))) fun r0 =>
 some (IntKind.wrap .i64 ((56:Int)+(IntKind.wrap .i64 (((UInt8.toNat r0):Nat):Int))))) (
 a0a (at? lenT (IntKind.wrap .u8 (shrI .u64 (shrI .u64 x (32:Int)) (16:Int)))) fun r1 =>
 some (IntKind.wrap .i64 ((48:Int)+(IntKind.wrap .i64 (((UInt8.toNat r1):Nat):Int)))))) (
 tif ((decide ((256:Int)≤(shrI .u64 x (32:Int))))) (
 a0a (at? lenT (IntKind.wrap .u8 (shrI .u64 (shrI .u64 x (32:Int)) (8:Int)))) fun r2 =>
 some (IntKind.wrap .i64 ((40:Int)+(IntKind.wrap .i64 (((UInt8.toNat r2):Nat):Int))))) (
 a0a (at? lenT (IntKind.wrap .u8 (shrI .u64 x (32:Int)))) fun r3 =>
 some (IntKind.wrap .i64 ((32:Int)+(IntKind.wrap .i64 (((UInt8.toNat r3):Nat):Int))))))) (
 tif ((decide ((65536:Int)≤x))) (
 tif ((decide ((256:Int)≤(shrI .u64 x (16:Int))))) (
 a0a (at? lenT (IntKind.wrap .u8 (shrI .u64 (shrI .u64 x (16:Int)) (8:Int)))) fun r4 =>
 some (IntKind.wrap .i64 ((24:Int)+(IntKind.wrap .i64 (((UInt8.toNat r4):Nat):Int))))) (
 a0a (at? lenT (IntKind.wrap .u8 (shrI .u64 x (16:Int)))) fun r5 =>
 some (IntKind.wrap .i64 ((16:Int)+(IntKind.wrap .i64 (((UInt8.toNat r5):Nat):Int)))))) (
 tif ((decide ((256:Int)≤x))) (
 a0a (at? lenT (IntKind.wrap .u8 (shrI .u64 x (8:Int)))) fun r6 =>
 some (IntKind.wrap .i64 ((8:Int)+(IntKind.wrap .i64 (((UInt8.toNat r6):Nat):Int))))) (
 a0a (at? lenT (IntKind.wrap .u8 x)) fun r7 =>
 some (IntKind.wrap .i64 ((0:Int)+(IntKind.wrap .i64 (((UInt8.toNat r7):Nat):Int))))))):=y0k n x
theorem lenT_all:((List.range 256).all fun z=>match lenT[z]? with | some r=>decide (r.toNat=bl 64 z) | none=>false)=true:=by decide +kernel
end Go.Proofs.YtgkpkajaepphjaaGreatDoor
namespace Go.Proofs.YtgkpkajaepphjaaGreatDoor
open Go.Flat Go.Plim
set_option linter.unusedVariables false
set_option linter.unusedSimpArgs false
theorem f0d (n x:Nat):k0t (n+1) (ofN x)=some (decide (x=0)):=by
 rw[l1y,t0w]
theorem up_small {x k:Nat} (hk:k≤128) (h:x*2^k<340282366920938463463374607431768211456):x<2^(128-k):=by
 have e:340282366920938463463374607431768211456=2^(128-k)*2^k:=by rw[←Nat.pow_add,show 128-k+k=128 by omega]
 rw[e] at h;exact Nat.lt_of_mul_lt_mul_right h
theorem r0n (n x k:Nat) (hk:k<128) (h:x*2^k<340282366920938463463374607431768211456):w0z (n+1) (ofN x) (k:Int)=some (ofN (x*2^k)):=by
 rw[v1w];simp only[tfd];by_cases c:64≤k
 ·have e:(k:Int)-64=((k-64:Nat):Int):=by omega
  have hx:x<18446744073709551616:=Nat.lt_of_lt_of_le (up_small (by omega) h) (show 2^(128-k)≤2^64 from Nat.pow_le_pow_right (by decide) (by omega));have e2:x*2^k=18446744073709551616*(x*2^(k-64)):=by
   rw[show (18446744073709551616:Nat)=2^64 from rfl,Nat.mul_left_comm,←Nat.pow_add,show 64+(k-64)=k by omega]
  rw[if_pos (by omega),w64 (by omega) (by omega),if_neg (by omega),e];show some (shlI .u64 ((x % 18446744073709551616:Nat):Int) _,_)=some (((x*2^k / 18446744073709551616:Nat):Int),((x*2^k % 18446744073709551616:Nat):Int));rw[shlN _ _ (by omega),Nat.mod_eq_of_lt hx,e2,Nat.mul_div_cancel_left _ (by decide),Nat.mul_mod_right];rw[e2] at h;have:x*2^(k-64)<18446744073709551616:=Nat.lt_of_mul_lt_mul_left (show 18446744073709551616*(x*2^(k-64))<18446744073709551616*18446744073709551616 from h);rw[Nat.mod_eq_of_lt this];rfl
 ·have e:(64:Int)-k=((64-k:Nat):Int):=by omega
  obtain ⟨a1,a2,a3⟩:=half_up (show k<64 by omega) h;rw[if_neg (by omega),if_neg (by omega),w64 (by omega) (by omega),if_neg (by omega),if_neg (by omega),e];show some (orI .u64 (shlI .u64 ((x / 18446744073709551616:Nat):Int) _) (shrI .u64 ((x % 18446744073709551616:Nat):Int) _),shlI .u64 ((x % 18446744073709551616:Nat):Int) _)=some (((x*2^k / 18446744073709551616:Nat):Int),((x*2^k % 18446744073709551616:Nat):Int));have hq:x*2^k / 18446744073709551616<18446744073709551616:=Nat.div_lt_of_lt_mul h
  have h1:x / 18446744073709551616*2^k<18446744073709551616:=Nat.lt_of_le_of_lt (by rw[←a1];exact Nat.le_add_right _ _) hq;have h2:x % 18446744073709551616 / 2^(64-k)<18446744073709551616:=Nat.lt_of_le_of_lt (Nat.div_le_self _ _) (Nat.mod_lt _ (by decide));rw[shlN _ _ (by omega),shrN _ _ (by omega),shlN _ _ (by omega),Nat.mod_eq_of_lt h1,orN h1 h2,z1y a2,a1,a3]
theorem u0o (n x k:Nat) (hk:k<128) (h:x<340282366920938463463374607431768211456):t0m (n+1) (ofN x) (k:Int)=some (ofN (x / 2^k)):=by
 rw[m1b];simp only[tfd];have hq:x / 18446744073709551616<18446744073709551616:=Nat.div_lt_of_lt_mul h;by_cases c:64≤k
 ·have e:(k:Int)-64=((k-64:Nat):Int):=by omega
  rw[if_pos (by omega),w64 (by omega) (by omega),if_neg (by omega),e];show some (_,shrI .u64 ((x / 18446744073709551616:Nat):Int) _)=some (((x / 2^k / 18446744073709551616:Nat):Int),((x / 2^k % 18446744073709551616:Nat):Int));have e2:x / 2^k=x / 18446744073709551616 / 2^(k-64):=by
   rw[Nat.div_div_eq_div_mul,show (18446744073709551616:Nat)=2^64 from rfl,←Nat.pow_add,show 64+(k-64)=k by omega]
  have hlt:x / 18446744073709551616 / 2^(k-64)<18446744073709551616:=Nat.lt_of_le_of_lt (Nat.div_le_self _ _) hq;rw[shrN _ _ (by omega),e2,Nat.div_eq_of_lt hlt,Nat.mod_eq_of_lt hlt];rfl
 ·have e:(64:Int)-k=((64-k:Nat):Int):=by omega
  obtain ⟨a1,a2,a3,m,a4⟩:=i2r (show k<64 by omega) h;rw[if_neg (by omega),if_neg (by omega),if_neg (by omega),w64 (by omega) (by omega),if_neg (by omega),e];show some (shrI .u64 ((x / 18446744073709551616:Nat):Int) _,orI .u64 (shrI .u64 ((x % 18446744073709551616:Nat):Int) _) (shlI .u64 ((x / 18446744073709551616:Nat):Int) _))=some (((x / 2^k / 18446744073709551616:Nat):Int),((x / 2^k % 18446744073709551616:Nat):Int));have h3:x % 18446744073709551616 / 2^k<18446744073709551616:=Nat.lt_of_le_of_lt (Nat.div_le_self _ _) (Nat.mod_lt _ (by decide))
  have h4:x / 18446744073709551616*2^(64-k) % 18446744073709551616<18446744073709551616:=Nat.mod_lt _ (by decide);rw[shrN _ _ (by omega),shrN _ _ (by omega),shlN _ _ (by omega),orN h3 h4,Nat.or_comm];have a4':x / 18446744073709551616*2^(64-k) % 18446744073709551616=m*2^(64-k):=by rw[Nat.mul_comm m];exact a4
  rw[a4',z1y a3,←a4',Nat.add_comm];rw[show x % 18446744073709551616 / 2^k+x / 18446744073709551616*2^(64-k) % 18446744073709551616=x / 2^k % 18446744073709551616 from a2,show x / 18446744073709551616 / 2^k=x / 2^k / 18446744073709551616 from a1]
theorem wide_sub (n:Nat) {x y:Nat} (hx:x<340282366920938463463374607431768211456) (h:y≤x):k1v (n+2) (ofN x) (ofN y)=some (ofN (x-y),0):=by
 rw[u1r];have h1:x / 18446744073709551616<18446744073709551616:=Nat.div_lt_of_lt_mul hx;have h2:y / 18446744073709551616<18446744073709551616:=Nat.div_lt_of_lt_mul (Nat.lt_of_le_of_lt h hx);have h3:x % 18446744073709551616<18446744073709551616:=Nat.mod_lt _ (by decide);have h4:y % 18446744073709551616<18446744073709551616:=Nat.mod_lt _ (by decide);have e:∀z:Nat,ofN z=(((z / 18446744073709551616:Nat):Int),((z % 18446744073709551616:Nat):Int)):=fun _=>rfl
 rw[e x,e y,e (x-y)];have ex:=Nat.div_add_mod x 18446744073709551616;have ey:=Nat.div_add_mod y 18446744073709551616;have ez:=Nat.div_add_mod (x-y) 18446744073709551616;have h5:(x-y) % 18446744073709551616<18446744073709551616:=Nat.mod_lt _ (by decide);generalize x / 18446744073709551616=a at *
 generalize x % 18446744073709551616=b at *
 generalize y / 18446744073709551616=c at *
 generalize y % 18446744073709551616=d at *
 generalize (x-y) / 18446744073709551616=p at *
 generalize (x-y) % 18446744073709551616=q at *
 simp only[d1c,tfd,tft];by_cases hb:b<d
 ·have hb':(b:Int)<(d:Int)+0:=by omega
  rw[if_pos (by omega),if_pos (by omega),if_pos (by omega),if_pos (by omega),if_pos (by omega),if_pos (by omega),if_pos hb',if_pos (by omega),if_pos (by omega),if_neg (by omega),k0h,obs,if_pos rfl];congr 3<;>omega
 ·have hb':¬(b:Int)<(d:Int)+0:=by omega
  rw[if_pos (by omega),if_pos (by omega),if_pos (by omega),if_pos (by omega),if_pos (by omega),if_pos (by omega),if_neg hb',if_pos (by omega),if_pos (by omega),if_neg (by omega),k0h,obs,if_pos rfl];congr 3<;>omega
theorem n0m (n:Nat) {x y:Nat} (hx:x<340282366920938463463374607431768211456) (h:y≤x):i0x (n+3) (ofN x) (ofN y)=some (ofN (x-y)):=by
 rw[m1a,wide_sub n hx h];rfl
theorem j1f (n:Nat) {x y:Nat} (hx:x<340282366920938463463374607431768211456) (hy:y<340282366920938463463374607431768211456):b0z (n+1) (ofN x) (ofN y)=some (decide (x<y)):=by
 rw[n0t n (b1e hx) (b1e hy),j1d,j1d];congr 1;exact decide_eq_decide.2 (by omega)
theorem tz_pow (n:Nat):((List.range 64).all fun t=>match j0s (n+1) ((2^t:Nat):Int) with | some r=>decide (r=(t:Int)) | none=>false)=true:=by kernel_rfl
theorem tz_at (n t:Nat) (ht:t<64):j0s (n+1) ((2^t:Nat):Int)=some (t:Int):=by
 have h:=List.all_eq_true.1 (tz_pow n) t (List.mem_range.2 ht);split at h
 ·rename_i r hr;rw[hr,of_decide_eq_true h]
 ·cases h
theorem a2g {x:Nat} (h0:0<x) (h:x<18446744073709551616):andI .u64 (x:Int) (IntKind.wrap .u64 ((0:Int)-x))=((2^tz 64 x:Nat):Int):=by
 rw[show IntKind.wrap .u64 ((0:Int)-x)=((18446744073709551616-x:Nat):Int) by rw[IntKind.wrap_u64];omega,andN h (by omega)];exact congrArg Int.ofNat (low_bit h0 h)
theorem tz_val (n:Nat) {x:Nat} (h0:0<x) (h:x<18446744073709551616):j0s (n+1) (x:Int)=some ((tz 64 x:Nat):Int):=by
 have ht:=(v0f 64 x h0 h).1;have hp:=Nat.two_pow_pos (tz 64 x);have hp2:2^tz 64 x<18446744073709551616:=Nat.pow_lt_pow_right (a:=2) (by decide) ht;rw[←tz_at n _ ht];have e:tz 64 (2^tz 64 x)=tz 64 x:=d1b hp hp2 (Nat.mod_self _) (by rw[Nat.div_self hp]);rw[b1n,b1n,a2g h0 h,a2g hp hp2,e,decide_eq_false (show ¬((x:Int)=0) by omega),decide_eq_false (show ¬(((2^tz 64 x:Nat):Int)=0) by omega)]
theorem v0p (n:Nat) {x:Nat} (h0:0<x) (h:x<340282366920938463463374607431768211456):g0e (n+2) (ofN x)=some ((tz 128 x:Nat):Int):=by
 rw[b1w];show tif (decide (((x % 18446744073709551616:Nat):Int)=0)) (a0a (j0s (n+1) ((x / 18446744073709551616:Nat):Int)) fun r0=>some (IntKind.wrap .i64 (64+r0))) (a0a (j0s (n+1) ((x % 18446744073709551616:Nat):Int)) fun r1=>some r1)=_;rw[tfd];by_cases c:x % 18446744073709551616=0
 ·have h1:0<x / 18446744073709551616:=by omega
  have h2:x / 18446744073709551616<18446744073709551616:=Nat.div_lt_of_lt_mul h;have ht:=(v0f 64 _ h1 h2).1;rw[if_pos (by omega),tz_val n h1 h2,obs,w64 (by omega) (by omega),tz_hi h c h0];congr 1
 ·rw[if_neg (by omega),tz_val n (by omega) (Nat.mod_lt _ (by decide)),obs,tz_lo h (by omega)]
theorem lenT_at {z:Nat} (h:z<256):∃r,at? lenT (z:Int)=some r∧r.toNat=bl 64 z:=by
 have h1:=List.all_eq_true.1 lenT_all z (List.mem_range.2 h);split at h1
 ·rename_i r hr;refine ⟨r,?_,of_decide_eq_true h1⟩;unfold at?;rw[decide_eq_true (by omega)];exact hr
 ·cases h1
theorem m0r {x s K:Nat} {I S:Int} (hK:K=2^s) (hI:I=((x / K:Nat):Int)) (hS:S=s) (h2:x / K<256) (h1:K≤x∨s=0) (hx:x<18446744073709551616) (hs:s≤56) :
  (a0a (at? lenT (IntKind.wrap .u8 I)) fun r=>some (IntKind.wrap .i64 (S+IntKind.wrap .i64 (((UInt8.toNat r):Nat):Int))))=some ((bl 64 x:Nat):Int):=by
 obtain ⟨r,hr,hb⟩:=lenT_at h2;have hle:=(j0d 64 (x / K) (Nat.lt_of_le_of_lt (Nat.div_le_self _ _) hx)).2.2;have e:bl 64 x=s+bl 64 (x / K):=by
  rcases h1 with h1 | rfl
  ·rw[hK] at h1 ⊢;exact b2e hx h1
  ·subst hK;simp
 rw[hI,e];generalize x / K=z at *
 rw[wu8 (by omega) (by omega),hr,obs,hb,w64 (x:=((bl 64 z:Nat):Int)) (by omega) (by omega),hS,w64 (by omega) (by omega)];congr 1
theorem s1t (n:Nat) {x:Nat} (h:x<18446744073709551616):d0m (n+1) (x:Int)=some ((bl 64 x:Nat):Int):=by
 have s32:∀z:Nat,shrI .u64 (z:Int) (32:Int)=((z / 4294967296:Nat):Int):=fun z=>shrN z 32 (by decide)
 have s16:∀z:Nat,shrI .u64 (z:Int) (16:Int)=((z / 65536:Nat):Int):=fun z=>shrN z 16 (by decide)
 have s8:∀z:Nat,shrI .u64 (z:Int) (8:Int)=((z / 256:Nat):Int):=fun z=>shrN z 8 (by decide)
 have h':=h;rw[d2x];simp only[s32,s16,s8,tfd];by_cases c5:4294967296≤x
 ·rw[if_pos (by omega)];by_cases c4:65536≤x / 4294967296
  ·rw[if_pos (by omega)];by_cases c3:256≤x / 4294967296 / 65536
   ·rw[if_pos (by omega)];exact m0r (s:=56) (K:=72057594037927936) rfl (by omega) rfl (by omega) (.inl (by omega)) h (by decide)
   ·rw[if_neg (by omega)];exact m0r (s:=48) (K:=281474976710656) rfl (by omega) rfl (by omega) (.inl (by omega)) h (by decide)
  ·rw[if_neg (by omega)];by_cases c3:256≤x / 4294967296
   ·rw[if_pos (by omega)];exact m0r (s:=40) (K:=1099511627776) rfl (by omega) rfl (by omega) (.inl (by omega)) h (by decide)
   ·rw[if_neg (by omega)];exact m0r (s:=32) (K:=4294967296) rfl (by omega) rfl (by omega) (.inl (by omega)) h (by decide)
 ·rw[if_neg (by omega)];by_cases c4:65536≤x
  ·rw[if_pos (by omega)];by_cases c3:256≤x / 65536
   ·rw[if_pos (by omega)];exact m0r (s:=24) (K:=16777216) rfl (by omega) rfl (by omega) (.inl (by omega)) h (by decide)
   ·rw[if_neg (by omega)];exact m0r (s:=16) (K:=65536) rfl (by omega) rfl (by omega) (.inl (by omega)) h (by decide)
  ·rw[if_neg (by omega)];by_cases c3:256≤x
   ·rw[if_pos (by omega)];exact m0r (s:=8) (K:=256) rfl (by omega) rfl (by omega) (.inl (by omega)) h (by decide)
   ·rw[if_neg (by omega)];exact m0r (s:=0) (K:=1) rfl (by omega) rfl (by omega) (.inr rfl) h (by decide)
theorem a2i (n:Nat) {x:Nat} (h:x<340282366920938463463374607431768211456):t0l (n+2) (ofN x)=some ((bl 128 x:Nat):Int):=by
 rw[l1z];show tif (!decide (((x / 18446744073709551616:Nat):Int)=0)) (a0a (d0m (n+1) ((x / 18446744073709551616:Nat):Int)) fun r0=>some (IntKind.wrap .i64 (64+r0))) (a0a (d0m (n+1) ((x % 18446744073709551616:Nat):Int)) fun r1=>some r1)=_;have hq:x / 18446744073709551616<18446744073709551616:=Nat.div_lt_of_lt_mul h;rw[tfn,tfd];by_cases c:x / 18446744073709551616=0
 ·have hx:x<18446744073709551616:=by omega
  rw[if_pos (by omega),s1t n (Nat.mod_lt _ (by decide)),obs,Nat.mod_eq_of_lt hx,b2d (k:=64) (m:=128) hx h]
 ·have hle:=(j0d 64 (x / 18446744073709551616) hq).2.2;rw[if_neg (by omega),s1t n hq,obs,w64 (by omega) (by omega),b2e (k:=128) (s:=64) h (by omega)];rw[←b2d (k:=128) (m:=64) (x:=x / 18446744073709551616) (Nat.lt_of_lt_of_le hq (by decide)) hq];congr 1
theorem or_ofN {x y:Nat} (hx:x<340282366920938463463374607431768211456) (hy:y<340282366920938463463374607431768211456):((orI .u64 (ofN x).1 (ofN y).1,orI .u64 (ofN x).2 (ofN y).2):Wd)=ofN (x ||| y):=by
 show ((orI .u64 ((x / 18446744073709551616:Nat):Int) ((y / 18446744073709551616:Nat):Int),orI .u64 ((x % 18446744073709551616:Nat):Int) ((y % 18446744073709551616:Nat):Int)):Wd)=((((x ||| y) / 18446744073709551616:Nat):Int),(((x ||| y) % 18446744073709551616:Nat):Int));have e1:(x ||| y) / 18446744073709551616=x / 18446744073709551616 ||| y / 18446744073709551616:=Nat.or_div_two_pow (n:=64)
 have e2:(x ||| y) % 18446744073709551616=x % 18446744073709551616 ||| y % 18446744073709551616:=Nat.or_mod_two_pow (n:=64)
 rw[e1,e2,orN (Nat.div_lt_of_lt_mul hx) (Nat.div_lt_of_lt_mul hy),orN (Nat.mod_lt _ (by decide)) (Nat.mod_lt _ (by decide))]
theorem one_ofN:((0,1):Wd)=ofN 1:=rfl
theorem z1a:((0,0):Wd)=ofN 0:=rfl
theorem whole_l3 (n:Nat) {d A:Nat} (hd:0<d) (hA:A<340282366920938463463374607431768211456) (hdM:d<340282366920938463463374607431768211456) (s4:Wd):∀(k f a q:Nat),q+a / d=A / d→a≤A→a<d*2^k→2^k ∣ q→(k=0∨d*2^(k-1)<340282366920938463463374607431768211456)→k≤128→k<f →
  g0o (n+3) f (ofN a,ofN d,s4,ofN q,(k:Int)-1,())=some (.inl (s4,ofN (A / d),())):=by
 intro k;induction k with
 | zero =>
  intro f a q h1 h2 h3 h4 h5 h6 hf;obtain ⟨f,rfl⟩:∃g,f=g+1:=⟨f-1,by omega⟩;rw[i0w,decide_eq_false (by omega),tff];rw[Nat.pow_zero,Nat.mul_one] at h3;rw[Nat.div_eq_of_lt h3,Nat.add_zero] at h1;rw[h1]
 | succ k ih =>
  intro f a q h1 h2 h3 h4 h5 h6 hf;obtain ⟨f,rfl⟩:∃g,f=g+1:=⟨f-1,by omega⟩;have h5':d*2^k<340282366920938463463374607431768211456:=by
   rcases h5 with h | h
   ·cases h
   ·exact h
  have hk5:k=0∨d*2^(k-1)<340282366920938463463374607431768211456:=by
   rcases Nat.eq_zero_or_pos k with e | e
   ·exact .inl e
   ·refine .inr (Nat.lt_of_le_of_lt (Nat.mul_le_mul_left d (Nat.pow_le_pow_right (by decide) (Nat.sub_le _ _))) h5')
  have hpk:2^k<340282366920938463463374607431768211456:=Nat.lt_of_lt_of_le (Nat.pow_lt_pow_right (a:=2) (n:=128) (by decide) (by omega)) (by decide);have eb:((k+1:Nat):Int)-1=(k:Int):=by omega
  have hq2:2^k ∣ q:=Nat.dvd_trans (Nat.pow_dvd_pow 2 (Nat.le_succ k)) h4;rw[i0w,eb,decide_eq_true (by omega),tft,r0n (n+2) d k (by omega) h5',obs,j1f (n+2) (by omega) h5',obs,w64 (by omega) (by omega),tfd];by_cases hlt:a<d*2^k
  ·rw[if_pos hlt];exact ih f a q h1 h2 hlt hq2 hk5 (by omega) (by omega)
  ·rw[if_neg hlt,n0m n (by omega) (by omega),obs,z0c,obs,one_ofN,r0n (n+2) 1 k (by omega) (by rw[Nat.one_mul];exact hpk),obs,Nat.one_mul];have hqA:q≤A / d:=by rw[←h1];exact Nat.le_add_right _ _
   have hqM:q<340282366920938463463374607431768211456:=Nat.lt_of_le_of_lt (Nat.le_trans hqA (Nat.div_le_self _ _)) hA;rw[or_ofN hqM hpk,or_pow h4];refine ih f (a-d*2^k) (q+2^k) ?_ (by omega) ?_ (Nat.dvd_add hq2 (Nat.dvd_refl _)) hk5 (by omega) (by omega)
   ·rw[div_part hd (by omega)];exact h1
   ·rw[Nat.pow_succ,←Nat.mul_assoc] at h3;omega
theorem r0m (n:Nat) {a d:Nat} (ha:a<340282366920938463463374607431768211456) (hd:0<d) (hdM:d<340282366920938463463374607431768211456):p0t (n+4) (ofN a) (ofN d)=some (ofN (a / d)):=by
 have la:=(j0d 128 a ha).2.2;have ld:=(j0d 128 d hdM).2;have ld1:=(ld.1 hd).1;rw[g1f,a2i (n+1) ha,obs,a2i (n+1) hdM,obs,w64 (by omega) (by omega)];by_cases h:bl 128 d≤bl 128 a
 ·have h0:0<a:=by
   rcases Nat.eq_zero_or_pos a with e | e
   ·rw[e,a1n] at h;omega
   ·exact e
  have e:((bl 128 a:Nat):Int)-((bl 128 d:Nat):Int)=((bl 128 a-bl 128 d+1:Nat):Int)-1:=by omega
  rw[e,z1a,whole_l3 n hd ha hdM _ (bl 128 a-bl 128 d+1) a0b a 0 (by omega) (Nat.le_refl _) (bl_over ha hdM hd) (Nat.dvd_zero _) (.inr (by rw[Nat.add_sub_cancel];exact bl_up ha hdM (by omega) h0)) (by omega) (by unfold a0b;omega),obs,a0k]
 ·have hlt:=bl_less ha hdM (by omega);rw[show a0b=(2^70-1)+1 from rfl,i0w,decide_eq_false (by omega),tff,obs,a0k,Nat.div_eq_of_lt hlt];rfl
theorem a2o (n:Nat) {A B f:Nat} (ha0:0<A) (ha:A<340282366920938463463374607431768211456) (hb0:0<B) (hb:B<340282366920938463463374607431768211456) (s4:Wd) (tw:Int):d0f (n+3) (f+1) (ofN A,ofN B,s4,tw,()) =
  if od B<A then d0f (n+3) f (ofN (od B),ofN (A-od B),s4,tw,()) else d0f (n+3) f (ofN A,ofN (od B-A),s4,tw,()):=by
 have ht:=(n0r hb0 hb).1;have hle:od B<340282366920938463463374607431768211456:=Nat.lt_of_le_of_lt (od_le B) hb;rw[l0o,f0d,obs,tfn,decide_eq_false (by omega),tff,v0p (n+1) hb0 hb,obs,u0o (n+2) B _ ht hb,obs]
 change a0a (b0z (n+3) (ofN (od B)) (ofN A)) _=_
 rw[j1f (n+2) hle ha,obs,tfd];by_cases h:od B<A
 ·rw[if_pos h,if_pos h]
  change a0a (i0x (n+3) (ofN A) (ofN (od B))) _=_
  rw[n0m n ha (by omega),obs];rfl
 ·rw[if_neg h,if_neg h]
  change a0a (i0x (n+3) (ofN (od B)) (ofN A)) _=_
  rw[n0m n hle (by omega),obs]
theorem gcd_l5 (n:Nat) (s4:Wd) (tw:Int):∀(k f A B:Nat),0<A→A<340282366920938463463374607431768211456→A % 2=1→B<340282366920938463463374607431768211456→B % 2=0→A*B<2^k→k<f →
  d0f (n+3) f (ofN A,ofN B,s4,tw,())=some (.inl (ofN (Nat.gcd A B),s4,tw,())):=by
 intro k;induction k with
 | zero =>
  intro f A B h1 h2 h3 h4 h5 h6 hf;obtain ⟨f,rfl⟩:∃g,f=g+1:=⟨f-1,by omega⟩;have:B=0:=by
   rcases Nat.eq_zero_or_pos B with e | e
   ·exact e
   ·have:=Nat.mul_pos h1 e;omega
  subst this;rw[l0o,f0d,obs,tfn,decide_eq_true rfl,tft,Nat.gcd_zero_right]
 | succ k ih =>
  intro f A B h1 h2 h3 h4 h5 h6 hf;obtain ⟨f,rfl⟩:∃g,f=g+1:=⟨f-1,by omega⟩;rcases Nat.eq_zero_or_pos B with e | hB
  ·subst e;rw[l0o,f0d,obs,tfn,decide_eq_true rfl,tft,Nat.gcd_zero_right]
  ·have hev:=od_even hB h4 h5;have hod:=(n0r hB h4).2.2;have hpos:=h2w hB h4;have hg:=i2v h3 hB h4;have hp:A*od B<2^k:=by
    have:A*(2*od B)≤A*B:=Nat.mul_le_mul_left A hev;rw[Nat.mul_left_comm] at this;rw[Nat.pow_succ] at h6;omega
   rw[a2o n h1 h2 hB h4];by_cases h:od B<A
   ·rw[if_pos h,ih f (od B) (A-od B) hpos (by omega) hod (by omega) (by omega) (Nat.lt_of_le_of_lt (by rw[Nat.mul_comm A];exact Nat.mul_le_mul_left _ (Nat.sub_le _ _)) hp) (by omega),c1u (by omega),Nat.gcd_comm,hg]
   ·rw[if_neg h,ih f A (od B-A) h1 h2 h3 (by omega) (by omega) (Nat.lt_of_le_of_lt (Nat.mul_le_mul_left _ (Nat.sub_le _ _)) hp) (by omega),c1u (by omega),hg]
theorem gcd_any (n:Nat) (s4:Wd) (tw:Int) {A B:Nat} (h1:0<A) (h2:A<340282366920938463463374607431768211456) (h3:A % 2=1) (hB:0<B) (h4:B<340282366920938463463374607431768211456):d0f (n+3) a0b (ofN A,ofN B,s4,tw,())=some (.inl (ofN (Nat.gcd A B),s4,tw,())):=by
 have hod:=(n0r hB h4).2.2;have hpos:=h2w hB h4;have hle:=od_le B;have hg:=i2v h3 hB h4;have hm:∀ {x y:Nat},x<340282366920938463463374607431768211456→y<340282366920938463463374607431768211456→x*y<2^256:=fun hx hy=>Nat.lt_of_lt_of_le (Nat.mul_lt_mul'' hx hy) (by decide)
 rw[show a0b=(2^70-1)+1 from rfl,a2o n h1 h2 hB h4];by_cases h:od B<A
 ·rw[if_pos h,gcd_l5 n s4 tw 256 _ (od B) (A-od B) hpos (by omega) hod (by omega) (by omega) (hm (by omega) (by omega)) (by decide),c1u (by omega),Nat.gcd_comm,hg]
 ·rw[if_neg h,gcd_l5 n s4 tw 256 _ A (od B-A) h1 h2 h3 (by omega) (by omega) (hm (by omega) (by omega)) (by decide),c1u (by omega),hg]
theorem g2h (n:Nat) {x y:Nat} (hx:x<340282366920938463463374607431768211456) (hy:y<340282366920938463463374607431768211456):d1r (n+4) (ofN x) (ofN y)=some (ofN (Nat.gcd x y)):=by
 rw[q1t,f0d,obs,or_ofN hx hy];by_cases h0:x=0
 ·subst h0;rw[decide_eq_true rfl,tft,Nat.gcd_zero_left,Nat.zero_or]
 rw[decide_eq_false h0,tff,f0d,obs];by_cases h1:y=0
 ·subst h1;rw[decide_eq_true rfl,tft,Nat.gcd_zero_right,Nat.or_zero]
 have hx0:0<x:=by omega
 have hy0:0<y:=by omega
 obtain ⟨a1,a2,a3⟩:=n0r hx0 hx;obtain ⟨b1,b2,b3⟩:=n0r hy0 hy;have hle:od x<340282366920938463463374607431768211456:=Nat.lt_of_le_of_lt (od_le x) hx;rw[decide_eq_false h1,tff,v0p (n+1) hx0 hx,obs,v0p (n+1) hy0 hy,obs,obs,u0o (n+2) x _ a1 hx,obs]
 change a0a (d0f (n+3) a0b (ofN (od x),ofN y,_,_,())) _=_
 rw[gcd_any n _ _ (h2w hx0 hx) hle a3 hy0 hy,obs,a0k];have e:(if ((tz 128 y:Nat):Int)<((tz 128 x:Nat):Int) then ((tz 128 y:Nat):Int) else ((tz 128 x:Nat):Int))=((min (tz 128 x) (tz 128 y):Nat):Int):=by
  split<;>omega
 have hg:=i2t hx0 hx hy0 hy;have hlt:Nat.gcd x y<340282366920938463463374607431768211456:=Nat.lt_of_le_of_lt (Nat.gcd_le_left y hx0) hx;simp only;rw[e,r0n (n+2) _ _ (by omega) (by rw[←hg];exact hlt),obs,←hg]
def bys (x:Nat):List Int:=(List.range 16).map fun j=>((byt x j:Nat):Int)
theorem f1o (x:Nat):(bys x).length=16:=by simp[bys]
theorem u1f (x:Nat) {j:Nat} (h:j<16):(bys x)[j]? = some ((byt x j:Nat):Int):=by
 unfold bys;rw[List.getElem?_map,List.getElem?_range h];rfl
theorem bys_eq (x:Nat):bys x=[((x % 256:Nat):Int),((x / 256 % 256:Nat):Int),((x / 65536 % 256:Nat):Int),((x / 16777216 % 256:Nat):Int),((x / 4294967296 % 256:Nat):Int),((x / 1099511627776 % 256:Nat):Int),((x / 281474976710656 % 256:Nat):Int),((x / 72057594037927936 % 256:Nat):Int),
  ((x / 18446744073709551616 % 256:Nat):Int),((x / 4722366482869645213696 % 256:Nat):Int),((x / 1208925819614629174706176 % 256:Nat):Int),((x / 309485009821345068724781056 % 256:Nat):Int),((x / 79228162514264337593543950336 % 256:Nat):Int),((x / 20282409603651670423947251286016 % 256:Nat):Int),((x / 5192296858534827628530496329220096 % 256:Nat):Int),((x / 1329227995784915872903807060280344576 % 256:Nat):Int)]:=by
 unfold bys byt;simp[List.range,List.range.loop]
abbrev l16 (r:B16):List Int:=[r.1,r.2.1,r.2.2.1,r.2.2.2.1,r.2.2.2.2.1,r.2.2.2.2.2.1,r.2.2.2.2.2.2.1,r.2.2.2.2.2.2.2.1,r.2.2.2.2.2.2.2.2.1,r.2.2.2.2.2.2.2.2.2.1,r.2.2.2.2.2.2.2.2.2.2.1,r.2.2.2.2.2.2.2.2.2.2.2.1,r.2.2.2.2.2.2.2.2.2.2.2.2.1,r.2.2.2.2.2.2.2.2.2.2.2.2.2.1,r.2.2.2.2.2.2.2.2.2.2.2.2.2.2.1,r.2.2.2.2.2.2.2.2.2.2.2.2.2.2.2]
theorem bys_list (x:Nat):bys x=[((byt x 0:Nat):Int),((byt x 1:Nat):Int),((byt x 2:Nat):Int),((byt x 3:Nat):Int),((byt x 4:Nat):Int),((byt x 5:Nat):Int),((byt x 6:Nat):Int),((byt x 7:Nat):Int),((byt x 8:Nat):Int),((byt x 9:Nat):Int),((byt x 10:Nat):Int),((byt x 11:Nat):Int),((byt x 12:Nat):Int),((byt x 13:Nat):Int),((byt x 14:Nat):Int),((byt x 15:Nat):Int)]:=by
 unfold bys;simp[List.range,List.range.loop]
theorem j2s {v x0 x1 x2 x3 x4 x5 x6 x7:Int} (b:Byt x0∧Byt x1∧Byt x2∧Byt x3∧Byt x4∧Byt x5∧Byt x6∧Byt x7) (h:v=x0+x1*256+x2*65536+x3*16777216+x4*4294967296+x5*1099511627776+x6*281474976710656+x7*72057594037927936) :
  x0=v % 256∧x1=v / 256 % 256∧x2=v / 65536 % 256∧x3=v / 16777216 % 256∧x4=v / 4294967296 % 256∧x5=v / 1099511627776 % 256∧x6=v / 281474976710656 % 256∧x7=v / 72057594037927936 % 256:=by
 simp only[Byt] at b;obtain ⟨⟨_,_⟩,⟨_,_⟩,⟨_,_⟩,⟨_,_⟩,⟨_,_⟩,⟨_,_⟩,⟨_,_⟩,⟨_,_⟩⟩:=b;refine ⟨?_,?_,?_,?_,?_,?_,?_,?_⟩<;>omega
theorem t0r (n:Nat) {x:Nat} (h:x<340282366920938463463374607431768211456):∃r:B16,g0q (n+1) (ofN x)=some r∧l16 r=bys x:=by
 obtain ⟨x0,x1,x2,x3,x4,x5,x6,x7,x8,x9,x10,x11,x12,x13,x14,x15,hr,⟨b0,b1,b2,b3,b4,b5,b6,b7,b8,b9,b10,b11,b12,b13,b14,b15⟩,hlo,hhi⟩:=o0l n (b1e h);refine ⟨_,hr,?_⟩;obtain ⟨c0,c1,c2,c3,c4,c5,c6,c7⟩:=j2s ⟨b0,b1,b2,b3,b4,b5,b6,b7⟩ hlo;obtain ⟨d0,d1,d2,d3,d4,d5,d6,d7⟩:=j2s ⟨b8,b9,b10,b11,b12,b13,b14,b15⟩ hhi;have elo:(ofN x).2=((x % 18446744073709551616:Nat):Int):=rfl;have ehi:(ofN x).1=((x / 18446744073709551616:Nat):Int):=rfl;rw[elo] at c0 c1 c2 c3 c4 c5 c6 c7;rw[ehi] at d0 d1 d2 d3 d4 d5 d6 d7;rw[bys_eq];simp only[l16]
 clear hr hlo hhi b0 b1 b2 b3 b4 b5 b6 b7 b8 b9 b10 b11 b12 b13 b14 b15;subst c0 c1 c2 c3 c4 c5 c6 c7 d0 d1 d2 d3 d4 d5 d6 d7;simp only[List.cons.injEq,and_true];refine ⟨?_,?_,?_,?_,?_,?_,?_,?_,?_,?_,?_,?_,?_,?_,?_,?_⟩
 all_goals omega
theorem r01_ofN (n:Nat) {x:Nat} (h:x<340282366920938463463374607431768211456):b1c (n+1) (((byt x 0:Nat):Int),((byt x 1:Nat):Int),((byt x 2:Nat):Int),((byt x 3:Nat):Int),((byt x 4:Nat):Int),((byt x 5:Nat):Int),((byt x 6:Nat):Int),((byt x 7:Nat):Int),((byt x 8:Nat):Int),((byt x 9:Nat):Int),((byt x 10:Nat):Int),((byt x 11:Nat):Int),((byt x 12:Nat):Int),((byt x 13:Nat):Int),((byt x 14:Nat):Int),((byt x 15:Nat):Int))=some (ofN x):=by
 obtain ⟨r,hr,hl⟩:=t0r n h;obtain ⟨x0,x1,x2,x3,x4,x5,x6,x7,x8,x9,x10,x11,x12,x13,x14,x15,hr',hb,hlo,hhi⟩:=o0l n (b1e h);have hr':=Option.some.inj (hr.symm.trans hr');subst hr';rw[bys_list] at hl;simp only[l16,List.cons.injEq,and_true] at hl;obtain ⟨rfl,rfl,rfl,rfl,rfl,rfl,rfl,rfl,rfl,rfl,rfl,rfl,rfl,rfl,rfl,rfl⟩:=hl;obtain ⟨b0,b1,b2,b3,b4,b5,b6,b7,b8,b9,b10,b11,b12,b13,b14,b15⟩:=hb;rw[r01_of n b0 b1 b2 b3 b4 b5 b6 b7 b8 b9 b10 b11 b12 b13 b14 b15,←hlo,←hhi]
theorem g2y (n:Nat) {x:Nat} (h:x<340282366920938463463374607431768211456) {R:Type} (k:Wd→Option R) {l:List Int} (hl:l=bys x) :
  (a0a (l[0]?) fun r0=>a0a (l[1]?) fun r1=>a0a (l[2]?) fun r2=>a0a (l[3]?) fun r3=>a0a (l[4]?) fun r4=>a0a (l[5]?) fun r5=>a0a (l[6]?) fun r6=>a0a (l[7]?) fun r7=>a0a (l[8]?) fun r8=>a0a (l[9]?) fun r9=>a0a (l[10]?) fun r10=>a0a (l[11]?) fun r11=>a0a (l[12]?) fun r12=>a0a (l[13]?) fun r13=>a0a (l[14]?) fun r14=>a0a (l[15]?) fun r15=>a0a (b1c (n+1) (r0,(r1,(r2,(r3,(r4,(r5,(r6,(r7,(r8,(r9,(r10,(r11,(r12,(r13,(r14,r15)))))))))))))))) k)=k (ofN x):=by
 subst hl;have e:∀j:Nat,j<16→(bys x)[j]? = some ((byt x j:Nat):Int):=fun j hj=>u1f x hj
 rw[e 0 (by decide),e 1 (by decide),e 2 (by decide),e 3 (by decide),e 4 (by decide),e 5 (by decide),e 6 (by decide),e 7 (by decide),e 8 (by decide),e 9 (by decide),e 10 (by decide),e 11 (by decide),e 12 (by decide),e 13 (by decide),e 14 (by decide),e 15 (by decide)];simp only[obs,r01_ofN n h]
theorem m1r (n:Nat) {x y:Nat} (hx:x<340282366920938463463374607431768211456) (hy:y<340282366920938463463374607431768211456):n0o (n+2) (ofN x) (ofN y)=some (if x+y<340282366920938463463374607431768211456 then (ofN (x+y),0) else ((0,0),1)):=by
 rw[z0s n (b1e hx) (b1e hy)];unfold addW;rw[j1d,j1d];have e:(x:Int)+y=((x+y:Nat):Int):=by omega
 rw[e,z0y];by_cases h:x+y<340282366920938463463374607431768211456
 ·rw[if_pos h,if_pos (by omega)]
 ·rw[if_neg h,if_neg (by omega)]
theorem r1w (n:Nat) {x y:Nat} (hx:x<340282366920938463463374607431768211456) (hy:y<340282366920938463463374607431768211456):i0j (n+2) (ofN x) (ofN y)=some (decide (x<y)):=by
 rw[c1o n (b1e hx) (b1e hy),j1d,j1d];congr 1;exact decide_eq_decide.2 (by omega)
def subL (A B i:Nat):List Int:=(List.range 16).map fun j=>(((if j<i then byt (A-B) j else byt A j):Nat):Int)
def owe (A B i:Nat):Nat:=if A % 256^i<B % 256^i then 1 else 0
theorem c1h (A B i:Nat):(subL A B i).length=16:=by simp[subL]
theorem v1e (A B i:Nat) {j:Nat} (h:j<16):(subL A B i)[j]? = some (((if j<i then byt (A-B) j else byt A j):Nat):Int):=by
 unfold subL;rw[List.getElem?_map,List.getElem?_range h];rfl
theorem z1g (A B:Nat) {i:Nat} (h:i<16):(subL A B i).set i ((byt (A-B) i:Nat):Int)=subL A B (i+1):=by
 apply List.ext_getElem?;intro j;rw[List.getElem?_set,c1h];by_cases hj:j<16
 ·rw[v1e _ _ _ hj,v1e _ _ _ hj];by_cases e:i=j
  ·subst e;rw[if_pos rfl,if_pos h,if_pos (by omega)]
  ·rw[if_neg e];by_cases hlt:j<i
   ·rw[if_pos hlt,if_pos (by omega)]
   ·rw[if_neg hlt,if_neg (by omega)]
 ·rw[if_neg (by omega),List.getElem?_eq_none (by rw[c1h];omega),List.getElem?_eq_none (by rw[c1h];omega)]
theorem owe_step {A B:Nat} (hle:B≤A) (i:Nat) :
  (byt A i<byt B i+owe A B i→owe A B (i+1)=1∧byt (A-B) i+byt B i+owe A B i=byt A i+256) ∧
  (byt B i+owe A B i≤byt A i→owe A B (i+1)=0∧byt (A-B) i+byt B i+owe A B i=byt A i):=by
 have hp:0<256^i:=Nat.pow_pos (by decide);have ea:=Nat.div_add_mod A (256^i);have eb:=Nat.div_add_mod B (256^i);have la:=Nat.mod_lt A hp;have lb:=Nat.mod_lt B hp;have ea2:A % 256^(i+1)=256^i*(A / 256^i % 256)+A % 256^i:=by rw[Nat.pow_succ,Nat.mod_mul];omega
 have eb2:B % 256^(i+1)=256^i*(B / 256^i % 256)+B % 256^i:=by rw[Nat.pow_succ,Nat.mod_mul];omega
 unfold owe byt;rw[ea2,eb2];generalize hP:256^i=P at *
 generalize hA':A / P=A' at *
 generalize hB':B / P=B' at *
 generalize ha:A % P=a at *
 generalize hb:B % P=b at *
 have key:(A-B) / P+B'+(if a<b then 1 else 0)=A':=by
  by_cases hlt:a<b
  ·rw[if_pos hlt];have hAB:B'+1≤A':=by
    rcases Nat.lt_or_ge B' A' with q | q
    ·exact q
    ·have:=Nat.mul_le_mul_left P q;omega
   obtain ⟨c,hc⟩:∃c,A'=B'+1+c:=⟨A'-(B'+1),by omega⟩;have e1:P*A'=P*B'+P+P*c:=by rw[hc,Nat.mul_add,Nat.mul_add,Nat.mul_one]
   have e2:A-B=P*c+(P+a-b):=by omega
   rw[e2,Nat.mul_add_div hp,Nat.div_eq_of_lt (by omega)];omega
  ·rw[if_neg hlt];have hAB:B'≤A':=by
    rcases Nat.lt_or_ge A' B' with q | q
    ·have:=Nat.mul_le_mul_left P q;rw[Nat.mul_succ] at this;omega
    ·exact q
   obtain ⟨c,hc⟩:∃c,A'=B'+c:=⟨A'-B',by omega⟩;have e1:P*A'=P*B'+P*c:=by rw[hc,Nat.mul_add]
   have e2:A-B=P*c+(a-b):=by omega
   rw[e2,Nat.mul_add_div hp,Nat.div_eq_of_lt (by omega)];omega
 generalize (A-B) / P=D at *
 have cmp:(P*(A' % 256)+a<P*(B' % 256)+b)↔(A' % 256<B' % 256∨A' % 256=B' % 256∧a<b):=by
  rcases Nat.lt_trichotomy (A' % 256) (B' % 256) with q | q | q
  ·have:=Nat.mul_le_mul_left P q;rw[Nat.mul_succ] at this;constructor
   ·intro _;exact .inl q
   ·intro _;omega
  ·rw[q];constructor
   ·intro h;exact .inr ⟨rfl,by omega⟩
   ·rintro (h | ⟨_,h⟩)<;>omega
  ·have:=Nat.mul_le_mul_left P q;rw[Nat.mul_succ] at this;constructor
   ·intro h;omega
   ·rintro (h | ⟨h,_⟩)<;>omega
 by_cases hab:a<b
 ·simp only[if_pos hab] at key ⊢;constructor
  ·intro h;rw[if_pos (cmp.2 (by omega))];exact ⟨rfl,by omega⟩
  ·intro h;rw[if_neg (fun q=>by have:=cmp.1 q;omega)];exact ⟨rfl,by omega⟩
 ·simp only[if_neg hab] at key ⊢;constructor
  ·intro h;rw[if_pos (cmp.2 (by omega))];exact ⟨rfl,by omega⟩
  ·intro h;rw[if_neg (fun q=>by have:=cmp.1 q;omega)];exact ⟨rfl,by omega⟩
theorem d2j (n:Nat) {A B:Nat} (hle:B≤A) (s4:Wd):∀(k f i:Nat),i+k=16→k<f →
  k0v n f (s4,subL A B i,bys B,((owe A B i:Nat):Int),(i:Int),())=some (.inl (s4,bys (A-B),())):=by
 intro k;induction k with
 | zero =>
  intro f i hi hf;obtain ⟨f,rfl⟩:∃g,f=g+1:=⟨f-1,by omega⟩;have:i=16:=by omega
  subst this;rw[x0x,decide_eq_false (by decide),tff];congr 3
 | succ k ih =>
  intro f i hi hf;obtain ⟨f,rfl⟩:∃g,f=g+1:=⟨f-1,by omega⟩;have hlt:i<16:=by omega
  have g1:=u1e A i;have g2:=u1e B i;have g3:=u1e (A-B) i;have g4:owe A B i≤1:=by unfold owe;split<;>omega
  obtain ⟨s1,s2⟩:=owe_step hle i;have next:=ih f (i+1) (by omega) (by omega);rw[x0x,c1h,f1o,Int.toNat_natCast,v1e _ _ _ hlt,u1f _ hlt,if_neg (Nat.lt_irrefl i)];simp only[decide_eq_true (show (i:Int)<16 by omega),decide_eq_true (show (0:Int)≤(i:Int) by omega),decide_eq_true (show (i:Int)<((16:Nat):Int) by omega),Bool.and_self,tft,obs];rw[w64 (x:=((byt A i:Nat):Int)-((byt B i:Nat):Int)) (by omega) (by omega),w64 (x:=((byt A i:Nat):Int)-((byt B i:Nat):Int)-((owe A B i:Nat):Int)) (by omega) (by omega),w64 (x:=(i:Int)+1) (by omega) (by omega),tfd]
  by_cases h:byt A i<byt B i+owe A B i
  ·obtain ⟨t1,t2⟩:=s1 h;rw[t1] at next;rw[if_pos (by omega),w64 (by omega) (by omega),show ((byt A i:Nat):Int)-((byt B i:Nat):Int)-((owe A B i:Nat):Int)+256=((byt (A-B) i:Nat):Int) by omega,z1g _ _ hlt];exact next
  ·obtain ⟨t1,t2⟩:=s2 (by omega);rw[t1] at next;rw[if_neg (by omega),show ((byt A i:Nat):Int)-((byt B i:Nat):Int)-((owe A B i:Nat):Int)=((byt (A-B) i:Nat):Int) by omega,z1g _ _ hlt];exact next
theorem c1n (n:Nat) {A B:Nat} (hA:A<340282366920938463463374607431768211456) (hle:B≤A):v0o (n+3) (ofN A) (ofN B)=some (ofN (A-B),0):=by
 obtain ⟨ra,ha,hla⟩:=t0r (n+1) hA;obtain ⟨rb,hb,hlb⟩:=t0r (n+1) (Nat.lt_of_le_of_lt hle hA);rw[d2l,r1w n hA (Nat.lt_of_le_of_lt hle hA),obs,decide_eq_false (by omega),tff,ha,obs,hb,obs];rw[show (decide (16=((((((((((((((((1+1)+1)+1)+1)+1)+1)+1)+1)+1)+1)+1)+1)+1)+1)+1) / 1)))=true from rfl,tft,tft];have e0:subL A B 0=bys A:=by unfold subL bys;apply List.map_congr_left;intro j _;rw[if_neg (Nat.not_lt_zero j)]
 have:=d2j (n+2) hle (0,0) 16 a0b 0 rfl (by decide);rw[e0,show owe A B 0=0 by unfold owe;simp[Nat.mod_one],←hla,←hlb] at this
 change a0a (k0v (n+2) a0b ((0,0),l16 ra,l16 rb,((0:Nat):Int),((0:Nat):Int),())) _=_
 rw[this,obs,a0k];exact g2y (n+1) (Nat.lt_of_le_of_lt (Nat.sub_le _ _) hA) (fun r=>some (r,0)) rfl
theorem lo_ofN {b:Nat} (h:b<18446744073709551616):(((0:Int),(b:Int)):Wd)=ofN b:=by
 unfold ofN;rw[Nat.div_eq_of_lt h,Nat.mod_eq_of_lt h];rfl
theorem shr64 (v k:Nat) (hk:k≤64):shrI .i64 (v:Int) (k:Int)=((v / 2^k:Nat):Int):=shrN v k hk
theorem and1 {v:Nat} (h:v<256):andI .i64 (v:Int) (1:Int)=((v % 2:Nat):Int):=by
 unfold andI;have e2:(BitVec.ofInt IntKind.i64.bits (v:Int) &&& BitVec.ofInt IntKind.i64.bits (1:Int)).toNat=v % 2:=by
  show (BitVec.ofInt 64 (v:Int) &&& BitVec.ofInt 64 ((1:Nat):Int)).toNat=_;rw[BitVec.toNat_and,BitVec.ofInt_natCast,BitVec.ofInt_natCast,BitVec.toNat_ofNat,BitVec.toNat_ofNat,Nat.mod_eq_of_lt (by omega),Nat.mod_eq_of_lt (by omega)];exact Nat.and_one_is_mod v
 rw[e2];exact w64 (by omega) (by omega)
theorem orbit {v j:Nat} (h:v<256) (hj:j<8):orI .i64 (v:Int) (shlI .i64 (1:Int) (j:Int))=((v ||| 2^j:Nat):Int):=by
 have hp:2^j<256:=Nat.lt_of_lt_of_le (Nat.pow_lt_pow_right (a:=2) (n:=8) (by decide) hj) (by decide);have e1:shlI .i64 (1:Int) (j:Int)=((2^j:Nat):Int):=by
  show IntKind.wrap .i64 ((1:Int)*2^(min (j:Int).toNat 64))=_;rw[show min (j:Int).toNat 64=j by omega,Int.one_mul];have:(2:Int)^j=((2^j:Nat):Int):=by simp
  rw[this];generalize 2^j=p at hp;exact w64 (by omega) (by omega)
 rw[e1];unfold orI;have e2:(BitVec.ofInt IntKind.i64.bits (v:Int) ||| BitVec.ofInt IntKind.i64.bits ((2^j:Nat):Int)).toNat=v ||| 2^j:=by
  show (BitVec.ofInt 64 (v:Int) ||| BitVec.ofInt 64 ((2^j:Nat):Int)).toNat=_;rw[BitVec.toNat_or,BitVec.ofInt_natCast,BitVec.ofInt_natCast,BitVec.toNat_ofNat,BitVec.toNat_ofNat,Nat.mod_eq_of_lt (by omega),Nat.mod_eq_of_lt (by omega)]
 rw[e2];have:v ||| 2^j<2^8:=Nat.or_lt_two_pow (by omega) (by omega)
 exact w64 (by omega) (by omega)
theorem bys_set {v i:Nat} (hi:i<128) (h:2^(i+1) ∣ v):(bys v).set (i / 8) ((byt v (i / 8) ||| 2^(i % 8):Nat):Int)=bys (v+2^i):=by
 apply List.ext_getElem?;intro j;rw[List.getElem?_set,f1o];by_cases hj:j<16
 ·rw[u1f _ hj,u1f _ hj,byt_or h];by_cases e:i / 8=j
  ·rw[if_pos e,if_pos e,if_pos (by omega),e]
  ·rw[if_neg e,if_neg e]
 ·rw[if_neg (by omega),List.getElem?_eq_none (by rw[f1o];omega),List.getElem?_eq_none (by rw[f1o];omega)]
theorem bit_at (A:Nat) {k:Nat}:IntKind.wrap .u64 (andI .i64 (shrI .i64 ((byt A (k / 8):Nat):Int) ((k % 8:Nat):Int)) (1:Int))=((A / 2^k % 2:Nat):Int):=by
 have hb:=u1e A (k / 8);rw[shr64 _ _ (by omega),and1 (Nat.lt_of_le_of_lt (Nat.div_le_self _ _) hb),bit_byt,wu64 (by omega) (by omega)]
theorem r1u (n:Nat) {A D:Nat} (hA:A<340282366920938463463374607431768211456) (hD:D<340282366920938463463374607431768211456) (hD0:0<D) (s4 s5:Wd):∀(k f q r:Nat),k≤128→A / 2^k=D*q+r→r<D→k<f →
  f0u (n+3) f (ofN D,s4,s5,bys (q*2^k),ofN r,bys A,(k:Int)-1,())=some (.inl (s4,s5,bys (A / D),ofN (A % D),())):=by
 intro k;induction k with
 | zero =>
  intro f q r hk h hr hf;obtain ⟨f,rfl⟩:∃g,f=g+1:=⟨f-1,by omega⟩;rw[Nat.pow_zero,Nat.div_one] at h;obtain ⟨e1,e2⟩:=(Nat.div_mod_unique (a:=A) (c:=r) (d:=q) hD0).2 ⟨by omega,hr⟩;rw[s0f,decide_eq_false (by omega),tff,e1,e2,Nat.pow_zero,Nat.mul_one]
 | succ k ih =>
  intro f q r hk h hr hf;obtain ⟨f,rfl⟩:∃g,f=g+1:=⟨f-1,by omega⟩;obtain ⟨d1,d2⟩:=div_step (L:=0) hD0 h hr;have e1:IntKind.wrap .i64 (Int.tdiv (k:Int) 8)=((k / 8:Nat):Int):=by rw[f0o (by omega),w64 (by omega) (by omega)];omega
  have e2:Int.tmod (k:Int) 8=((k % 8:Nat):Int):=by rw[f0g (by omega)];omega
  have eb:((k+1:Nat):Int)-1=(k:Int):=by omega
  have hk8:k / 8<16:=by omega
  have hbit:A / 2^k % 2<2:=Nat.mod_lt _ (by decide);have hdvd:2^(k+1) ∣ q*2^(k+1):=Nat.dvd_mul_left _ _;have eq1:(2*q+1)*2^k=q*2^(k+1)+2^k:=by rw[Nat.pow_succ,Nat.add_mul,Nat.one_mul,Nat.mul_comm 2 q,Nat.mul_assoc,Nat.mul_comm 2 (2^k)]
  have eq0:(2*q)*2^k=q*2^(k+1):=by rw[Nat.pow_succ,Nat.mul_comm 2 q,Nat.mul_assoc,Nat.mul_comm 2 (2^k)]
  have hset:=bys_set (v:=q*2^(k+1)) (i:=k) (by omega) hdvd;have hob:=orbit (v:=byt (q*2^(k+1)) (k / 8)) (j:=k % 8) (u1e _ _) (by omega);have c1:decide ((0:Int)≤((k / 8:Nat):Int))=true:=decide_eq_true (by omega);have c2:decide (((k / 8:Nat):Int)<(16:Int))=true:=decide_eq_true (by omega);have c3:decide (((k / 8:Nat):Int)<((16:Nat):Int))=true:=decide_eq_true (by omega);have c4:decide (((k % 8:Nat):Int)<(0:Int))=false:=decide_eq_false (by omega);rw[s0f,eb,decide_eq_true (by omega),tft,m1r (n+1) (by omega) (by omega),obs]
  simp only[e1,e2,f1o,c1,c2,c3,c4,Bool.and_self,tft,tff,Int.toNat_natCast,u1f _ hk8,obs,bit_at,hob,hset];rw[w64 (x:=(k:Int)-1) (by omega) (by omega),lo_ofN (b:=A / 2^k % 2) (by omega)];generalize hb:A / 2^k % 2=b at *
  by_cases hov:r+r<340282366920938463463374607431768211456
  ·rw[if_pos hov];simp only[decide_true,Bool.not_true,tff];rw[m1r (n+1) hov (by omega),obs,if_pos (by omega)];simp only;rw[r1w (n+1) (by omega) hD,obs,tfn,tfd];by_cases hlt:r+r+b<D
   ·rw[if_pos hlt];have:=ih f (2*q) (r+r+b) (by omega) (by rw[d2 (by omega)];omega) hlt (by omega);rw[eq0] at this;exact this
   ·obtain ⟨t1,t2⟩:=d1 (by omega);rw[if_neg hlt,c1n n (by omega) (by omega),obs];have:=ih f (2*q+1) (r+r+b-D) (by omega) (by rw[t1];omega) (by omega) (by omega);rw[eq1] at this;exact this
  ·rw[if_neg hov];simp only[show (decide ((1:Int)=0))=false from rfl,Bool.not_false,tft];obtain ⟨t1,t2⟩:=d1 (by omega);rw[c1n n hD (by omega),obs];simp only;rw[c1n n (by omega) (by omega),obs];simp only;rw[m1r (n+1) (by omega) (by omega),obs,if_pos (by omega)];simp only;have:=ih f (2*q+1) (r-(D-r)+b) (by omega) (by rw[t1];omega) (by omega) (by omega);rw[eq1] at this;exact this
theorem x0v (n:Nat) {A D:Nat} (hA:A<340282366920938463463374607431768211456) (hD:D<340282366920938463463374607431768211456):s0g (n+4) (ofN A) (ofN D)=some (if D=0 then (ofN 0,ofN A) else (ofN (A / D),ofN (A % D))):=by
 rw[r1v,t0w,tfd];by_cases h0:D=0
 ·rw[if_pos h0,if_pos h0];rfl
 ·obtain ⟨ra,ha,hla⟩:=t0r (n+2) hA;rw[if_neg h0,if_neg h0,ha,obs];rw[show (decide (16=((((((((((((((((1+1)+1)+1)+1)+1)+1)+1)+1)+1)+1)+1)+1)+1)+1)+1) / 1)))=true from rfl,tft];have:=r1u n hA hD (by omega) (0,0) (0,0) 128 a0b 0 0 (Nat.le_refl _) (by rw[Nat.mul_zero];exact Nat.div_eq_of_lt hA) (by omega) (by unfold a0b;omega);rw[Nat.zero_mul,show bys 0=List.replicate 16 (0:Int) from rfl,←hla,show (((128:Nat):Int)-1)=127 from rfl,←z1a] at this
  change a0a (f0u (n+3) a0b (ofN D,(0,0),(0,0),List.replicate 16 (0:Int),(0,0),l16 ra,127,())) _=_
  rw[this,obs,a0k];exact g2y (n+2) (Nat.lt_of_le_of_lt (Nat.div_le_self _ _) hA) (fun r=>some (r,ofN (A % D))) rfl
theorem k1a (n:Nat) (s4:Wd):∀(k f a b:Nat),a<340282366920938463463374607431768211456→b≤a→a*b<2^k→k<f→t0q (n+4) f (ofN a,ofN b,s4,())=some (.inl (ofN (Nat.gcd a b),s4,())):=by
 intro k;induction k with
 | zero =>
  intro f a b ha hb hp hf;obtain ⟨f,rfl⟩:∃g,f=g+1:=⟨f-1,by omega⟩;have:b=0:=by
   rcases Nat.eq_zero_or_pos b with e | e
   ·exact e
   ·have:=Nat.mul_pos (show 0<a by omega) e;omega
  subst this;rw[q0c,t0w,decide_eq_true rfl,Bool.not_true,tff,Nat.gcd_zero_right]
 | succ k ih =>
  intro f a b ha hb hp hf;obtain ⟨f,rfl⟩:∃g,f=g+1:=⟨f-1,by omega⟩;rw[q0c,t0w];rcases Nat.eq_zero_or_pos b with e | e
  ·subst e;rw[decide_eq_true rfl,Bool.not_true,tff,Nat.gcd_zero_right]
  ·have hm:=Nat.mod_lt a e;have hh:=mod_half e hb;have hq:b*(a % b)<2^k:=by
    have:b*(2*(a % b))<b*a:=Nat.mul_lt_mul_of_pos_left hh e;rw[Nat.mul_left_comm,Nat.mul_comm b a] at this;rw[Nat.pow_succ] at hp;omega
   rw[decide_eq_false (by omega),Bool.not_false,tft,x0v n ha (by omega),obs,if_neg (by omega)];rw[ih f b (a % b) (by omega) (by omega) hq (by omega),Nat.gcd_comm b,←Nat.gcd_rec,Nat.gcd_comm]
theorem r02_gcd (n:Nat) {a b:Nat} (ha:a<340282366920938463463374607431768211456) (hb:b<340282366920938463463374607431768211456):x1h (n+5) (ofN a) (ofN b)=some (ofN (Nat.gcd a b)):=by
 have hm:∀ {x y:Nat},x<340282366920938463463374607431768211456→y<340282366920938463463374607431768211456→x*y<2^256:=fun hx hy=>Nat.lt_of_lt_of_le (Nat.mul_lt_mul'' hx hy) (by decide)
 rw[d2i];by_cases h:b≤a
 ·rw[k1a n (0,0) 256 a0b a b ha h (hm ha hb) (by unfold a0b;omega),obs,a0k]
 ·rw[show a0b=(2^70-1)+1 from rfl,q0c,t0w,decide_eq_false (by omega),Bool.not_false,tft,x0v n ha hb,obs,if_neg (by omega),Nat.mod_eq_of_lt (by omega)];rw[k1a n (0,0) 256 _ b a hb (by omega) (hm hb ha) (by omega),obs,a0k,Nat.gcd_comm]
def redV (x y:Nat):(Wd×Wd)×Int:=if y=0 then (((0,0),(0,0)),1) else ((ofN (x / Nat.gcd x y),ofN (y / Nat.gcd x y)),0)
theorem q1s (n:Nat) {x y:Nat} (hx:x<340282366920938463463374607431768211456) (hy:y<340282366920938463463374607431768211456):r0o (n+5) (ofN x) (ofN y)=some (redV x y):=by
 rw[d1q,f0d,obs,tfd];unfold redV;by_cases h:y=0
 ·rw[if_pos h,if_pos h]
 ·have hg:0<Nat.gcd x y:=Nat.gcd_pos_of_pos_right x (by omega);have hl:Nat.gcd x y<340282366920938463463374607431768211456:=Nat.lt_of_le_of_lt (Nat.gcd_le_right x (by omega)) hy;rw[if_neg h,if_neg h,g2h n hx hy,obs,r0m n hx hg hl,obs,r0m n hy hg hl,obs]
theorem d2h (n:Nat) {x y:Nat} (hx:x<340282366920938463463374607431768211456) (hy:y<340282366920938463463374607431768211456):z0r (n+6) (ofN x) (ofN y)=some (redV x y):=by
 rw[m1p,t0w,tfd];unfold redV;by_cases h:y=0
 ·rw[if_pos h,if_pos h]
 ·have hg:0<Nat.gcd x y:=Nat.gcd_pos_of_pos_right x (by omega);have hl:Nat.gcd x y<340282366920938463463374607431768211456:=Nat.lt_of_le_of_lt (Nat.gcd_le_right x (by omega)) hy;rw[if_neg h,if_neg h,r02_gcd n hx hy,obs,x0v (n+1) hx hl,obs,x0v (n+1) hy hl,obs,if_neg (by omega),if_neg (by omega)]
def g2i (a:Wd) (ms:Int):(Wd×Wd)×Int :=
 if ms=0 then (((0,0),(0,0)),12) else if wv a*1000<340282366920938463463374607431768211456 then redV (wv a*1000).toNat ms.toNat else (((0,0),(0,0)),1)
theorem j1w {a:Wd} (ha:WdOk a) {ms:Int} (hm:0≤ms∧ms≤18446744073709551615) (h:wv a*1000<340282366920938463463374607431768211456):mkW (wv a*1000)=ofN (wv a*1000).toNat∧(wv a*1000).toNat<340282366920938463463374607431768211456∧(((0:Int),ms):Wd)=ofN ms.toNat∧ms.toNat<340282366920938463463374607431768211456:=by
 obtain ⟨h1,h2⟩:=c0h ha;have e:wv a*1000=(((wv a*1000).toNat:Nat):Int):=by omega
 refine ⟨?_,by omega,?_,by omega⟩
 ·conv=>lhs;rw[e]
  exact z0y _
 ·rw[←lo_ofN (by omega)];congr 1;omega
theorem c2p (n:Nat) {a:Wd} (ha:WdOk a) {ms:Int} (hm:0≤ms∧ms≤18446744073709551615):z0m (n+6) a ms=some (g2i a ms):=by
 rw[m1c,tfd];unfold g2i;by_cases h0:ms=0
 ·rw[if_pos h0,if_pos h0]
 rw[if_neg h0,if_neg h0,s0z (n+3) ha 1000 (by omega),obs];unfold n0u;by_cases h:wv a*1000<340282366920938463463374607431768211456
 ·obtain ⟨p1,p2,p3,p4⟩:=j1w ha hm h;rw[if_pos h,if_pos h];simp only[decide_true,Bool.not_true,tff];rw[z0c,obs,p1,p3,q1s n p2 p4,obs]
 ·rw[if_neg h,if_neg h];rfl
theorem r02_rate (n:Nat) {a:Wd} (ha:WdOk a) {ms:Int} (hm:0≤ms∧ms≤18446744073709551615):m1q (n+7) a ms=some (g2i a ms):=by
 rw[x1g,tfd];unfold g2i;by_cases h0:ms=0
 ·rw[if_pos h0,if_pos h0]
 rw[if_neg h0,if_neg h0,s0h (n+3) ha 1000 (by omega),obs];unfold n0u;by_cases h:wv a*1000<340282366920938463463374607431768211456
 ·obtain ⟨p1,p2,p3,p4⟩:=j1w ha hm h;rw[if_pos h,if_pos h];simp only[decide_true,Bool.not_true,tff];rw[p1,p3,d2h n p2 p4,obs]
 ·rw[if_neg h,if_neg h];rfl
section
variable {del:Ev×Unit→Option Bool} {p:Ev→Bool} {L:List Ev} (hd:∀x∈L,del (x,())=some (p x))
include hd
end
def WidP (w:Int):Prop:=1≤w∧w≤1099511627776
instance (w:Int):Decidable (WidP w):=by unfold WidP;infer_instance
def RngP (a b:Int):Prop:=0≤a∧b≤35184372088832∧a<b
instance (a b:Int):Decidable (RngP a b):=by unfold RngP;infer_instance
def j0l (a b w:Int):Int×(Int×Int):=if WidP w∧RngP a b then (if a % w=0∧b % w=0 then (a / w,(b / w,0)) else (0,(0,10))) else (0,(0,1))
theorem q1d {w:Int} (a b:Int) (hw:WidP w) :
  (tif (decide (a<(0:Int))) (some ((0:Int),((0:Int),(1:Int)))) (
  tif (decide ((35184372088832:Int)<b)) (some ((0:Int),((0:Int),(1:Int)))) (
  tif (decide (b≤a)) (some ((0:Int),((0:Int),(1:Int)))) (
  tif (decide (w=(0:Int))) none (
  tif (!(decide ((Int.tmod a w)=(0:Int)))) (some ((0:Int),((0:Int),(10:Int)))) (
  tif (decide (w=(0:Int))) none (
  tif (!(decide ((Int.tmod b w)=(0:Int)))) (some ((0:Int),((0:Int),(10:Int)))) (
  tif (decide (w=(0:Int))) none (
  tif (decide (w=(0:Int))) none (
  some ((IntKind.wrap .i64 (Int.tdiv a w)),((IntKind.wrap .i64 (Int.tdiv b w)),(0:Int)))))))))))))=some (j0l a b w):=by
 obtain ⟨w1,w2⟩:=hw;unfold j0l;simp only[tfd,tfn];by_cases h:RngP a b
 ·obtain ⟨h1,h2,h3⟩:=h;have qa:0≤a / w∧a / w≤a:=⟨Int.ediv_nonneg h1 (by omega),Int.ediv_le_self _ h1⟩;have qb:0≤b / w∧b / w≤b:=⟨Int.ediv_nonneg (by omega) (by omega),Int.ediv_le_self _ (by omega)⟩;rw[if_neg (by omega),if_neg (by omega),if_neg (by omega),if_neg (by omega),if_pos (show WidP w∧RngP a b from ⟨⟨w1,w2⟩,h1,h2,h3⟩),f0g h1,f0g (show 0≤b by omega),f0o h1,f0o (show 0≤b by omega),w64 (by omega) (by omega),w64 (by omega) (by omega)];by_cases ha:a % w=0
  ·rw[if_pos ha,if_neg (by omega)];by_cases hb:b % w=0
   ·rw[if_pos hb,if_neg (by omega),if_neg (by omega),if_pos ⟨ha,hb⟩]
   ·rw[if_neg hb,if_neg (fun k=>hb k.2)]
  ·rw[if_neg ha,if_neg (fun k=>ha k.1)]
 ·rw[if_neg (show ¬(WidP w∧RngP a b) from fun k=>h k.2)];by_cases h1:a<0
  ·rw[if_pos h1]
  rw[if_neg h1];by_cases h2:35184372088832<b
  ·rw[if_pos h2]
  rw[if_neg h2,if_pos (by unfold RngP at h;omega)]
theorem v0e (n:Nat) (a b w:Int):e0g (n+3) a b w=some (j0l a b w):=by
 rw[b2n,c1y,wi_in,obs,obs,tfn,tfd];by_cases h:WidP w
 ·rw[if_pos (show 1≤w∧w≤1099511627776 from h)];exact q1d a b h
 ·rw[if_neg (show ¬(1≤w∧w≤1099511627776) from h)];unfold j0l;rw[if_neg (fun k=>h k.1)]
theorem t0p (n:Nat) (a b w:Int):f0k (n+2) a b w=some (j0l a b w):=by
 rw[w1x,b1b];by_cases h:WidP w
 ·rw[decide_eq_true h.1,tft,decide_eq_true h.2,obs,Bool.not_true,tff];exact q1d a b h
 ·have e:(tif (decide ((1:Int)≤w)) (some (decide (w≤(1099511627776:Int)))) (some false))=some false:=by
   rw[tfd];split
   ·rw[decide_eq_false (fun k=>h ⟨by assumption,k⟩)]
   ·rfl
  rw[e,obs,Bool.not_false,tft];unfold j0l;rw[if_neg (fun k=>h k.1)]
noncomputable def oneV (s:Sta) (k a b:Int):Int :=
 if (j0l a b (a0m s.1 k)).2.2=0 then (if (j0l a b (a0m s.1 k)).1<(oldV s.2.1 (a0m s.1 k) (tierN s.1 k)).1 then 11 else 0) else (j0l a b (a0m s.1 k)).2.2
theorem i2k {s:Sta} (h:StaOk s) {k:Int} (h0:0≤k) (h2:k≤2):e2d s k=((oldV s.2.1 (a0m s.1 k) (tierN s.1 k)).1,(s.2.1 / a0m s.1 k,0)):=by
 unfold e2d;rw[if_pos h,if_neg (by omega)]
theorem tier3 {t:Int} (h1:1≤t) (h3:t≤3):IntKind.wrap .i64 (t-1)=t-1:=w64 (by omega) (by omega)
theorem y0a (n:Nat) {s:Sta} (hw:StaW s) (h:StaOk s) {t:Int} (h1:1≤t) (h3:t≤3) (a b:Int):y0b (n+17) s t a b=some (oneV s (t-1) a b):=by
 rw[r1z,tier3 h1 h3];have hk:=i2k h (k:=t-1) (by omega) (by omega);unfold oneV;rcases (by omega:t=1∨t=2∨t=3) with e | e | e<;>subst e
 ·rw[show ((1:Int)-1)=0 from rfl] at hk ⊢;rw[decide_eq_true (show (0:Int)=0 from rfl),tft]
  change a0a (e0g _ a b (a0m s.1 0)) _=_
  rw[v0e (n+13),obs,tfn,tfd,o1o n hw 0,hk,obs];by_cases hs:(j0l a b (a0m s.1 0)).2.2=0
  ·rw[if_pos hs,if_pos hs,decide_eq_true rfl,tft,tfd];split<;>rfl
  ·rw[if_neg hs,if_neg hs]
 ·rw[show ((2:Int)-1)=1 from rfl] at hk ⊢;rw[decide_eq_false (show ¬((1:Int)=0) by decide),tff];rw[decide_eq_true (show (1:Int)=1 from rfl),tft]
  change a0a (e0g _ a b (a0m s.1 1)) _=_
  rw[v0e (n+13),obs,tfn,tfd,o1o n hw 1,hk,obs];by_cases hs:(j0l a b (a0m s.1 1)).2.2=0
  ·rw[if_pos hs,if_pos hs,decide_eq_true rfl,tft,tfd];split<;>rfl
  ·rw[if_neg hs,if_neg hs]
 ·rw[show ((3:Int)-1)=2 from rfl] at hk ⊢;rw[decide_eq_false (show ¬((2:Int)=0) by decide),tff];rw[decide_eq_false (show ¬((2:Int)=1) by decide),tff];rw[decide_eq_true (show (2:Int)=2 from rfl),tft]
  change a0a (e0g _ a b (a0m s.1 2)) _=_
  rw[v0e (n+13),obs,tfn,tfd,o1o n hw 2,hk,obs];by_cases hs:(j0l a b (a0m s.1 2)).2.2=0
  ·rw[if_pos hs,if_pos hs,decide_eq_true rfl,tft,tfd];split<;>rfl
  ·rw[if_neg hs,if_neg hs]
theorem d1v (n:Nat) {s:Sta} (hw:StaW s) (h:StaOk s) {t:Int} (h1:1≤t) (h3:t≤3) (a b:Int):m1f (n+11) s t a b=some (oneV s (t-1) a b):=by
 rw[c2u,tier3 h1 h3];have hk:=i2k h (k:=t-1) (by omega) (by omega);unfold oneV;rcases (by omega:t=1∨t=2∨t=3) with e | e | e<;>subst e
 ·rw[show ((1:Int)-1)=0 from rfl] at hk ⊢;rw[decide_eq_true (show (0:Int)=0 from rfl),tft]
  change a0a (f0k _ a b (a0m s.1 0)) _=_
  rw[t0p (n+8),obs,tfn,tfd,m1h n hw 0,hk,obs];by_cases hs:(j0l a b (a0m s.1 0)).2.2=0
  ·rw[if_pos hs,if_pos hs,tfd];split<;>rfl
  ·rw[if_neg hs,if_neg hs]
 ·rw[show ((2:Int)-1)=1 from rfl] at hk ⊢;rw[decide_eq_false (show ¬((1:Int)=0) by decide),tff];rw[decide_eq_true (show (1:Int)=1 from rfl),tft]
  change a0a (f0k _ a b (a0m s.1 1)) _=_
  rw[t0p (n+8),obs,tfn,tfd,m1h n hw 1,hk,obs];by_cases hs:(j0l a b (a0m s.1 1)).2.2=0
  ·rw[if_pos hs,if_pos hs,tfd];split<;>rfl
  ·rw[if_neg hs,if_neg hs]
 ·rw[show ((3:Int)-1)=2 from rfl] at hk ⊢;rw[decide_eq_false (show ¬((2:Int)=0) by decide),tff];rw[decide_eq_false (show ¬((2:Int)=1) by decide),tff];rw[decide_eq_true (show (2:Int)=2 from rfl),tft]
  change a0a (f0k _ a b (a0m s.1 2)) _=_
  rw[t0p (n+8),obs,tfn,tfd,m1h n hw 2,hk,obs];by_cases hs:(j0l a b (a0m s.1 2)).2.2=0
  ·rw[if_pos hs,if_pos hs,tfd];split<;>rfl
  ·rw[if_neg hs,if_neg hs]
theorem span_why (a b w:Int):(j0l a b w).2.2=0∨(j0l a b w).2.2=1∨(j0l a b w).2.2=10:=by
 unfold j0l;split
 ·split
  ·exact .inl rfl
  ·exact .inr (.inr rfl)
 ·exact .inr (.inl rfl)
theorem x1v (s:Sta) (k a b:Int):oneV s k a b=0∨oneV s k a b=1∨oneV s k a b=10∨oneV s k a b=11:=by
 unfold oneV;rcases span_why a b (a0m s.1 k) with h | h | h<;>rw[h]
 ·rw[if_pos rfl];split
  ·exact .inr (.inr (.inr rfl))
  ·exact .inl rfl
 ·exact .inr (.inl rfl)
 ·exact .inr (.inr (.inl rfl))
noncomputable def c0c (s:Sta) (a b:Int):Nat→Int→Int→Int×Int
 | 0,_,why=>(0,why)
 | d+1,t,why=>if oneV s (t-1) a b=0 then (t,0) else if oneV s (t-1) a b=1 then (0,1) else c0c s a b d (t+1) (if oneV s (t-1) a b=11 then 11 else why)
theorem u1v {s:Sta} {a b t:Int} (e:oneV s (t-1) a b=0) (d:Nat) (why:Int):c0c s a b (d+1) t why=(t,0):=by
 conv=>lhs;unfold c0c
 rw[if_pos e]
theorem u1u {s:Sta} {a b t:Int} (e:oneV s (t-1) a b=1) (d:Nat) (why:Int):c0c s a b (d+1) t why=(0,1):=by
 conv=>lhs;unfold c0c
 rw[if_neg (by omega),if_pos e]
theorem k1z {s:Sta} {a b t:Int} (e:oneV s (t-1) a b=10) (d:Nat) (why:Int):c0c s a b (d+1) t why=c0c s a b d (t+1) why:=by
 conv=>lhs;unfold c0c
 rw[if_neg (by omega),if_neg (by omega),if_neg (by omega)]
theorem k1y {s:Sta} {a b t:Int} (e:oneV s (t-1) a b=11) (d:Nat) (why:Int):c0c s a b (d+1) t why=c0c s a b d (t+1) 11:=by
 conv=>lhs;unfold c0c
 rw[if_neg (by omega),if_neg (by omega),if_pos e]
theorem g1n (n:Nat) {s:Sta} (hw:StaW s) (h:StaOk s) (a b:Int):∀(d f:Nat) (t why:Int),1≤t→t+d=4→d<f →
  c0w (n+17) f (a,b,s,why,t,())=some (if (c0c s a b d t why).2=0 then .inr (c0c s a b d t why) else if (c0c s a b d t why).2=1 then .inr (c0c s a b d t why) else .inl ((c0c s a b d t why).2,()))∨(why≠10∧why≠11):=by
 intro d;induction d with
 | zero =>
  intro f t why h1 ht hf;obtain ⟨f,rfl⟩:∃g,f=g+1:=⟨f-1,by omega⟩;by_cases hy:why≠10∧why≠11
  ·exact .inr hy
  refine .inl ?_;rw[j0p,decide_eq_false (by omega),tff];unfold c0c;rw[if_neg (by simp only;omega),if_neg (by simp only;omega)]
 | succ d ih =>
  intro f t why h1 ht hf;obtain ⟨f,rfl⟩:∃g,f=g+1:=⟨f-1,by omega⟩;by_cases hy:why≠10∧why≠11
  ·exact .inr hy
  refine .inl ?_;rw[j0p,decide_eq_true (by omega),tft,y0a n hw h h1 (by omega),obs,w64 (by omega) (by omega)];simp only[tfd];rcases x1v s (t-1) a b with e | e | e | e
  ·rw[u1v e,e,if_pos rfl,if_pos rfl]
  ·rw[u1u e,e,if_neg (by decide),if_neg (by decide),if_neg (by decide),if_neg (by decide),if_pos rfl]
  ·rw[k1z e,e,if_neg (by decide),if_pos rfl];exact (ih f (t+1) why (by omega) (by omega) (by omega)).resolve_right hy
  ·rw[k1y e,e,if_neg (by decide),if_neg (by decide),if_pos rfl];exact (ih f (t+1) 11 (by omega) (by omega) (by omega)).resolve_right (by decide)
theorem x1l (n:Nat) {s:Sta} (hw:StaW s) (h:StaOk s) (a b:Int):l0x (n+18) s a b=some (c0c s a b 3 1 10):=by
 rw[x0z]
 change a0a (c0w (n+17) a0b (a,b,s,10,1,())) _=_
 rw[(g1n n hw h a b 3 a0b 1 10 (by decide) rfl (by unfold a0b;omega)).resolve_right (by decide),obs];split
 ·rfl
 ·split
  ·rfl
  ·rename_i h0 h1;rw[a0k];have hz:(c0c s a b 3 1 10).1=0:=by
    have key:∀(d:Nat) (t why:Int),(c0c s a b d t why).2≠0→(c0c s a b d t why).1=0:=by
     intro d;induction d with
     | zero=>intro t why _;rfl
     | succ d ih =>
      intro t why;unfold c0c;split
      ·intro k;exact absurd rfl k
      ·split
       ·intro _;rfl
       ·exact ih _ _
    exact key 3 1 10 h0
   exact congrArg some (Prod.ext hz.symm rfl)
theorem m1e (n:Nat) {s:Sta} (hw:StaW s) (h:StaOk s) (a b:Int):∀(d f:Nat) (t:Int) (ex:Bool),1≤t→t+d=4→d<f →
  j0n (n+11) f (a,b,s,ex,t,())=some (if (c0c s a b d t (if ex then 11 else 10)).2=0 then .inr (c0c s a b d t (if ex then 11 else 10)) else if (c0c s a b d t (if ex then 11 else 10)).2=1 then .inr (c0c s a b d t (if ex then 11 else 10)) else .inl (decide ((c0c s a b d t (if ex then 11 else 10)).2=11),())):=by
 intro d;induction d with
 | zero =>
  intro f t ex h1 ht hf;obtain ⟨f,rfl⟩:∃g,f=g+1:=⟨f-1,by omega⟩;rw[r0q,decide_eq_false (by omega),tff];unfold c0c;cases ex<;>rfl
 | succ d ih =>
  intro f t ex h1 ht hf;obtain ⟨f,rfl⟩:∃g,f=g+1:=⟨f-1,by omega⟩;rw[r0q,decide_eq_true (by omega),tft,d1v n hw h h1 (by omega),obs,w64 (by omega) (by omega)];simp only[tfd];rcases x1v s (t-1) a b with e | e | e | e
  ·rw[u1v e,e,if_pos rfl,if_pos rfl]
  ·rw[u1u e,e,if_neg (by decide),if_pos rfl,if_neg (by decide),if_pos rfl]
  ·rw[k1z e,e,if_neg (by decide),if_neg (by decide)];cases ex with
   | true=>rw[tft];exact ih f (t+1) true (by omega) (by omega) (by omega)
   | false=>rw[tff];exact ih f (t+1) false (by omega) (by omega) (by omega)
  ·rw[k1y e,e,if_neg (by decide),if_neg (by decide)];cases ex with
   | true=>rw[tft];exact ih f (t+1) true (by omega) (by omega) (by omega)
   | false=>rw[tff];exact ih f (t+1) true (by omega) (by omega) (by omega)
theorem f2d (s:Sta) (a b:Int):∀(d:Nat) (t why:Int),(why=10∨why=11)→(c0c s a b d t why).2=0∨((c0c s a b d t why).1=0∧((c0c s a b d t why).2=1∨(c0c s a b d t why).2=10∨(c0c s a b d t why).2=11)):=by
 intro d;induction d with
 | zero=>intro t why h;exact .inr ⟨rfl,.inr h⟩
 | succ d ih =>
  intro t why h;unfold c0c;split
  ·exact .inl rfl
  ·split
   ·exact .inr ⟨rfl,.inl rfl⟩
   ·refine ih _ _ ?_;split
    ·exact .inr rfl
    ·exact h
noncomputable def b0m (s:Sta) (t a b:Int):Int×Int :=
 if StaOk s then (if t<0∨3<t then (0,1) else if t=0 then c0c s a b 3 1 10 else if oneV s (t-1) a b=0 then (t,0) else (0,oneV s (t-1) a b)) else (0,2)
theorem k1c (n:Nat) {s:Sta} (hw:StaW s) (t a b:Int):t0t (n+19) s t a b=some (b0m s t a b):=by
 rw[m1v,w0m (n+4) hw,obs,tfn,tfd];unfold b0m;by_cases h:StaOk s
 case neg=>rw[if_neg h,if_neg h];rfl
 rw[if_pos h,if_pos h,if_pos rfl];simp only[tfd,tfn];by_cases h0:t<0
 ·rw[if_pos h0,if_pos (.inl h0)]
 by_cases h3:3<t
 ·rw[if_neg h0,if_pos h3,if_pos (.inr h3)]
 rw[if_neg h0,if_neg h3,if_neg (show ¬(t<0∨3<t) by omega)];by_cases hz:t=0
 ·rw[if_pos hz,if_pos hz,x1l n hw h,obs]
 ·rw[if_neg hz,if_neg hz,y0a (n+1) hw h (by omega) (by omega),obs];by_cases ho:oneV s (t-1) a b=0
  ·rw[if_pos ho,if_pos ho]
  ·rw[if_neg ho,if_neg ho]
theorem r22_tier (n:Nat) {s:Sta} (hw:StaW s) (t a b:Int):m1g (n+12) s t a b=some (b0m s t a b):=by
 rw[w1d,d1w (n+2) hw,obs,tfn,tfd];unfold b0m;by_cases h:StaOk s
 case neg=>rw[if_neg h,if_neg h];rfl
 rw[if_pos h,if_pos h,if_pos rfl];simp only[tfd,tfn];by_cases h0:t<0
 ·rw[if_pos h0,if_pos (.inl h0)]
 by_cases h3:3<t
 ·rw[if_neg h0,if_pos h3,if_pos (.inr h3)]
 rw[if_neg h0,if_neg h3,if_neg (show ¬(t<0∨3<t) by omega)];by_cases hz:t=0
 ·subst hz;rw[if_neg (by decide),if_pos rfl,m1e n hw h a b 3 a0b 1 false (by decide) rfl (by unfold a0b;omega),obs];rcases f2d s a b 3 1 10 (.inl rfl) with k | ⟨k1,k⟩
  ·have k':(c0c s a b 3 1 (if false=true then 11 else 10)).2=0:=k;rw[if_pos k',f0q];rfl
  ·have e:c0c s a b 3 1 (if false=true then 11 else 10)=c0c s a b 3 1 10:=rfl;rw[e];rcases k with k | k | k
   ·rw[if_neg (by rw[k];decide),if_pos k,f0q]
   ·rw[if_neg (by rw[k];decide),if_neg (by rw[k];decide),a0k,k];exact congrArg some (Prod.ext k1.symm k.symm)
   ·rw[if_neg (by rw[k];decide),if_neg (by rw[k];decide),a0k,k];exact congrArg some (Prod.ext k1.symm k.symm)
 ·rw[if_pos (by omega),if_neg hz,d1v n hw h (by omega) (by omega),obs];by_cases ho:oneV s (t-1) a b=0
  ·rw[if_pos ho,if_pos ho]
  ·rw[if_neg ho,if_neg ho]
def c2r (c:Cel):(Wd×Wd)×Int:=if c.2.2.2.2.2.2<1 then (((0,0),(0,0)),12) else g2i c.2.2.2.1 c.2.2.2.2.2.2
theorem d2n (n:Nat) {c:Cel} (hw:WdOk c.2.2.2.1) (hs:c.2.2.2.2.2.2≤9223372036854775807):z0t (n+7) c=some (c2r c):=by
 rw[m1w,tfd];unfold c2r;by_cases h:c.2.2.2.2.2.2<1
 ·rw[if_pos h,if_pos h]
 ·rw[if_neg h,if_neg h,wu64 (by omega) (by omega),c2p n hw ⟨by omega,by omega⟩,obs]
theorem z1o (n:Nat) {c:Cel} (hw:WdOk c.2.2.2.1) (hs:c.2.2.2.2.2.2≤9223372036854775807):m0m (n+8) c=some (c2r c):=by
 rw[w1e,tfd];unfold c2r;by_cases h:c.2.2.2.2.2.2<1
 ·rw[if_pos h,if_pos h]
 ·rw[if_neg h,if_neg h,wu64 (by omega) (by omega),r02_rate n hw ⟨by omega,by omega⟩,obs]
theorem c2i (n:Nat) (c:Conf) {s:Ser} (hw:SerW s) {k:Int} (h0:0≤k) (h2:k≤2) (i j:Int):d0x (n+22) c s k i j=some (i0c c s k i j):=by
 unfold i0c;rcases (by omega:k=0∨k=1∨k=2) with e | e | e
 ·subst e;rw[if_pos rfl];exact l1s n c hw i j
 ·subst e;rw[if_neg (by decide),if_pos rfl];exact l1r n c hw i j
 ·subst e;rw[if_neg (by decide),if_neg (by decide)];exact l1q n c hw i j
theorem c2w (n:Nat) (c:Conf) {s:Ser} (hw:SerW s) {k:Int} (h0:0≤k) (h2:k≤2) (i j:Int):f0s (n+10) c s k i j=some (i0c c s k i j):=by
 unfold i0c;rcases (by omega:k=0∨k=1∨k=2) with e | e | e
 ·subst e;rw[if_pos rfl];exact c2z n c hw i j
 ·subst e;rw[if_neg (by decide),if_pos rfl];exact c2y n c hw i j
 ·subst e;rw[if_neg (by decide),if_neg (by decide)];exact c2x n c hw i j
theorem n0h {a b w:Int} (h:(j0l a b w).2.2=0):WidP w∧RngP a b∧a % w=0∧b % w=0∧j0l a b w=(a / w,(b / w,0))∧0≤a / w∧a / w≤b / w:=by
 unfold j0l at h ⊢;split at h
 ·rename_i h1;split at h
  ·rename_i h2;rw[if_pos h1,if_pos h2];exact ⟨h1.1,h1.2,h2.1,h2.2,rfl,Int.ediv_nonneg h1.2.1 (by have:=h1.1.1;omega),Int.ediv_le_ediv (by have:=h1.1.1;omega) (Int.le_of_lt h1.2.2.2)⟩
  ·cases h
 ·cases h
theorem u0x {s:Sta} {k a b:Int} (h:oneV s k a b=0):(j0l a b (a0m s.1 k)).2.2=0∧(oldV s.2.1 (a0m s.1 k) (tierN s.1 k)).1≤(j0l a b (a0m s.1 k)).1:=by
 unfold oneV at h;split at h
 ·rename_i h1;split at h
  ·cases h
  ·exact ⟨h1,by omega⟩
 ·rename_i h1;exact absurd h h1
theorem which_ok {s:Sta} {a b:Int}:∀(d:Nat) (t why:Int),why≠0→(c0c s a b d t why).2=0→t≤(c0c s a b d t why).1∧(c0c s a b d t why).1<t+d∧oneV s ((c0c s a b d t why).1-1) a b=0:=by
 intro d;induction d with
 | zero=>intro t why hw h;exact absurd h hw
 | succ d ih =>
  intro t why hw h;rcases x1v s (t-1) a b with e | e | e | e
  ·rw[u1v e];exact ⟨by simp only;omega,by simp only;omega,e⟩
  ·rw[u1u e] at h;cases h
  ·rw[k1z e] at h ⊢;obtain ⟨h1,h2,h3⟩:=ih (t+1) why hw h;exact ⟨by omega,by omega,h3⟩
  ·rw[k1y e] at h ⊢;obtain ⟨h1,h2,h3⟩:=ih (t+1) 11 (by decide) h;exact ⟨by omega,by omega,h3⟩
theorem l0e {s:Sta} {t a b:Int} (h:(b0m s t a b).2=0):StaOk s∧1≤(b0m s t a b).1∧(b0m s t a b).1≤3∧oneV s ((b0m s t a b).1-1) a b=0∧0≤t∧t≤3∧(1≤t→(b0m s t a b).1=t):=by
 unfold b0m at h ⊢;by_cases hs:StaOk s
 case neg=>rw[if_neg hs] at h;cases h
 rw[if_pos hs] at h ⊢;by_cases h1:t<0∨3<t
 ·rw[if_pos h1] at h;cases h
 rw[if_neg h1] at h ⊢;by_cases h0:t=0
 ·rw[if_pos h0] at h ⊢;obtain ⟨k1,k2,k3⟩:=which_ok 3 1 10 (by decide) h;exact ⟨hs,k1,by omega,k3,by omega,by omega,by omega⟩
 ·rw[if_neg h0] at h ⊢;by_cases ho:oneV s (t-1) a b=0
  ·rw[if_pos ho];exact ⟨hs,by simp only;omega,by simp only;omega,ho,by omega,by omega,fun _=>rfl⟩
  ·rw[if_neg ho] at h;exact absurd h ho
noncomputable def a1m (s:Sta) (l:List Lab) (k a b:Int):Cel :=
 match l0z s l with
 | some i=>(i0c s.1 ((s.2.2.2[i]?).getD ser0) k (a / a0m s.1 k) (b / a0m s.1 k)).1
 | none=>z0
theorem found {s:Sta} (hs:StaOk s) {l:List Lab} {i:Nat} (h:l0z s l=some i):∃x,s.2.2.2[i]? = some x∧x.1=l∧LvX s x∧SerOk s.1 x:=by
 obtain ⟨x,hx,h1,h2,_⟩:=k1p.1 h;exact ⟨x,hx,h1,h2,(live_ok hs (List.mem_of_getElem? hx) h2).1⟩
theorem s1a (n:Nat) {s:Sta} (hw:StaW s) (hs:StaOk s) {q:List Lab×(Int×(Int×Int))} {k:Int} (h0:0≤k) (h2:k≤2) (ho:oneV s k q.2.2.1 q.2.2.2=0):m1s (n+23) s q k=some (a1m s q.1 k q.2.2.1 q.2.2.2,0):=by
 obtain ⟨l,t,a,b⟩:=q;simp only at ho ⊢;rw[x1m];simp only;rw[z1h (n+12) hw l,obs,tfn,tfd];unfold a1m;cases hf:l0z s l with
 | none=>rw[t0z hs.whole hf,if_neg (show ¬((3:Int)=0) by decide)];rfl
 | some i =>
  obtain ⟨x,hx,hxl,hlv,hok⟩:=found hs hf;obtain ⟨s1,s2⟩:=u0x ho;obtain ⟨_,_,_,_,e,e1,e2⟩:=n0h s1;have hfine:=v0k hok k e1 e2;rw[t0y hs.whole hf,if_pos rfl];simp only[hx,Option.getD_some];have fin:∀(x':Ser),x'=x→a0a (d0x (n+22) s.1 x' k (a / a0m s.1 k) (b / a0m s.1 k)) (fun r=>some r)=some ((i0c s.1 x k (a / a0m s.1 k) (b / a0m s.1 k)).1,0):=by
   rintro x' rfl;rw[c2i n s.1 (hw.at hx).1 h0 h2,obs];exact congrArg some (Prod.ext rfl hfine)
  rcases (by omega:k=0∨k=1∨k=2) with ek | ek | ek<;>subst ek
  ·rw[decide_eq_true rfl,tft]
   change a0a (e0g (n+22) a b (a0m s.1 0)) _=_
   rw[v0e (n+19),obs,e];simp only[decide_true,Bool.not_true,tff];rw[q0q hx,obs];exact fin x rfl
  ·rw[decide_eq_false (show ¬((1:Int)=0) by decide),tff,decide_eq_true rfl,tft]
   change a0a (e0g (n+22) a b (a0m s.1 1)) _=_
   rw[v0e (n+19),obs,e];simp only[decide_true,Bool.not_true,tff];rw[q0q hx,obs];exact fin x rfl
  ·rw[decide_eq_false (show ¬((2:Int)=0) by decide),tff,decide_eq_false (show ¬((2:Int)=1) by decide),tff,decide_eq_true rfl,tft]
   change a0a (e0g (n+22) a b (a0m s.1 2)) _=_
   rw[v0e (n+19),obs,e];simp only[decide_true,Bool.not_true,tff];rw[q0q hx,obs];exact fin x rfl
theorem mrgE_okc (a b:Cel):b0f (mrgE a b).1:=by
 unfold mrgE;split
 ·rename_i h;split
  ·rename_i ha;exact q0w h.1 h.2 ha
  ·exact h0a
 ·exact h0a
theorem z0o (ok:Prop) [Decidable ok] (i j last w:Int) (t:List Slo) (now:Cel×Int):b0f (b0w ok i j last w t now).1:=by
 unfold b0w;split
 ·split
  ·exact h0a
  split
  ·exact h0a
  split
  ·exact h0a
  split
  ·exact w0i _ _ _
  split
  ·exact w0i _ _ _
  split
  ·exact h0a
  ·exact mrgE_okc _ _
 ·exact h0a
theorem j1x (c:Conf) (s:Ser) (k i j:Int):b0f (i0c c s k i j).1:=by
 unfold i0c;split
 ·exact z0o _ _ _ _ _ _ _
 split
 ·exact z0o _ _ _ _ _ _ _
 ·exact z0o _ _ _ _ _ _ _
theorem o1y (s:Sta) (l:List Lab) (k a b:Int):b0f (a1m s l k a b):=by
 unfold a1m;split
 ·exact j1x _ _ _ _ _
 ·exact h0a
theorem f1n {c:Cel} (h:b0f c):WdOk c.2.2.2.1∧c.2.2.2.2.2.2≤9223372036854775807:=by
 rcases h with rfl | h
 ·exact ⟨⟨by simp[z0],by simp[z0]⟩,by simp[z0]⟩
 ·have h1:=h.s1;have h2:=h.l.t1;have h3:=h.f.t0;exact ⟨h.w,by omega⟩
abbrev zr:Int×(Cel×((Wd×Wd)×Int)):=(0,(z0,(((0,0),(0,0)),0)))
noncomputable def doQ (s:Sta) (l:List Lab) (t a b:Int):(Int×(Cel×((Wd×Wd)×Int)))×Int :=
 if StaOk s then (if LabOk l then (if (b0m s t a b).2=0 then (((b0m s t a b).1,(a1m s l ((b0m s t a b).1-1) a b,c2r (a1m s l ((b0m s t a b).1-1) a b))),0) else (zr,(b0m s t a b).2)) else (zr,8)) else (zr,2)
theorem m1t (n:Nat) {s:Sta} (hw:StaW s) (l:List Lab):e1e (n+15) s l=some (if StaOk s then (if LabOk l then 0 else 8) else 2):=by
 rw[s1b,w0m n hw,obs,tfn,tfd];by_cases h:StaOk s
 ·rw[if_pos h,if_pos h,if_pos rfl,e1t (n+8) l,obs]
 ·rw[if_neg h,if_neg h,if_neg (by decide)]
theorem m1u (n:Nat) {s:Sta} (hw:StaW s) (q:List Lab×(Int×(Int×Int))):q0d (n+24) s q=some (doQ s q.1 q.2.1 q.2.2.1 q.2.2.2):=by
 rw[x1n,m1t (n+8) hw,obs,tfn,tfd];unfold doQ;by_cases h:StaOk s
 case neg=>rw[if_neg h,if_neg h,if_neg (by decide)];rfl
 rw[if_pos h,if_pos h];by_cases hl:LabOk q.1
 case neg=>rw[if_neg hl,if_neg hl,if_neg (by decide)];rfl
 rw[if_pos hl,if_pos hl,if_pos rfl,k1c (n+4) hw,obs,tfn,tfd];by_cases ht:(b0m s q.2.1 q.2.2.1 q.2.2.2).2=0
 case neg=>rw[if_neg ht,if_neg ht];rfl
 obtain ⟨_,t1,t3,ho,_⟩:=l0e ht;have hr:=f1n (o1y s q.1 ((b0m s q.2.1 q.2.2.1 q.2.2.2).1-1) q.2.2.1 q.2.2.2);rw[if_pos ht,if_pos ht,w64 (by omega) (by omega),s1a n hw h (by omega) (by omega) ho,obs];simp only[decide_true,Bool.not_true,tff];rw[d2n (n+16) hr.1 hr.2,obs]
theorem r22_do (n:Nat) {s:Sta} (hw:StaW s) (q:List Lab×(Int×(Int×Int))):g2k (n+13) s q=some (doQ s q.1 q.2.1 q.2.2.1 q.2.2.2):=by
 obtain ⟨l,t,a,b⟩:=q;rw[g2j];simp only;rw[d1w (n+3) hw,obs,tfn,tfd];unfold doQ;by_cases h:StaOk s
 case neg=>rw[if_neg h,if_neg h,if_neg (by decide)];rfl
 rw[if_pos h,if_pos h,if_pos rfl,r1s (n+10) l,obs,tfn,tfd];by_cases hl:LabOk l
 case neg=>rw[if_neg hl,if_neg hl,if_neg (by decide)];rfl
 rw[if_pos hl,if_pos hl,if_pos rfl,r22_tier n hw,obs,tfn,tfd];by_cases ht:(b0m s t a b).2=0
 case neg=>rw[if_neg ht,if_neg ht];rfl
 obtain ⟨_,t1,t3,ho,_⟩:=l0e ht;have hc:=o1y s l ((b0m s t a b).1-1) a b;have hr:=f1n hc;generalize hk:(b0m s t a b).1=k at *
 rw[if_pos ht,if_pos ht,w64 (by omega) (by omega),z1p (n+5) hw l,obs,tfd];cases hf:l0z s l with
 | none =>
  have e:a1m s l (k-1) a b=z0:=by unfold a1m;rw[hf]
  rw[t0z h.whole hf,if_neg (show ¬((3:Int)=0) by decide)]
  change a0a (m0m (n+12) z0) _=_
  rw[z1o (n+4) (c:=z0) (e ▸ hr).1 (e ▸ hr).2,obs,e];rfl
 | some i =>
  obtain ⟨x,hx,hxl,hlv,hok⟩:=found h hf;obtain ⟨s1,s2⟩:=u0x ho;obtain ⟨_,_,_,_,e,e1,e2⟩:=n0h s1;have hfine:=v0k hok (k-1) e1 e2;have ec:a1m s l (k-1) a b=(i0c s.1 x (k-1) (a / a0m s.1 (k-1)) (b / a0m s.1 (k-1))).1:=by unfold a1m;simp only[hf,hx,Option.getD_some]
  rw[t0y h.whole hf,if_pos rfl];simp only;have fin:(a0a (f0s (n+12) s.1 x (k-1) (a / a0m s.1 (k-1)) (b / a0m s.1 (k-1))) fun r6=>tif (!(decide (r6.2=(0:Int)))) (some (zr,r6.2)) (a0a (m0m (n+12) r6.1) fun r7=>some ((k,(r6.1,r7)),(0:Int))))=some ((k,(a1m s l (k-1) a b,c2r (a1m s l (k-1) a b))),0):=by
   rw[c2w (n+2) s.1 (hw.at hx).1 (by omega) (by omega),obs,tfn,tfd,if_pos hfine,←ec,z1o (n+4) hr.1 hr.2,obs]
  rcases (by omega:k=1∨k=2∨k=3) with ek | ek | ek<;>subst ek
  ·rw[decide_eq_true (show (1:Int)-1=0 from rfl),tft]
   change a0a (f0k (n+12) a b (a0m s.1 (1-1))) _=_
   rw[t0p (n+10),obs,e,q0q hx,obs];exact fin
  ·rw[decide_eq_false (show ¬((2:Int)-1=0) by decide),tff,decide_eq_true (show (2:Int)-1=1 from rfl),tft]
   change a0a (f0k (n+12) a b (a0m s.1 (2-1))) _=_
   rw[t0p (n+10),obs,e,q0q hx,obs];exact fin
  ·rw[decide_eq_false (show ¬((3:Int)-1=0) by decide),tff,decide_eq_false (show ¬((3:Int)-1=1) by decide),tff,decide_eq_true (show (3:Int)-1=2 from rfl),tft]
   change a0a (f0k (n+12) a b (a0m s.1 (3-1))) _=_
   rw[t0p (n+10),obs,e,q0q hx,obs];exact fin
structure Seg (c:Cel) (w lo hi:Int):Prop where
 ok:b0f c
 w0:1≤w
 at':c=z0∨lo≤c.2.1.1 / w∧c.2.2.1.1 / w<hi
theorem seg_z0 {w lo hi:Int} (hw:1≤w):Seg z0 w lo hi:=⟨h0a,hw,.inl rfl⟩
theorem Seg.mono {c:Cel} {w a b a' b':Int} (h:Seg c w a b) (h1:a'≤a) (h2:b≤b'):Seg c w a' b' :=
 ⟨h.ok,h.w0,h.at'.imp id fun k=>⟨by omega,by omega⟩⟩
theorem seg_fits {c:Cel} {w i:Int} (h:FitsP c w i):Seg c w i (i+1):=⟨h.n.ok,h.w0,.inr ⟨by rw[h.f];omega,by rw[h.l];omega⟩⟩
theorem r0k {a b:Cel} {w lo m m' hi:Int} (ha:Seg a w lo m) (hb:Seg b w m' hi) (h:m≤m'):Ahead a b:=by
 rcases ha.at' with k | ⟨_,k⟩
 ·exact .inl k
 rcases hb.at' with q | ⟨q,_⟩
 ·exact .inr (.inl q)
 refine .inr (.inr ?_);rcases Int.lt_or_le a.2.2.1.1 b.2.1.1 with u | u
 ·exact u
 ·have:=Int.ediv_le_ediv (c:=w) (by have:=ha.w0;omega) u;omega
theorem l1t {a b:Cel} {w lo m m' hi:Int} (ha:Seg a w lo m) (hb:Seg b w m' hi) (h:m≤m') (h1:lo≤m') (h2:m≤hi):mrgE a b=(mrg a b,0)∧Seg (mrg a b) w lo hi:=by
 have hah:=r0k ha hb h;refine ⟨d0l ha.ok hb.ok hah,q0w ha.ok hb.ok hah,ha.w0,?_⟩;unfold mrg;by_cases za:a=z0
 ·rw[if_pos za];exact hb.at'.imp id fun k=>⟨by omega,k.2⟩
 ·rw[if_neg za];obtain ⟨a1,a2⟩:=ha.at'.resolve_left za;by_cases zb:b=z0
  ·rw[if_pos zb];exact .inr ⟨a1,by omega⟩
  ·rw[if_neg zb];obtain ⟨b1,b2⟩:=hb.at'.resolve_left zb;exact .inr ⟨a1,b2⟩
theorem allE_seg {w:Int}:∀(L:List Slo) (lo hi:Int),1≤w→lo≤hi→Up L→(∀s∈L,FitsP s.2 w s.1∧lo≤s.1∧s.1<hi) →
  Seg (allE z0 (L.map (·.2))).1 w lo hi∧∀(c:Cel) (lo0:Int),lo0≤lo→Seg c w lo0 lo→allE c (L.map (·.2))=(mrg c (allE z0 (L.map (·.2))).1,0):=by
 intro L;induction L with
 | nil =>
  intro lo hi hw _ _ _;exact ⟨seg_z0 hw,fun c _ _ hc=>by simp only[List.map_nil,allE];rw[q0v]⟩
 | cons s L ih =>
  intro lo hi hw hle hu hs;unfold Up at hu;rw[List.pairwise_cons] at hu;obtain ⟨hf,h1,h2⟩:=hs s (by simp);obtain ⟨i1,i2⟩:=ih (s.1+1) hi hw (by omega) hu.2 (fun x hx=>⟨(hs x (by simp[hx])).1,by have:=hu.1 x hx;omega,(hs x (by simp[hx])).2.2⟩);have sf:=seg_fits hf;have e0:allE z0 ((s::L).map (·.2))=(mrg s.2 (allE z0 (L.map (·.2))).1,0):=by
   simp only[List.map_cons,allE];rw[d0l h0a sf.ok (.inl rfl),j0z,if_pos rfl];exact i2 s.2 s.1 (by omega) sf
  obtain ⟨_,q2⟩:=l1t sf i1 (Int.le_refl _) (by omega) (by omega);rw[e0];refine ⟨q2.mono h1 (Int.le_refl _),fun c lo0 hl hc => ?_⟩;obtain ⟨r1,r2⟩:=l1t hc sf (by omega) (by omega) (by omega);simp only[List.map_cons,allE];rw[r1,if_pos rfl,i2 _ lo0 (by omega) r2,s1q hc.ok sf.ok i1.ok (r0k hc sf (by omega)) (r0k sf i1 (Int.le_refl _)) (r0k hc i1 (by omega))]
theorem t1n {l:List Slo} (hu:Up l) {i m j:Int} (h1:i≤m) (h2:m≤j):(l.filter fun s=>decide (i≤s.1∧s.1<j))=(l.filter fun s=>decide (i≤s.1∧s.1<m))++l.filter fun s=>decide (m≤s.1∧s.1<j):=by
 induction l with
 | nil=>rfl
 | cons s l ih =>
  unfold Up at hu;rw[List.pairwise_cons] at hu;have ih:=ih hu.2;by_cases a:s.1<m
  ·have b:¬(m≤s.1∧s.1<j):=by omega
   by_cases c:i≤s.1
   ·rw[List.filter_cons_of_pos (by simp;omega),List.filter_cons_of_pos (by simp;omega),List.filter_cons_of_neg (by simpa using b),ih];rfl
   ·rw[List.filter_cons_of_neg (by simp;omega),List.filter_cons_of_neg (by simp;omega),List.filter_cons_of_neg (by simpa using b),ih]
  ·have e:(l.filter fun s=>decide (i≤s.1∧s.1<m))=[]:=by
    rw[List.filter_eq_nil_iff];intro x hx;have:=hu.1 x hx;simp;omega
   rw[e,List.nil_append] at ih;rw[List.filter_cons_of_neg (p:=fun s:Slo=>decide (i≤s.1∧s.1<m)) (by simp;omega),e,List.nil_append];by_cases c:s.1<j
   ·rw[List.filter_cons_of_pos (by simp;omega),List.filter_cons_of_pos (by simp;omega),ih]
   ·rw[List.filter_cons_of_neg (by simp;omega),List.filter_cons_of_neg (by simp;omega),ih]
theorem y0z (c a:Cel) (A:List Cel):allE c (a::A)=if (mrgE c a).2=0 then allE (mrgE c a).1 A else (z0,(mrgE c a).2):=rfl
theorem b2h:∀(A B:List Cel) (c:Cel),(allE c A).2=0→allE c (A++B)=allE (allE c A).1 B:=by
 intro A;induction A with
 | nil=>intro B c _;rfl
 | cons a A ih =>
  intro B c h;rw[y0z] at h;rw[List.cons_append,y0z,y0z];by_cases k:(mrgE c a).2=0
  ·rw[if_pos k] at h;rw[if_pos k,if_pos k,ih B _ h]
  ·rw[if_neg k] at h;exact absurd h k
theorem w0h {t:List Slo} {w i j:Int} (h:TierOk t w) (h0:0≤i) (hij:i≤j):Seg (d0b t i j).1 w i j∧(d0b t i j).2=0∧∀(c:Cel) (lo0:Int),lo0≤i→Seg c w lo0 i→allE c (within t i j)=(mrg c (d0b t i j).1,0):=by
 unfold d0b;rw[if_neg (by omega)];unfold within;obtain ⟨k1,k2⟩:=allE_seg (w:=w) ((tall t).filter fun s=>decide (i≤s.1∧s.1<j)) i j h.w0 hij ((v0g h).filter _) (fun s hs=>by
  obtain ⟨s1,s2⟩:=List.mem_filter.1 hs;have s2:=of_decide_eq_true s2
  exact ⟨(g0m h s1).1,s2.1,s2.2⟩)
 exact ⟨k1,by rw[k2 z0 i (Int.le_refl _) (seg_z0 h.w0)],k2⟩
theorem v1a {t:List Slo} {w i m j:Int} (h:TierOk t w) (h0:0≤i) (h1:i≤m) (h2:m≤j):(d0b t i j).1=mrg (d0b t i m).1 (d0b t m j).1:=by
 obtain ⟨a1,a2,_⟩:=w0h h h0 h1;obtain ⟨b1,b2,b3⟩:=w0h (j:=j) h (by omega:0≤m) h2;have e:within t i j=within t i m++within t m j:=by
  unfold within;rw[t1n (v0g h) h1 h2,List.map_append]
 have ea:d0b t i m=allE z0 (within t i m):=by unfold d0b;rw[if_neg (by omega)]
 rw[ea] at a1 a2 ⊢;have:d0b t i j=allE z0 (within t i j):=by unfold d0b;rw[if_neg (by omega)]
 rw[this,e,b2h _ _ _ a2,b3 _ i h1 a1]
theorem u1o {t:List Slo} {w a m j:Int} (h:TierOk t w) (hb:a0t t a) (ha:a≤m):within t m j=[]:=by
 have hn:=(e0l h _).1 hb;unfold within;rw[List.filter_eq_nil_iff.2 (fun s hs=>by have:=hn s hs;simp;omega)];rfl
theorem d1d {t:List Slo} {w a m j:Int} (h:TierOk t w) (hb:a0t t a) (ha:a≤m) (h0:0≤m) (hm:m≤j):d0b t m j=(z0,0):=by
 unfold d0b;rw[if_neg (by omega),u1o h hb ha];rfl
theorem k2s {a b c:Cel} (h1:Ahead a b) (h2:Ahead a c):Ahead a (mrg b c):=by
 unfold mrg;by_cases zb:b=z0
 ·rw[if_pos zb];exact h2
 ·rw[if_neg zb];by_cases zc:c=z0
  ·rw[if_pos zc];exact h1
  ·rw[if_neg zc];rcases h1 with h | h | h
   ·exact .inl h
   ·exact absurd h zb
   ·exact .inr (.inr h)
theorem k1t:mrgE z0 z0=(z0,0):=by rw[d0l h0a h0a (.inl rfl),j0z]
theorem range_split {t:List Slo} {w T i m j:Int} {cur:Cel} {ok:Prop} [Decidable ok] (hok:ok) (h:TierOk t w) (hb:T = -1∨a0t t (T / w)∧CellN cur∧cur.2.1.1 / w=T / w) (h0:0≤i) (h1:i<m) (h2:m<j) :
  mrgE (b0w ok i m T w t (cur,0)).1 (b0w ok m j T w t (cur,0)).1=((b0w ok i j T w t (cur,0)).1,0):=by
 unfold b0w;simp only[if_pos hok];rw[if_neg (by omega:¬i<0),if_neg (by omega:¬m<i),if_neg (by omega:¬m<0),if_neg (by omega:¬j<m),if_neg (by omega:¬i<0),if_neg (by omega:¬j<i)];by_cases k1:T = -1
 ·rw[if_pos k1,if_pos k1,if_pos k1];exact k1t
 rw[if_neg k1,if_neg k1,if_neg k1];obtain ⟨hb,hc,hf⟩:=hb.resolve_left k1;obtain ⟨a1,a2,_⟩:=w0h (j:=m) h h0 (by omega);obtain ⟨b1,b2,_⟩:=w0h (i:=m) (j:=j) h (by omega) (by omega);have sp:=v1a (i:=i) (m:=m) (j:=j) h h0 (by omega) (by omega);by_cases k2:T / w<i
 ·rw[if_pos k2,if_pos (by omega),if_pos k2,(l1t a1 b1 (Int.le_refl _) (by omega) (by omega)).1,sp]
 rw[if_neg k2,if_neg k2];by_cases k3:j≤T / w
 ·rw[if_pos (by omega),if_neg (by omega),if_pos k3,if_pos k3,(l1t a1 b1 (Int.le_refl _) (by omega) (by omega)).1,sp]
 rw[if_neg k3,if_neg k3];have n0:¬((0:Int)≠0):=fun q=>q rfl
 rw[if_neg n0,if_neg n0,if_neg n0];by_cases k4:m≤T / w
 ·rw[if_pos k4,if_neg (by omega)];obtain ⟨l1,l2⟩:=k0r (j:=j) h hb (by omega:0≤m) k4;have ha2:=u0f h.w0 l2 (.inr hf);obtain ⟨_,l4⟩:=k0r (j:=m) h hb h0 (by omega:i≤T / w);have ha3:=u0f h.w0 l4 (.inr hf);have ha1:=r0k a1 b1 (Int.le_refl _);obtain ⟨m1,m2⟩:=k0r (j:=j) h hb h0 (by omega:i≤T / w);rw[d0l l1 hc.ok ha2,d0l m1 hc.ok (u0f h.w0 m2 (.inr hf)),d0l a1.ok (q0w l1 hc.ok ha2) (k2s ha1 ha3),sp,s1q a1.ok l1 hc.ok ha1 ha2 ha3]
 ·rw[if_neg k4,if_pos (by omega)];have e:=d1d (j:=j) h hb (by omega:T / w≤m) (by omega) (by omega);rw[e,q0v] at sp;obtain ⟨l1,l2⟩:=k0r (j:=m) h hb h0 (by omega:i≤T / w);have ha:=u0f h.w0 l2 (.inr hf);rw[e,sp,d0l l1 hc.ok ha,d0l (q0w l1 hc.ok ha) h0a (.inr (.inl rfl)),q0v]
theorem q1u {c:Conf} {s:Ser} (h:SerOk c s) (k:Int) {i m j:Int} (h0:0≤i) (h1:i<m) (h2:m<j):mrgE (i0c c s k i m).1 (i0c c s k m j).1=((i0c c s k i j).1,0):=by
 have he:=v0i h;have non:s.2.1 = -1→∀(a b w:Int) (t:List Slo) (z:Cel×Int),0≤a→a≤b→b0w (SerOk c s) a b s.2.1 w t z=(z0,0):=fun hn a b w t z u v=>by
  unfold b0w;rw[if_pos h,if_neg (by omega),if_neg (by omega),if_pos hn]
 unfold i0c;split
 ·exact range_split h h.fold.t0 he.t0 h0 h1 h2
 split
 ·by_cases hn:s.2.1 = -1
  ·rw[non hn _ _ _ _ _ h0 (by omega),non hn _ _ _ _ _ (by omega) (by omega),non hn _ _ _ _ _ h0 (by omega)];exact k1t
  ·obtain ⟨q,e,k1,k2,k3⟩:=he.t1.resolve_left hn;rw[e];exact range_split h h.fold.t1 (.inr ⟨k1,k2,k3⟩) h0 h1 h2
 ·by_cases hn:s.2.1 = -1
  ·rw[non hn _ _ _ _ _ h0 (by omega),non hn _ _ _ _ _ (by omega) (by omega),non hn _ _ _ _ _ h0 (by omega)];exact k1t
  ·obtain ⟨q,e,k1,k2,k3⟩:=he.t2.resolve_left hn;rw[e];exact range_split h h.fold.t2 (.inr ⟨k1,k2,k3⟩) h0 h1 h2
theorem b2k {t:List Slo} {w i:Int} (h:TierOk t w):within t i (i+1)=if tget t i=z0 then [] else [tget t i]:=by
 unfold within;have hu:Up ((tall t).filter fun s=>decide (i≤s.1∧s.1<i+1)):=(v0g h).filter _;have hm:∀s∈(tall t).filter (fun s=>decide (i≤s.1∧s.1<i+1)),s∈tall t∧s.1=i:=fun s hs=>by
  obtain ⟨a,b⟩:=List.mem_filter.1 hs;have b:=of_decide_eq_true b;exact ⟨a,by omega⟩
 have hin:∀s∈tall t,s.1=i→s∈(tall t).filter (fun s=>decide (i≤s.1∧s.1<i+1)):=fun s hs e=>List.mem_filter.2 ⟨hs,decide_eq_true (by omega)⟩
 generalize (tall t).filter (fun s=>decide (i≤s.1∧s.1<i+1))=F at *
 match F,hu,hm,hin with
 | [],_,_,hin =>
  rcases j1i h i with e | e
  ·rw[if_pos e];rfl
  ·exact absurd (hin _ e rfl) (by simp)
 | [s],_,hm,_ =>
  obtain ⟨a,b⟩:=hm s (by simp);have e:=z1f h a;rw[b] at e;rw[e,if_neg (g0m h a).1.n.ne];rfl
 | s::s'::r,hu,hm,_ =>
  have:=(List.pairwise_cons.1 hu).1 s' (by simp);obtain ⟨_,e1⟩:=hm s (by simp);obtain ⟨_,e2⟩:=hm s' (by simp);omega
theorem f2i {t:List Slo} {w i:Int} (h:TierOk t w) (h0:0≤i):d0b t i (i+1)=(tget t i,0):=by
 unfold d0b;rw[if_neg (by omega),b2k h];by_cases e:tget t i=z0
 ·rw[if_pos e,e];rfl
 ·rw[if_neg e];have hx:b0f (tget t i):=(g0m h ((j1i h i).resolve_left e)).1.n.ok;show (if (mrgE z0 (tget t i)).2=0 then ((mrgE z0 (tget t i)).1,(0:Int)) else (z0,(mrgE z0 (tget t i)).2))=_;rw[d0l h0a hx (.inl rfl),j0z,if_pos rfl]
theorem a1k {t:List Slo} {w T i:Int} {cur:Cel} {ok:Prop} [Decidable ok] (hok:ok) (h:TierOk t w) (hb:T = -1∨a0t t (T / w)∧CellN cur) (hp:a0t t (T / w+1)) (h0:0≤i) :
  cellV ok i T w t (cur,0)=b0w ok i (i+1) T w t (cur,0):=by
 by_cases hn:T = -1
 ·unfold cellV b0w;rw[if_pos hok,if_neg (by omega),if_pos hn,if_pos hok,if_neg (by omega),if_neg (by omega),if_pos hn]
 obtain ⟨hb,hc⟩:=hb.resolve_left hn;by_cases hi:T / w<i
 ·rw[c2s hok h hp h0 (by omega) hi];unfold cellV;rw[if_pos hok,if_neg (by omega),if_neg hn,if_pos hi]
 unfold cellV b0w;rw[if_pos hok,if_neg (show ¬i<0 by omega),if_neg hn,if_neg hi,if_pos hok,if_neg (show ¬i<0 by omega),if_neg (show ¬i+1<i by omega),if_neg hn,if_neg hi];by_cases e:i=T / w
 ·rw[if_pos e,if_neg (show ¬i+1≤T / w by omega),if_neg (show ¬((cur,(0:Int)).2≠0) from fun k=>k rfl),d1d h hb (by omega) h0 (by omega)];simp only;rw[d0l h0a hc.ok (.inl rfl),j0z]
 ·rw[if_neg e,if_pos (show i+1≤T / w by omega),f2i h h0]
noncomputable def y1u (c:Conf) (s:Ser) (k i:Int):Cel×Int :=
 if k=0 then cellV (SerOk c s) i s.2.1 c.2.1.1 s.2.2.2.1.1 (s.2.2.2.2.2,0)
 else if k=1 then cellV (SerOk c s) i s.2.1 c.2.1.2.1 s.2.2.2.1.2.1 (now1 c s)
 else cellV (SerOk c s) i s.2.1 c.2.1.2.2 s.2.2.2.1.2.2 (now2 c s)
theorem f1l {ok:Prop} [Decidable ok] (hok:ok) {i T w:Int} {t:List Slo} {now:Cel×Int} (hn:T = -1) (h0:0≤i):cellV ok i T w t now=b0w ok i (i+1) T w t now:=by
 unfold cellV b0w;rw[if_pos hok,if_neg (by omega),if_pos hn,if_pos hok,if_neg (by omega),if_neg (by omega),if_pos hn]
theorem y1t {c:Conf} {s:Ser} (h:SerOk c s) (k:Int) {i:Int} (h0:0≤i):y1u c s k i=i0c c s k i (i+1):=by
 have he:=v0i h;obtain ⟨n0,n1,n2⟩:=nb_all h;unfold y1u i0c;split
 ·exact a1k h h.fold.t0 (he.t0.imp id fun ⟨a,b,_⟩=>⟨a,b⟩) n0 h0
 split
 ·by_cases hn:s.2.1 = -1
  ·exact f1l h hn h0
  ·obtain ⟨m,e,k1,k2,_⟩:=he.t1.resolve_left hn;rw[e];exact a1k h h.fold.t1 (.inr ⟨k1,k2⟩) n1 h0
 ·by_cases hn:s.2.1 = -1
  ·exact f1l h hn h0
  ·obtain ⟨m,e,k1,k2,_⟩:=he.t2.resolve_left hn;rw[e];exact a1k h h.fold.t2 (.inr ⟨k1,k2⟩) n2 h0
theorem g2b (n:Nat) (c:Conf) {s:Ser} (hw:SerW s) {k:Int} (h0:0≤k) (h2:k≤2) (i:Int):c0k (n+21) c s k i=some (y1u c s k i):=by
 unfold y1u;rcases (by omega:k=0∨k=1∨k=2) with e | e | e
 ·subst e;rw[if_pos rfl];exact q1k n c hw i
 ·subst e;rw[if_neg (by decide),if_pos rfl];exact q1j n c hw i
 ·subst e;rw[if_neg (by decide),if_neg (by decide)];exact q1i n c hw i
theorem g2p (n:Nat) (c:Conf) {s:Ser} (hw:SerW s) {k:Int} (h0:0≤k) (h2:k≤2) (i:Int):t0n (n+10) c s k i=some (y1u c s k i):=by
 unfold y1u;rcases (by omega:k=0∨k=1∨k=2) with e | e | e
 ·subst e;rw[if_pos rfl];exact g2s n c hw i
 ·subst e;rw[if_neg (by decide),if_pos rfl];exact g2r n c hw i
 ·subst e;rw[if_neg (by decide),if_neg (by decide)];exact g2q n c hw i
noncomputable def winC (s:Sta) (l:List Lab) (k i:Int):Cel :=
 match l0z s l with
 | some p=>(i0c s.1 ((s.2.2.2[p]?).getD ser0) k i (i+1)).1
 | none=>z0
noncomputable def winL (s:Sta) (l:List Lab) (k i:Int) (m:Nat):List Cel:=(List.range m).map fun j:Nat=>winC s l k (i+(j:Int))
theorem s0y (s:Sta) (l:List Lab) (k i:Int) (m:Nat):(winL s l k i m).length=m:=by simp[winL]
theorem w0a (s:Sta) (l:List Lab) (k i:Int) (m:Nat):winL s l k i (m+1)=winL s l k i m++[winC s l k (i+(m:Int))]:=by
 unfold winL;rw[List.range_succ,List.map_append];rfl
theorem u1p (s:Sta) (l:List Lab) (k i:Int):b0f (winC s l k i):=by
 unfold winC;split
 ·exact j1x _ _ _ _ _
 ·exact h0a
theorem f2b (s:Sta) (l:List Lab) (k i:Int) (m:Nat):∀c∈winL s l k i m,b0f c:=by
 intro c hc;unfold winL at hc;obtain ⟨j,_,rfl⟩:=List.mem_map.1 hc;exact u1p _ _ _ _
noncomputable def rngQ (s:Sta) (l:List Lab) (k i j:Int):Cel :=
 match l0z s l with
 | some p=>(i0c s.1 ((s.2.2.2[p]?).getD ser0) k i j).1
 | none=>z0
theorem j1u (s:Sta) (l:List Lab) (k a b:Int):a1m s l k a b=rngQ s l k (a / a0m s.1 k) (b / a0m s.1 k):=rfl
theorem winC_rng (s:Sta) (l:List Lab) (k i:Int):winC s l k i=rngQ s l k i (i+1):=rfl
theorem c2n {s:Sta} (hs:StaOk s) (l:List Lab) {k i m j:Int} (h0:0≤i) (h1:i<m) (h2:m<j):mrgE (rngQ s l k i m) (rngQ s l k m j)=(rngQ s l k i j,0):=by
 unfold rngQ;cases hf:l0z s l with
 | none=>exact k1t
 | some p =>
  obtain ⟨x,hx,hxl,hlv,hok⟩:=found hs hf;simp only[hx,Option.getD_some];exact q1u hok k h0 h1 h2
theorem z1c {s:Sta} (hs:StaOk s) (l:List Lab) (k:Int) {i:Int} (h0:0≤i):∀m:Nat,allE z0 (winL s l k i (m+1))=(rngQ s l k i (i+((m+1:Nat):Int)),0):=by
 intro m;induction m with
 | zero =>
  rw[w0a];show allE z0 [winC s l k (i+((0:Nat):Int))]=_;rw[show i+((0:Nat):Int)=i by omega];show (if (mrgE z0 (winC s l k i)).2=0 then ((mrgE z0 (winC s l k i)).1,(0:Int)) else (z0,(mrgE z0 (winC s l k i)).2))=_;rw[d0l h0a (u1p s l k i) (.inl rfl),j0z,if_pos rfl];rfl
 | succ m ih =>
  rw[w0a,b2h _ _ z0 (by rw[ih]),ih];simp only;show (if (mrgE (rngQ s l k i (i+((m+1:Nat):Int))) (winC s l k (i+((m+1:Nat):Int)))).2=0 then ((mrgE (rngQ s l k i (i+((m+1:Nat):Int))) (winC s l k (i+((m+1:Nat):Int)))).1,(0:Int)) else _)=_;rw[winC_rng,c2n hs l h0 (by omega) (by omega),if_pos rfl,show i+((m+1:Nat):Int)+1=i+((m+1+1:Nat):Int) by omega]
def stp:Cel→List Cel→List Wd
 | _,[]=>[]
 | c,x::r=>mkW (wv (mrg c x).2.2.2.1-wv c.2.2.2.1)::stp (mrg c x) r
def i1r (l:List Cel):List Wd×Int:=if (allE z0 l).2=0 then (stp z0 l,0) else ([],(allE z0 l).2)
theorem v1i (l:List Cel):∀c,(stp c l).length=l.length:=by
 induction l with
 | nil=>intro c;rfl
 | cons x l ih=>intro c;simp[stp,ih]
theorem m0f {c x:Cel} {r:List Cel} (h:(allE c (x::r)).2=0):b0f c∧b0f x∧Ahead c x∧mrgE c x=(mrg c x,0)∧(allE (mrg c x) r).2=0:=by
 unfold allE at h;by_cases k:(mrgE c x).2=0
 ·rw[if_pos k] at h;obtain ⟨h1,h2,h3,h4,h5⟩:=x1y k;rw[h4] at h;exact ⟨h1,h2,h3,Prod.ext h4 k,h⟩
 ·rw[if_neg k] at h;exact (k h).elim
theorem z1i {c:Cel}:mkW (wv (mrg c z0).2.2.2.1-wv c.2.2.2.1)=(0,0):=by
 rw[q0v,Int.sub_self];rfl
theorem t0e {x:Cel} (hx:CellN x):mkW (wv (mrg z0 x).2.2.2.1-wv z0.2.2.2.1)=x.2.2.2.1:=by
 rw[j0z];show mkW (wv x.2.2.2.1-wv (0,0))=_;rw[r0b,Int.sub_zero,b1f hx.w]
theorem step_next {c x:Cel} (hc:CellN c) (hx:CellN x):wv (mrg c x).2.2.2.1-wv c.2.2.2.1=(btw c.2.2.1 x.2.1).1+wv x.2.2.2.1:=by
 rw[n1j hc hx];simp only[h0s];omega
theorem step_range {c x:Cel} (hc:CellN c) (hx:CellN x) (ha:c.2.2.1.1<x.2.1.1):0≤(btw c.2.2.1 x.2.1).1∧(btw c.2.2.1 x.2.1).1≤18446744073709551615∧wv x.2.2.2.1≤18446744073709551615*35184372088832∧0≤wv x.2.2.2.1:=by
 have hd:=(u1i hc.l hx.f ha).i;have:=hx.inc;have:=hx.small;have:=c0h hx.w;omega
theorem wv_small {x:Int}:wv (0,x)=x:=wv_lo x
theorem d1k {α:Type} {pre:List α} {m:Nat} {z v:α} {i:Int} (hi:i=pre.length):(pre++List.replicate (m+1) z).set i.toNat v=(pre++[v])++List.replicate m z:=by
 subst hi;rw[List.replicate_succ];simp
theorem f1c {α:Type} {pre:List α} {m:Nat} {z:α} {i:Int} (hi:i=pre.length):(pre++List.replicate (m+1) z)[i.toNat]? = some z:=by
 subst hi;simp
theorem u1k {α:Type} {pre:List α} {m:Nat} {z:α} {i:Int} (hi:i=pre.length):at? (pre++List.replicate (m+1) z) i=some z:=by
 subst hi;simp[at?]
theorem set_two {α:Type} {pre:List α} {m:Nat} {v w z:α} {i:Int} (hi:i=pre.length):(((pre++[v])++List.replicate m z).set i.toNat w)=(pre++[w])++List.replicate m z:=by
 subst hi;simp
theorem get_two {α:Type} {pre:List α} {m:Nat} {v z:α} {i:Int} (hi:i=pre.length):((pre++[v])++List.replicate m z)[i.toNat]? = some v:=by
 subst hi;simp
theorem at_two {α:Type} {pre:List α} {m:Nat} {v z:α} {i:Int} (hi:i=pre.length):at? ((pre++[v])++List.replicate m z) i=some v:=by
 subst hi;simp[at?]
theorem t1c (n:Nat) (l:List Cel) (hL:l.length≤1000000000000):∀(rest pre:List Cel) (out:List Wd) (f:Nat) (c:Cel) (last:Option Cel) (i len:Int),l=pre++rest→i=pre.length→len=l.length→rest.length<f→out.length=pre.length→(allE c rest).2=0 →
  b0f c→(last=none∧c=z0∨∃y,last=some y∧c≠z0∧y.2.2.1=c.2.2.1) →
  e0a (n+4) f (l,out++List.replicate rest.length (0,0),last,len,i,())=some (.inl (out++stp c rest,())):=by
 intro rest;induction rest with
 | nil =>
  intro pre out f c last i len hl hi hn hf ho ha hc hlast;obtain ⟨f,rfl⟩:∃g,f=g+1:=⟨f-1,by simp at hf;omega⟩;rw[q0y,decide_eq_false (idxe hl hi hn),tff];rcases hlast with ⟨rfl,_⟩ | ⟨y,rfl,_⟩
  ·rw[z0x];simp[stp]
  ·rw[g0f,tff];simp[stp]
 | cons x rest ih =>
  intro pre out f c last i len hl hi hn hf ho ha hc hlast;obtain ⟨f,rfl⟩:∃g,f=g+1:=⟨f-1,by simp at hf;omega⟩;obtain ⟨_,hx,hah,hm,hr⟩:=m0f ha;have hcx:=q0w hc hx hah;have hio:i=out.length:=by omega
  have next:∀(last':Option Cel) (v:Wd),v=mkW (wv (mrg c x).2.2.2.1-wv c.2.2.2.1)→(last'=none∧mrg c x=z0∨∃y,last'=some y∧mrg c x≠z0∧y.2.2.1=(mrg c x).2.2.1) →
    e0a (n+4) f (l,(out++[v])++List.replicate rest.length (0,0),last',len,i+1,())=some (.inl (out++stp c (x::rest),())):=by
   intro last' v hv hl';rw[ih (pre++[x]) (out++[v]) f (mrg c x) last' (i+1) len (idxl hl) (idxs hi) hn (by simp at hf;omega) (by simp;omega) hr hcx hl',hv,List.append_assoc];rfl
  rw[q0y,decide_eq_true (idx hl hi hn),b0q hl hi,idxw hl hi hL];simp only[tft,obs,List.length_cons,tfd];by_cases hz:x.1=0
  ·have hxz:x=z0:=hx.count.1.1 hz;have key:=next last (0,0) (by rw[hxz,z1i]) (by
    rw[hxz,q0v];exact hlast)
   have e:(out++[((0:Int),(0:Int))])++List.replicate rest.length ((0:Int),(0:Int))=out++List.replicate (rest.length+1) (0,0):=by
    rw[List.append_assoc,List.singleton_append,List.replicate_succ]
   rw[e] at key;simp only[if_pos hz];rcases hlast with ⟨rfl,_⟩ | ⟨y,rfl,_⟩
   ·rw[z0x];exact key
   ·rw[g0f];exact key
  ·have hxN:CellN x:=hx.n fun e=>hz (by rw[e];rfl)
   simp only[if_neg hz];rcases hlast with ⟨rfl,hc0⟩ | ⟨y,rfl,hc0,hy⟩
   ·rw[z0x,u1k hio,obs,f1c hio,obs,d1k hio];exact next (some x) _ (by rw[hc0,t0e hxN]) (.inr ⟨x,rfl,by rw[hc0,j0z];exact hxN.ne,by rw[hc0,j0z]⟩)
   ·have hcN:=hc.n hc0;have hlt:=(hah.resolve_left hc0).resolve_left hxN.ne;obtain ⟨d1,d2,d3,d4⟩:=step_range hcN hxN hlt;rw[g0f,u1k hio,obs,f1c hio,obs,d1k hio,hy,y0s (n+1) hcN.l hxN.f,if_pos hlt,obs];have hadd:t0a (n+4) (i1z (btw c.2.2.1 x.2.1)).2.2.2.1 x.2.2.2.1=some (mkW ((btw c.2.2.1 x.2.1).1+wv x.2.2.2.1),0):=by
     show t0a (n+2+2) (0,(btw c.2.2.1 x.2.1).1) x.2.2.2.1=_;rw[z1e (n+2) (a:=(0,(btw c.2.2.1 x.2.1).1)) ⟨by simp,⟨d1,d2⟩⟩ hxN.w];unfold addW;rw[wv_small,if_pos (by omega)]
    simp only;rw[hadd,obs,at_two hio,obs,get_two hio,obs,set_two hio];exact next (some x) _ (by rw[step_next hcN hxN]) (.inr ⟨x,rfl,(i2a hcN hxN hlt).ne,by rw[n1j hcN hxN]⟩)
theorem n1v (L:Nat) (k:Nat) (hL:L*k≤140737488355328):((decide ((0:Int)≤(L:Int)))&&((decide ((L:Int)≤(L:Int)))&&(decide (((L:Int)*(k:Int))≤(140737488355328:Int)))))=true:=by
 have h1:(0:Int)≤(L:Int):=by omega
 have h2:((L:Int)*(k:Int))≤140737488355328:=by rw[←Int.natCast_mul];omega
 rw[decide_eq_true h1,decide_eq_true (Int.le_refl _),decide_eq_true h2];rfl
theorem a1c (n:Nat) (l:List Cel) (hL:l.length≤1000000) (hw:∀x∈l,CelW x):e0i (n+8) l=some (i1r l):=by
 rw[o1d,o1v n l (by omega) hw,obs,tfn,tfd];unfold i1r;by_cases h:(allE z0 l).2=0
 case neg=>rw[if_neg h,if_neg h]
 rw[if_pos h,if_pos h];have t:=n1v l.length 16 (by omega);rw[show ((16:Nat):Int)=16 from rfl] at t;rw[t,tft];have:=t1c (n+3) l (by omega) l [] [] a0b z0 none 0 _ rfl rfl rfl (by unfold a0b;omega) rfl h h0a (.inl ⟨rfl,rfl⟩);rw[List.nil_append,List.nil_append] at this;rw[Int.toNat_natCast,this,obs,a0k]
theorem k2o (x:Cel):∀(l:List Cel) (c:Cel),(allE c l).2=0→allE c (l++[x])=(if (mrgE (allE c l).1 x).2=0 then (mrgE (allE c l).1 x) else (z0,(mrgE (allE c l).1 x).2)):=by
 intro l;induction l with
 | nil =>
  intro c h;show (if (mrgE c x).2=0 then ((mrgE c x).1,0) else (z0,(mrgE c x).2))=_;show _=(if (mrgE c x).2=0 then mrgE c x else (z0,(mrgE c x).2));by_cases k:(mrgE c x).2=0
  ·rw[if_pos k,if_pos k];exact Prod.ext rfl k.symm
  ·rw[if_neg k,if_neg k]
 | cons y l ih =>
  intro c h;obtain ⟨_,_,_,hm,hr⟩:=m0f h;have e:∀r,allE c (y::r)=allE (mrg c y) r:=fun r=>by
   show (if (mrgE c y).2=0 then allE (mrgE c y).1 r else _)=_;rw[hm,if_pos rfl]
  rw[List.cons_append,e,e,ih _ hr]
theorem v1x (n:Nat) (l:List Cel) (hL:l.length≤1000000) (hw:∀x∈l,CelW x):∀(rest pre:List Cel) (out:List Wd) (f:Nat) (c:Cel) (i len:Int),l=pre++rest→i=pre.length→len=l.length→rest.length<f→out.length=pre.length→(allE c rest).2=0→allE z0 pre=(c,0) →
  m0l (n+6) f (l,out,len,i,())=some (.inl (out++stp c rest,())):=by
 intro rest;induction rest with
 | nil =>
  intro pre out f c i len hl hi hn hf ho ha hp;obtain ⟨f,rfl⟩:∃g,f=g+1:=⟨f-1,by simp at hf;omega⟩;rw[r0p,decide_eq_false (idxe hl hi hn),tff];simp[stp]
 | cons x rest ih =>
  intro pre out f c i len hl hi hn hf ho ha hp;obtain ⟨f,rfl⟩:∃g,f=g+1:=⟨f-1,by simp at hf;omega⟩;obtain ⟨hc,hx,hah,hm,hr⟩:=m0f ha;have hcx:=q0w hc hx hah;have hlen:=congrArg List.length hl;simp only[List.length_append,List.length_cons] at hlen;have hp':allE z0 (pre++[x])=(mrg c x,0):=by
   rw[k2o x pre z0 (by rw[hp]),hp];simp only;rw[hm,if_pos rfl]
  have t1:List.drop 0 (List.take i.toNat l)=pre:=by
   rw[List.drop_zero,hl,hi,Int.toNat_natCast,List.take_left]
  have t2:List.drop 0 (List.take (i+1).toNat l)=pre++[x]:=by
   rw[List.drop_zero,show (i+1).toNat=(pre++[x]).length by simp;omega,idxl hl,List.take_left]
  have hsub:∀y,y∈pre++[x]→CelW y:=fun y hy=>hw y (by rw[idxl hl];exact List.mem_append_left _ hy)
  rw[r0p,decide_eq_true (idx hl hi hn),tft,idxw hl hi (by omega),decide_eq_true (show (0:Int)≤i by omega),decide_eq_true (show i≤(l.length:Int) by omega),decide_eq_true (show (0:Int)≤i+1 by omega),decide_eq_true (show i+1≤(l.length:Int) by omega)];simp only[Bool.and_self,tft];rw[t1,m1n n pre (by omega) fun y hy=>hsub y (List.mem_append_left _ hy),obs,t2,m1n n (pre++[x]) (by simp;omega) hsub,obs,hp,hp'];simp only;have hle:wv c.2.2.2.1≤wv (mrg c x).2.2.2.1:=by
   by_cases hc0:c=z0
   ·rw[hc0];show wv (0,0)≤_;rw[r0b];have:=c0h (CelW.of (by rw[hc0] at hcx;exact hcx:b0f (mrg z0 x))).w;exact this.1
   ·by_cases hx0:x=z0
    ·rw[hx0,q0v];exact Int.le_refl _
    ·have hlt:=(hah.resolve_left hc0).resolve_left hx0;have:=step_next (hc.n hc0) (hx.n hx0);have:=step_range (hc.n hc0) (hx.n hx0) hlt;omega
  obtain ⟨A,hA,eA,vA⟩:=ofN_of (CelW.of hcx).w;obtain ⟨B,hB,eB,vB⟩:=ofN_of (CelW.of hc).w;have esub:v0o (n+6) (mrg c x).2.2.2.1 c.2.2.2.1=some (mkW (wv (mrg c x).2.2.2.1-wv c.2.2.2.1),0):=by
   rw[vA,vB] at hle ⊢;rw[eA,eB,c1n (n+3) hA (by omega),show ((A:Int)-(B:Int))=((A-B:Nat):Int) by omega,z0y]
  rw[esub,obs,decide_eq_true (show (out.length+1)*16≤140737488355328 by omega),tft,ih (pre++[x]) _ f (mrg c x) (i+1) len (idxl hl) (idxs hi) hn (by simp at hf;omega) (by simp;omega) hr hp',List.append_assoc];rfl
theorem q1v (n:Nat) (l:List Cel) (hL:l.length≤1000000) (hw:∀x∈l,CelW x):x0b (n+7) l=some (i1r l):=by
 rw[q1x,m1n n l (by omega) hw,obs,tfn,tfd];unfold i1r;by_cases h:(allE z0 l).2=0
 case neg=>rw[if_neg h,if_neg h]
 rw[if_pos h,if_pos h];have:=v1x n l hL hw l [] [] a0b z0 0 _ rfl rfl rfl (by unfold a0b;omega) rfl h rfl;rw[List.nil_append] at this;rw[this,obs,a0k]
theorem stp_w:∀(l:List Cel) (c:Cel),(allE c l).2=0→b0f c→∀w∈stp c l,WdOk w:=by
 intro l;induction l with
 | nil=>intro c _ _ w hw;simp[stp] at hw
 | cons x l ih =>
  intro c h hc w hw;obtain ⟨_,hx,hah,hm,hr⟩:=m0f h;rcases List.mem_cons.1 hw with rfl | hw
  ·by_cases hx0:x=z0
   ·rw[hx0,z1i];exact ⟨by simp,by simp⟩
   ·have hxN:=hx.n hx0;by_cases hc0:c=z0
    ·rw[hc0,t0e hxN];exact hxN.w
    ·have hlt:=(hah.resolve_left hc0).resolve_left hx0;have:=step_range (hc.n hc0) hxN hlt;rw[step_next (hc.n hc0) hxN];exact m0q (by omega) (by omega)
  ·exact ih _ hr (q0w hc hx hah) w hw
def m0g (l:List Wd) (i:Nat):Prop:=∃x,l[i]? = some x∧(∀y∈l,wv y≤wv x)∧∀j y,j<i→l[j]? = some y→wv y<wv x
theorem h2f {l:List Wd} {i j:Nat} (h:m0g l i) (k:m0g l j):i=j:=by
 obtain ⟨x,hx,h1,h2⟩:=h;obtain ⟨y,hy,k1,k2⟩:=k;rcases Nat.lt_trichotomy i j with q | q | q
 ·have:=k2 i x q hx;have:=h1 y (List.mem_of_getElem? hy);omega
 ·exact q
 ·have:=h2 j y q hy;have:=k1 x (List.mem_of_getElem? hx);omega
theorem peak_one (x:Wd):m0g [x] 0:=⟨x,rfl,fun y hy=>by simp at hy;subst hy;omega,fun j y hj=>by omega⟩
theorem h2g {pre:List Wd} {i:Nat} {x y:Wd} (h:m0g pre i) (hy:pre[i]? = some y) :
  (wv y<wv x→m0g (pre++[x]) pre.length)∧(¬wv y<wv x→m0g (pre++[x]) i):=by
 obtain ⟨z,hz,h1,h2⟩:=h;have:=Option.some.inj (hz.symm.trans hy);subst this;have hi:i<pre.length:=(List.getElem?_eq_some_iff.1 hz).1;constructor
 ·intro hlt;refine ⟨x,by simp,fun w hw => ?_,fun j w hj hw => ?_⟩
  ·rcases List.mem_append.1 hw with hw | hw
   ·have:=h1 w hw;omega
   ·simp at hw;subst hw;omega
  ·rw[List.getElem?_append_left hj] at hw;have:=h1 w (List.mem_of_getElem? hw);omega
 ·intro hge;refine ⟨z,by rw[List.getElem?_append_left hi];exact hz,fun w hw => ?_,fun j w hj hw => ?_⟩
  ·rcases List.mem_append.1 hw with hw | hw
   ·exact h1 w hw
   ·simp at hw;subst hw;omega
  ·rw[List.getElem?_append_left (by omega)] at hw;exact h2 j w hj hw
theorem y1c (n:Nat) (l:List Wd) (hL:l.length≤1000000) (hok:∀x∈l,WdOk x):∀(rest pre:List Wd) (f:Nat) (m:Nat) (i len:Int),l=pre++rest→i=pre.length→len=l.length→rest.length<f→(pre=[]∧m=0∨m0g pre m) →
  ∃m':Nat,h0p (n+1) f (l,(m:Int),l,len,i,())=some (.inl (l,(m':Int),()))∧(l=[]∧m'=0∨m0g l m'):=by
 intro rest;induction rest with
 | nil =>
  intro pre f m i len hl hi hn hf hp;obtain ⟨f,rfl⟩:∃g,f=g+1:=⟨f-1,by simp at hf;omega⟩;rw[s0t,decide_eq_false (idxe hl hi hn),tff];rw[List.append_nil] at hl;subst hl;exact ⟨m,rfl,hp⟩
 | cons x rest ih =>
  intro pre f m i len hl hi hn hf hp;obtain ⟨f,rfl⟩:∃g,f=g+1:=⟨f-1,by simp at hf;omega⟩;have hx:WdOk x:=hok x (by rw[hl];simp);rw[s0t,decide_eq_true (idx hl hi hn),tft,b0q hl hi,obs,idxw hl hi (by omega)];have next:=fun m' hp'=>ih (pre++[x]) f m' (i+1) len (idxl hl) (idxs hi) hn (by simp at hf;omega) hp'
  rcases hp with ⟨rfl,rfl⟩ | hp
  ·have h0:at? l ((0:Nat):Int)=some x:=by rw[hl];rfl
   rw[h0,obs,n0t n hx hx,obs,decide_eq_false (by omega),tff];exact next 0 (.inr (peak_one x))
  ·have hp0:=hp;obtain ⟨y,hy,_,_⟩:=hp0;have hml:m<pre.length:=(List.getElem?_eq_some_iff.1 hy).1;have hy':l[m]? = some y:=by rw[hl,List.getElem?_append_left hml];exact hy
   have hyo:WdOk y:=hok y (List.mem_of_getElem? hy');have h0:at? l (m:Int)=some y:=by unfold at?;rw[decide_eq_true (by omega)];exact hy'
   obtain ⟨p1,p2⟩:=h2g (x:=x) hp hy;rw[h0,obs,n0t n hyo hx,obs,tfd];by_cases c:wv y<wv x
   ·rw[if_pos c,hi];have:=next pre.length (.inr (p1 c));rw[hi] at this;exact this
   ·rw[if_neg c];exact next m (.inr (p2 c))
theorem s0r (n:Nat) (l:List Wd) (hL:l.length≤1000000) (hok:∀x∈l,WdOk x):l=[]∧f0v (n+2) l=some (0,false)∨∃m:Nat,m0g l m∧f0v (n+2) l=some ((m:Int),true):=by
 rw[t1g];obtain ⟨m,e,h⟩:=y1c n l hL hok l [] a0b 0 0 _ rfl rfl rfl (by unfold a0b;omega) (.inl ⟨rfl,rfl⟩);have e':h0p (n+1) a0b (l,(0:Int),l,(l.length:Int),(0:Int),())=some (.inl (l,(m:Int),())):=e;rw[e',obs,a0k];rcases h with ⟨rfl,rfl⟩ | h
 ·exact .inl ⟨rfl,rfl⟩
 ·right;refine ⟨m,h,?_⟩;obtain ⟨y,hy,_⟩:=h;have:=(List.getElem?_eq_some_iff.1 hy).1;simp only;rw[decide_eq_true (by omega)]
theorem y0q (n:Nat):f0v (n+2) []=some (0,false):=by
 rcases s0r n [] (by simp) (by simp) with ⟨_,h⟩ | ⟨m,⟨y,hy,_⟩,_⟩
 ·exact h
 ·simp at hy
theorem h2h (l:List Wd) (hL:l.length≤1000000) (hok:∀x∈l,WdOk x) (hn:l≠[]):∃m,m0g l m:=by
 rcases s0r 0 l hL hok with ⟨h,_⟩ | ⟨m,h,_⟩
 ·exact (hn h).elim
 ·exact ⟨m,h⟩
theorem t1e (n:Nat) {l:List Wd} {m:Nat} (hL:l.length≤1000000) (hok:∀x∈l,WdOk x) (h:m0g l m):f0v (n+2) l=some ((m:Int),true):=by
 rcases s0r n l hL hok with ⟨rfl,_⟩ | ⟨k,hk,e⟩
 ·obtain ⟨y,hy,_⟩:=h;simp at hy
 ·rw[e,h2f hk h]
theorem d1s (n:Nat) (l0 l:List Wd) (hL:l.length≤1000000) (hok:∀x∈l,WdOk x) (x:Wd) (hx:WdOk x) (i0:Int) (s9:List Wd) (s10 s11:Int):∀(rest pre:List Wd) (f:Nat) (ok:Bool) (i len:Int),l=pre++rest→i=pre.length→len=l.length→rest.length<f →
  l0r (n+2) f (l0,i0,x,ok,s9,s10,s11,l,len,i,())=some (.inl (l0,i0,ok&&decide (∀y∈rest,wv y≤wv x),s9,s10,s11,())):=by
 intro rest;induction rest with
 | nil =>
  intro pre f ok i len hl hi hn hf;obtain ⟨f,rfl⟩:∃g,f=g+1:=⟨f-1,by simp at hf;omega⟩;rw[u0q,decide_eq_false (idxe hl hi hn),tff];simp
 | cons y rest ih =>
  intro pre f ok i len hl hi hn hf;obtain ⟨f,rfl⟩:∃g,f=g+1:=⟨f-1,by simp at hf;omega⟩;have hy:WdOk y:=hok y (by rw[hl];simp);have next:=fun ok'=>ih (pre++[y]) f ok' (i+1) len (idxl hl) (idxs hi) hn (by simp at hf;omega)
  rw[u0q,decide_eq_true (idx hl hi hn),tft,b0q hl hi,obs,idxw hl hi (by omega)];cases ok with
  | false=>rw[tff,next false];rfl
  | true =>
   rw[tft,c1o n hx hy,obs,next];have e:(!decide (wv x<wv y)&&decide (∀z∈rest,wv z≤wv x))=(true&&decide (∀z∈y::rest,wv z≤wv x)):=by
    rw[Bool.true_and,←decide_not,←Bool.decide_and];apply decide_eq_decide.2;simp only[List.mem_cons,forall_eq_or_imp];constructor
    ·rintro ⟨h1,h2⟩;exact ⟨by omega,h2⟩
    ·rintro ⟨h1,h2⟩;exact ⟨by omega,h2⟩
   rw[e]
theorem v1y (n:Nat) {l:List Wd} {m:Nat} (hL:l.length≤1000000) (hok:∀x∈l,WdOk x) (h:m0g l m):∀(d i f:Nat),i+d=m→d<f →
  l0s (n+2) f (l,l,(l.length:Int),(i:Int),())=some (.inr ((m:Int),true)):=by
 obtain ⟨x,hx,h1,h2⟩:=h;have hm:m<l.length:=(List.getElem?_eq_some_iff.1 hx).1;intro d;induction d with
 | zero =>
  intro i f hi hf;obtain ⟨f,rfl⟩:∃g,f=g+1:=⟨f-1,by omega⟩;obtain rfl:i=m:=by omega
  have h0:at? l (i:Int)=some x:=by unfold at?;rw[decide_eq_true (by omega)];exact hx
  rw[n0n,decide_eq_true (by omega),tft,h0,obs,d1s n l l hL hok x (hok x (List.mem_of_getElem? hx)) (i:Int) l _ _ l [] a0b true 0 _ rfl rfl rfl (by unfold a0b;omega),obs,a0k];simp only[Bool.true_and];rw[decide_eq_true h1,tft]
 | succ d ih =>
  intro i f hi hf;obtain ⟨f,rfl⟩:∃g,f=g+1:=⟨f-1,by omega⟩;obtain ⟨y,hy⟩:∃y,l[i]? = some y:=⟨l[i],List.getElem?_eq_getElem (by omega)⟩;have h0:at? l (i:Int)=some y:=by unfold at?;rw[decide_eq_true (by omega)];exact hy
  have hlt:=h2 i y (by omega) hy;rw[n0n,decide_eq_true (by omega),tft,h0,obs,d1s n l l hL hok y (hok y (List.mem_of_getElem? hy)) (i:Int) l _ _ l [] a0b true 0 _ rfl rfl rfl (by unfold a0b;omega),obs,a0k];simp only[Bool.true_and];rw[decide_eq_false (fun k=>by have:=k x (List.mem_of_getElem? hx);omega),tff,w64 (by omega) (by omega),show ((i:Int)+1)=((i+1:Nat):Int) by omega];exact ih (i+1) f (by omega) (by omega)
theorem z1m (n:Nat) {l:List Wd} {m:Nat} (hL:l.length≤1000000) (hok:∀x∈l,WdOk x) (h:m0g l m):x0c (n+3) l=some ((m:Int),true):=by
 have hm:m<l.length:=by obtain ⟨x,hx,_⟩:=h;exact (List.getElem?_eq_some_iff.1 hx).1
 have:=v1y n hL hok h m 0 a0b (by omega) (by unfold a0b;omega);have e:l0s (n+2) a0b (l,l,(l.length:Int),(0:Int),())=some (.inr ((m:Int),true)):=this;rw[d1t,e,obs,f0q]
theorem a1w (n:Nat):x0c (n+3) []=some (0,false):=by
 rw[d1t,show a0b=(2^70-1)+1 from rfl,n0n];rfl
def lvl (t a:Int):Int:=if t=0 then 0 else a*9 / t
theorem e1o {t a:Int} (h0:0≤a) (h1:a≤t):0≤lvl t a∧lvl t a≤9:=by
 unfold lvl;by_cases h:t=0
 ·rw[if_pos h];omega
 ·rw[if_neg h];have ht:0<t:=by omega
  refine ⟨Int.ediv_nonneg (by omega) (by omega),?_⟩;have:a*9 / t<10:=Int.ediv_lt_of_lt_mul ht (by omega);omega
def levT (top:Wd) (l:List Wd):List Int×Int:=if wv top*9<340282366920938463463374607431768211456 then (l.map fun x=>lvl (wv top) (wv x),0) else ([],1)
def tkf (t:Int) (k j:Nat):Wd:=if j<k then mkW (t*(j:Int)) else (0,0)
def tk (t:Int) (k:Nat):Wd×Wd×Wd×Wd×Wd×Wd×Wd×Wd×Wd×Wd :=
 (tkf t k 0,tkf t k 1,tkf t k 2,tkf t k 3,tkf t k 4,tkf t k 5,tkf t k 6,tkf t k 7,tkf t k 8,tkf t k 9)
def stk:Nat→(Wd×Wd×Wd×Wd×Wd×Wd×Wd×Wd×Wd×Wd)→Wd→(Wd×Wd×Wd×Wd×Wd×Wd×Wd×Wd×Wd×Wd)
 | 0,t,v=>(v,t.2)
 | 1,t,v=>(t.1,(v,t.2.2))
 | 2,t,v=>(t.1,(t.2.1,(v,t.2.2.2)))
 | 3,t,v=>(t.1,(t.2.1,(t.2.2.1,(v,t.2.2.2.2))))
 | 4,t,v=>(t.1,(t.2.1,(t.2.2.1,(t.2.2.2.1,(v,t.2.2.2.2.2)))))
 | 5,t,v=>(t.1,(t.2.1,(t.2.2.1,(t.2.2.2.1,(t.2.2.2.2.1,(v,t.2.2.2.2.2.2))))))
 | 6,t,v=>(t.1,(t.2.1,(t.2.2.1,(t.2.2.2.1,(t.2.2.2.2.1,(t.2.2.2.2.2.1,(v,t.2.2.2.2.2.2.2)))))))
 | 7,t,v=>(t.1,(t.2.1,(t.2.2.1,(t.2.2.2.1,(t.2.2.2.2.1,(t.2.2.2.2.2.1,(t.2.2.2.2.2.2.1,(v,t.2.2.2.2.2.2.2.2))))))))
 | 8,t,v=>(t.1,(t.2.1,(t.2.2.1,(t.2.2.2.1,(t.2.2.2.2.1,(t.2.2.2.2.2.1,(t.2.2.2.2.2.2.1,(t.2.2.2.2.2.2.2.1,(v,t.2.2.2.2.2.2.2.2.2)))))))))
 | _,t,v=>(t.1,(t.2.1,(t.2.2.1,(t.2.2.2.1,(t.2.2.2.2.1,(t.2.2.2.2.2.1,(t.2.2.2.2.2.2.1,(t.2.2.2.2.2.2.2.1,(t.2.2.2.2.2.2.2.2.1,v)))))))))
theorem stk_tk (t:Int) {k:Nat} (hk:k<10):stk k (tk t k) (mkW (t*(k:Int)))=tk t (k+1):=by
 rcases (by omega:k=0∨k=1∨k=2∨k=3∨k=4∨k=5∨k=6∨k=7∨k=8∨k=9) with e | e | e | e | e | e | e | e | e | e<;>subst e<;>simp[stk,tk,tkf]
theorem a2l (n f:Nat) {l:List Wd} {m:Nat} {top:Wd} (hm:at? l (m:Int)=some top) (hok:WdOk top) (k:Nat) (hk:k<10):b0a (n+2) (f+1) (l,(m:Int),tk (wv top) k,(k:Int),()) =
  if wv top*(k:Int)<340282366920938463463374607431768211456 then b0a (n+2) f (l,(m:Int),tk (wv top) (k+1),((k+1:Nat):Int),()) else some (.inr ([],1)):=by
 rw[o0w,decide_eq_true (by omega),tft,hm,obs,wu64 (by omega) (by omega),s0z n hok (k:Int) (by omega),obs];unfold n0u;by_cases h:wv top*(k:Int)<340282366920938463463374607431768211456
 ·rw[if_pos h,if_pos h];refine Eq.trans (b:=b0a (n+2) f (l,(m:Int),stk k (tk (wv top) k) (mkW (wv top*(k:Int))),IntKind.wrap .i64 ((k:Int)+1),())) ?_ (by rw[stk_tk _ hk,w64 (by omega) (by omega)];rfl);simp only[decide_true,Bool.not_true,tff];rcases (by omega:k=0∨k=1∨k=2∨k=3∨k=4∨k=5∨k=6∨k=7∨k=8∨k=9) with e | e | e | e | e | e | e | e | e | e<;>subst e
  ·rw[decide_eq_true (show (((0:Nat):Int)=(0:Int)) from rfl),tft];rfl
  ·rw[decide_eq_false (show ¬(((1:Nat):Int)=(0:Int)) by decide),tff,decide_eq_true (show (((1:Nat):Int)=(1:Int)) from rfl),tft];rfl
  ·rw[decide_eq_false (show ¬(((2:Nat):Int)=(0:Int)) by decide),tff,decide_eq_false (show ¬(((2:Nat):Int)=(1:Int)) by decide),tff,decide_eq_true (show (((2:Nat):Int)=(2:Int)) from rfl),tft];rfl
  ·rw[decide_eq_false (show ¬(((3:Nat):Int)=(0:Int)) by decide),tff,decide_eq_false (show ¬(((3:Nat):Int)=(1:Int)) by decide),tff,decide_eq_false (show ¬(((3:Nat):Int)=(2:Int)) by decide),tff,decide_eq_true (show (((3:Nat):Int)=(3:Int)) from rfl),tft];rfl
  ·rw[decide_eq_false (show ¬(((4:Nat):Int)=(0:Int)) by decide),tff,decide_eq_false (show ¬(((4:Nat):Int)=(1:Int)) by decide),tff,decide_eq_false (show ¬(((4:Nat):Int)=(2:Int)) by decide),tff,decide_eq_false (show ¬(((4:Nat):Int)=(3:Int)) by decide),tff,decide_eq_true (show (((4:Nat):Int)=(4:Int)) from rfl),tft];rfl
  ·rw[decide_eq_false (show ¬(((5:Nat):Int)=(0:Int)) by decide),tff,decide_eq_false (show ¬(((5:Nat):Int)=(1:Int)) by decide),tff,decide_eq_false (show ¬(((5:Nat):Int)=(2:Int)) by decide),tff,decide_eq_false (show ¬(((5:Nat):Int)=(3:Int)) by decide),tff,decide_eq_false (show ¬(((5:Nat):Int)=(4:Int)) by decide),tff,decide_eq_true (show (((5:Nat):Int)=(5:Int)) from rfl),tft];rfl
  ·rw[decide_eq_false (show ¬(((6:Nat):Int)=(0:Int)) by decide),tff,decide_eq_false (show ¬(((6:Nat):Int)=(1:Int)) by decide),tff,decide_eq_false (show ¬(((6:Nat):Int)=(2:Int)) by decide),tff,decide_eq_false (show ¬(((6:Nat):Int)=(3:Int)) by decide),tff,decide_eq_false (show ¬(((6:Nat):Int)=(4:Int)) by decide),tff,decide_eq_false (show ¬(((6:Nat):Int)=(5:Int)) by decide),tff,decide_eq_true (show (((6:Nat):Int)=(6:Int)) from rfl),tft];rfl
  ·rw[decide_eq_false (show ¬(((7:Nat):Int)=(0:Int)) by decide),tff,decide_eq_false (show ¬(((7:Nat):Int)=(1:Int)) by decide),tff,decide_eq_false (show ¬(((7:Nat):Int)=(2:Int)) by decide),tff,decide_eq_false (show ¬(((7:Nat):Int)=(3:Int)) by decide),tff,decide_eq_false (show ¬(((7:Nat):Int)=(4:Int)) by decide),tff,decide_eq_false (show ¬(((7:Nat):Int)=(5:Int)) by decide),tff,decide_eq_false (show ¬(((7:Nat):Int)=(6:Int)) by decide),tff,decide_eq_true (show (((7:Nat):Int)=(7:Int)) from rfl),tft];rfl
  ·rw[decide_eq_false (show ¬(((8:Nat):Int)=(0:Int)) by decide),tff,decide_eq_false (show ¬(((8:Nat):Int)=(1:Int)) by decide),tff,decide_eq_false (show ¬(((8:Nat):Int)=(2:Int)) by decide),tff,decide_eq_false (show ¬(((8:Nat):Int)=(3:Int)) by decide),tff,decide_eq_false (show ¬(((8:Nat):Int)=(4:Int)) by decide),tff,decide_eq_false (show ¬(((8:Nat):Int)=(5:Int)) by decide),tff,decide_eq_false (show ¬(((8:Nat):Int)=(6:Int)) by decide),tff,decide_eq_false (show ¬(((8:Nat):Int)=(7:Int)) by decide),tff,decide_eq_true (show (((8:Nat):Int)=(8:Int)) from rfl),tft];rfl
  ·rw[decide_eq_false (show ¬(((9:Nat):Int)=(0:Int)) by decide),tff,decide_eq_false (show ¬(((9:Nat):Int)=(1:Int)) by decide),tff,decide_eq_false (show ¬(((9:Nat):Int)=(2:Int)) by decide),tff,decide_eq_false (show ¬(((9:Nat):Int)=(3:Int)) by decide),tff,decide_eq_false (show ¬(((9:Nat):Int)=(4:Int)) by decide),tff,decide_eq_false (show ¬(((9:Nat):Int)=(5:Int)) by decide),tff,decide_eq_false (show ¬(((9:Nat):Int)=(6:Int)) by decide),tff,decide_eq_false (show ¬(((9:Nat):Int)=(7:Int)) by decide),tff,decide_eq_false (show ¬(((9:Nat):Int)=(8:Int)) by decide),tff,decide_eq_true (show (((9:Nat):Int)=(9:Int)) from rfl),tft];rfl
 ·rw[if_neg h,if_neg h];rcases (by omega:k=0∨k=1∨k=2∨k=3∨k=4∨k=5∨k=6∨k=7∨k=8∨k=9) with e | e | e | e | e | e | e | e | e | e<;>subst e<;>rfl
theorem lev_l6 (n:Nat) {l:List Wd} {m:Nat} {top:Wd} (hm:at? l (m:Int)=some top) (hok:WdOk top):∀(d k f:Nat),k+d=9→d+1<f →
  b0a (n+2) f (l,(m:Int),tk (wv top) k,(k:Int),())=some (if wv top*9<340282366920938463463374607431768211456 then .inl (l,(m:Int),tk (wv top) 10,()) else .inr ([],1)):=by
 have hr:=c0h hok;intro d;induction d with
 | zero =>
  intro k f hk hf;obtain ⟨f,rfl⟩:∃g,f=g+1:=⟨f-1,by omega⟩;obtain rfl:k=9:=by omega
  rw[a2l n f hm hok 9 (by omega)];by_cases h:wv top*9<340282366920938463463374607431768211456
  ·obtain ⟨f,rfl⟩:∃g,f=g+1:=⟨f-1,by omega⟩;rw[if_pos (show wv top*((9:Nat):Int)<_ from h),if_pos h,o0w,decide_eq_false (by omega),tff]
  ·rw[if_neg (show ¬wv top*((9:Nat):Int)<_ from h),if_neg h]
 | succ d ih =>
  intro k f hk hf;obtain ⟨f,rfl⟩:∃g,f=g+1:=⟨f-1,by omega⟩;rw[a2l n f hm hok k (by omega)];by_cases h:wv top*(k:Int)<340282366920938463463374607431768211456
  ·rw[if_pos h,ih (k+1) f (by omega) (by omega)]
  ·rw[if_neg h,if_neg];have:wv top*(k:Int)≤wv top*9:=Int.mul_le_mul_of_nonneg_left (by omega) hr.1;omega
theorem tkf10 (t:Int) {j:Nat} (h:j<10):tkf t 10 j=mkW (t*(j:Int)):=if_pos h
theorem k1h (n f:Nat) {t a:Int} (ht:0≤t) (h9:t*9<340282366920938463463374607431768211456) (ha:0≤a∧a<340282366920938463463374607431768211456) (k:Nat) (hk:k<9) :
  b0j (n+1) (f+1) (tk t 10,mkW a,(k:Int),())=if a<t*((k+1:Nat):Int) then some (.inl ((k:Int),())) else b0j (n+1) f (tk t 10,mkW a,((k+1:Nat):Int),()):=by
 have hl:∀j:Nat,j<10→b0z (n+1) (mkW a) (tkf t 10 j)=some (decide (a<t*(j:Int))):=by
  intro j hj;have h1:t*(j:Int)≤t*9:=Int.mul_le_mul_of_nonneg_left (by omega) ht;have h2:0≤t*(j:Int):=Int.mul_nonneg ht (by omega);rw[tkf10 t hj,n0t n (m0q ha.1 ha.2) (m0q h2 (by omega)),h0s,h0s]
 have hj:=hl (k+1) (by omega);rw[q0x,decide_eq_true (by omega),tft];have key:∀(X Y:Option ((Int×Unit) ⊕ Int)),(a0a (b0z (n+1) (mkW a) (tkf t 10 (k+1))) fun r=>tif (!r) X Y)=if a<t*((k+1:Nat):Int) then Y else X:=by
  intro X Y;rw[hj,obs,tfn,tfd]
 rw[←key,show IntKind.wrap .i64 ((k:Int)+1)=((k+1:Nat):Int) from w64 (by omega) (by omega)];rcases (by omega:k=0∨k=1∨k=2∨k=3∨k=4∨k=5∨k=6∨k=7∨k=8) with e | e | e | e | e | e | e | e | e<;>subst e
 ·rw[decide_eq_false (show ¬(((0+1:Nat):Int)=(0:Int)) by decide),tff,decide_eq_true (show (((0+1:Nat):Int)=(1:Int)) from rfl),tft];rfl
 ·rw[decide_eq_false (show ¬(((1+1:Nat):Int)=(0:Int)) by decide),tff,decide_eq_false (show ¬(((1+1:Nat):Int)=(1:Int)) by decide),tff,decide_eq_true (show (((1+1:Nat):Int)=(2:Int)) from rfl),tft];rfl
 ·rw[decide_eq_false (show ¬(((2+1:Nat):Int)=(0:Int)) by decide),tff,decide_eq_false (show ¬(((2+1:Nat):Int)=(1:Int)) by decide),tff,decide_eq_false (show ¬(((2+1:Nat):Int)=(2:Int)) by decide),tff,decide_eq_true (show (((2+1:Nat):Int)=(3:Int)) from rfl),tft];rfl
 ·rw[decide_eq_false (show ¬(((3+1:Nat):Int)=(0:Int)) by decide),tff,decide_eq_false (show ¬(((3+1:Nat):Int)=(1:Int)) by decide),tff,decide_eq_false (show ¬(((3+1:Nat):Int)=(2:Int)) by decide),tff,decide_eq_false (show ¬(((3+1:Nat):Int)=(3:Int)) by decide),tff,decide_eq_true (show (((3+1:Nat):Int)=(4:Int)) from rfl),tft];rfl
 ·rw[decide_eq_false (show ¬(((4+1:Nat):Int)=(0:Int)) by decide),tff,decide_eq_false (show ¬(((4+1:Nat):Int)=(1:Int)) by decide),tff,decide_eq_false (show ¬(((4+1:Nat):Int)=(2:Int)) by decide),tff,decide_eq_false (show ¬(((4+1:Nat):Int)=(3:Int)) by decide),tff,decide_eq_false (show ¬(((4+1:Nat):Int)=(4:Int)) by decide),tff,decide_eq_true (show (((4+1:Nat):Int)=(5:Int)) from rfl),tft];rfl
 ·rw[decide_eq_false (show ¬(((5+1:Nat):Int)=(0:Int)) by decide),tff,decide_eq_false (show ¬(((5+1:Nat):Int)=(1:Int)) by decide),tff,decide_eq_false (show ¬(((5+1:Nat):Int)=(2:Int)) by decide),tff,decide_eq_false (show ¬(((5+1:Nat):Int)=(3:Int)) by decide),tff,decide_eq_false (show ¬(((5+1:Nat):Int)=(4:Int)) by decide),tff,decide_eq_false (show ¬(((5+1:Nat):Int)=(5:Int)) by decide),tff,decide_eq_true (show (((5+1:Nat):Int)=(6:Int)) from rfl),tft];rfl
 ·rw[decide_eq_false (show ¬(((6+1:Nat):Int)=(0:Int)) by decide),tff,decide_eq_false (show ¬(((6+1:Nat):Int)=(1:Int)) by decide),tff,decide_eq_false (show ¬(((6+1:Nat):Int)=(2:Int)) by decide),tff,decide_eq_false (show ¬(((6+1:Nat):Int)=(3:Int)) by decide),tff,decide_eq_false (show ¬(((6+1:Nat):Int)=(4:Int)) by decide),tff,decide_eq_false (show ¬(((6+1:Nat):Int)=(5:Int)) by decide),tff,decide_eq_false (show ¬(((6+1:Nat):Int)=(6:Int)) by decide),tff,decide_eq_true (show (((6+1:Nat):Int)=(7:Int)) from rfl),tft];rfl
 ·rw[decide_eq_false (show ¬(((7+1:Nat):Int)=(0:Int)) by decide),tff,decide_eq_false (show ¬(((7+1:Nat):Int)=(1:Int)) by decide),tff,decide_eq_false (show ¬(((7+1:Nat):Int)=(2:Int)) by decide),tff,decide_eq_false (show ¬(((7+1:Nat):Int)=(3:Int)) by decide),tff,decide_eq_false (show ¬(((7+1:Nat):Int)=(4:Int)) by decide),tff,decide_eq_false (show ¬(((7+1:Nat):Int)=(5:Int)) by decide),tff,decide_eq_false (show ¬(((7+1:Nat):Int)=(6:Int)) by decide),tff,decide_eq_false (show ¬(((7+1:Nat):Int)=(7:Int)) by decide),tff,decide_eq_true (show (((7+1:Nat):Int)=(8:Int)) from rfl),tft];rfl
 ·rw[decide_eq_false (show ¬(((8+1:Nat):Int)=(0:Int)) by decide),tff,decide_eq_false (show ¬(((8+1:Nat):Int)=(1:Int)) by decide),tff,decide_eq_false (show ¬(((8+1:Nat):Int)=(2:Int)) by decide),tff,decide_eq_false (show ¬(((8+1:Nat):Int)=(3:Int)) by decide),tff,decide_eq_false (show ¬(((8+1:Nat):Int)=(4:Int)) by decide),tff,decide_eq_false (show ¬(((8+1:Nat):Int)=(5:Int)) by decide),tff,decide_eq_false (show ¬(((8+1:Nat):Int)=(6:Int)) by decide),tff,decide_eq_false (show ¬(((8+1:Nat):Int)=(7:Int)) by decide),tff,decide_eq_false (show ¬(((8+1:Nat):Int)=(8:Int)) by decide),tff,decide_eq_true (show (((8+1:Nat):Int)=(9:Int)) from rfl),tft];rfl
theorem level_l3 (n:Nat) {t a q:Int} (ht:0<t) (h9:t*9<340282366920938463463374607431768211456) (ha:0≤a∧a<340282366920938463463374607431768211456) (hq:q=a / t) (hq9:q≤9):∀(d k f:Nat),(k:Int)+d=q→d<f →
  b0j (n+1) f (tk t 10,mkW a,(k:Int),())=some (.inl (q,())):=by
 have hle:∀j:Int,j≤q↔t*j≤a:=fun j=>by rw[hq,Int.le_ediv_iff_mul_le ht,Int.mul_comm]
 intro d;induction d with
 | zero =>
  intro k f hk hf;obtain ⟨f,rfl⟩:∃g,f=g+1:=⟨f-1,by omega⟩;by_cases h:k<9
  ·rw[k1h n f (by omega) h9 ha k h,if_pos]
   ·congr 3<;>omega
   ·have:=hle ((k+1:Nat):Int);omega
  ·rw[q0x,decide_eq_false (by omega),tff];congr 3<;>omega
 | succ d ih =>
  intro k f hk hf;obtain ⟨f,rfl⟩:∃g,f=g+1:=⟨f-1,by omega⟩;rw[k1h n f (by omega) h9 ha k (by omega),if_neg]
  ·exact ih (k+1) f (by omega) (by omega)
  ·have:=(hle ((k+1:Nat):Int)).1 (by omega);omega
theorem i1s (n:Nat) {t:Int} {x:Wd} (hx:WdOk x) (ht:0<t) (h9:t*9<340282366920938463463374607431768211456) (hle:wv x≤t):a1d (n+3) x (tk t 10)=some (lvl t (wv x)):=by
 have hr:=c0h hx;have hl:=e1o hr.1 hle;rw[o1c,s0z n hx 9 (by omega),obs];unfold n0u;rw[if_pos (by omega)];have e:lvl t (wv x)=wv x*9 / t:=by unfold lvl;rw[if_neg (by omega)]
 have:=level_l3 (n+1) ht h9 (a:=wv x*9) (by omega) e hl.2 (lvl t (wv x)).toNat 0 a0b (by omega) (by unfold a0b;omega);have e2:b0j (n+2) a0b (tk t 10,mkW (wv x*9),(0:Int),())=some (.inl (lvl t (wv x),())):=this;simp only;rw[e2,obs,a0k]
theorem lev_l17 (n:Nat) {t:Int} (ht:0<t) (h9:t*9<340282366920938463463374607431768211456) (l:List Wd) (hL:l.length≤1000000) (hok:∀x∈l,WdOk x∧wv x≤t):∀(rest pre:List Wd) (out:List Int) (f:Nat) (i len:Int),l=pre++rest→i=pre.length→len=l.length→rest.length<f→out.length=pre.length →
  i0m (n+3) f (tk t 10,out++List.replicate rest.length (0:Int),l,len,i,())=some (.inl (out++rest.map fun x=>lvl t (wv x),())):=by
 intro rest;induction rest with
 | nil =>
  intro pre out f i len hl hi hn hf ho;obtain ⟨f,rfl⟩:∃g,f=g+1:=⟨f-1,by simp at hf;omega⟩;rw[m0t,decide_eq_false (idxe hl hi hn),tff];simp
 | cons x rest ih =>
  intro pre out f i len hl hi hn hf ho;obtain ⟨f,rfl⟩:∃g,f=g+1:=⟨f-1,by simp at hf;omega⟩;have hio:i=out.length:=by omega
  have hx:=hok x (by rw[hl];simp);rw[m0t,decide_eq_true (idx hl hi hn),tft,b0q hl hi,obs,i1s n hx.1 ht h9 hx.2,obs,List.length_cons,u1k hio,obs,f1c hio,obs,d1k hio,idxw hl hi (by omega),ih (pre++[x]) (out++[_]) f (i+1) len (idxl hl) (idxs hi) hn (by simp at hf;omega) (by simp;omega),List.append_assoc];rfl
theorem z0b {top:Wd} (h:WdOk top):((decide (top.1=(0:Int)))&&(decide (top.2=(0:Int))))=decide (wv top=0):=by
 obtain ⟨h1,h2⟩:=h;rw[←Bool.decide_and];apply decide_eq_decide.2;unfold wv;constructor
 ·rintro ⟨a,b⟩;rw[a,b];rfl
 ·intro e;constructor<;>omega
theorem f1b (n:Nat) {l:List Wd} {m:Nat} {top:Wd} (hL:l.length≤1000000) (hok:∀x∈l,WdOk x) (h:m0g l m) (hm:l[m]? = some top):d0o (n+5) l=some (levT top l):=by
 have hat:at? l (m:Int)=some top:=by unfold at?;rw[decide_eq_true (by omega)];exact hm
 have hto:WdOk top:=hok top (List.mem_of_getElem? hm);have hr:=c0h hto;obtain ⟨z,hz,hmax,_⟩:=h;have:=Option.some.inj (hz.symm.trans hm);subst this;rw[v0a,t1e (n+2) hL hok ⟨z,hz,hmax,by assumption⟩,obs,Bool.not_true,tff];have e:b0a (n+4) a0b (l,(m:Int),tk (wv z) 0,(0:Int),())=_:=lev_l6 (n+2) hat hto 9 0 a0b (by omega) (by unfold a0b;omega)
 change a0a (b0a (n+4) a0b (l,(m:Int),tk (wv z) 0,(0:Int),())) _=_
 rw[e,obs];unfold levT;by_cases h9:wv z*9<340282366920938463463374607431768211456
 case neg=>rw[if_neg h9,if_neg h9,f0q]
 rw[if_pos h9,if_pos h9,a0k];have t:=n1v l.length 8 (by omega);rw[show ((8:Nat):Int)=8 from rfl] at t;simp only;rw[t,tft,hat,obs,z0c,obs];simp only;rw[z0b hto,tfd,Int.toNat_natCast];by_cases h0:wv z=0
 ·rw[if_pos h0];have e3:(l.map fun x=>lvl (wv z) (wv x))=List.replicate l.length 0:=by
   refine List.eq_replicate_iff.2 ⟨by simp,fun b hb => ?_⟩;obtain ⟨x,_,rfl⟩:=List.mem_map.1 hb;unfold lvl;rw[if_pos h0]
  rw[e3]
 ·rw[if_neg h0];have:=lev_l17 (n+1) (t:=wv z) (by omega) h9 l hL (fun x hx=>⟨hok x hx,hmax x hx⟩) l [] [] a0b 0 _ rfl rfl rfl (by unfold a0b;omega) rfl;rw[List.nil_append,List.nil_append] at this;rw[this,obs,a0k]
theorem s0s (n:Nat):d0o (n+5) []=some ([],0):=by
 rw[v0a,y0q (n+2)];rfl
theorem v1z (n:Nat) {top:Wd} (hto:WdOk top) (h9:wv top*9<340282366920938463463374607431768211456) (ht:0<wv top) {a:Int} (ha:0≤a∧a<340282366920938463463374607431768211456) {q:Int} (hq:q=a / wv top) (hq9:q≤9) (out:List Int) (s37:List Wd) (s38 s39:Int):∀(d k f:Nat),k+d=10→d<f →
  1≤k→e0e (n+3) f (top,out,mkW a,(if (k:Int)-1≤q then (k:Int)-1 else q),(k:Int),s37,s38,s39,())=some (.inl (top,out,q,s37,s38,s39,())):=by
 have hle:∀j:Int,j≤q↔wv top*j≤a:=fun j=>by rw[hq,Int.le_ediv_iff_mul_le ht,Int.mul_comm]
 have hq0:0≤q:=(hle 0).2 (by omega);intro d;induction d with
 | zero =>
  intro k f hk hf h1;obtain ⟨f,rfl⟩:∃g,f=g+1:=⟨f-1,by omega⟩;rw[i0y,decide_eq_false (by omega),tff];congr 5;split<;>omega
 | succ d ih =>
  intro k f hk hf h1;obtain ⟨f,rfl⟩:∃g,f=g+1:=⟨f-1,by omega⟩;have hk9:wv top*(k:Int)≤wv top*9:=Int.mul_le_mul_of_nonneg_left (by omega) (by omega);have hk0:0≤wv top*(k:Int):=Int.mul_nonneg (by omega) (by omega);rw[i0y,decide_eq_true (by omega),tft,z0b hto,decide_eq_false (by omega),Bool.not_false,tft,s0h n hto (k:Int) (by omega),obs];unfold n0u;rw[if_pos (by omega)];simp only;rw[c1o (n+1) (m0q ha.1 ha.2) (m0q hk0 (by omega)),obs,h0s,h0s,tfn,tfd,wu64 (x:=(k:Int)+1) (by omega) (by omega),w64 (by omega) (by omega)]
  have next:=ih (k+1) f (by omega) (by omega) (by omega);rw[show ((k+1:Nat):Int)-1=(k:Int) by omega,show ((k+1:Nat):Int)=(k:Int)+1 by omega] at next;by_cases c:a<wv top*(k:Int)
  ·have hlt:¬((k:Int)≤q):=fun h=>by have:=(hle k).1 h;omega
   rw[if_neg hlt] at next;rw[if_pos c];have e:(if (k:Int)-1≤q then (k:Int)-1 else q)=q:=by split<;>omega
   rw[e];exact next
  ·have hlt:(k:Int)≤q:=(hle k).2 (by omega);rw[if_pos hlt] at next;rw[if_neg c];exact next
theorem m1d (n f:Nat) {top:Wd} (hto:WdOk top) (ht:wv top=0) (nine:Wd) (out:List Int) (s37:List Wd) (s38 s39:Int) :
  e0e (n+3) (f+1) (top,out,nine,(0:Int),(1:Int),s37,s38,s39,())=some (.inl (top,out,0,s37,s38,s39,())):=by
 rw[i0y,decide_eq_true (by omega),tft,z0b hto,decide_eq_true ht,Bool.not_true,tff]
theorem w1a (n:Nat) {top:Wd} (hto:WdOk top) (h9:wv top*9<340282366920938463463374607431768211456) (l:List Wd) (hL:l.length≤1000000) (hok:∀x∈l,WdOk x∧wv x≤wv top):∀(rest pre:List Wd) (out:List Int) (f:Nat) (i len:Int),l=pre++rest→i=pre.length→len=l.length→rest.length<f→out.length=pre.length →
  j0f (n+3) f (top,out,l,len,i,())=some (.inl (out++rest.map fun x=>lvl (wv top) (wv x),())):=by
 have hr:=c0h hto;intro rest;induction rest with
 | nil =>
  intro pre out f i len hl hi hn hf ho;obtain ⟨f,rfl⟩:∃g,f=g+1:=⟨f-1,by simp at hf;omega⟩;rw[o0e,decide_eq_false (idxe hl hi hn),tff];simp
 | cons x rest ih =>
  intro pre out f i len hl hi hn hf ho;obtain ⟨f,rfl⟩:∃g,f=g+1:=⟨f-1,by simp at hf;omega⟩;obtain ⟨hx,hxt⟩:=hok x (by rw[hl];simp);have hxr:=c0h hx;have hlv:=e1o hxr.1 hxt;have hlen:=congrArg List.length hl;simp only[List.length_append,List.length_cons] at hlen;have inner:e0e (n+3) a0b (top,out,mkW (wv x*9),(0:Int),(1:Int),l,len,i,())=some (.inl (top,out,lvl (wv top) (wv x),l,len,i,())):=by
   by_cases h0:wv top=0
   ·rw[show a0b=(2^70-1)+1 from rfl,m1d n _ hto h0];unfold lvl;rw[if_pos h0]
   ·have e:lvl (wv top) (wv x)=wv x*9 / wv top:=by unfold lvl;rw[if_neg h0]
    have:=v1z n hto h9 (by omega) (a:=wv x*9) (by omega) e hlv.2 out l len i 9 1 a0b (by omega) (by unfold a0b;omega) (Nat.le_refl _);rw[show ((1:Nat):Int)=1 from rfl,show (1:Int)-1=0 from rfl,if_pos hlv.1] at this;exact this
  rw[o0e,decide_eq_true (idx hl hi hn),tft,b0q hl hi,obs,s0h n hx 9 (by omega),obs];unfold n0u;rw[if_pos (by omega)];simp only;rw[inner,obs,a0k];simp only;rw[decide_eq_true (by omega),tft,idxw hl hi (by omega),ih (pre++[x]) _ f (i+1) len (idxl hl) (idxs hi) hn (by simp at hf;omega) (by simp;omega),List.append_assoc];rfl
theorem j1y (n:Nat) {l:List Wd} {m:Nat} {top:Wd} (hL:l.length≤1000000) (hok:∀x∈l,WdOk x) (h:m0g l m) (hm:l[m]? = some top):k0u (n+4) l=some (levT top l):=by
 have hat:at? l (m:Int)=some top:=by unfold at?;rw[decide_eq_true (by omega)];exact hm
 have hto:WdOk top:=hok top (List.mem_of_getElem? hm);have hmax:∀y∈l,wv y≤wv top:=by
  obtain ⟨z,hz,hmax,_⟩:=h;have:=Option.some.inj (hz.symm.trans hm);subst this;exact hmax
 rw[x0d,z1m n hL hok h,obs,Bool.not_true,tff,hat,obs,s0h n hto 9 (by omega),obs];unfold n0u levT;by_cases h9:wv top*9<340282366920938463463374607431768211456
 case neg=>rw[if_neg h9,if_neg h9];rfl
 rw[if_pos h9,if_pos h9];simp only[decide_true,Bool.not_true,tff];have:=w1a n hto h9 l hL (fun x hx=>⟨hok x hx,hmax x hx⟩) l [] [] a0b 0 _ rfl rfl rfl (by unfold a0b;omega) rfl;rw[List.nil_append] at this;rw[this,obs,a0k]
theorem u0p (n:Nat):k0u (n+4) []=some ([],0):=by
 rw[x0d,a1w n];rfl
end Go.Proofs.YtgkpkajaepphjaaGreatDoor
