/-
 Plain proofs about the functions of this seat, part 3 of 4.
-/
import Derived.Test.YtgkpkajaepphjaaGreatDoorQ2
import Derived.Test.YtgkpkajaepphjaaGreatDoorTr
namespace Go.Plim
set_option linter.unusedVariables false
def ofN (x:Nat):Wd:=(((x / 18446744073709551616:Nat):Int),((x % 18446744073709551616:Nat):Int))
theorem y0f (x:Nat):mkW (x:Int)=ofN x:=by
 unfold mkW ofN;rw[Prod.mk.injEq];constructor<;>omega
theorem ofN_of {a:Wd} (h:WdOk a):∃x:Nat,x<340282366920938463463374607431768211456∧a=ofN x∧wv a=x:=by
 obtain ⟨h1,h2⟩:=d0p h;obtain ⟨x,hx⟩:=Int.eq_ofNat_of_zero_le h1;exact ⟨x,by omega,by rw[←l1b h,hx,y0f],hx⟩
theorem j1y (x:Nat):wv (ofN x)=x:=by rw[←y0f,m0y]
theorem z0k {x:Nat} (h:x<340282366920938463463374607431768211456):WdOk (ofN x):=by rw[←y0f];exact r0l (by omega) (by omega)
theorem y1x (x:Nat):(decide ((ofN x).1=(0:Int))&&decide ((ofN x).2=(0:Int)))=decide (x=0):=by
 rw[←Bool.decide_and];apply decide_eq_decide.2;unfold ofN;simp only;omega
def od (x:Nat):Nat:=x / 2^tz 128 x
theorem m0u {x:Nat} (h0:0<x) (h1:x<340282366920938463463374607431768211456):tz 128 x<128∧x=2^tz 128 x*od x∧od x % 2=1 :=
 t0t 128 x h0 h1
theorem g2r {x:Nat} (h0:0<x) (h1:x<340282366920938463463374607431768211456):0<od x:=by
 have:=(m0u h0 h1).2.2;rcases Nat.eq_zero_or_pos (od x) with q | q
 ·rw[q] at this;cases this
 ·exact q
theorem od_le (x:Nat):od x≤x:=Nat.div_le_self _ _
theorem od_even {x:Nat} (h0:0<x) (h1:x<340282366920938463463374607431768211456) (he:x % 2=0):2*od x≤x:=by
 obtain ⟨_,a2,a3⟩:=m0u h0 h1;have ht:1≤tz 128 x:=by
  rcases Nat.eq_zero_or_pos (tz 128 x) with q | q
  ·rw[q] at a2;simp at a2;omega
  ·exact q
 have:2^1≤2^tz 128 x:=Nat.pow_le_pow_right (by decide) ht;have:=Nat.mul_le_mul_right (od x) this;omega
theorem h2y {a x:Nat} (ha:a % 2=1) (h0:0<x) (h1:x<340282366920938463463374607431768211456):Nat.gcd a (od x)=Nat.gcd a x:=by
 obtain ⟨_,a2,_⟩:=m0u h0 h1;have:=x1i (b:=od x) ha (tz 128 x);rw[←a2] at this;exact this.symm
theorem h2v {x y:Nat} (hx:0<x) (hx':x<340282366920938463463374607431768211456) (hy:0<y) (hy':y<340282366920938463463374607431768211456) :
  Nat.gcd x y=Nat.gcd (od x) y*2^(min (tz 128 x) (tz 128 y)):=by
 obtain ⟨_,a2,a3⟩:=m0u hx hx';obtain ⟨_,b2,b3⟩:=m0u hy hy';rw[h2w a2 b2 a3 b3,h2y a3 hy hy',Nat.mul_comm]
theorem or_pow {q k:Nat} (h:2^(k+1) ∣ q):q ||| 2^k=q+2^k:=by
 obtain ⟨m,rfl⟩:=h;exact (Nat.two_pow_add_eq_or_of_lt (i:=k+1) (b:=2^k) (by rw[Nat.pow_succ];have:=Nat.two_pow_pos k;omega) m).symm
theorem div_part {a d k q:Nat} (hd:0<d) (h:d*2^k≤a):q+2^k+(a-d*2^k) / d=q+a / d:=by
 have e:a=(a-d*2^k)+d*2^k:=by omega
 have:a / d=(a-d*2^k) / d+2^k:=by
  conv=>lhs;rw[e]
  rw[Nat.add_mul_div_left _ _ hd]
 omega
theorem half_up {x k:Nat} (hk:k<64) (h:x*2^k<340282366920938463463374607431768211456) :
  x / 18446744073709551616*2^k+x % 18446744073709551616 / 2^(64-k)=x*2^k / 18446744073709551616∧x % 18446744073709551616 / 2^(64-k)<2^k ∧
  x % 18446744073709551616*2^k % 18446744073709551616=x*2^k % 18446744073709551616:=by
 have e:18446744073709551616=2^(64-k)*2^k:=by rw[←Nat.pow_add,show 64-k+k=64 by omega]
 have hp:=Nat.two_pow_pos k;have hq:=Nat.two_pow_pos (64-k);have h0:=Nat.div_add_mod x 18446744073709551616;have h1:=Nat.mod_lt x (show 0<18446744073709551616 by decide);generalize x / 18446744073709551616=H at *
 generalize x % 18446744073709551616=L at *
 subst h0;have e1:(18446744073709551616*H+L)*2^k=L*2^k+18446744073709551616*(H*2^k):=by rw[Nat.add_mul,Nat.mul_assoc];omega
 have e2:L*2^k / 18446744073709551616=L / 2^(64-k):=by
  conv=>lhs;rw[e]
  exact Nat.mul_div_mul_right _ _ hp
 refine ⟨?_,?_,?_⟩
 ·rw[e1,Nat.add_mul_div_left _ _ (by decide),e2];omega
 ·exact Nat.div_lt_of_lt_mul (by rw[←e];exact h1)
 ·rw[e1,Nat.add_mul_mod_self_left]
theorem h2s {x k:Nat} (hk:k<64) (h:x<340282366920938463463374607431768211456) :
  x / 18446744073709551616 / 2^k=x / 2^k / 18446744073709551616 ∧
  x % 18446744073709551616 / 2^k+x / 18446744073709551616*2^(64-k) % 18446744073709551616=x / 2^k % 18446744073709551616∧x % 18446744073709551616 / 2^k<2^(64-k) ∧
  ∃m,x / 18446744073709551616*2^(64-k) % 18446744073709551616=2^(64-k)*m:=by
 have e:18446744073709551616=2^k*2^(64-k):=by rw[←Nat.pow_add,show k+(64-k)=64 by omega]
 have hp:=Nat.two_pow_pos k;have hq:=Nat.two_pow_pos (64-k);have c1:x / 18446744073709551616 / 2^k=x / 2^k / 18446744073709551616:=by rw[Nat.div_div_eq_div_mul,Nat.div_div_eq_div_mul,Nat.mul_comm]
 have h0:=Nat.div_add_mod x 18446744073709551616;have h1:=Nat.mod_lt x (show 0<18446744073709551616 by decide);have hm0:∀H:Nat,H*2^(64-k) % 18446744073709551616=2^(64-k)*(H % 2^k):=by
  intro H
  conv=>lhs;rw[e]
  rw[Nat.mul_mod_mul_right,Nat.mul_comm]
 have hm:=hm0 (x / 18446744073709551616);have c3:x % 18446744073709551616 / 2^k<2^(64-k):=Nat.div_lt_of_lt_mul (by rw[←e];exact h1);refine ⟨c1,?_,c3,_,hm⟩;rw[hm];generalize x / 18446744073709551616=H at *
 generalize x % 18446744073709551616=L at *
 subst h0;have e1:(18446744073709551616*H+L) / 2^k=L / 2^k+2^(64-k)*H:=by
  conv=>lhs;rw[e]
  rw[Nat.mul_assoc,Nat.add_comm,Nat.add_mul_div_left _ _ hp]
 have h2:=Nat.div_add_mod H (2^k);have e2:2^(64-k)*H=18446744073709551616*(H / 2^k)+2^(64-k)*(H % 2^k):=by
  conv=>lhs;rw[←h2]
  rw[Nat.mul_add,←Nat.mul_assoc,Nat.mul_comm (2^(64-k)),←e]
 rw[e1,e2];have hlt:L / 2^k+2^(64-k)*(H % 2^k)<18446744073709551616:=by
  have h3:=Nat.mod_lt H hp;have h4:2^(64-k)*(H % 2^k+1)≤2^(64-k)*2^k:=Nat.mul_le_mul_left _ h3;rw[Nat.mul_comm (2^(64-k)) (2^k),←e,Nat.mul_add,Nat.mul_one] at h4;omega
 omega
end Go.Plim

namespace Go.Plim
set_option linter.unusedVariables false
theorem j2a:∀(k a b:Nat),a+b+1=2^k→a &&& b=0:=by
 intro k;induction k with
 | zero => intro a b h; have : a = 0 := by simp at h; omega
           rw[this];simp
 | succ k ih =>
  intro a b h;rw[Nat.pow_succ] at h;have h1:(a &&& b) % 2≠1:=by rw[ne_eq,Nat.and_mod_two_eq_one];omega
  have h2:(a &&& b) / 2=0:=by rw[Nat.and_div_two];exact ih _ _ (by omega)
  omega
theorem low_bit {x:Nat} (h0:0<x) (h:x<18446744073709551616):x &&& (18446744073709551616-x)=2^tz 64 x:=by
 obtain ⟨a1,a2,a3⟩:=t0t 64 x h0 h;generalize hs:tz 64 x=s at *
 generalize x / 2^s=o at *
 have e:18446744073709551616=2^s*2^(64-s):=by rw[←Nat.pow_add,show s+(64-s)=64 by omega]
 have hp:=Nat.two_pow_pos s;have e1:18446744073709551616-x=2^s*(2^(64-s)-o):=by rw[Nat.mul_sub,←e,←a2]
 have ho:o<2^(64-s):=by
  rcases Nat.lt_or_ge o (2^(64-s)) with q | q
  ·exact q
  ·have:=Nat.mul_le_mul_left (2^s) q;rw[←e,←a2] at this;omega
 obtain ⟨c,hc⟩:∃c,2^(64-s)=2*2^c:=⟨63-s,by rw[show 64-s=(63-s)+1 by omega,Nat.pow_succ,Nat.mul_comm]⟩;have e2:o &&& (2^(64-s)-o)=1:=by
  have h1:(o &&& (2^(64-s)-o)) % 2=1:=by rw[Nat.and_mod_two_eq_one];omega
  have h2:(o &&& (2^(64-s)-o)) / 2=0:=by rw[Nat.and_div_two];exact j2a c _ _ (by omega)
  omega
 rw[e1]
 conv=>lhs;rw[a2]
 rw[Nat.mul_comm (2^s) o,Nat.mul_comm (2^s),←Nat.shiftLeft_eq,←Nat.shiftLeft_eq,←Nat.shiftLeft_and_distrib,e2,Nat.shiftLeft_eq,Nat.one_mul]
theorem tz_lo {x:Nat} (h:x<340282366920938463463374607431768211456) (h0:0<x % 18446744073709551616):tz 128 x=tz 64 (x % 18446744073709551616):=by
 obtain ⟨a1,a2,a3⟩:=t0t 64 _ h0 (Nat.mod_lt x (by decide));generalize tz 64 (x % 18446744073709551616)=s at *
 have e:18446744073709551616=2^s*(2*2^(63-s)):=by rw[←Nat.pow_succ',←Nat.pow_add,show s+(63-s).succ=64 by omega]
 have hp:=Nat.two_pow_pos s;have h2:=Nat.div_add_mod x 18446744073709551616;generalize x % 18446744073709551616=L at *
 generalize x / 18446744073709551616=H at *
 generalize L / 2^s=o at *
 have e1:x=2^s*(2*(2^(63-s)*H)+o):=by
  rw[Nat.mul_add,←a2,←Nat.mul_assoc 2,←Nat.mul_assoc (2^s),←e];omega
 refine b1f (by omega) h ?_ ?_
 ·rw[e1,Nat.mul_mod_right]
 ·rw[e1,Nat.mul_div_cancel_left _ hp];omega
theorem tz_hi {x:Nat} (h:x<340282366920938463463374607431768211456) (h0:x % 18446744073709551616=0) (hx:0<x):tz 128 x=64+tz 64 (x / 18446744073709551616):=by
 have hH:0<x / 18446744073709551616:=by omega
 obtain ⟨a1,a2,a3⟩:=t0t 64 _ hH (by omega);generalize tz 64 (x / 18446744073709551616)=s at *
 have h2:=Nat.div_add_mod x 18446744073709551616;generalize x / 18446744073709551616=H at *
 generalize H / 2^s=o at *
 have hp:=Nat.two_pow_pos (64+s);have e1:x=2^(64+s)*o:=by
  rw[Nat.pow_add,Nat.mul_assoc,←a2];omega
 refine b1f hx h ?_ ?_
 ·rw[e1,Nat.mul_mod_right]
 ·rw[e1,Nat.mul_div_cancel_left _ hp];exact a3
theorem a2i {k x s:Nat} (h:x<2^k) (hs:2^s≤x):bl k x=s+bl k (x / 2^s):=by
 have hp:=Nat.two_pow_pos s;have h0:0<x / 2^s:=Nat.div_pos hs hp;have h1:x / 2^s<2^k:=Nat.lt_of_le_of_lt (Nat.div_le_self _ _) h;obtain ⟨a1,a2,a3⟩:=i0t k (x / 2^s) h1;obtain ⟨b1,b2⟩:=a2 h0;obtain ⟨c,hc⟩:∃c,bl k (x / 2^s)=c+1:=⟨bl k (x / 2^s)-1,by omega⟩;rw[hc] at a1 b2 ⊢;rw[Nat.add_sub_cancel] at b2;rw[←Nat.add_assoc];refine u1h h (by omega) ?_ ?_
 ·rw[Nat.pow_add,Nat.mul_comm];exact (Nat.le_div_iff_mul_le hp).1 b2
 ·rw[Nat.add_assoc,Nat.pow_add,Nat.mul_comm];exact (Nat.div_lt_iff_lt_mul hp).1 a1
theorem a2h {k m x:Nat} (h:x<2^k) (h':x<2^m):bl k x=bl m x:=by
 rcases Nat.eq_zero_or_pos x with q | q
 ·subst q;rw[y0t,y0t]
 ·obtain ⟨a1,a2,_⟩:=i0t m x h';obtain ⟨b1,b2⟩:=a2 q;obtain ⟨c,hc⟩:∃c,bl m x=c+1:=⟨bl m x-1,by omega⟩;rw[hc] at a1 b2 ⊢;rw[Nat.add_sub_cancel] at b2;exact u1h h q b2 a1
theorem bl_up {a d k:Nat} (ha:a<2^128) (hd:d<2^128) (hk:bl 128 d+k≤bl 128 a) (h0:0<a):d*2^k<2^128:=by
 obtain ⟨a1,a2,a3⟩:=i0t 128 a ha;obtain ⟨d1,d2,d3⟩:=i0t 128 d hd;have h1:d*2^k<2^bl 128 d*2^k:=Nat.mul_lt_mul_of_pos_right d1 (Nat.two_pow_pos k);rw[←Nat.pow_add] at h1;exact Nat.lt_of_lt_of_le h1 (Nat.pow_le_pow_right (by decide) (by omega))
theorem bl_over {a d:Nat} (ha:a<2^128) (hd:d<2^128) (h0:0<d):a<d*2^(bl 128 a-bl 128 d+1):=by
 obtain ⟨a1,a2,a3⟩:=i0t 128 a ha;obtain ⟨d1,d2,d3⟩:=i0t 128 d hd;obtain ⟨b1,b2⟩:=d2 h0;have h1:2^(bl 128 d-1)*2^(bl 128 a-bl 128 d+1)≤d*2^(bl 128 a-bl 128 d+1):=Nat.mul_le_mul_right _ b2;rw[←Nat.pow_add] at h1;have h2:2^bl 128 a≤2^(bl 128 d-1+(bl 128 a-bl 128 d+1)):=Nat.pow_le_pow_right (by decide) (by omega);omega
theorem bl_less {a d:Nat} (ha:a<2^128) (hd:d<2^128) (h:bl 128 a<bl 128 d):a<d:=by
 obtain ⟨a1,a2,a3⟩:=i0t 128 a ha;obtain ⟨d1,d2,d3⟩:=i0t 128 d hd;rcases Nat.eq_zero_or_pos d with q | q
 ·subst q;rw[y0t] at h;omega
 ·obtain ⟨b1,b2⟩:=d2 q;have:2^bl 128 a≤2^(bl 128 d-1):=Nat.pow_le_pow_right (by decide) (by omega);omega
def byt (v j:Nat):Nat:=v / 256^j % 256
theorem byt_or {v i:Nat} (h:2^(i+1) ∣ v) (j:Nat):byt (v+2^i) j=if i / 8=j then byt v j ||| 2^(i % 8) else byt v j:=by
 unfold byt;have e:(256:Nat)^j=2^(8*j):=by rw[Nat.pow_mul]
 rw[←or_pow h,e,Nat.or_div_two_pow,show (256:Nat)=2^8 from rfl,Nat.or_mod_two_pow];have e2:2^i / 2^(8*j) % 2^8=if i / 8=j then 2^(i % 8) else 0:=by
  rcases Nat.lt_or_ge i (8*j) with q | q
  ·rw[Nat.div_eq_of_lt (Nat.pow_lt_pow_right (by decide) q),if_neg (by omega)]
  ·rw[Nat.pow_div q (by decide)];split
   ·rw[show i-8*j=i % 8 by omega];exact Nat.mod_eq_of_lt (Nat.pow_lt_pow_right (by decide) (Nat.mod_lt _ (by decide)))
   ·obtain ⟨c,hc⟩:∃c,i-8*j=8+c:=⟨i-8*j-8,by omega⟩;rw[hc,Nat.pow_add,Nat.mul_mod_right]
 rw[e2];split
 ·rfl
 ·rw[Nat.or_zero]
theorem u1d (v j:Nat):byt v j<256:=Nat.mod_lt _ (by decide)
theorem bit_byt (v i:Nat):byt v (i / 8) / 2^(i % 8) % 2=v / 2^i % 2:=by
 unfold byt;have e:(256:Nat)^(i / 8)=2^(8*(i / 8)):=by rw[Nat.pow_mul]
 obtain ⟨c,hc⟩:∃c,(256:Nat)=2^(i % 8)*(2*2^c):=⟨7-i % 8,by rw[←Nat.pow_succ',←Nat.pow_add,show i % 8+(7-i % 8).succ=8 by have:=Nat.mod_lt i (show 0<8 by decide);omega]⟩;rw[e];generalize hw:v / 2^(8*(i / 8))=w;have e1:v / 2^i=w / 2^(i % 8):=by
  rw[←hw,Nat.div_div_eq_div_mul,←Nat.pow_add,show 8*(i / 8)+i % 8=i by omega]
 rw[e1]
 conv=>lhs;rw[hc]
 rw[Nat.mod_mul_right_div_self,Nat.mod_mul_right_mod]
end Go.Plim

namespace Go.Proofs.YtgkpkajaepphjaaGreatDoor
open Go.Flat Go.Plim
set_option linter.unusedVariables false
set_option linter.unusedSimpArgs false
theorem wrapN (x:Nat):IntKind.wrap .u64 (x:Int)=((x % 18446744073709551616:Nat):Int):=by
 rw[IntKind.wrap_u64];omega
theorem shlN (x k:Nat) (hk:k≤64):shlI .u64 (x:Int) (k:Int)=((x*2^k % 18446744073709551616:Nat):Int):=by
 show IntKind.wrap .u64 ((x:Int)*2^(min (k:Int).toNat 64))=_;rw[show min (k:Int).toNat 64=k by omega,←wrapN];congr 1
theorem shrN (x k:Nat) (hk:k≤64):shrI .u64 (x:Int) (k:Int)=((x / 2^k:Nat):Int):=by
 rw[m0q _ _ hk];simp
theorem orN {x y:Nat} (hx:x<18446744073709551616) (hy:y<18446744073709551616):orI .u64 (x:Int) (y:Int)=((x ||| y:Nat):Int):=by
 unfold orI;have e2:(BitVec.ofInt IntKind.u64.bits (x:Int) ||| BitVec.ofInt IntKind.u64.bits (y:Int)).toNat=x ||| y:=by
  show (BitVec.ofInt 64 (x:Int) ||| BitVec.ofInt 64 (y:Int)).toNat=_;rw[BitVec.toNat_or,BitVec.ofInt_natCast,BitVec.ofInt_natCast,BitVec.toNat_ofNat,BitVec.toNat_ofNat,Nat.mod_eq_of_lt (by omega),Nat.mod_eq_of_lt (by omega)]
 rw[e2];have:x ||| y<2^64:=Nat.or_lt_two_pow (by omega) (by omega)
 exact wu64 (by omega) (by omega)
theorem andN {x y:Nat} (hx:x<18446744073709551616) (hy:y<18446744073709551616):andI .u64 (x:Int) (y:Int)=((x &&& y:Nat):Int):=by
 unfold andI;have e2:(BitVec.ofInt IntKind.u64.bits (x:Int) &&& BitVec.ofInt IntKind.u64.bits (y:Int)).toNat=x &&& y:=by
  show (BitVec.ofInt 64 (x:Int) &&& BitVec.ofInt 64 (y:Int)).toNat=_;rw[BitVec.toNat_and,BitVec.ofInt_natCast,BitVec.ofInt_natCast,BitVec.toNat_ofNat,BitVec.toNat_ofNat,Nat.mod_eq_of_lt (by omega),Nat.mod_eq_of_lt (by omega)]
 rw[e2];have:x &&& y≤x:=Nat.and_le_left;exact wu64 (by omega) (by omega)
theorem y1v {H L k:Nat} (h:L<2^k):H*2^k ||| L=H*2^k+L:=by
 rw[Nat.mul_comm];exact (Nat.two_pow_add_eq_or_of_lt h H).symm
end Go.Proofs.YtgkpkajaepphjaaGreatDoor
namespace Go.Proofs.YtgkpkajaepphjaaGreatDoor
open Go.Flat Go.Plim
set_option linter.unusedVariables false
def lenT:List UInt8 :=
 f0s
theorem d2b (n:Nat) (x:Int):d0i (n+1) x =
 tif ((decide ((4294967296:Int)≤x))) (
 tif ((decide ((65536:Int)≤(shrI .u64 x (32:Int))))) (
 tif ((decide ((256:Int)≤(shrI .u64 (shrI .u64 x (32:Int)) (16:Int))))) (
 a0b (at? lenT (IntKind.wrap .u8 (shrI .u64 (shrI .u64 (shrI .u64 x (32:Int)) (16:Int)) (8:Int)))) fun r0 =>
 some (IntKind.wrap .i64 ((56:Int)+(IntKind.wrap .i64 (((UInt8.toNat r0):Nat):Int))))) (
 a0b (at? lenT (IntKind.wrap .u8 (shrI .u64 (shrI .u64 x (32:Int)) (16:Int)))) fun r1 =>
 some (IntKind.wrap .i64 ((48:Int)+(IntKind.wrap .i64 (((UInt8.toNat r1):Nat):Int)))))) (
 tif ((decide ((256:Int)≤(shrI .u64 x (32:Int))))) (
 a0b (at? lenT (IntKind.wrap .u8 (shrI .u64 (shrI .u64 x (32:Int)) (8:Int)))) fun r2 =>
 some (IntKind.wrap .i64 ((40:Int)+(IntKind.wrap .i64 (((UInt8.toNat r2):Nat):Int))))) (
 a0b (at? lenT (IntKind.wrap .u8 (shrI .u64 x (32:Int)))) fun r3 =>
 some (IntKind.wrap .i64 ((32:Int)+(IntKind.wrap .i64 (((UInt8.toNat r3):Nat):Int))))))) (
 tif ((decide ((65536:Int)≤x))) (
 tif ((decide ((256:Int)≤(shrI .u64 x (16:Int))))) (
 a0b (at? lenT (IntKind.wrap .u8 (shrI .u64 (shrI .u64 x (16:Int)) (8:Int)))) fun r4 =>
 some (IntKind.wrap .i64 ((24:Int)+(IntKind.wrap .i64 (((UInt8.toNat r4):Nat):Int))))) (
 a0b (at? lenT (IntKind.wrap .u8 (shrI .u64 x (16:Int)))) fun r5 =>
 some (IntKind.wrap .i64 ((16:Int)+(IntKind.wrap .i64 (((UInt8.toNat r5):Nat):Int)))))) (
 tif ((decide ((256:Int)≤x))) (
 a0b (at? lenT (IntKind.wrap .u8 (shrI .u64 x (8:Int)))) fun r6 =>
 some (IntKind.wrap .i64 ((8:Int)+(IntKind.wrap .i64 (((UInt8.toNat r6):Nat):Int))))) (
 a0b (at? lenT (IntKind.wrap .u8 x)) fun r7 =>
 some (IntKind.wrap .i64 ((0:Int)+(IntKind.wrap .i64 (((UInt8.toNat r7):Nat):Int))))))):=w0m n x
theorem lenT_all:((List.range 256).all fun z=>match lenT[z]? with | some r=>decide (r.toNat=bl 64 z) | none=>false)=true:=by decide +kernel
end Go.Proofs.YtgkpkajaepphjaaGreatDoor
namespace Go.Proofs.YtgkpkajaepphjaaGreatDoor
open Go.Flat Go.Plim
set_option linter.unusedVariables false
set_option linter.unusedSimpArgs false
theorem e0q (n x:Nat):k0l (n+1) (ofN x)=some (decide (x=0)):=by
 rw[m1r,y1x]
theorem up_small {x k:Nat} (hk:k≤128) (h:x*2^k<340282366920938463463374607431768211456):x<2^(128-k):=by
 have e:340282366920938463463374607431768211456=2^(128-k)*2^k:=by rw[←Nat.pow_add,show 128-k+k=128 by omega]
 rw[e] at h;exact Nat.lt_of_mul_lt_mul_right h
theorem q0p (n x k:Nat) (hk:k<128) (h:x*2^k<340282366920938463463374607431768211456):v0o (n+1) (ofN x) (k:Int)=some (ofN (x*2^k)):=by
 rw[v1p];simp only[tfd];by_cases c:64≤k
 ·have e:(k:Int)-64=((k-64:Nat):Int):=by omega
  have hx:x<18446744073709551616:=Nat.lt_of_lt_of_le (up_small (by omega) h) (show 2^(128-k)≤2^64 from Nat.pow_le_pow_right (by decide) (by omega));have e2:x*2^k=18446744073709551616*(x*2^(k-64)):=by
   rw[show (18446744073709551616:Nat)=2^64 from rfl,Nat.mul_left_comm,←Nat.pow_add,show 64+(k-64)=k by omega]
  rw[if_pos (by omega),w64 (by omega) (by omega),if_neg (by omega),e];show some (shlI .u64 ((x % 18446744073709551616:Nat):Int) _,_)=some (((x*2^k / 18446744073709551616:Nat):Int),((x*2^k % 18446744073709551616:Nat):Int));rw[shlN _ _ (by omega),Nat.mod_eq_of_lt hx,e2,Nat.mul_div_cancel_left _ (by decide),Nat.mul_mod_right];rw[e2] at h;have:x*2^(k-64)<18446744073709551616:=Nat.lt_of_mul_lt_mul_left (show 18446744073709551616*(x*2^(k-64))<18446744073709551616*18446744073709551616 from h);rw[Nat.mod_eq_of_lt this];rfl
 ·have e:(64:Int)-k=((64-k:Nat):Int):=by omega
  obtain ⟨a1,a2,a3⟩:=half_up (show k<64 by omega) h;rw[if_neg (by omega),if_neg (by omega),w64 (by omega) (by omega),if_neg (by omega),if_neg (by omega),e];show some (orI .u64 (shlI .u64 ((x / 18446744073709551616:Nat):Int) _) (shrI .u64 ((x % 18446744073709551616:Nat):Int) _),shlI .u64 ((x % 18446744073709551616:Nat):Int) _)=some (((x*2^k / 18446744073709551616:Nat):Int),((x*2^k % 18446744073709551616:Nat):Int));have hq:x*2^k / 18446744073709551616<18446744073709551616:=Nat.div_lt_of_lt_mul h
  have h1:x / 18446744073709551616*2^k<18446744073709551616:=Nat.lt_of_le_of_lt (by rw[←a1];exact Nat.le_add_right _ _) hq;have h2:x % 18446744073709551616 / 2^(64-k)<18446744073709551616:=Nat.lt_of_le_of_lt (Nat.div_le_self _ _) (Nat.mod_lt _ (by decide));rw[shlN _ _ (by omega),shrN _ _ (by omega),shlN _ _ (by omega),Nat.mod_eq_of_lt h1,orN h1 h2,y1v a2,a1,a3]
theorem t0e (n x k:Nat) (hk:k<128) (h:x<340282366920938463463374607431768211456):s0j (n+1) (ofN x) (k:Int)=some (ofN (x / 2^k)):=by
 rw[m1u];simp only[tfd];have hq:x / 18446744073709551616<18446744073709551616:=Nat.div_lt_of_lt_mul h;by_cases c:64≤k
 ·have e:(k:Int)-64=((k-64:Nat):Int):=by omega
  rw[if_pos (by omega),w64 (by omega) (by omega),if_neg (by omega),e];show some (_,shrI .u64 ((x / 18446744073709551616:Nat):Int) _)=some (((x / 2^k / 18446744073709551616:Nat):Int),((x / 2^k % 18446744073709551616:Nat):Int));have e2:x / 2^k=x / 18446744073709551616 / 2^(k-64):=by
   rw[Nat.div_div_eq_div_mul,show (18446744073709551616:Nat)=2^64 from rfl,←Nat.pow_add,show 64+(k-64)=k by omega]
  have hlt:x / 18446744073709551616 / 2^(k-64)<18446744073709551616:=Nat.lt_of_le_of_lt (Nat.div_le_self _ _) hq;rw[shrN _ _ (by omega),e2,Nat.div_eq_of_lt hlt,Nat.mod_eq_of_lt hlt];rfl
 ·have e:(64:Int)-k=((64-k:Nat):Int):=by omega
  obtain ⟨a1,a2,a3,m,a4⟩:=h2s (show k<64 by omega) h;rw[if_neg (by omega),if_neg (by omega),if_neg (by omega),w64 (by omega) (by omega),if_neg (by omega),e];show some (shrI .u64 ((x / 18446744073709551616:Nat):Int) _,orI .u64 (shrI .u64 ((x % 18446744073709551616:Nat):Int) _) (shlI .u64 ((x / 18446744073709551616:Nat):Int) _))=some (((x / 2^k / 18446744073709551616:Nat):Int),((x / 2^k % 18446744073709551616:Nat):Int));have h3:x % 18446744073709551616 / 2^k<18446744073709551616:=Nat.lt_of_le_of_lt (Nat.div_le_self _ _) (Nat.mod_lt _ (by decide))
  have h4:x / 18446744073709551616*2^(64-k) % 18446744073709551616<18446744073709551616:=Nat.mod_lt _ (by decide);rw[shrN _ _ (by omega),shrN _ _ (by omega),shlN _ _ (by omega),orN h3 h4,Nat.or_comm];have a4':x / 18446744073709551616*2^(64-k) % 18446744073709551616=m*2^(64-k):=by rw[Nat.mul_comm m];exact a4
  rw[a4',y1v a3,←a4',Nat.add_comm];rw[show x % 18446744073709551616 / 2^k+x / 18446744073709551616*2^(64-k) % 18446744073709551616=x / 2^k % 18446744073709551616 from a2,show x / 18446744073709551616 / 2^k=x / 2^k / 18446744073709551616 from a1]
theorem wide_sub (n:Nat) {x y:Nat} (hx:x<340282366920938463463374607431768211456) (h:y≤x):l1o (n+2) (ofN x) (ofN y)=some (ofN (x-y),0):=by
 rw[u1l];have h1:x / 18446744073709551616<18446744073709551616:=Nat.div_lt_of_lt_mul hx;have h2:y / 18446744073709551616<18446744073709551616:=Nat.div_lt_of_lt_mul (Nat.lt_of_le_of_lt h hx);have h3:x % 18446744073709551616<18446744073709551616:=Nat.mod_lt _ (by decide);have h4:y % 18446744073709551616<18446744073709551616:=Nat.mod_lt _ (by decide);have e:∀z:Nat,ofN z=(((z / 18446744073709551616:Nat):Int),((z % 18446744073709551616:Nat):Int)):=fun _=>rfl
 rw[e x,e y,e (x-y)];have ex:=Nat.div_add_mod x 18446744073709551616;have ey:=Nat.div_add_mod y 18446744073709551616;have ez:=Nat.div_add_mod (x-y) 18446744073709551616;have h5:(x-y) % 18446744073709551616<18446744073709551616:=Nat.mod_lt _ (by decide);generalize x / 18446744073709551616=a at *
 generalize x % 18446744073709551616=b at *
 generalize y / 18446744073709551616=c at *
 generalize y % 18446744073709551616=d at *
 generalize (x-y) / 18446744073709551616=p at *
 generalize (x-y) % 18446744073709551616=q at *
 simp only[x0e,tfd,tft];by_cases hb:b<d
 ·have hb':(b:Int)<(d:Int)+0:=by omega
  rw[if_pos (by omega),if_pos (by omega),if_pos (by omega),if_pos (by omega),if_pos (by omega),if_pos (by omega),if_pos hb',if_pos (by omega),if_pos (by omega),if_neg (by omega),j0z,obs,if_pos rfl];congr 3<;>omega
 ·have hb':¬(b:Int)<(d:Int)+0:=by omega
  rw[if_pos (by omega),if_pos (by omega),if_pos (by omega),if_pos (by omega),if_pos (by omega),if_pos (by omega),if_neg hb',if_pos (by omega),if_pos (by omega),if_neg (by omega),j0z,obs,if_pos rfl];congr 3<;>omega
theorem m0r (n:Nat) {x y:Nat} (hx:x<340282366920938463463374607431768211456) (h:y≤x):i0m (n+3) (ofN x) (ofN y)=some (ofN (x-y)):=by
 rw[m1t,wide_sub n hx h];rfl
theorem k1b (n:Nat) {x y:Nat} (hx:x<340282366920938463463374607431768211456) (hy:y<340282366920938463463374607431768211456):k0v (n+1) (ofN x) (ofN y)=some (decide (x<y)):=by
 rw[p1q n (z0k hx) (z0k hy),j1y,j1y];congr 1;exact decide_eq_decide.2 (by omega)
theorem tz_pow (n:Nat):((List.range 64).all fun t=>match j0i (n+1) ((2^t:Nat):Int) with | some r=>decide (r=(t:Int)) | none=>false)=true:=by kernel_rfl
theorem tz_at (n t:Nat) (ht:t<64):j0i (n+1) ((2^t:Nat):Int)=some (t:Int):=by
 have h:=List.all_eq_true.1 (tz_pow n) t (List.mem_range.2 ht);split at h
 ·rename_i r hr;rw[hr,of_decide_eq_true h]
 ·cases h
theorem z1d {x:Nat} (h0:0<x) (h:x<18446744073709551616):andI .u64 (x:Int) (IntKind.wrap .u64 ((0:Int)-x))=((2^tz 64 x:Nat):Int):=by
 rw[show IntKind.wrap .u64 ((0:Int)-x)=((18446744073709551616-x:Nat):Int) by rw[IntKind.wrap_u64];omega,andN h (by omega)];exact congrArg Int.ofNat (low_bit h0 h)
theorem tz_val (n:Nat) {x:Nat} (h0:0<x) (h:x<18446744073709551616):j0i (n+1) (x:Int)=some ((tz 64 x:Nat):Int):=by
 have ht:=(t0t 64 x h0 h).1;have hp:=Nat.two_pow_pos (tz 64 x);have hp2:2^tz 64 x<18446744073709551616:=Nat.pow_lt_pow_right (a:=2) (by decide) ht;rw[←tz_at n _ ht];have e:tz 64 (2^tz 64 x)=tz 64 x:=b1f hp hp2 (Nat.mod_self _) (by rw[Nat.div_self hp]);rw[z0s,z0s,z1d h0 h,z1d hp hp2,e,decide_eq_false (show ¬((x:Int)=0) by omega),decide_eq_false (show ¬(((2^tz 64 x:Nat):Int)=0) by omega)]
theorem u0b (n:Nat) {x:Nat} (h0:0<x) (h:x<340282366920938463463374607431768211456):f0r (n+2) (ofN x)=some ((tz 128 x:Nat):Int):=by
 rw[z0y];show tif (decide (((x % 18446744073709551616:Nat):Int)=0)) (a0b (j0i (n+1) ((x / 18446744073709551616:Nat):Int)) fun r0=>some (IntKind.wrap .i64 (64+r0))) (a0b (j0i (n+1) ((x % 18446744073709551616:Nat):Int)) fun r1=>some r1)=_;rw[tfd];by_cases c:x % 18446744073709551616=0
 ·have h1:0<x / 18446744073709551616:=by omega
  have h2:x / 18446744073709551616<18446744073709551616:=Nat.div_lt_of_lt_mul h;have ht:=(t0t 64 _ h1 h2).1;rw[if_pos (by omega),tz_val n h1 h2,obs,w64 (by omega) (by omega),tz_hi h c h0];congr 1
 ·rw[if_neg (by omega),tz_val n (by omega) (Nat.mod_lt _ (by decide)),obs,tz_lo h (by omega)]
theorem lenT_at {z:Nat} (h:z<256):∃r,at? lenT (z:Int)=some r∧r.toNat=bl 64 z:=by
 have h1:=List.all_eq_true.1 lenT_all z (List.mem_range.2 h);split at h1
 ·rename_i r hr;refine ⟨r,?_,of_decide_eq_true h1⟩;unfold at?;rw[decide_eq_true (by omega)];exact hr
 ·cases h1
theorem m0d {x s K:Nat} {I S:Int} (hK:K=2^s) (hI:I=((x / K:Nat):Int)) (hS:S=s) (h2:x / K<256) (h1:K≤x∨s=0) (hx:x<18446744073709551616) (hs:s≤56) :
  (a0b (at? lenT (IntKind.wrap .u8 I)) fun r=>some (IntKind.wrap .i64 (S+IntKind.wrap .i64 (((UInt8.toNat r):Nat):Int))))=some ((bl 64 x:Nat):Int):=by
 obtain ⟨r,hr,hb⟩:=lenT_at h2;have hle:=(i0t 64 (x / K) (Nat.lt_of_le_of_lt (Nat.div_le_self _ _) hx)).2.2;have e:bl 64 x=s+bl 64 (x / K):=by
  rcases h1 with h1 | rfl
  ·rw[hK] at h1 ⊢;exact a2i hx h1
  ·subst hK;simp
 rw[hI,e];generalize x / K=z at *
 rw[wu8 (by omega) (by omega),hr,obs,hb,w64 (x:=((bl 64 z:Nat):Int)) (by omega) (by omega),hS,w64 (by omega) (by omega)];congr 1
theorem s1w (n:Nat) {x:Nat} (h:x<18446744073709551616):d0i (n+1) (x:Int)=some ((bl 64 x:Nat):Int):=by
 have s32:∀z:Nat,shrI .u64 (z:Int) (32:Int)=((z / 4294967296:Nat):Int):=fun z=>shrN z 32 (by decide)
 have s16:∀z:Nat,shrI .u64 (z:Int) (16:Int)=((z / 65536:Nat):Int):=fun z=>shrN z 16 (by decide)
 have s8:∀z:Nat,shrI .u64 (z:Int) (8:Int)=((z / 256:Nat):Int):=fun z=>shrN z 8 (by decide)
 have h':=h;rw[d2b];simp only[s32,s16,s8,tfd];by_cases c5:4294967296≤x
 ·rw[if_pos (by omega)];by_cases c4:65536≤x / 4294967296
  ·rw[if_pos (by omega)];by_cases c3:256≤x / 4294967296 / 65536
   ·rw[if_pos (by omega)];exact m0d (s:=56) (K:=72057594037927936) rfl (by omega) rfl (by omega) (.inl (by omega)) h (by decide)
   ·rw[if_neg (by omega)];exact m0d (s:=48) (K:=281474976710656) rfl (by omega) rfl (by omega) (.inl (by omega)) h (by decide)
  ·rw[if_neg (by omega)];by_cases c3:256≤x / 4294967296
   ·rw[if_pos (by omega)];exact m0d (s:=40) (K:=1099511627776) rfl (by omega) rfl (by omega) (.inl (by omega)) h (by decide)
   ·rw[if_neg (by omega)];exact m0d (s:=32) (K:=4294967296) rfl (by omega) rfl (by omega) (.inl (by omega)) h (by decide)
 ·rw[if_neg (by omega)];by_cases c4:65536≤x
  ·rw[if_pos (by omega)];by_cases c3:256≤x / 65536
   ·rw[if_pos (by omega)];exact m0d (s:=24) (K:=16777216) rfl (by omega) rfl (by omega) (.inl (by omega)) h (by decide)
   ·rw[if_neg (by omega)];exact m0d (s:=16) (K:=65536) rfl (by omega) rfl (by omega) (.inl (by omega)) h (by decide)
  ·rw[if_neg (by omega)];by_cases c3:256≤x
   ·rw[if_pos (by omega)];exact m0d (s:=8) (K:=256) rfl (by omega) rfl (by omega) (.inl (by omega)) h (by decide)
   ·rw[if_neg (by omega)];exact m0d (s:=0) (K:=1) rfl (by omega) rfl (by omega) (.inr rfl) h (by decide)
theorem z1f (n:Nat) {x:Nat} (h:x<340282366920938463463374607431768211456):s0i (n+2) (ofN x)=some ((bl 128 x:Nat):Int):=by
 rw[m1s];show tif (!decide (((x / 18446744073709551616:Nat):Int)=0)) (a0b (d0i (n+1) ((x / 18446744073709551616:Nat):Int)) fun r0=>some (IntKind.wrap .i64 (64+r0))) (a0b (d0i (n+1) ((x % 18446744073709551616:Nat):Int)) fun r1=>some r1)=_;have hq:x / 18446744073709551616<18446744073709551616:=Nat.div_lt_of_lt_mul h;rw[tfn,tfd];by_cases c:x / 18446744073709551616=0
 ·have hx:x<18446744073709551616:=by omega
  rw[if_pos (by omega),s1w n (Nat.mod_lt _ (by decide)),obs,Nat.mod_eq_of_lt hx,a2h (k:=64) (m:=128) hx h]
 ·have hle:=(i0t 64 (x / 18446744073709551616) hq).2.2;rw[if_neg (by omega),s1w n hq,obs,w64 (by omega) (by omega),a2i (k:=128) (s:=64) h (by omega)];rw[←a2h (k:=128) (m:=64) (x:=x / 18446744073709551616) (Nat.lt_of_lt_of_le hq (by decide)) hq];congr 1
theorem or_ofN {x y:Nat} (hx:x<340282366920938463463374607431768211456) (hy:y<340282366920938463463374607431768211456):((orI .u64 (ofN x).1 (ofN y).1,orI .u64 (ofN x).2 (ofN y).2):Wd)=ofN (x ||| y):=by
 show ((orI .u64 ((x / 18446744073709551616:Nat):Int) ((y / 18446744073709551616:Nat):Int),orI .u64 ((x % 18446744073709551616:Nat):Int) ((y % 18446744073709551616:Nat):Int)):Wd)=((((x ||| y) / 18446744073709551616:Nat):Int),(((x ||| y) % 18446744073709551616:Nat):Int));have e1:(x ||| y) / 18446744073709551616=x / 18446744073709551616 ||| y / 18446744073709551616:=Nat.or_div_two_pow (n:=64)
 have e2:(x ||| y) % 18446744073709551616=x % 18446744073709551616 ||| y % 18446744073709551616:=Nat.or_mod_two_pow (n:=64)
 rw[e1,e2,orN (Nat.div_lt_of_lt_mul hx) (Nat.div_lt_of_lt_mul hy),orN (Nat.mod_lt _ (by decide)) (Nat.mod_lt _ (by decide))]
theorem one_ofN:((0,1):Wd)=ofN 1:=rfl
theorem x1y:((0,0):Wd)=ofN 0:=rfl
theorem whole_l3 (n:Nat) {d A:Nat} (hd:0<d) (hA:A<340282366920938463463374607431768211456) (hdM:d<340282366920938463463374607431768211456) (s4:Wd):∀(k f a q:Nat),q+a / d=A / d→a≤A→a<d*2^k→2^k ∣ q→(k=0∨d*2^(k-1)<340282366920938463463374607431768211456)→k≤128→k<f →
  g0d (n+3) f (ofN a,ofN d,s4,ofN q,(k:Int)-1,())=some (.inl (s4,ofN (A / d),())):=by
 intro k;induction k with
 | zero =>
  intro f a q h1 h2 h3 h4 h5 h6 hf;obtain ⟨f,rfl⟩:∃g,f=g+1:=⟨f-1,by omega⟩;rw[i0l,decide_eq_false (by omega),tff];rw[Nat.pow_zero,Nat.mul_one] at h3;rw[Nat.div_eq_of_lt h3,Nat.add_zero] at h1;rw[h1]
 | succ k ih =>
  intro f a q h1 h2 h3 h4 h5 h6 hf;obtain ⟨f,rfl⟩:∃g,f=g+1:=⟨f-1,by omega⟩;have h5':d*2^k<340282366920938463463374607431768211456:=by
   rcases h5 with h | h
   ·cases h
   ·exact h
  have hk5:k=0∨d*2^(k-1)<340282366920938463463374607431768211456:=by
   rcases Nat.eq_zero_or_pos k with e | e
   ·exact .inl e
   ·refine .inr (Nat.lt_of_le_of_lt (Nat.mul_le_mul_left d (Nat.pow_le_pow_right (by decide) (Nat.sub_le _ _))) h5')
  have hpk:2^k<340282366920938463463374607431768211456:=Nat.lt_of_lt_of_le (Nat.pow_lt_pow_right (a:=2) (n:=128) (by decide) (by omega)) (by decide);have eb:((k+1:Nat):Int)-1=(k:Int):=by omega
  have hq2:2^k ∣ q:=Nat.dvd_trans (Nat.pow_dvd_pow 2 (Nat.le_succ k)) h4;rw[i0l,eb,decide_eq_true (by omega),tft,q0p (n+2) d k (by omega) h5',obs,k1b (n+2) (by omega) h5',obs,w64 (by omega) (by omega),tfd];by_cases hlt:a<d*2^k
  ·rw[if_pos hlt];exact ih f a q h1 h2 hlt hq2 hk5 (by omega) (by omega)
  ·rw[if_neg hlt,m0r n (by omega) (by omega),obs,b1b,obs,one_ofN,q0p (n+2) 1 k (by omega) (by rw[Nat.one_mul];exact hpk),obs,Nat.one_mul];have hqA:q≤A / d:=by rw[←h1];exact Nat.le_add_right _ _
   have hqM:q<340282366920938463463374607431768211456:=Nat.lt_of_le_of_lt (Nat.le_trans hqA (Nat.div_le_self _ _)) hA;rw[or_ofN hqM hpk,or_pow h4];refine ih f (a-d*2^k) (q+2^k) ?_ (by omega) ?_ (Nat.dvd_add hq2 (Nat.dvd_refl _)) hk5 (by omega) (by omega)
   ·rw[div_part hd (by omega)];exact h1
   ·rw[Nat.pow_succ,←Nat.mul_assoc] at h3;omega
theorem q0o (n:Nat) {a d:Nat} (ha:a<340282366920938463463374607431768211456) (hd:0<d) (hdM:d<340282366920938463463374607431768211456):o0z (n+4) (ofN a) (ofN d)=some (ofN (a / d)):=by
 have la:=(i0t 128 a ha).2.2;have ld:=(i0t 128 d hdM).2;have ld1:=(ld.1 hd).1;rw[f1h,z1f (n+1) ha,obs,z1f (n+1) hdM,obs,w64 (by omega) (by omega)];by_cases h:bl 128 d≤bl 128 a
 ·have h0:0<a:=by
   rcases Nat.eq_zero_or_pos a with e | e
   ·rw[e,y0t] at h;omega
   ·exact e
  have e:((bl 128 a:Nat):Int)-((bl 128 d:Nat):Int)=((bl 128 a-bl 128 d+1:Nat):Int)-1:=by omega
  rw[e,x1y,whole_l3 n hd ha hdM _ (bl 128 a-bl 128 d+1) a0c a 0 (by omega) (Nat.le_refl _) (bl_over ha hdM hd) (Nat.dvd_zero _) (.inr (by rw[Nat.add_sub_cancel];exact bl_up ha hdM (by omega) h0)) (by omega) (by unfold a0c;omega),obs,a0v]
 ·have hlt:=bl_less ha hdM (by omega);rw[show a0c=(2^70-1)+1 from rfl,i0l,decide_eq_false (by omega),tff,obs,a0v,Nat.div_eq_of_lt hlt];rfl
theorem z1p (n:Nat) {A B f:Nat} (ha0:0<A) (ha:A<340282366920938463463374607431768211456) (hb0:0<B) (hb:B<340282366920938463463374607431768211456) (s4:Wd) (tw:Int):c0z (n+3) (f+1) (ofN A,ofN B,s4,tw,()) =
  if od B<A then c0z (n+3) f (ofN (od B),ofN (A-od B),s4,tw,()) else c0z (n+3) f (ofN A,ofN (od B-A),s4,tw,()):=by
 have ht:=(m0u hb0 hb).1;have hle:od B<340282366920938463463374607431768211456:=Nat.lt_of_le_of_lt (od_le B) hb;rw[l0k,e0q,obs,tfn,decide_eq_false (by omega),tff,u0b (n+1) hb0 hb,obs,t0e (n+2) B _ ht hb,obs]
 change a0b (k0v (n+3) (ofN (od B)) (ofN A)) _=_
 rw[k1b (n+2) hle ha,obs,tfd];by_cases h:od B<A
 ·rw[if_pos h,if_pos h]
  change a0b (i0m (n+3) (ofN A) (ofN (od B))) _=_
  rw[m0r n ha (by omega),obs];rfl
 ·rw[if_neg h,if_neg h]
  change a0b (i0m (n+3) (ofN (od B)) (ofN A)) _=_
  rw[m0r n hle (by omega),obs]
theorem gcd_l5 (n:Nat) (s4:Wd) (tw:Int):∀(k f A B:Nat),0<A→A<340282366920938463463374607431768211456→A % 2=1→B<340282366920938463463374607431768211456→B % 2=0→A*B<2^k→k<f →
  c0z (n+3) f (ofN A,ofN B,s4,tw,())=some (.inl (ofN (Nat.gcd A B),s4,tw,())):=by
 intro k;induction k with
 | zero =>
  intro f A B h1 h2 h3 h4 h5 h6 hf;obtain ⟨f,rfl⟩:∃g,f=g+1:=⟨f-1,by omega⟩;have:B=0:=by
   rcases Nat.eq_zero_or_pos B with e | e
   ·exact e
   ·have:=Nat.mul_pos h1 e;omega
  subst this;rw[l0k,e0q,obs,tfn,decide_eq_true rfl,tft,Nat.gcd_zero_right]
 | succ k ih =>
  intro f A B h1 h2 h3 h4 h5 h6 hf;obtain ⟨f,rfl⟩:∃g,f=g+1:=⟨f-1,by omega⟩;rcases Nat.eq_zero_or_pos B with e | hB
  ·subst e;rw[l0k,e0q,obs,tfn,decide_eq_true rfl,tft,Nat.gcd_zero_right]
  ·have hev:=od_even hB h4 h5;have hod:=(m0u hB h4).2.2;have hpos:=g2r hB h4;have hg:=h2y h3 hB h4;have hp:A*od B<2^k:=by
    have:A*(2*od B)≤A*B:=Nat.mul_le_mul_left A hev;rw[Nat.mul_left_comm] at this;rw[Nat.pow_succ] at h6;omega
   rw[z1p n h1 h2 hB h4];by_cases h:od B<A
   ·rw[if_pos h,ih f (od B) (A-od B) hpos (by omega) hod (by omega) (by omega) (Nat.lt_of_le_of_lt (by rw[Nat.mul_comm A];exact Nat.mul_le_mul_left _ (Nat.sub_le _ _)) hp) (by omega),a1x (by omega),Nat.gcd_comm,hg]
   ·rw[if_neg h,ih f A (od B-A) h1 h2 h3 (by omega) (by omega) (Nat.lt_of_le_of_lt (Nat.mul_le_mul_left _ (Nat.sub_le _ _)) hp) (by omega),a1x (by omega),hg]
theorem gcd_any (n:Nat) (s4:Wd) (tw:Int) {A B:Nat} (h1:0<A) (h2:A<340282366920938463463374607431768211456) (h3:A % 2=1) (hB:0<B) (h4:B<340282366920938463463374607431768211456):c0z (n+3) a0c (ofN A,ofN B,s4,tw,())=some (.inl (ofN (Nat.gcd A B),s4,tw,())):=by
 have hod:=(m0u hB h4).2.2;have hpos:=g2r hB h4;have hle:=od_le B;have hg:=h2y h3 hB h4;have hm:∀ {x y:Nat},x<340282366920938463463374607431768211456→y<340282366920938463463374607431768211456→x*y<2^256:=fun hx hy=>Nat.lt_of_lt_of_le (Nat.mul_lt_mul'' hx hy) (by decide)
 rw[show a0c=(2^70-1)+1 from rfl,z1p n h1 h2 hB h4];by_cases h:od B<A
 ·rw[if_pos h,gcd_l5 n s4 tw 256 _ (od B) (A-od B) hpos (by omega) hod (by omega) (by omega) (hm (by omega) (by omega)) (by decide),a1x (by omega),Nat.gcd_comm,hg]
 ·rw[if_neg h,gcd_l5 n s4 tw 256 _ A (od B-A) h1 h2 h3 (by omega) (by omega) (hm (by omega) (by omega)) (by decide),a1x (by omega),hg]
theorem f2m (n:Nat) {x y:Nat} (hx:x<340282366920938463463374607431768211456) (hy:y<340282366920938463463374607431768211456):b1x (n+4) (ofN x) (ofN y)=some (ofN (Nat.gcd x y)):=by
 rw[r1b,e0q,obs,or_ofN hx hy];by_cases h0:x=0
 ·subst h0;rw[decide_eq_true rfl,tft,Nat.gcd_zero_left,Nat.zero_or]
 rw[decide_eq_false h0,tff,e0q,obs];by_cases h1:y=0
 ·subst h1;rw[decide_eq_true rfl,tft,Nat.gcd_zero_right,Nat.or_zero]
 have hx0:0<x:=by omega
 have hy0:0<y:=by omega
 obtain ⟨a1,a2,a3⟩:=m0u hx0 hx;obtain ⟨b1,b2,b3⟩:=m0u hy0 hy;have hle:od x<340282366920938463463374607431768211456:=Nat.lt_of_le_of_lt (od_le x) hx;rw[decide_eq_false h1,tff,u0b (n+1) hx0 hx,obs,u0b (n+1) hy0 hy,obs,obs,t0e (n+2) x _ a1 hx,obs]
 change a0b (c0z (n+3) a0c (ofN (od x),ofN y,_,_,())) _=_
 rw[gcd_any n _ _ (g2r hx0 hx) hle a3 hy0 hy,obs,a0v];have e:(if ((tz 128 y:Nat):Int)<((tz 128 x:Nat):Int) then ((tz 128 y:Nat):Int) else ((tz 128 x:Nat):Int))=((min (tz 128 x) (tz 128 y):Nat):Int):=by
  split<;>omega
 have hg:=h2v hx0 hx hy0 hy;have hlt:Nat.gcd x y<340282366920938463463374607431768211456:=Nat.lt_of_le_of_lt (Nat.gcd_le_left y hx0) hx;simp only;rw[e,q0p (n+2) _ _ (by omega) (by rw[←hg];exact hlt),obs,←hg]
def bys (x:Nat):List Int:=(List.range 16).map fun j=>((byt x j:Nat):Int)
theorem e1j (x:Nat):(bys x).length=16:=by simp[bys]
theorem u1e (x:Nat) {j:Nat} (h:j<16):(bys x)[j]? = some ((byt x j:Nat):Int):=by
 unfold bys;rw[List.getElem?_map,List.getElem?_range h];rfl
theorem bys_eq (x:Nat):bys x=[((x % 256:Nat):Int),((x / 256 % 256:Nat):Int),((x / 65536 % 256:Nat):Int),((x / 16777216 % 256:Nat):Int),((x / 4294967296 % 256:Nat):Int),((x / 1099511627776 % 256:Nat):Int),((x / 281474976710656 % 256:Nat):Int),((x / 72057594037927936 % 256:Nat):Int),
  ((x / 18446744073709551616 % 256:Nat):Int),((x / 4722366482869645213696 % 256:Nat):Int),((x / 1208925819614629174706176 % 256:Nat):Int),((x / 309485009821345068724781056 % 256:Nat):Int),((x / 79228162514264337593543950336 % 256:Nat):Int),((x / 20282409603651670423947251286016 % 256:Nat):Int),((x / 5192296858534827628530496329220096 % 256:Nat):Int),((x / 1329227995784915872903807060280344576 % 256:Nat):Int)]:=by
 unfold bys byt;simp[List.range,List.range.loop]
abbrev l16 (r:B16):List Int:=[r.1,r.2.1,r.2.2.1,r.2.2.2.1,r.2.2.2.2.1,r.2.2.2.2.2.1,r.2.2.2.2.2.2.1,r.2.2.2.2.2.2.2.1,r.2.2.2.2.2.2.2.2.1,r.2.2.2.2.2.2.2.2.2.1,r.2.2.2.2.2.2.2.2.2.2.1,r.2.2.2.2.2.2.2.2.2.2.2.1,r.2.2.2.2.2.2.2.2.2.2.2.2.1,r.2.2.2.2.2.2.2.2.2.2.2.2.2.1,r.2.2.2.2.2.2.2.2.2.2.2.2.2.2.1,r.2.2.2.2.2.2.2.2.2.2.2.2.2.2.2]
theorem bys_list (x:Nat):bys x=[((byt x 0:Nat):Int),((byt x 1:Nat):Int),((byt x 2:Nat):Int),((byt x 3:Nat):Int),((byt x 4:Nat):Int),((byt x 5:Nat):Int),((byt x 6:Nat):Int),((byt x 7:Nat):Int),((byt x 8:Nat):Int),((byt x 9:Nat):Int),((byt x 10:Nat):Int),((byt x 11:Nat):Int),((byt x 12:Nat):Int),((byt x 13:Nat):Int),((byt x 14:Nat):Int),((byt x 15:Nat):Int)]:=by
 unfold bys;simp[List.range,List.range.loop]
theorem i2w {v x0 x1 x2 x3 x4 x5 x6 x7:Int} (b:Byt x0∧Byt x1∧Byt x2∧Byt x3∧Byt x4∧Byt x5∧Byt x6∧Byt x7) (h:v=x0+x1*256+x2*65536+x3*16777216+x4*4294967296+x5*1099511627776+x6*281474976710656+x7*72057594037927936) :
  x0=v % 256∧x1=v / 256 % 256∧x2=v / 65536 % 256∧x3=v / 16777216 % 256∧x4=v / 4294967296 % 256∧x5=v / 1099511627776 % 256∧x6=v / 281474976710656 % 256∧x7=v / 72057594037927936 % 256:=by
 simp only[Byt] at b;obtain ⟨⟨_,_⟩,⟨_,_⟩,⟨_,_⟩,⟨_,_⟩,⟨_,_⟩,⟨_,_⟩,⟨_,_⟩,⟨_,_⟩⟩:=b;refine ⟨?_,?_,?_,?_,?_,?_,?_,?_⟩<;>omega
theorem s0l (n:Nat) {x:Nat} (h:x<340282366920938463463374607431768211456):∃r:B16,g0e (n+1) (ofN x)=some r∧l16 r=bys x:=by
 obtain ⟨x0,x1,x2,x3,x4,x5,x6,x7,x8,x9,x10,x11,x12,x13,x14,x15,hr,⟨b0,b1,b2,b3,b4,b5,b6,b7,b8,b9,b10,b11,b12,b13,b14,b15⟩,hlo,hhi⟩:=n0o n (z0k h);refine ⟨_,hr,?_⟩;obtain ⟨c0,c1,c2,c3,c4,c5,c6,c7⟩:=i2w ⟨b0,b1,b2,b3,b4,b5,b6,b7⟩ hlo;obtain ⟨d0,d1,d2,d3,d4,d5,d6,d7⟩:=i2w ⟨b8,b9,b10,b11,b12,b13,b14,b15⟩ hhi;have elo:(ofN x).2=((x % 18446744073709551616:Nat):Int):=rfl;have ehi:(ofN x).1=((x / 18446744073709551616:Nat):Int):=rfl;rw[elo] at c0 c1 c2 c3 c4 c5 c6 c7;rw[ehi] at d0 d1 d2 d3 d4 d5 d6 d7;rw[bys_eq];simp only[l16]
 clear hr hlo hhi b0 b1 b2 b3 b4 b5 b6 b7 b8 b9 b10 b11 b12 b13 b14 b15;subst c0 c1 c2 c3 c4 c5 c6 c7 d0 d1 d2 d3 d4 d5 d6 d7;simp only[List.cons.injEq,and_true];refine ⟨?_,?_,?_,?_,?_,?_,?_,?_,?_,?_,?_,?_,?_,?_,?_,?_⟩
 all_goals omega
theorem r01_ofN (n:Nat) {x:Nat} (h:x<340282366920938463463374607431768211456):z0i (n+1) (((byt x 0:Nat):Int),((byt x 1:Nat):Int),((byt x 2:Nat):Int),((byt x 3:Nat):Int),((byt x 4:Nat):Int),((byt x 5:Nat):Int),((byt x 6:Nat):Int),((byt x 7:Nat):Int),((byt x 8:Nat):Int),((byt x 9:Nat):Int),((byt x 10:Nat):Int),((byt x 11:Nat):Int),((byt x 12:Nat):Int),((byt x 13:Nat):Int),((byt x 14:Nat):Int),((byt x 15:Nat):Int))=some (ofN x):=by
 obtain ⟨r,hr,hl⟩:=s0l n h;obtain ⟨x0,x1,x2,x3,x4,x5,x6,x7,x8,x9,x10,x11,x12,x13,x14,x15,hr',hb,hlo,hhi⟩:=n0o n (z0k h);have hr':=Option.some.inj (hr.symm.trans hr');subst hr';rw[bys_list] at hl;simp only[l16,List.cons.injEq,and_true] at hl;obtain ⟨rfl,rfl,rfl,rfl,rfl,rfl,rfl,rfl,rfl,rfl,rfl,rfl,rfl,rfl,rfl,rfl⟩:=hl;obtain ⟨b0,b1,b2,b3,b4,b5,b6,b7,b8,b9,b10,b11,b12,b13,b14,b15⟩:=hb;rw[r01_of n b0 b1 b2 b3 b4 b5 b6 b7 b8 b9 b10 b11 b12 b13 b14 b15,←hlo,←hhi]
theorem g2a (n:Nat) {x:Nat} (h:x<340282366920938463463374607431768211456) {R:Type} (k:Wd→Option R) {l:List Int} (hl:l=bys x) :
  (a0b (l[0]?) fun r0=>a0b (l[1]?) fun r1=>a0b (l[2]?) fun r2=>a0b (l[3]?) fun r3=>a0b (l[4]?) fun r4=>a0b (l[5]?) fun r5=>a0b (l[6]?) fun r6=>a0b (l[7]?) fun r7=>a0b (l[8]?) fun r8=>a0b (l[9]?) fun r9=>a0b (l[10]?) fun r10=>a0b (l[11]?) fun r11=>a0b (l[12]?) fun r12=>a0b (l[13]?) fun r13=>a0b (l[14]?) fun r14=>a0b (l[15]?) fun r15=>a0b (z0i (n+1) (r0,(r1,(r2,(r3,(r4,(r5,(r6,(r7,(r8,(r9,(r10,(r11,(r12,(r13,(r14,r15)))))))))))))))) k)=k (ofN x):=by
 subst hl;have e:∀j:Nat,j<16→(bys x)[j]? = some ((byt x j:Nat):Int):=fun j hj=>u1e x hj
 rw[e 0 (by decide),e 1 (by decide),e 2 (by decide),e 3 (by decide),e 4 (by decide),e 5 (by decide),e 6 (by decide),e 7 (by decide),e 8 (by decide),e 9 (by decide),e 10 (by decide),e 11 (by decide),e 12 (by decide),e 13 (by decide),e 14 (by decide),e 15 (by decide)];simp only[obs,r01_ofN n h]
theorem a1r (n:Nat) {x y:Nat} (hx:x<340282366920938463463374607431768211456) (hy:y<340282366920938463463374607431768211456):j0l (n+2) (ofN x) (ofN y)=some (if x+y<340282366920938463463374607431768211456 then (ofN (x+y),0) else ((0,0),1)):=by
 rw[x0x n (z0k hx) (z0k hy)];unfold addW;rw[j1y,j1y];have e:(x:Int)+y=((x+y:Nat):Int):=by omega
 rw[e,y0f];by_cases h:x+y<340282366920938463463374607431768211456
 ·rw[if_pos h,if_pos (by omega)]
 ·rw[if_neg h,if_neg (by omega)]
theorem r1z (n:Nat) {x y:Nat} (hx:x<340282366920938463463374607431768211456) (hy:y<340282366920938463463374607431768211456):k0b (n+2) (ofN x) (ofN y)=some (decide (x<y)):=by
 rw[y1p n (z0k hx) (z0k hy),j1y,j1y];congr 1;exact decide_eq_decide.2 (by omega)
def subL (A B i:Nat):List Int:=(List.range 16).map fun j=>(((if j<i then byt (A-B) j else byt A j):Nat):Int)
def owe (A B i:Nat):Nat:=if A % 256^i<B % 256^i then 1 else 0
theorem a1j (A B i:Nat):(subL A B i).length=16:=by simp[subL]
theorem u1w (A B i:Nat) {j:Nat} (h:j<16):(subL A B i)[j]? = some (((if j<i then byt (A-B) j else byt A j):Nat):Int):=by
 unfold subL;rw[List.getElem?_map,List.getElem?_range h];rfl
theorem y1e (A B:Nat) {i:Nat} (h:i<16):(subL A B i).set i ((byt (A-B) i:Nat):Int)=subL A B (i+1):=by
 apply List.ext_getElem?;intro j;rw[List.getElem?_set,a1j];by_cases hj:j<16
 ·rw[u1w _ _ _ hj,u1w _ _ _ hj];by_cases e:i=j
  ·subst e;rw[if_pos rfl,if_pos h,if_pos (by omega)]
  ·rw[if_neg e];by_cases hlt:j<i
   ·rw[if_pos hlt,if_pos (by omega)]
   ·rw[if_neg hlt,if_neg (by omega)]
 ·rw[if_neg (by omega),List.getElem?_eq_none (by rw[a1j];omega),List.getElem?_eq_none (by rw[a1j];omega)]
theorem owe_step {A B:Nat} (hle:B≤A) (i:Nat) :
  (byt A i<byt B i+owe A B i→owe A B (i+1)=1∧byt (A-B) i+byt B i+owe A B i=byt A i+256) ∧
  (byt B i+owe A B i≤byt A i→owe A B (i+1)=0∧byt (A-B) i+byt B i+owe A B i=byt A i):=by
 have hp:0<256^i:=Nat.pow_pos (by decide);have ea:=Nat.div_add_mod A (256^i);have eb:=Nat.div_add_mod B (256^i);have la:=Nat.mod_lt A hp;have lb:=Nat.mod_lt B hp;have ea2:A % 256^(i+1)=256^i*(A / 256^i % 256)+A % 256^i:=by rw[Nat.pow_succ,Nat.mod_mul];omega
 have eb2:B % 256^(i+1)=256^i*(B / 256^i % 256)+B % 256^i:=by rw[Nat.pow_succ,Nat.mod_mul];omega
 unfold owe byt;rw[ea2,eb2];generalize hP:256^i=P at *
 generalize hA':A / P=A' at *
 generalize hB':B / P=B' at *
 generalize ha:A % P=a at *
 generalize hb:B % P=b at *
 have key:(A-B) / P+B'+(if a<b then 1 else 0)=A':=by
  by_cases hlt:a<b
  ·rw[if_pos hlt];have hAB:B'+1≤A':=by
    rcases Nat.lt_or_ge B' A' with q | q
    ·exact q
    ·have:=Nat.mul_le_mul_left P q;omega
   obtain ⟨c,hc⟩:∃c,A'=B'+1+c:=⟨A'-(B'+1),by omega⟩;have e1:P*A'=P*B'+P+P*c:=by rw[hc,Nat.mul_add,Nat.mul_add,Nat.mul_one]
   have e2:A-B=P*c+(P+a-b):=by omega
   rw[e2,Nat.mul_add_div hp,Nat.div_eq_of_lt (by omega)];omega
  ·rw[if_neg hlt];have hAB:B'≤A':=by
    rcases Nat.lt_or_ge A' B' with q | q
    ·have:=Nat.mul_le_mul_left P q;rw[Nat.mul_succ] at this;omega
    ·exact q
   obtain ⟨c,hc⟩:∃c,A'=B'+c:=⟨A'-B',by omega⟩;have e1:P*A'=P*B'+P*c:=by rw[hc,Nat.mul_add]
   have e2:A-B=P*c+(a-b):=by omega
   rw[e2,Nat.mul_add_div hp,Nat.div_eq_of_lt (by omega)];omega
 generalize (A-B) / P=D at *
 have cmp:(P*(A' % 256)+a<P*(B' % 256)+b)↔(A' % 256<B' % 256∨A' % 256=B' % 256∧a<b):=by
  rcases Nat.lt_trichotomy (A' % 256) (B' % 256) with q | q | q
  ·have:=Nat.mul_le_mul_left P q;rw[Nat.mul_succ] at this;constructor
   ·intro _;exact .inl q
   ·intro _;omega
  ·rw[q];constructor
   ·intro h;exact .inr ⟨rfl,by omega⟩
   ·rintro (h | ⟨_,h⟩)<;>omega
  ·have:=Nat.mul_le_mul_left P q;rw[Nat.mul_succ] at this;constructor
   ·intro h;omega
   ·rintro (h | ⟨h,_⟩)<;>omega
 by_cases hab:a<b
 ·simp only[if_pos hab] at key ⊢;constructor
  ·intro h;rw[if_pos (cmp.2 (by omega))];exact ⟨rfl,by omega⟩
  ·intro h;rw[if_neg (fun q=>by have:=cmp.1 q;omega)];exact ⟨rfl,by omega⟩
 ·simp only[if_neg hab] at key ⊢;constructor
  ·intro h;rw[if_pos (cmp.2 (by omega))];exact ⟨rfl,by omega⟩
  ·intro h;rw[if_neg (fun q=>by have:=cmp.1 q;omega)];exact ⟨rfl,by omega⟩
theorem c2g (n:Nat) {A B:Nat} (hle:B≤A) (s4:Wd):∀(k f i:Nat),i+k=16→k<f →
  k0m n f (s4,subL A B i,bys B,((owe A B i:Nat):Int),(i:Int),())=some (.inl (s4,bys (A-B),())):=by
 intro k;induction k with
 | zero =>
  intro f i hi hf;obtain ⟨f,rfl⟩:∃g,f=g+1:=⟨f-1,by omega⟩;have:i=16:=by omega
  subst this;rw[v0y,decide_eq_false (by decide),tff];congr 3
 | succ k ih =>
  intro f i hi hf;obtain ⟨f,rfl⟩:∃g,f=g+1:=⟨f-1,by omega⟩;have hlt:i<16:=by omega
  have g1:=u1d A i;have g2:=u1d B i;have g3:=u1d (A-B) i;have g4:owe A B i≤1:=by unfold owe;split<;>omega
  obtain ⟨s1,s2⟩:=owe_step hle i;have next:=ih f (i+1) (by omega) (by omega);rw[v0y,a1j,e1j,Int.toNat_natCast,u1w _ _ _ hlt,u1e _ hlt,if_neg (Nat.lt_irrefl i)];simp only[decide_eq_true (show (i:Int)<16 by omega),decide_eq_true (show (0:Int)≤(i:Int) by omega),decide_eq_true (show (i:Int)<((16:Nat):Int) by omega),Bool.and_self,tft,obs];rw[w64 (x:=((byt A i:Nat):Int)-((byt B i:Nat):Int)) (by omega) (by omega),w64 (x:=((byt A i:Nat):Int)-((byt B i:Nat):Int)-((owe A B i:Nat):Int)) (by omega) (by omega),w64 (x:=(i:Int)+1) (by omega) (by omega),tfd]
  by_cases h:byt A i<byt B i+owe A B i
  ·obtain ⟨t1,t2⟩:=s1 h;rw[t1] at next;rw[if_pos (by omega),w64 (by omega) (by omega),show ((byt A i:Nat):Int)-((byt B i:Nat):Int)-((owe A B i:Nat):Int)+256=((byt (A-B) i:Nat):Int) by omega,y1e _ _ hlt];exact next
  ·obtain ⟨t1,t2⟩:=s2 (by omega);rw[t1] at next;rw[if_neg (by omega),show ((byt A i:Nat):Int)-((byt B i:Nat):Int)-((owe A B i:Nat):Int)=((byt (A-B) i:Nat):Int) by omega,y1e _ _ hlt];exact next
theorem n1j (n:Nat) {A B:Nat} (hA:A<340282366920938463463374607431768211456) (hle:B≤A):c1m (n+3) (ofN A) (ofN B)=some (ofN (A-B),0):=by
 obtain ⟨ra,ha,hla⟩:=s0l (n+1) hA;obtain ⟨rb,hb,hlb⟩:=s0l (n+1) (Nat.lt_of_le_of_lt hle hA);rw[c2i,r1z n hA (Nat.lt_of_le_of_lt hle hA),obs,decide_eq_false (by omega),tff,ha,obs,hb,obs];rw[show (decide (16=((((((((((((((((1+1)+1)+1)+1)+1)+1)+1)+1)+1)+1)+1)+1)+1)+1)+1) / 1)))=true from rfl,tft,tft];have e0:subL A B 0=bys A:=by unfold subL bys;apply List.map_congr_left;intro j _;rw[if_neg (Nat.not_lt_zero j)]
 have:=c2g (n+2) hle (0,0) 16 a0c 0 rfl (by decide);rw[e0,show owe A B 0=0 by unfold owe;simp[Nat.mod_one],←hla,←hlb] at this
 change a0b (k0m (n+2) a0c ((0,0),l16 ra,l16 rb,((0:Nat):Int),((0:Nat):Int),())) _=_
 rw[this,obs,a0v];exact g2a (n+1) (Nat.lt_of_le_of_lt (Nat.sub_le _ _) hA) (fun r=>some (r,0)) rfl
theorem lo_ofN {b:Nat} (h:b<18446744073709551616):(((0:Int),(b:Int)):Wd)=ofN b:=by
 unfold ofN;rw[Nat.div_eq_of_lt h,Nat.mod_eq_of_lt h];rfl
theorem shr64 (v k:Nat) (hk:k≤64):shrI .i64 (v:Int) (k:Int)=((v / 2^k:Nat):Int):=shrN v k hk
theorem and1 {v:Nat} (h:v<256):andI .i64 (v:Int) (1:Int)=((v % 2:Nat):Int):=by
 unfold andI;have e2:(BitVec.ofInt IntKind.i64.bits (v:Int) &&& BitVec.ofInt IntKind.i64.bits (1:Int)).toNat=v % 2:=by
  show (BitVec.ofInt 64 (v:Int) &&& BitVec.ofInt 64 ((1:Nat):Int)).toNat=_;rw[BitVec.toNat_and,BitVec.ofInt_natCast,BitVec.ofInt_natCast,BitVec.toNat_ofNat,BitVec.toNat_ofNat,Nat.mod_eq_of_lt (by omega),Nat.mod_eq_of_lt (by omega)];exact Nat.and_one_is_mod v
 rw[e2];exact w64 (by omega) (by omega)
theorem orbit {v j:Nat} (h:v<256) (hj:j<8):orI .i64 (v:Int) (shlI .i64 (1:Int) (j:Int))=((v ||| 2^j:Nat):Int):=by
 have hp:2^j<256:=Nat.lt_of_lt_of_le (Nat.pow_lt_pow_right (a:=2) (n:=8) (by decide) hj) (by decide);have e1:shlI .i64 (1:Int) (j:Int)=((2^j:Nat):Int):=by
  show IntKind.wrap .i64 ((1:Int)*2^(min (j:Int).toNat 64))=_;rw[show min (j:Int).toNat 64=j by omega,Int.one_mul];have:(2:Int)^j=((2^j:Nat):Int):=by simp
  rw[this];generalize 2^j=p at hp;exact w64 (by omega) (by omega)
 rw[e1];unfold orI;have e2:(BitVec.ofInt IntKind.i64.bits (v:Int) ||| BitVec.ofInt IntKind.i64.bits ((2^j:Nat):Int)).toNat=v ||| 2^j:=by
  show (BitVec.ofInt 64 (v:Int) ||| BitVec.ofInt 64 ((2^j:Nat):Int)).toNat=_;rw[BitVec.toNat_or,BitVec.ofInt_natCast,BitVec.ofInt_natCast,BitVec.toNat_ofNat,BitVec.toNat_ofNat,Nat.mod_eq_of_lt (by omega),Nat.mod_eq_of_lt (by omega)]
 rw[e2];have:v ||| 2^j<2^8:=Nat.or_lt_two_pow (by omega) (by omega)
 exact w64 (by omega) (by omega)
theorem bys_set {v i:Nat} (hi:i<128) (h:2^(i+1) ∣ v):(bys v).set (i / 8) ((byt v (i / 8) ||| 2^(i % 8):Nat):Int)=bys (v+2^i):=by
 apply List.ext_getElem?;intro j;rw[List.getElem?_set,e1j];by_cases hj:j<16
 ·rw[u1e _ hj,u1e _ hj,byt_or h];by_cases e:i / 8=j
  ·rw[if_pos e,if_pos e,if_pos (by omega),e]
  ·rw[if_neg e,if_neg e]
 ·rw[if_neg (by omega),List.getElem?_eq_none (by rw[e1j];omega),List.getElem?_eq_none (by rw[e1j];omega)]
theorem bit_at (A:Nat) {k:Nat}:IntKind.wrap .u64 (andI .i64 (shrI .i64 ((byt A (k / 8):Nat):Int) ((k % 8:Nat):Int)) (1:Int))=((A / 2^k % 2:Nat):Int):=by
 have hb:=u1d A (k / 8);rw[shr64 _ _ (by omega),and1 (Nat.lt_of_le_of_lt (Nat.div_le_self _ _) hb),bit_byt,wu64 (by omega) (by omega)]
theorem r1w (n:Nat) {A D:Nat} (hA:A<340282366920938463463374607431768211456) (hD:D<340282366920938463463374607431768211456) (hD0:0<D) (s4 s5:Wd):∀(k f q r:Nat),k≤128→A / 2^k=D*q+r→r<D→k<f →
  f0g (n+3) f (ofN D,s4,s5,bys (q*2^k),ofN r,bys A,(k:Int)-1,())=some (.inl (s4,s5,bys (A / D),ofN (A % D),())):=by
 intro k;induction k with
 | zero =>
  intro f q r hk h hr hf;obtain ⟨f,rfl⟩:∃g,f=g+1:=⟨f-1,by omega⟩;rw[Nat.pow_zero,Nat.div_one] at h;obtain ⟨e1,e2⟩:=(Nat.div_mod_unique (a:=A) (c:=r) (d:=q) hD0).2 ⟨by omega,hr⟩;rw[r0c,decide_eq_false (by omega),tff,e1,e2,Nat.pow_zero,Nat.mul_one]
 | succ k ih =>
  intro f q r hk h hr hf;obtain ⟨f,rfl⟩:∃g,f=g+1:=⟨f-1,by omega⟩;obtain ⟨d1,d2⟩:=div_step (L:=0) hD0 h hr;have e1:IntKind.wrap .i64 (Int.tdiv (k:Int) 8)=((k / 8:Nat):Int):=by rw[j0j (by omega),w64 (by omega) (by omega)];omega
  have e2:Int.tmod (k:Int) 8=((k % 8:Nat):Int):=by rw[e0u (by omega)];omega
  have eb:((k+1:Nat):Int)-1=(k:Int):=by omega
  have hk8:k / 8<16:=by omega
  have hbit:A / 2^k % 2<2:=Nat.mod_lt _ (by decide);have hdvd:2^(k+1) ∣ q*2^(k+1):=Nat.dvd_mul_left _ _;have eq1:(2*q+1)*2^k=q*2^(k+1)+2^k:=by rw[Nat.pow_succ,Nat.add_mul,Nat.one_mul,Nat.mul_comm 2 q,Nat.mul_assoc,Nat.mul_comm 2 (2^k)]
  have eq0:(2*q)*2^k=q*2^(k+1):=by rw[Nat.pow_succ,Nat.mul_comm 2 q,Nat.mul_assoc,Nat.mul_comm 2 (2^k)]
  have hset:=bys_set (v:=q*2^(k+1)) (i:=k) (by omega) hdvd;have hob:=orbit (v:=byt (q*2^(k+1)) (k / 8)) (j:=k % 8) (u1d _ _) (by omega);have c1:decide ((0:Int)≤((k / 8:Nat):Int))=true:=decide_eq_true (by omega);have c2:decide (((k / 8:Nat):Int)<(16:Int))=true:=decide_eq_true (by omega);have c3:decide (((k / 8:Nat):Int)<((16:Nat):Int))=true:=decide_eq_true (by omega);have c4:decide (((k % 8:Nat):Int)<(0:Int))=false:=decide_eq_false (by omega);rw[r0c,eb,decide_eq_true (by omega),tft,a1r (n+1) (by omega) (by omega),obs]
  simp only[e1,e2,e1j,c1,c2,c3,c4,Bool.and_self,tft,tff,Int.toNat_natCast,u1e _ hk8,obs,bit_at,hob,hset];rw[w64 (x:=(k:Int)-1) (by omega) (by omega),lo_ofN (b:=A / 2^k % 2) (by omega)];generalize hb:A / 2^k % 2=b at *
  by_cases hov:r+r<340282366920938463463374607431768211456
  ·rw[if_pos hov];simp only[decide_true,Bool.not_true,tff];rw[a1r (n+1) hov (by omega),obs,if_pos (by omega)];simp only;rw[r1z (n+1) (by omega) hD,obs,tfn,tfd];by_cases hlt:r+r+b<D
   ·rw[if_pos hlt];have:=ih f (2*q) (r+r+b) (by omega) (by rw[d2 (by omega)];omega) hlt (by omega);rw[eq0] at this;exact this
   ·obtain ⟨t1,t2⟩:=d1 (by omega);rw[if_neg hlt,n1j n (by omega) (by omega),obs];have:=ih f (2*q+1) (r+r+b-D) (by omega) (by rw[t1];omega) (by omega) (by omega);rw[eq1] at this;exact this
  ·rw[if_neg hov];simp only[show (decide ((1:Int)=0))=false from rfl,Bool.not_false,tft];obtain ⟨t1,t2⟩:=d1 (by omega);rw[n1j n hD (by omega),obs];simp only;rw[n1j n (by omega) (by omega),obs];simp only;rw[a1r (n+1) (by omega) (by omega),obs,if_pos (by omega)];simp only;have:=ih f (2*q+1) (r-(D-r)+b) (by omega) (by rw[t1];omega) (by omega) (by omega);rw[eq1] at this;exact this
theorem r02_whole (n:Nat) {A D:Nat} (hA:A<340282366920938463463374607431768211456) (hD:D<340282366920938463463374607431768211456):r1y (n+4) (ofN A) (ofN D)=some (if D=0 then (ofN 0,ofN A) else (ofN (A / D),ofN (A % D))):=by
 rw[r1x,y1x,tfd];by_cases h0:D=0
 ·rw[if_pos h0,if_pos h0];rfl
 ·obtain ⟨ra,ha,hla⟩:=s0l (n+2) hA;rw[if_neg h0,if_neg h0,ha,obs];rw[show (decide (16=((((((((((((((((1+1)+1)+1)+1)+1)+1)+1)+1)+1)+1)+1)+1)+1)+1)+1) / 1)))=true from rfl,tft];have:=r1w n hA hD (by omega) (0,0) (0,0) 128 a0c 0 0 (Nat.le_refl _) (by rw[Nat.mul_zero];exact Nat.div_eq_of_lt hA) (by omega) (by unfold a0c;omega);rw[Nat.zero_mul,show bys 0=List.replicate 16 (0:Int) from rfl,←hla,show (((128:Nat):Int)-1)=127 from rfl,←x1y] at this
  change a0b (f0g (n+3) a0c (ofN D,(0,0),(0,0),List.replicate 16 (0:Int),(0,0),l16 ra,127,())) _=_
  rw[this,obs,a0v];exact g2a (n+2) (Nat.lt_of_le_of_lt (Nat.div_le_self _ _) hA) (fun r=>some (r,ofN (A % D))) rfl
def redV (x y:Nat):(Wd×Wd)×Int:=if y=0 then (((0,0),(0,0)),1) else ((ofN (x / Nat.gcd x y),ofN (y / Nat.gcd x y)),0)
theorem r1a (n:Nat) {x y:Nat} (hx:x<340282366920938463463374607431768211456) (hy:y<340282366920938463463374607431768211456):q0q (n+5) (ofN x) (ofN y)=some (redV x y):=by
 rw[b1w,e0q,obs,tfd];unfold redV;by_cases h:y=0
 ·rw[if_pos h,if_pos h]
 ·have hg:0<Nat.gcd x y:=Nat.gcd_pos_of_pos_right x (by omega);have hl:Nat.gcd x y<340282366920938463463374607431768211456:=Nat.lt_of_le_of_lt (Nat.gcd_le_right x (by omega)) hy;rw[if_neg h,if_neg h,f2m n hx hy,obs,q0o n hx hg hl,obs,q0o n hy hg hl,obs]
def rateV (a:Wd) (ms:Int):(Wd×Wd)×Int :=
 if ms=0 then (((0,0),(0,0)),12) else if wv a*1000<340282366920938463463374607431768211456 then redV (wv a*1000).toNat ms.toNat else (((0,0),(0,0)),1)
theorem b2v {a:Wd} (ha:WdOk a) {ms:Int} (hm:0≤ms∧ms≤18446744073709551615) (h:wv a*1000<340282366920938463463374607431768211456):mkW (wv a*1000)=ofN (wv a*1000).toNat∧(wv a*1000).toNat<340282366920938463463374607431768211456∧(((0:Int),ms):Wd)=ofN ms.toNat∧ms.toNat<340282366920938463463374607431768211456:=by
 obtain ⟨h1,h2⟩:=d0p ha;have e:wv a*1000=(((wv a*1000).toNat:Nat):Int):=by omega
 refine ⟨?_,by omega,?_,by omega⟩
 ·conv=>lhs;rw[e]
  exact y0f _
 ·rw[←lo_ofN (by omega)];congr 1;omega
theorem b2u (n:Nat) {a:Wd} (ha:WdOk a) {ms:Int} (hm:0≤ms∧ms≤18446744073709551615):x0q (n+6) a ms=some (rateV a ms):=by
 rw[m1v,tfd];unfold rateV;by_cases h0:ms=0
 ·rw[if_pos h0,if_pos h0]
 rw[if_neg h0,if_neg h0,k1a (n+3) ha 1000 (by omega),obs];unfold b1j;by_cases h:wv a*1000<340282366920938463463374607431768211456
 ·obtain ⟨p1,p2,p3,p4⟩:=b2v ha hm h;rw[if_pos h,if_pos h];simp only[decide_true,Bool.not_true,tff];rw[b1b,obs,p1,p3,r1a n p2 p4,obs]
 ·rw[if_neg h,if_neg h];rfl
section
variable {del:Ev×Unit→Option Bool} {p:Ev→Bool} {L:List Ev} (hd:∀x∈L,del (x,())=some (p x))
include hd
end
def WidP (w:Int):Prop:=1≤w∧w≤1099511627776
instance (w:Int):Decidable (WidP w):=by unfold WidP;infer_instance
def RngP (a b:Int):Prop:=0≤a∧b≤35184372088832∧a<b
instance (a b:Int):Decidable (RngP a b):=by unfold RngP;infer_instance
def o0q (a b w:Int):Int×(Int×Int):=if WidP w∧RngP a b then (if a % w=0∧b % w=0 then (a / w,(b / w,0)) else (0,(0,10))) else (0,(0,1))
theorem f2a {w:Int} (a b:Int) (hw:WidP w) :
  (tif (decide (a<(0:Int))) (some ((0:Int),((0:Int),(1:Int)))) (
  tif (decide ((35184372088832:Int)<b)) (some ((0:Int),((0:Int),(1:Int)))) (
  tif (decide (b≤a)) (some ((0:Int),((0:Int),(1:Int)))) (
  tif (decide (w=(0:Int))) none (
  tif (!(decide ((Int.tmod a w)=(0:Int)))) (some ((0:Int),((0:Int),(10:Int)))) (
  tif (decide (w=(0:Int))) none (
  tif (!(decide ((Int.tmod b w)=(0:Int)))) (some ((0:Int),((0:Int),(10:Int)))) (
  tif (decide (w=(0:Int))) none (
  tif (decide (w=(0:Int))) none (
  some ((IntKind.wrap .i64 (Int.tdiv a w)),((IntKind.wrap .i64 (Int.tdiv b w)),(0:Int)))))))))))))=some (o0q a b w):=by
 obtain ⟨w1,w2⟩:=hw;unfold o0q;simp only[tfd,tfn];by_cases h:RngP a b
 ·obtain ⟨h1,h2,h3⟩:=h;have qa:0≤a / w∧a / w≤a:=⟨Int.ediv_nonneg h1 (by omega),Int.ediv_le_self _ h1⟩;have qb:0≤b / w∧b / w≤b:=⟨Int.ediv_nonneg (by omega) (by omega),Int.ediv_le_self _ (by omega)⟩;rw[if_neg (by omega),if_neg (by omega),if_neg (by omega),if_neg (by omega),if_pos (show WidP w∧RngP a b from ⟨⟨w1,w2⟩,h1,h2,h3⟩),e0u h1,e0u (show 0≤b by omega),j0j h1,j0j (show 0≤b by omega),w64 (by omega) (by omega),w64 (by omega) (by omega)];by_cases ha:a % w=0
  ·rw[if_pos ha,if_neg (by omega)];by_cases hb:b % w=0
   ·rw[if_pos hb,if_neg (by omega),if_neg (by omega),if_pos ⟨ha,hb⟩]
   ·rw[if_neg hb,if_neg (fun k=>hb k.2)]
  ·rw[if_neg ha,if_neg (fun k=>ha k.1)]
 ·rw[if_neg (show ¬(WidP w∧RngP a b) from fun k=>h k.2)];by_cases h1:a<0
  ·rw[if_pos h1]
  rw[if_neg h1];by_cases h2:35184372088832<b
  ·rw[if_pos h2]
  rw[if_neg h2,if_pos (by unfold RngP at h;omega)]
theorem x0d (n:Nat) (a b w:Int):f0v (n+3) a b w=some (o0q a b w):=by
 rw[a2r,b1c,wi_in,obs,obs,tfn,tfd];by_cases h:WidP w
 ·rw[if_pos (show 1≤w∧w≤1099511627776 from h)];exact f2a a b h
 ·rw[if_neg (show ¬(1≤w∧w≤1099511627776) from h)];unfold o0q;rw[if_neg (fun k=>h k.1)]
noncomputable def oneV (s:Sta) (k a b:Int):Int :=
 if (o0q a b (g0b s.1 k)).2.2=0 then (if (o0q a b (g0b s.1 k)).1<(oldV s.2.1 (g0b s.1 k) (b2b s.1 k)).1 then 11 else 0) else (o0q a b (g0b s.1 k)).2.2
theorem kept_ok {s:Sta} (h:StaOk s) {k:Int} (h0:0≤k) (h2:k≤2):keptV s k=((oldV s.2.1 (g0b s.1 k) (b2b s.1 k)).1,(s.2.1 / g0b s.1 k,0)):=by
 unfold keptV;rw[if_pos h,if_neg (by omega)]
theorem tier3 {t:Int} (h1:1≤t) (h3:t≤3):IntKind.wrap .i64 (t-1)=t-1:=w64 (by omega) (by omega)
theorem w0b (n:Nat) {s:Sta} (hw:StaW s) (h:StaOk s) {t:Int} (h1:1≤t) (h3:t≤3) (a b:Int):n0r (n+17) s t a b=some (oneV s (t-1) a b):=by
 rw[r0d,tier3 h1 h3];have hk:=kept_ok h (k:=t-1) (by omega) (by omega);unfold oneV;rcases (by omega:t=1∨t=2∨t=3) with e | e | e<;>subst e
 ·rw[show ((1:Int)-1)=0 from rfl] at hk ⊢;rw[decide_eq_true (show (0:Int)=0 from rfl),tft]
  change a0b (f0v _ a b (g0b s.1 0)) _=_
  rw[x0d (n+13),obs,tfn,tfd,o1z n hw 0,hk,obs];by_cases hs:(o0q a b (g0b s.1 0)).2.2=0
  ·rw[if_pos hs,if_pos hs,decide_eq_true rfl,tft,tfd];split<;>rfl
  ·rw[if_neg hs,if_neg hs]
 ·rw[show ((2:Int)-1)=1 from rfl] at hk ⊢;rw[decide_eq_false (show ¬((1:Int)=0) by decide),tff];rw[decide_eq_true (show (1:Int)=1 from rfl),tft]
  change a0b (f0v _ a b (g0b s.1 1)) _=_
  rw[x0d (n+13),obs,tfn,tfd,o1z n hw 1,hk,obs];by_cases hs:(o0q a b (g0b s.1 1)).2.2=0
  ·rw[if_pos hs,if_pos hs,decide_eq_true rfl,tft,tfd];split<;>rfl
  ·rw[if_neg hs,if_neg hs]
 ·rw[show ((3:Int)-1)=2 from rfl] at hk ⊢;rw[decide_eq_false (show ¬((2:Int)=0) by decide),tff];rw[decide_eq_false (show ¬((2:Int)=1) by decide),tff];rw[decide_eq_true (show (2:Int)=2 from rfl),tft]
  change a0b (f0v _ a b (g0b s.1 2)) _=_
  rw[x0d (n+13),obs,tfn,tfd,o1z n hw 2,hk,obs];by_cases hs:(o0q a b (g0b s.1 2)).2.2=0
  ·rw[if_pos hs,if_pos hs,decide_eq_true rfl,tft,tfd];split<;>rfl
  ·rw[if_neg hs,if_neg hs]
theorem span_why (a b w:Int):(o0q a b w).2.2=0∨(o0q a b w).2.2=1∨(o0q a b w).2.2=10:=by
 unfold o0q;split
 ·split
  ·exact .inl rfl
  ·exact .inr (.inr rfl)
 ·exact .inr (.inl rfl)
theorem g2q (s:Sta) (k a b:Int):oneV s k a b=0∨oneV s k a b=1∨oneV s k a b=10∨oneV s k a b=11:=by
 unfold oneV;rcases span_why a b (g0b s.1 k) with h | h | h<;>rw[h]
 ·rw[if_pos rfl];split
  ·exact .inr (.inr (.inr rfl))
  ·exact .inl rfl
 ·exact .inr (.inl rfl)
 ·exact .inr (.inr (.inl rfl))
noncomputable def c0o (s:Sta) (a b:Int):Nat→Int→Int→Int×Int
 | 0,_,why=>(0,why)
 | d+1,t,why=>if oneV s (t-1) a b=0 then (t,0) else if oneV s (t-1) a b=1 then (0,1) else c0o s a b d (t+1) (if oneV s (t-1) a b=11 then 11 else why)
theorem e2j {s:Sta} {a b t:Int} (e:oneV s (t-1) a b=0) (d:Nat) (why:Int):c0o s a b (d+1) t why=(t,0):=by
 conv=>lhs;unfold c0o
 rw[if_pos e]
theorem e2i {s:Sta} {a b t:Int} (e:oneV s (t-1) a b=1) (d:Nat) (why:Int):c0o s a b (d+1) t why=(0,1):=by
 conv=>lhs;unfold c0o
 rw[if_neg (by omega),if_pos e]
theorem y1c {s:Sta} {a b t:Int} (e:oneV s (t-1) a b=10) (d:Nat) (why:Int):c0o s a b (d+1) t why=c0o s a b d (t+1) why:=by
 conv=>lhs;unfold c0o
 rw[if_neg (by omega),if_neg (by omega),if_neg (by omega)]
theorem y1b {s:Sta} {a b t:Int} (e:oneV s (t-1) a b=11) (d:Nat) (why:Int):c0o s a b (d+1) t why=c0o s a b d (t+1) 11:=by
 conv=>lhs;unfold c0o
 rw[if_neg (by omega),if_neg (by omega),if_pos e]
theorem f1l (n:Nat) {s:Sta} (hw:StaW s) (h:StaOk s) (a b:Int):∀(d f:Nat) (t why:Int),1≤t→t+d=4→d<f →
  c0n (n+17) f (a,b,s,why,t,())=some (if (c0o s a b d t why).2=0 then .inr (c0o s a b d t why) else if (c0o s a b d t why).2=1 then .inr (c0o s a b d t why) else .inl ((c0o s a b d t why).2,()))∨(why≠10∧why≠11):=by
 intro d;induction d with
 | zero =>
  intro f t why h1 ht hf;obtain ⟨f,rfl⟩:∃g,f=g+1:=⟨f-1,by omega⟩;by_cases hy:why≠10∧why≠11
  ·exact .inr hy
  refine .inl ?_;rw[j0f,decide_eq_false (by omega),tff];unfold c0o;rw[if_neg (by simp only;omega),if_neg (by simp only;omega)]
 | succ d ih =>
  intro f t why h1 ht hf;obtain ⟨f,rfl⟩:∃g,f=g+1:=⟨f-1,by omega⟩;by_cases hy:why≠10∧why≠11
  ·exact .inr hy
  refine .inl ?_;rw[j0f,decide_eq_true (by omega),tft,w0b n hw h h1 (by omega),obs,w64 (by omega) (by omega)];simp only[tfd];rcases g2q s (t-1) a b with e | e | e | e
  ·rw[e2j e,e,if_pos rfl,if_pos rfl]
  ·rw[e2i e,e,if_neg (by decide),if_neg (by decide),if_neg (by decide),if_neg (by decide),if_pos rfl]
  ·rw[y1c e,e,if_neg (by decide),if_pos rfl];exact (ih f (t+1) why (by omega) (by omega) (by omega)).resolve_right hy
  ·rw[y1b e,e,if_neg (by decide),if_neg (by decide),if_pos rfl];exact (ih f (t+1) 11 (by omega) (by omega) (by omega)).resolve_right (by decide)
theorem w1r (n:Nat) {s:Sta} (hw:StaW s) (h:StaOk s) (a b:Int):l0n (n+18) s a b=some (c0o s a b 3 1 10):=by
 rw[w0a]
 change a0b (c0n (n+17) a0c (a,b,s,10,1,())) _=_
 rw[(f1l n hw h a b 3 a0c 1 10 (by decide) rfl (by unfold a0c;omega)).resolve_right (by decide),obs];split
 ·rfl
 ·split
  ·rfl
  ·rename_i h0 h1;rw[a0v];have hz:(c0o s a b 3 1 10).1=0:=by
    have key:∀(d:Nat) (t why:Int),(c0o s a b d t why).2≠0→(c0o s a b d t why).1=0:=by
     intro d;induction d with
     | zero=>intro t why _;rfl
     | succ d ih =>
      intro t why;unfold c0o;split
      ·intro k;exact absurd rfl k
      ·split
       ·intro _;rfl
       ·exact ih _ _
    exact key 3 1 10 h0
   exact congrArg some (Prod.ext hz.symm rfl)
noncomputable def b0u (s:Sta) (t a b:Int):Int×Int :=
 if StaOk s then (if t<0∨3<t then (0,1) else if t=0 then c0o s a b 3 1 10 else if oneV s (t-1) a b=0 then (t,0) else (0,oneV s (t-1) a b)) else (0,2)
theorem x0y (n:Nat) {s:Sta} (hw:StaW s) (t a b:Int):g0y (n+19) s t a b=some (b0u s t a b):=by
 rw[p0c,l0b (n+4) hw,obs,tfn,tfd];unfold b0u;by_cases h:StaOk s
 case neg=>rw[if_neg h,if_neg h];rfl
 rw[if_pos h,if_pos h,if_pos rfl];simp only[tfd,tfn];by_cases h0:t<0
 ·rw[if_pos h0,if_pos (.inl h0)]
 by_cases h3:3<t
 ·rw[if_neg h0,if_pos h3,if_pos (.inr h3)]
 rw[if_neg h0,if_neg h3,if_neg (show ¬(t<0∨3<t) by omega)];by_cases hz:t=0
 ·rw[if_pos hz,if_pos hz,w1r n hw h,obs]
 ·rw[if_neg hz,if_neg hz,w0b (n+1) hw h (by omega) (by omega),obs];by_cases ho:oneV s (t-1) a b=0
  ·rw[if_pos ho,if_pos ho]
  ·rw[if_neg ho,if_neg ho]
def rateC (c:Cel):(Wd×Wd)×Int:=if c.2.2.2.2.2.2<1 then (((0,0),(0,0)),12) else rateV c.2.2.2.1 c.2.2.2.2.2.2
theorem c2k (n:Nat) {c:Cel} (hw:WdOk c.2.2.2.1) (hs:c.2.2.2.2.2.2≤9223372036854775807):n0s (n+7) c=some (rateC c):=by
 rw[n1m,tfd];unfold rateC;by_cases h:c.2.2.2.2.2.2<1
 ·rw[if_pos h,if_pos h]
 ·rw[if_neg h,if_neg h,wu64 (by omega) (by omega),b2u n hw ⟨by omega,by omega⟩,obs]
theorem b2q (n:Nat) (c:Conf) {s:Ser} (hw:SerW s) {k:Int} (h0:0≤k) (h2:k≤2) (i j:Int):c0l (n+22) c s k i j=some (q0r c s k i j):=by
 unfold q0r;rcases (by omega:k=0∨k=1∨k=2) with e | e | e
 ·subst e;rw[if_pos rfl];exact m1l n c hw i j
 ·subst e;rw[if_neg (by decide),if_pos rfl];exact m1k n c hw i j
 ·subst e;rw[if_neg (by decide),if_neg (by decide)];exact m1j n c hw i j
theorem f2b {a b w:Int} (h:(o0q a b w).2.2=0):WidP w∧RngP a b∧a % w=0∧b % w=0∧o0q a b w=(a / w,(b / w,0))∧0≤a / w∧a / w≤b / w:=by
 unfold o0q at h ⊢;split at h
 ·rename_i h1;split at h
  ·rename_i h2;rw[if_pos h1,if_pos h2];exact ⟨h1.1,h1.2,h2.1,h2.2,rfl,Int.ediv_nonneg h1.2.1 (by have:=h1.1.1;omega),Int.ediv_le_ediv (by have:=h1.1.1;omega) (Int.le_of_lt h1.2.2.2)⟩
  ·cases h
 ·cases h
theorem one_ok {s:Sta} {k a b:Int} (h:oneV s k a b=0):(o0q a b (g0b s.1 k)).2.2=0∧(oldV s.2.1 (g0b s.1 k) (b2b s.1 k)).1≤(o0q a b (g0b s.1 k)).1:=by
 unfold oneV at h;split at h
 ·rename_i h1;split at h
  ·cases h
  ·exact ⟨h1,by omega⟩
 ·rename_i h1;exact absurd h h1
theorem which_ok {s:Sta} {a b:Int}:∀(d:Nat) (t why:Int),why≠0→(c0o s a b d t why).2=0→t≤(c0o s a b d t why).1∧(c0o s a b d t why).1<t+d∧oneV s ((c0o s a b d t why).1-1) a b=0:=by
 intro d;induction d with
 | zero=>intro t why hw h;exact absurd h hw
 | succ d ih =>
  intro t why hw h;rcases g2q s (t-1) a b with e | e | e | e
  ·rw[e2j e];exact ⟨by simp only;omega,by simp only;omega,e⟩
  ·rw[e2i e] at h;cases h
  ·rw[y1c e] at h ⊢;obtain ⟨h1,h2,h3⟩:=ih (t+1) why hw h;exact ⟨by omega,by omega,h3⟩
  ·rw[y1b e] at h ⊢;obtain ⟨h1,h2,h3⟩:=ih (t+1) 11 (by decide) h;exact ⟨by omega,by omega,h3⟩
theorem u1o {s:Sta} {t a b:Int} (h:(b0u s t a b).2=0):StaOk s∧1≤(b0u s t a b).1∧(b0u s t a b).1≤3∧oneV s ((b0u s t a b).1-1) a b=0∧0≤t∧t≤3∧(1≤t→(b0u s t a b).1=t):=by
 unfold b0u at h ⊢;by_cases hs:StaOk s
 case neg=>rw[if_neg hs] at h;cases h
 rw[if_pos hs] at h ⊢;by_cases h1:t<0∨3<t
 ·rw[if_pos h1] at h;cases h
 rw[if_neg h1] at h ⊢;by_cases h0:t=0
 ·rw[if_pos h0] at h ⊢;obtain ⟨k1,k2,k3⟩:=which_ok 3 1 10 (by decide) h;exact ⟨hs,k1,by omega,k3,by omega,by omega,by omega⟩
 ·rw[if_neg h0] at h ⊢;by_cases ho:oneV s (t-1) a b=0
  ·rw[if_pos ho];exact ⟨hs,by simp only;omega,by simp only;omega,ho,by omega,by omega,fun _=>rfl⟩
  ·rw[if_neg ho] at h;exact absurd h ho
noncomputable def j1w (s:Sta) (l:List Lab) (k a b:Int):Cel :=
 match p0w s l with
 | some i=>(q0r s.1 ((s.2.2.2[i]?).getD ser0) k (a / g0b s.1 k) (b / g0b s.1 k)).1
 | none=>z0
theorem found {s:Sta} (hs:StaOk s) {l:List Lab} {i:Nat} (h:p0w s l=some i):∃x,s.2.2.2[i]? = some x∧x.1=l∧LvX s x∧SerOk s.1 x:=by
 obtain ⟨x,hx,h1,h2,_⟩:=y0n.1 h;exact ⟨x,hx,h1,h2,(x1d hs (List.mem_of_getElem? hx) h2).1⟩
theorem s1c (n:Nat) {s:Sta} (hw:StaW s) (hs:StaOk s) {q:List Lab×(Int×(Int×Int))} {k:Int} (h0:0≤k) (h2:k≤2) (ho:oneV s k q.2.2.1 q.2.2.2=0):w0c (n+23) s q k=some (j1w s q.1 k q.2.2.1 q.2.2.2,0):=by
 obtain ⟨l,t,a,b⟩:=q;simp only at ho ⊢;rw[t0z];simp only;rw[stt_find (n+12) hw l,obs,tfn,tfd];unfold j1w;cases hf:p0w s l with
 | none=>rw[d2n hs.whole hf,if_neg (show ¬((3:Int)=0) by decide)];rfl
 | some i =>
  obtain ⟨x,hx,hxl,hlv,hok⟩:=found hs hf;obtain ⟨s1,s2⟩:=one_ok ho;obtain ⟨_,_,_,_,e,e1,e2⟩:=f2b s1;have hfine:=v1r hok k e1 e2;rw[d2m hs.whole hf,if_pos rfl];simp only[hx,Option.getD_some];have fin:∀(x':Ser),x'=x→a0b (c0l (n+22) s.1 x' k (a / g0b s.1 k) (b / g0b s.1 k)) (fun r=>some r)=some ((q0r s.1 x k (a / g0b s.1 k) (b / g0b s.1 k)).1,0):=by
   rintro x' rfl;rw[b2q n s.1 (hw.at hx).1 h0 h2,obs];exact congrArg some (Prod.ext rfl hfine)
  rcases (by omega:k=0∨k=1∨k=2) with ek | ek | ek<;>subst ek
  ·rw[decide_eq_true rfl,tft]
   change a0b (f0v (n+22) a b (g0b s.1 0)) _=_
   rw[x0d (n+19),obs,e];simp only[decide_true,Bool.not_true,tff];rw[e1n hx,obs];exact fin x rfl
  ·rw[decide_eq_false (show ¬((1:Int)=0) by decide),tff,decide_eq_true rfl,tft]
   change a0b (f0v (n+22) a b (g0b s.1 1)) _=_
   rw[x0d (n+19),obs,e];simp only[decide_true,Bool.not_true,tff];rw[e1n hx,obs];exact fin x rfl
  ·rw[decide_eq_false (show ¬((2:Int)=0) by decide),tff,decide_eq_false (show ¬((2:Int)=1) by decide),tff,decide_eq_true rfl,tft]
   change a0b (f0v (n+22) a b (g0b s.1 2)) _=_
   rw[x0d (n+19),obs,e];simp only[decide_true,Bool.not_true,tff];rw[e1n hx,obs];exact fin x rfl
theorem mrgE_okc (a b:Cel):b0f (mrgE a b).1:=by
 unfold mrgE;split
 ·rename_i h;split
  ·rename_i ha;exact s1s h.1 h.2 ha
  ·exact r0k
 ·exact r0k
theorem x0t (ok:Prop) [Decidable ok] (i j last w:Int) (t:List Slo) (now:Cel×Int):b0f (d0r ok i j last w t now).1:=by
 unfold d0r;split
 ·split
  ·exact r0k
  split
  ·exact r0k
  split
  ·exact r0k
  split
  ·exact u0x _ _ _
  split
  ·exact u0x _ _ _
  split
  ·exact r0k
  ·exact mrgE_okc _ _
 ·exact r0k
theorem b2w (c:Conf) (s:Ser) (k i j:Int):b0f (q0r c s k i j).1:=by
 unfold q0r;split
 ·exact x0t _ _ _ _ _ _ _
 split
 ·exact x0t _ _ _ _ _ _ _
 ·exact x0t _ _ _ _ _ _ _
theorem a2d (s:Sta) (l:List Lab) (k a b:Int):b0f (j1w s l k a b):=by
 unfold j1w;split
 ·exact b2w _ _ _ _ _
 ·exact r0k
theorem e1i {c:Cel} (h:b0f c):WdOk c.2.2.2.1∧c.2.2.2.2.2.2≤9223372036854775807:=by
 rcases h with rfl | h
 ·exact ⟨⟨by simp[z0],by simp[z0]⟩,by simp[z0]⟩
 ·have h1:=h.s1;have h2:=h.l.t1;have h3:=h.f.t0;exact ⟨h.w,by omega⟩
abbrev zr:Int×(Cel×((Wd×Wd)×Int)):=(0,(z0,(((0,0),(0,0)),0)))
noncomputable def doQ (s:Sta) (l:List Lab) (t a b:Int):(Int×(Cel×((Wd×Wd)×Int)))×Int :=
 if StaOk s then (if LabOk l then (if (b0u s t a b).2=0 then (((b0u s t a b).1,(j1w s l ((b0u s t a b).1-1) a b,rateC (j1w s l ((b0u s t a b).1-1) a b))),0) else (zr,(b0u s t a b).2)) else (zr,8)) else (zr,2)
theorem n1k (n:Nat) {s:Sta} (hw:StaW s) (l:List Lab):r0f (n+15) s l=some (if StaOk s then (if LabOk l then 0 else 8) else 2):=by
 rw[r0e,l0b n hw,obs,tfn,tfd];by_cases h:StaOk s
 ·rw[if_pos h,if_pos h,if_pos rfl,u0e (n+8) l,obs]
 ·rw[if_neg h,if_neg h,if_neg (by decide)]
theorem query_do (n:Nat) {s:Sta} (hw:StaW s) (q:List Lab×(Int×(Int×Int))):w0d (n+24) s q=some (doQ s q.1 q.2.1 q.2.2.1 q.2.2.2):=by
 rw[u0a,n1k (n+8) hw,obs,tfn,tfd];unfold doQ;by_cases h:StaOk s
 case neg=>rw[if_neg h,if_neg h,if_neg (by decide)];rfl
 rw[if_pos h,if_pos h];by_cases hl:LabOk q.1
 case neg=>rw[if_neg hl,if_neg hl,if_neg (by decide)];rfl
 rw[if_pos hl,if_pos hl,if_pos rfl,x0y (n+4) hw,obs,tfn,tfd];by_cases ht:(b0u s q.2.1 q.2.2.1 q.2.2.2).2=0
 case neg=>rw[if_neg ht,if_neg ht];rfl
 obtain ⟨_,t1,t3,ho,_⟩:=u1o ht;have hr:=e1i (a2d s q.1 ((b0u s q.2.1 q.2.2.1 q.2.2.2).1-1) q.2.2.1 q.2.2.2);rw[if_pos ht,if_pos ht,w64 (by omega) (by omega),s1c n hw h (by omega) (by omega) ho,obs];simp only[decide_true,Bool.not_true,tff];rw[c2k (n+16) hr.1 hr.2,obs]
def valOf:List Lab→List UInt8→List UInt8
 | [],_=>[]
 | x::l,nm=>if (x.1==nm)=true then x.2 else valOf l nm
theorem k1c (nm:List UInt8):∀(A B:List Lab),(∀y∈A,(y.1==nm)=false)→valOf (A++B) nm=valOf B nm:=by
 intro A;induction A with
 | nil=>intro B _;rfl
 | cons x A ih =>
  intro B h;rw[List.cons_append,valOf,h x (by simp),if_neg (by decide),ih B fun y hy=>h y (by simp[hy])]
theorem a2v (nm:List UInt8) (l:List Lab) (h:∀y∈l,(y.1==nm)=false):valOf l nm=[]:=by
 have:=k1c nm l [] h;rw[List.append_nil] at this;rw[this];rfl
def hitM (m:Int×Lab) (l:List Lab):Bool :=
 if m.1=1 then valOf l m.2.1==m.2.2 else if m.1=2 then !(valOf l m.2.1==m.2.2) else if m.1=3 then decide (m.2.2.length≤(valOf l m.2.1).length)&&(List.take m.2.2.length (valOf l m.2.1)==m.2.2) else false
def t0q (ms:List (Int×Lab)) (l:List Lab):Bool:=ms.all fun m=>hitM m l
def MatR (m:Int×Lab):Prop:=1≤m.1∧m.1≤3∧LabOk [m.2]
def p0r (ms:List (Int×Lab)):Prop:=ms.length≤16∧∀m∈ms,MatR m
noncomputable instance (m:Int×Lab):Decidable (MatR m):=Classical.propDecidable _
noncomputable instance (ms:List (Int×Lab)):Decidable (p0r ms):=Classical.propDecidable _
theorem h2m (n:Nat) {del:Lab×Unit→Option Bool} {p:Lab→Bool} (hd:∀x,del (x,())=some (p x)) (l:List Lab) (hL:l.length≤1000000):∀(rest pre:List Lab) (f:Nat) (i len:Int),l=pre++rest→i=pre.length→len=l.length→rest.length<f →
  (c0j n f (l,del,len,i,())=some (.inl ())∧∀x∈rest,p x=false) ∨
  (∃A x B,rest=A++x::B∧(∀y∈A,p y=false)∧p x=true∧c0j n f (l,del,len,i,())=some (.inr (i+A.length))):=by
 intro rest;induction rest with
 | nil =>
  intro pre f i len hl hi hn hf;obtain ⟨f,rfl⟩:∃g,f=g+1:=⟨f-1,by simp at hf;omega⟩;rw[g0t];exact .inl ⟨by simp only[tfd,if_neg (idxe hl hi hn)],by simp⟩
 | cons x rest ih =>
  intro pre f i len hl hi hn hf;obtain ⟨f,rfl⟩:∃g,f=g+1:=⟨f-1,by simp at hf;omega⟩;rw[g0t];simp only[tfd,if_pos (idx hl hi hn),b0o hl hi,obs,hd,idxw hl hi (show l.length≤1000000000000 by omega)];cases hp:p x with
  | true=>exact .inr ⟨[],x,rest,rfl,by simp,hp,by simp⟩
  | false =>
   rw[tff];rcases ih (pre++[x]) f (i+1) len (idxl hl) (idxs hi) hn (by simp at hf;omega) with ⟨h1,h2⟩ | ⟨A,y,B,h1,h2,h3,h4⟩
   ·exact .inl ⟨h1,by intro z hz;rcases List.mem_cons.1 hz with rfl | hz;exact hp;exact h2 z hz⟩
   ·refine .inr ⟨x::A,y,B,by rw[h1];rfl,?_,h3,by rw[h4,List.length_cons,show i+1+(A.length:Int)=i+((A.length+1:Nat):Int) by omega]⟩;intro z hz;rcases List.mem_cons.1 hz with rfl | hz
    ·exact hp
    ·exact h2 z hz
theorem x1g (n:Nat) (l:List Lab) (hL:l.length≤1000000) (nm:List UInt8):u0f (n+2) l nm=some (valOf l nm):=by
 rw[j1n,q0h];rcases h2m n (del:=fun y0=>p0l (n+1) y0.1 nm) (p:=fun x=>x.1==nm) (fun x=>a1a n x nm) l hL l [] a0c 0 l.length rfl rfl rfl (by unfold a0c;omega) with ⟨h1,h2⟩ | ⟨A,x,B,h1,h2,h3,h4⟩
 ·rw[h1,a2v nm l h2];rfl
 ·rw[h4];simp only[obs,j0d];rw[decide_eq_false (by omega),tff,b0o h1 (by omega),obs,h1,k1c nm A _ h2,valOf,if_pos h3]
theorem d2i (n:Nat) (s p:List UInt8):strings_HasPrefix (n+2) s p=some (decide (p.length≤s.length)&&(List.take p.length s==p)):=by
 rw[s0t,n0f];by_cases h:p.length≤s.length
 ·rw[decide_eq_true (show ((p.length:Nat):Int)≤((s.length:Nat):Int) by omega),decide_eq_true (show (0:Int)≤((p.length:Nat):Int) by omega),decide_eq_true h,Int.toNat_natCast,List.drop_zero];rfl
 ·rw[decide_eq_false (show ¬((p.length:Nat):Int)≤((s.length:Nat):Int) by omega),decide_eq_false h];rfl
theorem c2w (n:Nat) (m:Int×Lab) (l:List Lab) (hL:l.length≤1000000):y0h (n+3) m l=some (hitM m l):=by
 rw[n1x,x1g n l hL,obs,tfd,tfd,tfd,d2i];unfold hitM;by_cases h1:m.1=1
 ·rw[if_pos h1,if_pos h1]
 rw[if_neg h1,if_neg h1];by_cases h2:m.1=2
 ·rw[if_pos h2,if_pos h2]
 rw[if_neg h2,if_neg h2];by_cases h3:m.1=3
 ·rw[if_pos h3,if_pos h3];rfl
 ·rw[if_neg h3,if_neg h3]
theorem h2l (n:Nat) {del:(Int×Lab)×Unit→Option Bool} {p:Int×Lab→Bool} (l:List (Int×Lab)) (hd:∀x∈l,del (x,())=some (p x)) (hL:l.length≤1000000):∀(rest pre:List (Int×Lab)) (f:Nat) (i len:Int),l=pre++rest→i=pre.length→len=l.length→rest.length<f →
  (c0d n f (l,del,len,i,())=some (.inl ())∧∀x∈rest,p x=false) ∨
  (∃k:Int,0≤k∧c0d n f (l,del,len,i,())=some (.inr k)∧∃x∈rest,p x=true):=by
 intro rest;induction rest with
 | nil =>
  intro pre f i len hl hi hn hf;obtain ⟨f,rfl⟩:∃g,f=g+1:=⟨f-1,by simp at hf;omega⟩;rw[f0t];exact .inl ⟨by simp only[tfd,if_neg (idxe hl hi hn)],by simp⟩
 | cons x rest ih =>
  intro pre f i len hl hi hn hf;obtain ⟨f,rfl⟩:∃g,f=g+1:=⟨f-1,by simp at hf;omega⟩;rw[f0t];simp only[tfd,if_pos (idx hl hi hn),b0o hl hi,obs,hd x (by rw[hl];simp),idxw hl hi (show l.length≤1000000000000 by omega)];cases hp:p x with
  | true=>exact .inr ⟨i,by omega,by simp,x,by simp,hp⟩
  | false =>
   rw[tff];rcases ih (pre++[x]) f (i+1) len (idxl hl) (idxs hi) hn (by simp at hf;omega) with ⟨h1,h2⟩ | ⟨k,h1,h2,y,hy,h3⟩
   ·exact .inl ⟨h1,by intro z hz;rcases List.mem_cons.1 hz with rfl | hz;exact hp;exact h2 z hz⟩
   ·exact .inr ⟨k,h1,h2,y,by simp[hy],h3⟩
theorem z0q (n:Nat) {del:(Int×Lab)×Unit→Option Bool} {p:Int×Lab→Bool} (l:List (Int×Lab)) (hd:∀x∈l,del (x,())=some (p x)) (hL:l.length≤1000000):c0w (n+2) l del=some (l.any p):=by
 rw[l0v,o0s];rcases h2l n l hd hL l [] a0c 0 l.length rfl rfl rfl (by unfold a0c;omega) with ⟨h1,h2⟩ | ⟨k,h1,h2,x,hx,h3⟩
 ·rw[h1];have:l.any p=false:=by rw[List.any_eq_false];intro x hx;simp[h2 x hx]
  rw[this];rfl
 ·rw[h2];have:l.any p=true:=List.any_eq_true.2 ⟨x,hx,h3⟩;simp[this,h1]
theorem n1w (n:Nat) (ms:List (Int×Lab)) (hm:ms.length≤1000000) (l:List Lab) (hL:l.length≤1000000):l0p (n+5) ms l=some (t0q ms l):=by
 rw[s1t,z0q (n+2) (p:=fun m => !hitM m l) ms (fun m _=>by
  show u0d (n+3+1) m l=_
  rw[f1p,c2w n m l hL];rfl) hm,obs]
 refine congrArg some ?_;unfold t0q;rw[List.any_eq_not_all_not];simp
theorem c1z (n:Nat) (m:Int×Lab) (h0:0≤m.1):u0c (n+7) m=some (decide (MatR m)):=by
 rw[f1n,u0e n,obs,tfn,tfd,tfd];have e1:MatR m→1≤m.1:=fun k=>k.1
 have e2:MatR m→m.1≤3:=fun k=>k.2.1
 by_cases h1:m.1=0
 ·rw[if_pos h1,decide_eq_false (fun k=>by have:=e1 k;omega)]
 rw[if_neg h1];by_cases h2:m.1<4
 case neg=>rw[if_neg h2,decide_eq_false (fun k=>by have:=e2 k;omega)]
 rw[if_pos h2];by_cases h3:LabOk [m.2]
 ·rw[if_pos h3,decide_eq_true (show MatR m from ⟨by omega,by omega,h3⟩)];rfl
 ·rw[if_neg h3,decide_eq_false (fun k:MatR m=>h3 k.2.2)];rfl
theorem r0m (n:Nat) (ms:List (Int×Lab)) (hm:ms.length≤1000000) (hk:∀m∈ms,0≤m.1):i0n (n+10) ms=some (if p0r ms then 0 else 2):=by
 rw[f1o,tfd];have e0:p0r ms→ms.length≤16:=fun k=>k.1
 by_cases h1:16<ms.length
 ·rw[if_pos (by omega),if_neg (fun k=>by have:=e0 k;omega)]
 rw[if_neg (by omega),z0q (n+7) (p:=fun m => !decide (MatR m)) ms (fun m h=>by
  show p0i (n+8+1) m=_
  rw[z0z,c1z (n+1) m (hk m h)];rfl) hm,obs]
 by_cases h:∀m∈ms,MatR m
 ·rw[if_pos (show p0r ms from ⟨by omega,h⟩),List.any_eq_false.2 (fun m hm=>by simp[h m hm])];rfl
 ·rw[if_neg (fun k:p0r ms=>h k.2)];have:∃m∈ms,¬MatR m:=Classical.byContradiction fun k=>h fun x hx=>Classical.byContradiction fun q=>k ⟨x,hx,q⟩
  obtain ⟨m,hm,q⟩:=this;rw[List.any_eq_true.2 ⟨m,hm,by simp[q]⟩];rfl
end Go.Proofs.YtgkpkajaepphjaaGreatDoor

namespace Go.Plim
set_option linter.unusedVariables false
variable {α:Type}
def Stb (key:α→Int) (d' d:List α):Prop:=∀c:Int,(d'.filter fun x=>decide (key x=c))=d.filter fun x=>decide (key x=c)
structure Mvk (key:α→Int) (d d':List α) (a b:Nat):Prop where
 mv:Mv d d' a b
 st:Stb key d' d
theorem Mvk.perm {key:α→Int} {d d':List α} {a b:Nat} (h:Mvk key d d' a b):d'.Perm d:=h.mv.perm
theorem Mvk.out {key:α→Int} {d d':List α} {a b:Nat} (h:Mvk key d d' a b):∀i,(i<a∨b≤i)→d'[i]? = d[i]? := h.mv.out
theorem Mvk.len {key:α→Int} {d d':List α} {a b:Nat} (h:Mvk key d d' a b):d'.length=d.length:=h.mv.len
theorem Mvk.refl {key:α→Int} (d:List α) (a b:Nat):Mvk key d d a b:=⟨.refl _ _ _,fun _=>rfl⟩
theorem Mvk.trans {key:α→Int} {d d' d'':List α} {a b:Nat} (h:Mvk key d d' a b) (g:Mvk key d' d'' a b):Mvk key d d'' a b:=⟨h.mv.trans g.mv,fun c=>(g.st c).trans (h.st c)⟩
theorem Mvk.mono {key:α→Int} {d d':List α} {a b a' b':Nat} (h:Mvk key d d' a b) (ha:a'≤a) (hb:b≤b'):Mvk key d d' a' b':=⟨h.mv.mono ha hb,h.st⟩
theorem Mvk.all {key:α→Int} {d d':List α} {a b:Nat} {P:α→Prop} (h:Mvk key d d' a b) (hP:∀x∈d,P x):∀x∈d',P x:=fun x hx=>hP x (h.perm.mem_iff.1 hx)
end Go.Plim

namespace Go.Proofs.YtgkpkajaepphjaaGreatDoor
open Go.Flat Go.Plim
set_option linter.unusedVariables false
set_option linter.unusedSimpArgs false
def c1q (cmp:(a0f×(a0f×Unit))→Option Int) (key:a0f→Int) (Pr:a0f→Prop):Prop:=∀x y,Pr x→Pr y→∃c,cmp (x,(y,()))=some c∧(c<0↔key x<key y)
section
variable {cmp:(a0f×(a0f×Unit))→Option Int} {key:a0f→Int} {Pr:a0f→Prop} (hc:c1q cmp key Pr)
include hc
omit hc in
omit hc in
omit hc in
omit hc in
end
section
variable {cmp:(a0f×(a0f×Unit))→Option Int} {key:a0f→Int} {Pr:a0f→Prop} (hc:c1q cmp key Pr)
include hc
end
section
variable {cmp:(a0f×(a0f×Unit))→Option Int} {key:a0f→Int} {Pr:a0f→Prop} (hc:c1q cmp key Pr)
include hc
end
end Go.Proofs.YtgkpkajaepphjaaGreatDoor

namespace Go.Plim
set_option linter.unusedVariables false
variable {α:Type}
inductive Sel (key:α→Int):List α→List α→Prop
 | nil:Sel key [] []
 | step {A B:List α} {x:α} {out:List α} (hA:∀a∈A,key x<key a) (hB:∀b∈B,key x≤key b) (h:Sel key (A++B) out):Sel key (A++x::B) (x::out)
theorem Sel.perm {key:α→Int} {l out:List α} (h:Sel key l out):out.Perm l:=by
 induction h with
 | nil=>exact .refl _
 | step hA hB h ih=>exact (List.Perm.cons _ ih).trans List.perm_middle.symm
def rem:List α→List Bool→List α
 | x::l,d::ds=>if d=true then rem l ds else x::rem l ds
 | _,_=>[]
end Go.Plim

namespace Go.Proofs.YtgkpkajaepphjaaGreatDoor
open Go.Flat Go.Plim
set_option linter.unusedVariables false
set_option linter.unusedSimpArgs false
theorem chk_ok {α:Type} {s:Sta} (h:StaOk s) (x y:α):tif (decide ((if StaOk s then (0:Int) else 2)=0)) x y=x:=by rw[if_pos h];rfl
theorem chk_no {α:Type} {s:Sta} (h:¬StaOk s) (x y:α):tif (decide ((if StaOk s then (0:Int) else 2)=0)) x y=y:=by rw[if_neg h];rfl
theorem h2u {α:Type} {l pre rest:List α} {x:α} {i:Int} (h:l=pre++x::rest) (hi:i=pre.length):l[i.toNat]? = some x:=by subst h hi;simp
theorem at_nn {α:Type} {l:List α} {i:Int} {x:α} (h0:0≤i) (h:l[i.toNat]? = some x):at? l i=some x:=by unfold at?;rw[decide_eq_true h0];exact h
section
variable {del:Int×Unit→Option Bool} {p:Int→Bool} {L:List Int} (hd:∀x∈L,del (x,())=some (p x))
include hd
theorem index_il (n:Nat) (l:List Int) (hL:l.length≤1000000):∀(rest pre:List Int) (f:Nat) (i len:Int),(∀x∈rest,x∈L)→l=pre++rest→i=pre.length→len=l.length→rest.length<f →
  (d0h n f (l,del,len,i,())=some (.inl ())∧∀x∈rest,p x=false) ∨
  (∃A x B,rest=A++x::B∧(∀y∈A,p y=false)∧p x=true∧d0h n f (l,del,len,i,())=some (.inr (i+A.length))):=by
 intro rest;induction rest with
 | nil =>
  intro pre f i len hm hl hi hn hf;obtain ⟨f,rfl⟩:∃g,f=g+1:=⟨f-1,by simp at hf;omega⟩;rw[i0d];exact .inl ⟨by simp only[tfd,if_neg (idxe hl hi hn)],by simp⟩
 | cons x rest ih =>
  intro pre f i len hm hl hi hn hf;obtain ⟨f,rfl⟩:∃g,f=g+1:=⟨f-1,by simp at hf;omega⟩;rw[i0d];simp only[tfd,if_pos (idx hl hi hn),b0o hl hi,obs,hd x (hm x (by simp)),idxw hl hi (show l.length≤1000000000000 by omega)];cases hp:p x with
  | true=>exact .inr ⟨[],x,rest,rfl,by simp,hp,by simp⟩
  | false =>
   rw[tff];rcases ih (pre++[x]) f (i+1) len (fun y hy=>hm y (by simp[hy])) (idxl hl) (idxs hi) hn (by simp at hf;omega) with ⟨h1,h2⟩ | ⟨A,y,B,h1,h2,h3,h4⟩
   ·exact .inl ⟨h1,by intro z hz;rcases List.mem_cons.1 hz with rfl | hz;exact hp;exact h2 z hz⟩
   ·refine .inr ⟨x::A,y,B,by rw[h1];rfl,?_,h3,by rw[h4,List.length_cons,show i+1+(A.length:Int)=i+((A.length+1:Nat):Int) by omega]⟩;intro z hz;rcases List.mem_cons.1 hz with rfl | hz
    ·exact hp
    ·exact h2 z hz
theorem i2x (n:Nat) (l0:List Int) (hL:l0.length≤1000000):∀(rest F G:List Int) (f:Nat) (i j:Int),(∀x∈rest,x∈L)→(F++(G++rest)).length=l0.length→G≠[]→i=F.length→j=F.length+G.length→rest.length<f →
  ∃G',c0s n f (F++(G++rest),del,i,j,())=some (.inl (F++rest.filter (fun x => !p x)++G',(F++rest.filter (fun x => !p x)).length,()))∧(F++rest.filter (fun x => !p x)++G').length=l0.length:=by
 intro rest;induction rest with
 | nil =>
  intro F G f i j hm hl hg hi hj hf;obtain ⟨f,rfl⟩:∃g,f=g+1:=⟨f-1,by simp at hf;omega⟩;rw[h0h];have:¬(j<((F++(G++[])).length:Int)):=by simp;omega
  simp only[tfd,if_neg this];exact ⟨G,by simp[hi],by simpa using hl⟩
 | cons x rest ih =>
  intro F G f i j hm hl hg hi hj hf;have hm':∀y∈rest,y∈L:=fun y hy=>hm y (by simp[hy])
  obtain ⟨f,rfl⟩:∃g,f=g+1:=⟨f-1,by simp at hf;omega⟩;rw[h0h];simp only[List.length_append,List.length_cons] at hl;have hlt:j<((F++(G++x::rest)).length:Int):=by simp;omega
  have hat:at? (F++(G++x::rest)) j=some x:=b0o (pre:=F++G) (rest:=rest) (by simp) (by simp;omega);have hget:(F++(G++x::rest))[j.toNat]? = some x:=by
   rw[show j.toNat=F.length+G.length by omega,List.getElem?_append_right (by omega),List.getElem?_append_right (by omega)];simp
  simp only[tfd,if_pos hlt,hat,hget,obs,hd x (hm x (by simp))];have wj:IntKind.wrap .i64 (j+1)=j+1:=by rw[w64 (by omega) (by omega)]
  have wi:IntKind.wrap .i64 (i+1)=i+1:=by rw[w64 (by omega) (by omega)]
  rw[wj,wi]
  match G,hg with
  | g::G,_ =>
  cases hp:p x with
  | false =>
   have hat':at? (F++(g::G++x::rest)) i=some g:=b0o (pre:=F) (rest:=G++x::rest) (by simp) hi;have hget':(F++(g::G++x::rest))[i.toNat]? = some g:=by
    rw[show i.toNat=F.length by omega];simp
   have hset:(F++(g::G++x::rest)).set i.toNat x=(F++[x])++((G++[x])++rest):=by
    rw[show i.toNat=F.length by omega,List.set_append_right _ _ (by omega)];simp
   simp only[Bool.not_false,tft,hat',hget',obs,hset];obtain ⟨G',h1,h2⟩:=ih (F++[x]) (G++[x]) f (i+1) (j+1) hm' (by simp at hl ⊢;omega) (by simp) (by simp;omega) (by simp at hj ⊢;omega) (by simp at hf;omega);refine ⟨G',?_,?_⟩
   ·rw[h1];simp[List.filter_cons,hp]
   ·rw[←h2];simp[List.filter_cons,hp]
  | true =>
   simp only[Bool.not_true,tff];obtain ⟨G',h1,h2⟩:=ih F (g::G++[x]) f i (j+1) hm' (by simp at hl ⊢;omega) (by simp) hi (by simp at hj ⊢;omega) (by simp at hf;omega);simp only[List.append_assoc,List.singleton_append] at h1;refine ⟨G',?_,?_⟩
   ·rw[h1];simp[List.filter_cons,hp]
   ·rw[←h2];simp[List.filter_cons,hp]
theorem d2t (n:Nat) (l:List Int) (hL:l.length≤1000000) (hm:∀x∈l,x∈L):i0j (n+2) l del=some (l.filter fun x => !p x):=by
 rw[s0v,t0v];rcases index_il hd n l hL l [] a0c 0 l.length hm rfl rfl rfl (by unfold a0c;omega) with ⟨h1,h2⟩ | ⟨A,x,B,h1,h2,h3,h4⟩
 ·rw[h1];simp only[obs,a0v,tfd,if_pos trivial];exact congrArg some (List.filter_eq_self.2 fun y hy=>by simp[h2 y hy]).symm
 ·rw[h4];have hl:l.length=A.length+(B.length+1):=by rw[h1];simp
  simp only[obs,j0d,tfd,Int.zero_add];rw[if_neg (by omega),w64 (x:=(A.length:Int)+1) (by omega) (by omega)];obtain ⟨G',g1,g2⟩:=i2x hd (n+1) l hL B A [x] a0c (A.length:Int) (A.length+1) (fun y hy=>hm y (by rw[h1];simp[hy])) (by rw[h1];simp) (by simp) rfl (by simp) (by unfold a0c;omega);rw[show A++([x]++B)=l by rw[h1];simp] at g1;rw[g1];have hF:A++B.filter (fun x => !p x)=l.filter fun x => !p x:=by
   rw[h1,List.filter_append,List.filter_cons];have:A.filter (fun x => !p x)=A:=List.filter_eq_self.2 fun y hy=>by simp[h2 y hy]
   simp[h3,this]
  rw[hF] at g2 ⊢;generalize (l.filter fun x => !p x)=F at *
  simp only[obs,a0v,x0e,tfd,Int.toNat_natCast];have hle:F.length≤(F++G').length:=by simp
  have k1:putRow (F++G') F.length (List.replicate ((F++G').length-F.length) (0:Int))=F++List.replicate ((F++G').length-F.length) (0:Int):=by
   unfold putRow;rw[List.drop_of_length_le (by simp)];simp
  rw[k1,if_pos (by omega),if_pos hle,if_pos (by omega),if_pos (by omega),if_pos (by simp;omega)];simp
end
theorem live_at {s:Sta} {z:Int} (h:z∈(k0c s).map Int.ofNat):0≤z∧∃y,s.2.2.2[z.toNat]? = some y∧LvX s y:=by
 obtain ⟨i,hi,rfl⟩:=List.mem_map.1 h;have h1:=(List.mem_filter.1 hi).2;obtain ⟨x,hx,hl⟩:=lvAt_iff.1 h1;exact ⟨Int.natCast_nonneg i,x,hx,hl⟩
theorem u1t (n:Nat) {s:Sta} {z:Int} {x:Ser} (h0:0≤z) (hx:s.2.2.2[z.toNat]? = some x):l0a (n+7) z s=some (!a1d s z.toNat):=by
 rw[f1b,at_nn h0 hx,obs,b1r n,obs];unfold a1d;rw[hx]
theorem due_list (s:Sta):((k0c s).map Int.ofNat).filter (fun z=>a1d s z.toNat)=((k0c s).filter (a1d s)).map Int.ofNat:=by
 rw[List.filter_map];rfl
theorem e2r (n:Nat) {s:Sta} (hw:StaW s):b1l (n+15) s=some ((dueV s).map Int.ofNat):=by
 rw[q1g,l0b n hw,obs,tfn];unfold dueV;by_cases h:StaOk s
 case neg=>rw[chk_no h,if_neg h];rfl
 have hd:∀z∈(k0c s).map Int.ofNat,(fun y2:Int×Unit=>l0a (n+14) y2.1 s) (z,())=some (!a1d s z.toNat):=fun z hz=>by
  obtain ⟨h0,y,hy,_⟩:=live_at hz;exact u1t (n+7) h0 hy
 have hL:((k0c s).map Int.ofNat).length≤1000000:=by have:=z1h s;have:=h.whole.len;simp;omega
 have e:d2a s=(k0c s).map Int.ofNat:=if_pos h.whole;rw[chk_ok h,y1f (n+6) hw,obs,e,d2t (del:=fun y2:Int×Unit=>l0a (n+14) y2.1 s) (p:=fun z => !a1d s z.toNat) hd (n+12) _ hL (fun _ hx=>hx),obs,if_pos h,←due_list];simp only[Bool.not_not]
noncomputable def doV (s:Sta):Sta×(Int×Int):=if StaOk s then (d0y s,(((dueV s).length:Int),0)) else (sta0,(0,2))
theorem sweep_do (n:Nat) {s:Sta} (hw:StaW s):a1i (n+16) s=some (doV s):=by
 rw[u1u,l0b (n+1) hw,obs,tfn];unfold doV;by_cases h:StaOk s
 case neg=>rw[chk_no h,if_neg h,if_neg h];rfl
 rw[chk_ok h,if_pos h,e2r n hw,obs,List.length_map];rfl
theorem sweptS_w {s:Sta} (hw:StaW s):StaW (d0y s):=⟨hw.len,hw.ser⟩
abbrev Mat:=Int×(List UInt8×List UInt8)
abbrev Rpl:=Int×(Cel×((Wd×Wd)×Int))
abbrev Prt:=List Lab×Rpl
abbrev Tot:=Int×(Int×(Int×(Wd×(Int×(Int×Int)))))
def tz0:Tot:=(0,(0,(0,((0,0),(0,(0,0))))))
noncomputable def partOf (s:Sta) (ms:List Mat) (k a b:Int) (i:Nat):Option Prt :=
 match s.2.2.2[i]? with
 | some x=>if t0q ms x.1=true∧0<(doQ s x.1 k a b).1.2.1.1 then some (x.1,(doQ s x.1 k a b).1) else none
 | none=>none
noncomputable def n0t (s:Sta) (ms:List Mat) (k a b:Int):List Prt:=(k0c s).filterMap (partOf s ms k a b)
noncomputable def j0v (s:Sta) (ms:List Mat) (t a b:Int):List Prt×(Int×Int) :=
 if StaOk s then (if p0r ms then (if (b0u s t a b).2=0 then (n0t s ms (b0u s t a b).1 a b,((b0u s t a b).1,0)) else ([],(0,(b0u s t a b).2))) else ([],(0,2))) else ([],(0,2))
theorem k1h {s:Sta} {t a b:Int} (h:(b0u s t a b).2=0):b0u s (b0u s t a b).1 a b=((b0u s t a b).1,0):=by
 obtain ⟨hs,t1,t3,ho,_⟩:=u1o h;generalize (b0u s t a b).1=k at *
 unfold b0u;rw[if_pos hs,if_neg (by omega),if_neg (by omega),if_pos ho]
theorem doQ_fine {s:Sta} (hs:StaOk s) {l:List Lab} (hl:LabOk l) {t a b:Int} (h:(b0u s t a b).2=0):(doQ s l (b0u s t a b).1 a b).2=0:=by
 unfold doQ;rw[if_pos hs,if_pos hl,k1h h,if_pos rfl]
theorem z1i {s:Sta} (hs:StaOk s) {i:Nat} (hi:i∈k0c s):∃x,s.2.2.2[i]? = some x∧LvX s x∧LabOk x.1:=by
 unfold k0c at hi;obtain ⟨h1,h2⟩:=List.mem_filter.1 hi;unfold lvAt at h2;cases hx:s.2.2.2[i]? with
 | none=>rw[hx] at h2;cases h2
 | some x =>
  rw[hx] at h2;have hl:LvX s x:=of_decide_eq_true h2;exact ⟨x,rfl,hl,(x1d hs (List.mem_of_getElem? hx) hl).1.lab⟩
theorem x0z (s:Sta) (ms:List Mat) (k a b:Int):(n0t s ms k a b).length≤(k0c s).length:=List.length_filterMap_le _ _
theorem l1t (n:Nat) {s:Sta} (hw:StaW s) (hs:StaOk s) (ms:List Mat) (hm:ms.length≤1000000) {t a b:Int} (ht:(b0u s t a b).2=0) (L:List Nat) (hL:L.length≤1000000) (hin:∀i∈L,i∈k0c s):∀(rest pre:List Nat) (out:List Prt) (f:Nat) (ix len:Int),L=pre++rest→ix=pre.length→len=L.length→rest.length<f→out.length≤pre.length →
  b0r (n+24) f (ms,a,b,s,(b0u s t a b).1,out,L.map Int.ofNat,len,ix,())=some (.inl ((b0u s t a b).1,out++rest.filterMap (partOf s ms (b0u s t a b).1 a b),())):=by
 intro rest;induction rest with
 | nil =>
  intro pre out f ix len hl hi hn hf ho;obtain ⟨f,rfl⟩:∃g,f=g+1:=⟨f-1,by simp at hf;omega⟩;rw[b0w,decide_eq_false (idxe hl hi hn),tff];simp
 | cons x rest ih =>
  intro pre out f ix len hl hi hn hf ho;obtain ⟨f,rfl⟩:∃g,f=g+1:=⟨f-1,by simp at hf;omega⟩;have hxi:=hin x (by rw[hl];simp);obtain ⟨y,hy,hlv,hlab⟩:=z1i hs hxi;have hlen:=congrArg List.length hl;simp only[List.length_append,List.length_cons] at hlen;have hlm:L.map Int.ofNat=pre.map Int.ofNat++(x:Int)::rest.map Int.ofNat:=by rw[hl];simp
  have him:ix=((pre.map Int.ofNat).length:Int):=by rw[List.length_map];exact hi
  have next:=fun out' ho'=>ih (pre++[x]) out' f (ix+1) len (idxl hl) (idxs hi) hn (by simp at hf;omega) ho'
  rw[b0w,decide_eq_true (idx hl hi hn),tft,b0o hlm him,obs,h2u hlm him,obs,e1n hy,obs,n1w (n+19) ms hm y.1 (by have:=hlab.n1;omega),obs,idxw hl hi (by omega),tfn,tif_ite];have hp:partOf s ms (b0u s t a b).1 a b x=if t0q ms y.1=true∧0<(doQ s y.1 (b0u s t a b).1 a b).1.2.1.1 then some (y.1,(doQ s y.1 (b0u s t a b).1 a b).1) else none:=by
   unfold partOf;simp only[hy]
  by_cases h1:t0q ms y.1=true
  case neg =>
   rw[if_neg h1,next out (by simp;omega),List.filterMap_cons_none (by rw[hp,if_neg fun e=>h1 e.1])]
  rw[if_pos h1,query_do n hw,obs];simp only;rw[doQ_fine hs hlab ht];simp only[decide_true,Bool.not_true,tff];rw[tfd];by_cases h2:0<(doQ s y.1 (b0u s t a b).1 a b).1.2.1.1
  case neg =>
   rw[if_neg h2,next out (by simp;omega),List.filterMap_cons_none (by rw[hp,if_neg fun e=>h2 e.2])]
  rw[if_pos h2,decide_eq_true (show (out.length+1)*184≤140737488355328 by omega),tft,next _ (by simp;omega),List.filterMap_cons_some (by rw[hp,if_pos ⟨h1,h2⟩]),List.append_assoc];rfl
theorem z1j {s:Sta} (h:StaOk s):d2a s=(k0c s).map Int.ofNat:=if_pos h.whole
theorem w0n {s:Sta} (h:StaOk s):(k0c s).length≤65536:=by
 have:=x1e s;rw[z1j h,List.length_map] at this;exact this
theorem p1y (n:Nat) {s:Sta} (hw:StaW s) (ms:List Mat) (hm:ms.length≤1000000) (hk:∀m∈ms,0≤m.1) (t a b:Int):g0j (n+25) s ms t a b=some (j0v s ms t a b):=by
 rw[m0k,l0b (n+10) hw,obs];unfold j0v;by_cases h:StaOk s
 case neg=>rw[if_neg h,if_neg h];rfl
 rw[if_pos h,if_pos h,r0m (n+14) ms hm hk];simp only[decide_true,Bool.not_true,tff,obs];by_cases h2:p0r ms
 case neg=>rw[if_neg h2,if_neg h2];rfl
 rw[if_pos h2,if_pos h2,x0y (n+5) hw];simp only[decide_true,Bool.not_true,tff,obs,tfn,tfd];by_cases ht:(b0u s t a b).2=0
 case neg=>rw[if_neg ht,if_neg ht]
 have hL:=w0n h;rw[if_pos ht,if_pos ht,y1f (n+16) hw,obs,z1j h];have:=l1t n hw h ms hm ht (k0c s) (by omega) (fun _ hi=>hi) (k0c s) [] [] a0c 0 _ rfl rfl rfl (by unfold a0c;omega) (Nat.le_refl _);rw[List.nil_append] at this;rw[List.length_map,this,obs,a0v];rfl
theorem c2l (s:Sta) (ms:List Mat) (t a b:Int):(j0v s ms t a b).1.length≤65536:=by
 unfold j0v;split
 ·rename_i h;split
  ·split
   ·exact Nat.le_trans (x0z _ _ _ _ _) (w0n h)
   ·simp
  ·simp
 ·simp
theorem z1z (s:Sta) (l:List Lab) (t a b:Int):b0f (doQ s l t a b).1.2.1:=by
 unfold doQ;by_cases h1:StaOk s
 case neg=>rw[if_neg h1];exact r0k
 rw[if_pos h1];by_cases h2:LabOk l
 case neg=>rw[if_neg h2];exact r0k
 rw[if_pos h2];by_cases h3:(b0u s t a b).2=0
 case neg=>rw[if_neg h3];exact r0k
 rw[if_pos h3];exact a2d _ _ _ _ _
theorem partsV_w (s:Sta) (ms:List Mat) (t a b:Int):∀p∈(j0v s ms t a b).1,b0f p.2.2.1:=by
 intro p hp;unfold j0v at hp;split at hp
 ·rename_i h;split at hp
  ·split at hp
   ·obtain ⟨i,_,hi⟩:=List.mem_filterMap.1 hp;unfold partOf at hi;split at hi
    ·split at hi
     ·cases hi;simp only;exact z1z _ _ _ _ _
     ·cases hi
    ·cases hi
   ·cases hp
  ·cases hp
 ·cases hp
def addT (a b:Tot):Tot×Int :=
 if a.1=b.1 then (if (addW a.2.2.2.1 b.2.2.2.1).2=0 then ((a.1,(IntKind.wrap .i64 (a.2.1+b.2.1),(IntKind.wrap .i64 (a.2.2.1+b.2.2.1),((addW a.2.2.2.1 b.2.2.2.1).1,(IntKind.wrap .i64 (a.2.2.2.2.1+b.2.2.2.2.1),(IntKind.wrap .i64 (a.2.2.2.2.2.1+b.2.2.2.2.2.1),IntKind.wrap .i64 (a.2.2.2.2.2.2+b.2.2.2.2.2.2))))))),0)
  else (tz0,(addW a.2.2.2.1 b.2.2.2.1).2)) else (tz0,2)
theorem u0t (n:Nat) {a b:Tot} (ha:WdOk a.2.2.2.1) (hb:WdOk b.2.2.2.1):d0x (n+3) a b=some (addT a b):=by
 rw[q1a,tfn,tfd];unfold addT;by_cases h:a.1=b.1
 case neg=>rw[if_neg h,if_neg h];rfl
 rw[if_pos h,if_pos h,y1a n ha hb,obs,tfn,tfd];by_cases h2:(addW a.2.2.2.1 b.2.2.2.1).2=0
 ·rw[if_pos h2,if_pos h2]
 ·rw[if_neg h2,if_neg h2];rfl
theorem r01_addW (n:Nat) {a b:Wd} (ha:WdOk a) (hb:WdOk b):j0l (n+2) a b=some (addW a b):=by
 obtain ⟨x,hx,e1,v1⟩:=ofN_of ha;obtain ⟨y,hy,e2,v2⟩:=ofN_of hb;unfold addW;rw[v1,v2];rw[e1,e2,a1r n hx hy,←Int.natCast_add,y0f];by_cases h:x+y<340282366920938463463374607431768211456
 ·rw[if_pos h,if_pos (by omega)]
 ·rw[if_neg h,if_neg (by omega)]
theorem r23_add (n:Nat) {a b:Tot} (ha:WdOk a.2.2.2.1) (hb:WdOk b.2.2.2.1):v1s (n+3) a b=some (addT a b):=by
 rw[b2x,tfn,tfd];unfold addT;by_cases h:a.1=b.1
 case neg=>rw[if_neg h,if_neg h];rfl
 rw[if_pos h,if_pos h,r01_addW n ha hb,obs,tfn,tfd];by_cases h2:(addW a.2.2.2.1 b.2.2.2.1).2=0
 ·rw[if_pos h2,if_pos h2]
 ·rw[if_neg h2,if_neg h2];rfl
theorem addW_ok {a b:Wd} (ha:WdOk a) (hb:WdOk b):WdOk (addW a b).1:=by
 have:=d0p ha;have:=d0p hb;unfold addW;split
 ·exact r0l (by omega) (by omega)
 ·exact ⟨by simp,by simp⟩
theorem addT_w {a b:Tot} (ha:WdOk a.2.2.2.1) (hb:WdOk b.2.2.2.1):WdOk (addT a b).1.2.2.2.1:=by
 unfold addT;split
 ·split
  ·exact addW_ok ha hb
  ·exact ⟨by simp[tz0],by simp[tz0]⟩
 ·exact ⟨by simp[tz0],by simp[tz0]⟩
def oneT (k:Int) (c:Cel):Tot:=(k,(1,(c.1,c.2.2.2)))
def sumT (k:Int):Tot→List Prt→Tot×Int
 | t,[]=>(t,0)
 | t,p::r=>if (addT t (oneT k p.2.2.1)).2=0 then sumT k (addT t (oneT k p.2.2.1)).1 r else (tz0,(addT t (oneT k p.2.2.1)).2)
theorem cell_wd {c:Cel} (h:b0f c):WdOk c.2.2.2.1:=(e1i h).1
theorem a2z (n:Nat) (s10:Tot) (k:Int) (l:List Prt) (hL:l.length≤1000000) (hok:∀p∈l,b0f p.2.2.1):∀(rest pre:List Prt) (t:Tot) (f:Nat) (i len:Int),l=pre++rest→i=pre.length→len=l.length→rest.length<f→WdOk t.2.2.2.1 →
  f0b (n+3) f (s10,k,t,l,len,i,())=some (if (sumT k t rest).2=0 then .inl (s10,(sumT k t rest).1,()) else .inr (tz0,(sumT k t rest).2)):=by
 intro rest;induction rest with
 | nil =>
  intro pre t f i len hl hi hn hf ht;obtain ⟨f,rfl⟩:∃g,f=g+1:=⟨f-1,by simp at hf;omega⟩;rw[g0a,decide_eq_false (idxe hl hi hn),tff];rfl
 | cons x rest ih =>
  intro pre t f i len hl hi hn hf ht;obtain ⟨f,rfl⟩:∃g,f=g+1:=⟨f-1,by simp at hf;omega⟩;have hx:WdOk (oneT k x.2.2.1).2.2.2.1:=cell_wd (hok x (by rw[hl];simp));rw[g0a,decide_eq_true (idx hl hi hn),tft,b0o hl hi,obs,h2u hl hi,obs,p1z,obs]
  change a0b (d0x (n+3) t (oneT k x.2.2.1)) _=_
  rw[u0t n ht hx,obs,tfn,tfd,idxw hl hi (by omega)];unfold sumT;by_cases h:(addT t (oneT k x.2.2.1)).2=0
  ·rw[if_pos h,if_pos h,ih (pre++[x]) _ f (i+1) len (idxl hl) (idxs hi) hn (by simp at hf;omega) (addT_w ht hx)]
  ·rw[if_neg h,if_neg h,if_neg h];rfl
noncomputable def totV (s:Sta) (ms:List Mat) (t a b:Int):Tot×Int :=
 if (j0v s ms t a b).2.2=0 then sumT (j0v s ms t a b).2.1 ((j0v s ms t a b).2.1,(0,(0,((0,0),(0,(0,0)))))) (j0v s ms t a b).1 else (tz0,(j0v s ms t a b).2.2)
theorem sumT_err (k:Int):∀(l:List Prt) (t:Tot),(sumT k t l).2≠0→(sumT k t l).1=tz0:=by
 intro l;induction l with
 | nil=>intro t h;exact (h rfl).elim
 | cons p l ih =>
  intro t h;unfold sumT at h ⊢;split at h
  ·rename_i k1;rw[if_pos k1];exact ih _ h
  ·rename_i k1;rw[if_neg k1]
theorem u0s (n:Nat) {s:Sta} (hw:StaW s) (ms:List Mat) (hm:ms.length≤1000000) (hk:∀m∈ms,0≤m.1) (t a b:Int):c0u (n+26) s ms t a b=some (totV s ms t a b):=by
 rw[b1h,p1y n hw ms hm hk,obs,tfn,tfd];unfold totV;have hl:=c2l s ms t a b;have hok:=partsV_w s ms t a b;by_cases h:(j0v s ms t a b).2.2=0
 case neg=>rw[if_neg h,if_neg h];rfl
 rw[if_pos h,if_pos h];generalize j0v s ms t a b=p at *
 have:=a2z (n+22) tz0 p.2.1 p.1 (by omega) hok p.1 [] (p.2.1,(0,(0,((0,0),(0,(0,0)))))) a0c 0 _ rfl rfl rfl (by unfold a0c;omega) ⟨by simp,by simp⟩
 change a0b (f0b (n+25) a0c (tz0,p.2.1,(p.2.1,(0,(0,((0,0),(0,(0,0)))))),p.1,(p.1.length:Int),0,())) _=_
 rw[this,obs];generalize hz:sumT p.2.1 (p.2.1,(0,(0,((0,0),(0,(0,0)))))) p.1=z;have herr:=sumT_err p.2.1 p.1 (p.2.1,(0,(0,((0,0),(0,(0,0))))));rw[hz] at herr;by_cases h2:z.2=0
 ·rw[if_pos h2,a0v];exact congrArg some (Prod.ext rfl h2.symm)
 ·rw[if_neg h2,j0d];exact congrArg some (Prod.ext (herr h2).symm rfl)
def sm (f:Cel→Int) (l:List Prt):Int:=(l.map fun p=>f p.2.2.1).sum
theorem x0l (f:Cel→Int) (p:Prt) (l:List Prt):sm f (p::l)=f p.2.2.1+sm f l:=by simp[sm]
theorem sm_nil (f:Cel→Int):sm f []=0:=rfl
theorem m1f {f:Cel→Int} {B:Int}:∀ {l:List Prt},(∀p∈l,0≤f p.2.2.1∧f p.2.2.1≤B)→0≤sm f l∧sm f l≤(l.length:Int)*B:=by
 intro l;induction l with
 | nil=>intro _;simp[sm_nil]
 | cons p l ih =>
  intro h;obtain ⟨h1,h2⟩:=h p (by simp);obtain ⟨i1,i2⟩:=ih fun q hq=>h q (by simp[hq])
  rw[x0l,List.length_cons,show ((l.length+1:Nat):Int)=(l.length:Int)+1 by omega,Int.add_mul,Int.one_mul];omega
def fE (c:Cel):Int:=c.1
def fI (c:Cel):Int:=wv c.2.2.2.1
def fR (c:Cel):Int:=c.2.2.2.2.1
def fG (c:Cel):Int:=c.2.2.2.2.2.1
def fS (c:Cel):Int:=c.2.2.2.2.2.2
theorem g0i {c:Cel} (h:b0f c):(0≤fE c∧fE c≤35184372088832)∧(0≤fI c∧fI c≤18446744073709551615*35184372088832)∧(0≤fR c∧fR c≤35184372088832)∧(0≤fG c∧fG c≤35184372088832)∧(0≤fS c∧fS c≤35184372088832):=by
 rcases h with rfl | h
 ·simp[fE,fI,fR,fG,fS,z0,wv]
 ·have h1:=h.n1;have h2:=h.small;have h3:=h.inc;have h4:=(d0p h.w).1;have h5:=h.r;have h6:=h.g;have h7:=h.rg;have h8:=h.s0;have h9:=h.s1;have h10:=h.f.t0;have h11:=h.l.t1;unfold fE fI fR fG fS;omega
def totS (k:Int) (l:List Prt):Tot:=(k,((l.length:Int),(sm fE l,(mkW (sm fI l),(sm fR l,(sm fG l,sm fS l))))))
theorem sumT_acc (k:Int):∀(l:List Prt) (n e i r g s:Int),(∀p∈l,b0f p.2.2.1)→0≤n→n+l.length≤65536→0≤e→e+(l.length:Int)*35184372088832≤65536*35184372088832→0≤i→i+(l.length:Int)*(18446744073709551615*35184372088832)≤65536*(18446744073709551615*35184372088832) →
  0≤r→r+(l.length:Int)*35184372088832≤65536*35184372088832→0≤g→g+(l.length:Int)*35184372088832≤65536*35184372088832→0≤s→s+(l.length:Int)*35184372088832≤65536*35184372088832 →
  sumT k (k,(n,(e,(mkW i,(r,(g,s)))))) l=((k,(n+l.length,(e+sm fE l,(mkW (i+sm fI l),(r+sm fR l,(g+sm fG l,s+sm fS l)))))),0):=by
 intro l;induction l with
 | nil=>intro n e i r g s _ _ _ _ _ _ _ _ _ _ _ _ _;simp[sumT,sm_nil]
 | cons p l ih =>
  intro n e i r g s h n0 n1 e0 e1 i0 i1 r0 r1 g0 g1 s0 s1;obtain ⟨⟨c1,c2⟩,⟨c3,c4⟩,⟨c5,c6⟩,⟨c7,c8⟩,⟨c9,c10⟩⟩:=g0i (h p (by simp));rw[List.length_cons,show ((l.length+1:Nat):Int)=(l.length:Int)+1 by omega] at n1 e1 i1 r1 g1 s1;have hl:(0:Int)≤l.length:=by omega
  have hadd:addT (k,(n,(e,(mkW i,(r,(g,s)))))) (oneT k p.2.2.1)=((k,(n+1,(e+fE p.2.2.1,(mkW (i+fI p.2.2.1),(r+fR p.2.2.1,(g+fG p.2.2.1,s+fS p.2.2.1)))))),0):=by
   unfold addT oneT;have ew:addW (mkW i) p.2.2.1.2.2.2.1=(mkW (i+fI p.2.2.1),0):=by
    unfold addW;rw[m0y];show (if i+fI p.2.2.1<_ then _ else _)=_;rw[if_pos (by omega)];rfl
   simp only[if_pos trivial,ew];rw[w64 (x:=n+1) (by omega) (by omega)];show ((k,(n+1,(IntKind.wrap .i64 (e+fE p.2.2.1),(mkW (i+fI p.2.2.1),(IntKind.wrap .i64 (r+fR p.2.2.1),(IntKind.wrap .i64 (g+fG p.2.2.1),IntKind.wrap .i64 (s+fS p.2.2.1))))))),(0:Int))=_;rw[w64 (x:=e+fE p.2.2.1) (by omega) (by omega),w64 (x:=r+fR p.2.2.1) (by omega) (by omega),w64 (x:=g+fG p.2.2.1) (by omega) (by omega),w64 (x:=s+fS p.2.2.1) (by omega) (by omega)]
  unfold sumT;rw[hadd,if_pos rfl];simp only;rw[ih (n+1) (e+fE p.2.2.1) (i+fI p.2.2.1) (r+fR p.2.2.1) (g+fG p.2.2.1) (s+fS p.2.2.1) (fun q hq=>h q (by simp[hq])) (by omega) (by omega) (by omega) (by omega) (by omega) (by omega) (by omega) (by omega) (by omega) (by omega) (by omega) (by omega)];simp only[x0l,List.length_cons];rw[show n+1+(l.length:Int)=n+((l.length+1:Nat):Int) by omega,Int.add_assoc,Int.add_assoc,Int.add_assoc,Int.add_assoc,Int.add_assoc]
theorem sumT_sum (k:Int) (l:List Prt) (h:∀p∈l,b0f p.2.2.1) (hl:l.length≤65536):sumT k (k,(0,(0,((0,0),(0,(0,0)))))) l=(totS k l,0):=by
 have:=sumT_acc k l 0 0 0 0 0 0 h (by omega) (by omega) (by omega) (by omega) (by omega) (by omega) (by omega) (by omega) (by omega) (by omega) (by omega) (by omega);rw[mkW_zero] at this;rw[this];unfold totS;simp only[Int.zero_add]
theorem sum_two (f:Cel→Int) {p q r:Nat→Option Prt} (h:∀i,(p i=q i∧r i=none)∨(p i=r i∧q i=none)):∀L:List Nat,sm f (L.filterMap p)=sm f (L.filterMap q)+sm f (L.filterMap r)∧(L.filterMap p).length=(L.filterMap q).length+(L.filterMap r).length:=by
 intro L;induction L with
 | nil=>exact ⟨rfl,rfl⟩
 | cons i L ih =>
  obtain ⟨h1,h2⟩:=ih;rcases h i with ⟨e1,e2⟩ | ⟨e1,e2⟩
  ·rw[List.filterMap_cons_none e2];cases hq:q i with
   | none=>rw[List.filterMap_cons_none hq,List.filterMap_cons_none (e1.trans hq)];exact ⟨h1,h2⟩
   | some x =>
    rw[List.filterMap_cons_some hq,List.filterMap_cons_some (e1.trans hq),x0l,x0l,h1,List.length_cons,List.length_cons,h2];exact ⟨by omega,by omega⟩
  ·rw[List.filterMap_cons_none (f:=q) e2];cases hr:r i with
   | none=>rw[List.filterMap_cons_none hr,List.filterMap_cons_none (e1.trans hr)];exact ⟨h1,h2⟩
   | some x =>
    rw[List.filterMap_cons_some hr,List.filterMap_cons_some (e1.trans hr),x0l,x0l,h1,List.length_cons,List.length_cons,h2];exact ⟨by omega,by omega⟩
theorem n1n (s:Sta) (ms:List Mat) (k a b:Int):∀p∈n0t s ms k a b,b0f p.2.2.1:=by
 intro p hp;obtain ⟨i,_,hi⟩:=List.mem_filterMap.1 hp;unfold partOf at hi;split at hi
 ·split at hi
  ·cases hi;simp only;exact z1z _ _ _ _ _
  ·cases hi
 ·cases hi
theorem q0c {s:Sta} {ms:List Mat} {t a b:Int} (hs:StaOk s) (hm:p0r ms) (ht:(b0u s t a b).2=0):totV s ms t a b=(totS (b0u s t a b).1 (n0t s ms (b0u s t a b).1 a b),0):=by
 have e:j0v s ms t a b=(n0t s ms (b0u s t a b).1 a b,((b0u s t a b).1,0)):=by
  unfold j0v;rw[if_pos hs,if_pos hm,if_pos ht]
 unfold totV;rw[e,if_pos rfl];exact sumT_sum _ _ (n1n _ _ _ _ _) (Nat.le_trans (x0z _ _ _ _ _) (w0n hs))
theorem u0u {s:Sta} {ms:List Mat} {t a b:Int} (hs:StaOk s) (hm:p0r ms) (ht:(b0u s t a b).2≠0):totV s ms t a b=(tz0,(b0u s t a b).2):=by
 unfold totV j0v;rw[if_pos hs,if_pos hm,if_neg ht,if_neg ht]
theorem totS_add {k:Int} {p q l:List Prt} (hq:∀x∈p,b0f x.2.2.1) (hr:∀x∈q,b0f x.2.2.1) (hlen:p.length+q.length≤65536) (hl:l.length=p.length+q.length) (hf:∀f,sm f l=sm f p+sm f q):addT (totS k p) (totS k q)=(totS k l,0):=by
 have b1:=fun (f:Cel→Int) (B:Int) h=>m1f (f:=f) (B:=B) (l:=p) h
 have b2:=fun (f:Cel→Int) (B:Int) h=>m1f (f:=f) (B:=B) (l:=q) h
 have e1:=b1 fE 35184372088832 fun x hx=>(g0i (hq x hx)).1
 have i1:=b1 fI (18446744073709551615*35184372088832) fun x hx=>(g0i (hq x hx)).2.1
 have r1:=b1 fR 35184372088832 fun x hx=>(g0i (hq x hx)).2.2.1
 have g1:=b1 fG 35184372088832 fun x hx=>(g0i (hq x hx)).2.2.2.1
 have s1:=b1 fS 35184372088832 fun x hx=>(g0i (hq x hx)).2.2.2.2
 have e2:=b2 fE 35184372088832 fun x hx=>(g0i (hr x hx)).1
 have i2:=b2 fI (18446744073709551615*35184372088832) fun x hx=>(g0i (hr x hx)).2.1
 have r2:=b2 fR 35184372088832 fun x hx=>(g0i (hr x hx)).2.2.1
 have g2:=b2 fG 35184372088832 fun x hx=>(g0i (hr x hx)).2.2.2.1
 have s2:=b2 fS 35184372088832 fun x hx=>(g0i (hr x hx)).2.2.2.2
 have ew:addW (mkW (sm fI p)) (mkW (sm fI q))=(mkW (sm fI p+sm fI q),0):=by
  unfold addW;rw[m0y,m0y,if_pos (by omega)]
 unfold addT totS;simp only[if_pos trivial,ew];rw[hl,hf fE,hf fI,hf fR,hf fG,hf fS,w64 (x:=(p.length:Int)+(q.length:Int)) (by omega) (by omega),w64 (x:=sm fE p+sm fE q) (by omega) (by omega),w64 (x:=sm fR p+sm fR q) (by omega) (by omega),w64 (x:=sm fG p+sm fG q) (by omega) (by omega),w64 (x:=sm fS p+sm fS q) (by omega) (by omega)];rw[show ((p.length+q.length:Nat):Int)=(p.length:Int)+(q.length:Int) by omega]
theorem j1t {s:Sta} (hs:StaOk s) {l:List Lab} {k a b:Int} {i:Nat} (h:p0w s l=some i) (h':p0w (d0y s) l=some i):doQ (d0y s) l k a b=doQ s l k a b:=by
 have e1:b0u (d0y s) k a b=b0u s k a b:=by
  have eo:∀k a b,oneV (d0y s) k a b=oneV s k a b:=fun _ _ _=>rfl
  have ew:∀d t why,c0o (d0y s) a b d t why=c0o s a b d t why:=by
   intro d;induction d with
   | zero=>intro t why;rfl
   | succ d ih=>intro t why;unfold c0o;rw[eo,ih]
  unfold b0u;rw[if_pos hs,if_pos (s0b hs),ew,eo]
 have e2:∀k,j1w (d0y s) l k a b=j1w s l k a b:=by
  intro k;unfold j1w;rw[h,h'];rfl
 unfold doQ;rw[if_pos hs,if_pos (s0b hs),e1];by_cases hl:LabOk l
 ·rw[if_pos hl,if_pos hl,e2]
 ·rw[if_neg hl,if_neg hl]
theorem b2a {s:Sta} (hs:StaOk s) (k a b:Int):b0u (d0y s) k a b=b0u s k a b:=by
 have eo:∀k a b,oneV (d0y s) k a b=oneV s k a b:=fun _ _ _=>rfl
 have ew:∀d t why,c0o (d0y s) a b d t why=c0o s a b d t why:=by
  intro d;induction d with
  | zero=>intro t why;rfl
  | succ d ih=>intro t why;unfold c0o;rw[eo,ih]
 unfold b0u;rw[if_pos hs,if_pos (s0b hs),ew,eo]
end Go.Proofs.YtgkpkajaepphjaaGreatDoor
namespace Go.Proofs.YtgkpkajaepphjaaGreatDoor
open Go.Flat
theorem ob {α β:Type} {o:Option α} {x:α} {f:α→Option β} {r:Option β} (h:o=some x) (k:f x=r):a0b o f=r:=by rw[h];exact k
theorem tt {α:Type} {b:Bool} {x y r:α} (h:b=true) (k:x=r):tif b x y=r:=by rw[h];exact k
theorem tf {α:Type} {b:Bool} {x y r:α} (h:b=false) (k:y=r):tif b x y=r:=by rw[h];exact k
theorem e1p {α σ:Type} {g:Nat→σ→Option α} {c:Nat} {s:σ} {r:Option α} (k:g (a0c-c+c) s=r) (h:c≤a0c):g a0c s=r:=by rw[Nat.sub_add_cancel h] at k;exact k
end Go.Proofs.YtgkpkajaepphjaaGreatDoor
