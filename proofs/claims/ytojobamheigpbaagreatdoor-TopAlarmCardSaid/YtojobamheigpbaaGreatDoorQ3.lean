/-
 Plain proofs about the functions of this seat, part 3 of 4.
-/
import Derived.Test.YtojobamheigpbaaGreatDoorQ2
import Derived.Test.YtojobamheigpbaaGreatDoorFlatM3
namespace Go.Plim
set_option linter.unusedVariables false
theorem o2z:∀(k a b:Nat),a+b+1=2^k→a &&& b=0:=by
 intro k;induction k with
 | zero => intro a b h; have : a = 0 := by simp at h; omega
           rw[this];simp
 | succ k ih =>
  intro a b h;rw[Nat.pow_succ] at h;have h1:(a &&& b) % 2≠1:=by rw[ne_eq,Nat.and_mod_two_eq_one];omega
  have h2:(a &&& b) / 2=0:=by rw[Nat.and_div_two];exact ih _ _ (by omega)
  omega
theorem low_bit {x:Nat} (h0:0<x) (h:x<18446744073709551616):x &&& (18446744073709551616-x)=2^tz 64 x:=by
 obtain ⟨a1,a2,a3⟩:=w0p 64 x h0 h;generalize hs:tz 64 x=s at *
 generalize x / 2^s=o at *
 have e:18446744073709551616=2^s*2^(64-s):=by rw[←Nat.pow_add,show s+(64-s)=64 by omega]
 have hp:=Nat.two_pow_pos s;have e1:18446744073709551616-x=2^s*(2^(64-s)-o):=by rw[Nat.mul_sub,←e,←a2]
 have ho:o<2^(64-s):=by
  rcases Nat.lt_or_ge o (2^(64-s)) with q | q
  ·exact q
  ·have:=Nat.mul_le_mul_left (2^s) q;rw[←e,←a2] at this;omega
 obtain ⟨c,hc⟩:∃c,2^(64-s)=2*2^c:=⟨63-s,by rw[show 64-s=(63-s)+1 by omega,Nat.pow_succ,Nat.mul_comm]⟩;have e2:o &&& (2^(64-s)-o)=1:=by
  have h1:(o &&& (2^(64-s)-o)) % 2=1:=by rw[Nat.and_mod_two_eq_one];omega
  have h2:(o &&& (2^(64-s)-o)) / 2=0:=by rw[Nat.and_div_two];exact o2z c _ _ (by omega)
  omega
 rw[e1]
 conv=>lhs;rw[a2]
 rw[Nat.mul_comm (2^s) o,Nat.mul_comm (2^s),←Nat.shiftLeft_eq,←Nat.shiftLeft_eq,←Nat.shiftLeft_and_distrib,e2,Nat.shiftLeft_eq,Nat.one_mul]
theorem tz_lo {x:Nat} (h:x<340282366920938463463374607431768211456) (h0:0<x % 18446744073709551616):tz 128 x=tz 64 (x % 18446744073709551616):=by
 obtain ⟨a1,a2,a3⟩:=w0p 64 _ h0 (Nat.mod_lt x (by decide));generalize tz 64 (x % 18446744073709551616)=s at *
 have e:18446744073709551616=2^s*(2*2^(63-s)):=by rw[←Nat.pow_succ',←Nat.pow_add,show s+(63-s).succ=64 by omega]
 have hp:=Nat.two_pow_pos s;have h2:=Nat.div_add_mod x 18446744073709551616;generalize x % 18446744073709551616=L at *
 generalize x / 18446744073709551616=H at *
 generalize L / 2^s=o at *
 have e1:x=2^s*(2*(2^(63-s)*H)+o):=by
  rw[Nat.mul_add,←a2,←Nat.mul_assoc 2,←Nat.mul_assoc (2^s),←e];omega
 refine f1w (by omega) h ?_ ?_
 ·rw[e1,Nat.mul_mod_right]
 ·rw[e1,Nat.mul_div_cancel_left _ hp];omega
theorem tz_hi {x:Nat} (h:x<340282366920938463463374607431768211456) (h0:x % 18446744073709551616=0) (hx:0<x):tz 128 x=64+tz 64 (x / 18446744073709551616):=by
 have hH:0<x / 18446744073709551616:=by omega
 obtain ⟨a1,a2,a3⟩:=w0p 64 _ hH (by omega);generalize tz 64 (x / 18446744073709551616)=s at *
 have h2:=Nat.div_add_mod x 18446744073709551616;generalize x / 18446744073709551616=H at *
 generalize H / 2^s=o at *
 have hp:=Nat.two_pow_pos (64+s);have e1:x=2^(64+s)*o:=by
  rw[Nat.pow_add,Nat.mul_assoc,←a2];omega
 refine f1w hx h ?_ ?_
 ·rw[e1,Nat.mul_mod_right]
 ·rw[e1,Nat.mul_div_cancel_left _ hp];exact a3
theorem e2d {k x s:Nat} (h:x<2^k) (hs:2^s≤x):bl k x=s+bl k (x / 2^s):=by
 have hp:=Nat.two_pow_pos s;have h0:0<x / 2^s:=Nat.div_pos hs hp;have h1:x / 2^s<2^k:=Nat.lt_of_le_of_lt (Nat.div_le_self _ _) h;obtain ⟨a1,a2,a3⟩:=j0r k (x / 2^s) h1;obtain ⟨b1,b2⟩:=a2 h0;obtain ⟨c,hc⟩:∃c,bl k (x / 2^s)=c+1:=⟨bl k (x / 2^s)-1,by omega⟩;rw[hc] at a1 b2 ⊢;rw[Nat.add_sub_cancel] at b2;rw[←Nat.add_assoc];refine w1r h (by omega) ?_ ?_
 ·rw[Nat.pow_add,Nat.mul_comm];exact (Nat.le_div_iff_mul_le hp).1 b2
 ·rw[Nat.add_assoc,Nat.pow_add,Nat.mul_comm];exact (Nat.div_lt_iff_lt_mul hp).1 a1
theorem e2c {k m x:Nat} (h:x<2^k) (h':x<2^m):bl k x=bl m x:=by
 rcases Nat.eq_zero_or_pos x with q | q
 ·subst q;rw[c1l,c1l]
 ·obtain ⟨a1,a2,_⟩:=j0r m x h';obtain ⟨b1,b2⟩:=a2 q;obtain ⟨c,hc⟩:∃c,bl m x=c+1:=⟨bl m x-1,by omega⟩;rw[hc] at a1 b2 ⊢;rw[Nat.add_sub_cancel] at b2;exact w1r h q b2 a1
theorem bl_up {a d k:Nat} (ha:a<2^128) (hd:d<2^128) (hk:bl 128 d+k≤bl 128 a) (h0:0<a):d*2^k<2^128:=by
 obtain ⟨a1,a2,a3⟩:=j0r 128 a ha;obtain ⟨d1,d2,d3⟩:=j0r 128 d hd;have h1:d*2^k<2^bl 128 d*2^k:=Nat.mul_lt_mul_of_pos_right d1 (Nat.two_pow_pos k);rw[←Nat.pow_add] at h1;exact Nat.lt_of_lt_of_le h1 (Nat.pow_le_pow_right (by decide) (by omega))
theorem bl_over {a d:Nat} (ha:a<2^128) (hd:d<2^128) (h0:0<d):a<d*2^(bl 128 a-bl 128 d+1):=by
 obtain ⟨a1,a2,a3⟩:=j0r 128 a ha;obtain ⟨d1,d2,d3⟩:=j0r 128 d hd;obtain ⟨b1,b2⟩:=d2 h0;have h1:2^(bl 128 d-1)*2^(bl 128 a-bl 128 d+1)≤d*2^(bl 128 a-bl 128 d+1):=Nat.mul_le_mul_right _ b2;rw[←Nat.pow_add] at h1;have h2:2^bl 128 a≤2^(bl 128 d-1+(bl 128 a-bl 128 d+1)):=Nat.pow_le_pow_right (by decide) (by omega);omega
theorem bl_less {a d:Nat} (ha:a<2^128) (hd:d<2^128) (h:bl 128 a<bl 128 d):a<d:=by
 obtain ⟨a1,a2,a3⟩:=j0r 128 a ha;obtain ⟨d1,d2,d3⟩:=j0r 128 d hd;rcases Nat.eq_zero_or_pos d with q | q
 ·subst q;rw[c1l] at h;omega
 ·obtain ⟨b1,b2⟩:=d2 q;have:2^bl 128 a≤2^(bl 128 d-1):=Nat.pow_le_pow_right (by decide) (by omega);omega
end Go.Plim

namespace Go.Proofs.YtojobamheigpbaaGreatDoor
open Go.Flat Go.Plim
set_option linter.unusedVariables false
set_option linter.unusedSimpArgs false
theorem wrapN (x:Nat):IntKind.wrap .u64 (x:Int)=((x % 18446744073709551616:Nat):Int):=by
 rw[IntKind.wrap_u64];omega
theorem shlN (x k:Nat) (hk:k≤64):shlI .u64 (x:Int) (k:Int)=((x*2^k % 18446744073709551616:Nat):Int):=by
 show IntKind.wrap .u64 ((x:Int)*2^(min (k:Int).toNat 64))=_;rw[show min (k:Int).toNat 64=k by omega,←wrapN];congr 1
theorem shrN (x k:Nat) (hk:k≤64):shrI .u64 (x:Int) (k:Int)=((x / 2^k:Nat):Int):=by
 rw[k2t _ _ hk];simp
theorem orN {x y:Nat} (hx:x<18446744073709551616) (hy:y<18446744073709551616):orI .u64 (x:Int) (y:Int)=((x ||| y:Nat):Int):=by
 unfold orI;have e2:(BitVec.ofInt IntKind.u64.bits (x:Int) ||| BitVec.ofInt IntKind.u64.bits (y:Int)).toNat=x ||| y:=by
  show (BitVec.ofInt 64 (x:Int) ||| BitVec.ofInt 64 (y:Int)).toNat=_;rw[BitVec.toNat_or,BitVec.ofInt_natCast,BitVec.ofInt_natCast,BitVec.toNat_ofNat,BitVec.toNat_ofNat,Nat.mod_eq_of_lt (by omega),Nat.mod_eq_of_lt (by omega)]
 rw[e2];have:x ||| y<2^64:=Nat.or_lt_two_pow (by omega) (by omega)
 exact wu64 (by omega) (by omega)
theorem andN {x y:Nat} (hx:x<18446744073709551616) (hy:y<18446744073709551616):andI .u64 (x:Int) (y:Int)=((x &&& y:Nat):Int):=by
 unfold andI;have e2:(BitVec.ofInt IntKind.u64.bits (x:Int) &&& BitVec.ofInt IntKind.u64.bits (y:Int)).toNat=x &&& y:=by
  show (BitVec.ofInt 64 (x:Int) &&& BitVec.ofInt 64 (y:Int)).toNat=_;rw[BitVec.toNat_and,BitVec.ofInt_natCast,BitVec.ofInt_natCast,BitVec.toNat_ofNat,BitVec.toNat_ofNat,Nat.mod_eq_of_lt (by omega),Nat.mod_eq_of_lt (by omega)]
 rw[e2];have:x &&& y≤x:=Nat.and_le_left;exact wu64 (by omega) (by omega)
theorem c2f {H L k:Nat} (h:L<2^k):H*2^k ||| L=H*2^k+L:=by
 rw[Nat.mul_comm];exact (Nat.two_pow_add_eq_or_of_lt h H).symm
end Go.Proofs.YtojobamheigpbaaGreatDoor
namespace Go.Proofs.YtojobamheigpbaaGreatDoor
open Go.Flat Go.Plim
set_option linter.unusedVariables false
def lenT:List UInt8 :=
 g0g
theorem h2a (n:Nat) (x:Int):d0i (n+1) x =
 tif ((decide ((4294967296:Int)≤x))) (
 tif ((decide ((65536:Int)≤(shrI .u64 x (32:Int))))) (
 tif ((decide ((256:Int)≤(shrI .u64 (shrI .u64 x (32:Int)) (16:Int))))) (
 a0a (at? lenT (IntKind.wrap .u8 (shrI .u64 (shrI .u64 (shrI .u64 x (32:Int)) (16:Int)) (8:Int)))) fun r0 =>
 some (IntKind.wrap .i64 ((56:Int)+(IntKind.wrap .i64 (((UInt8.toNat r0):Nat):Int))))) (
 a0a (at? lenT (IntKind.wrap .u8 (shrI .u64 (shrI .u64 x (32:Int)) (16:Int)))) fun r1 =>
 some (IntKind.wrap .i64 ((48:Int)+(IntKind.wrap .i64 (((UInt8.toNat r1):Nat):Int)))))) (
 tif ((decide ((256:Int)≤(shrI .u64 x (32:Int))))) (
 a0a (at? lenT (IntKind.wrap .u8 (shrI .u64 (shrI .u64 x (32:Int)) (8:Int)))) fun r2 =>
 some (IntKind.wrap .i64 ((40:Int)+(IntKind.wrap .i64 (((UInt8.toNat r2):Nat):Int))))) (
 a0a (at? lenT (IntKind.wrap .u8 (shrI .u64 x (32:Int)))) fun r3 =>
 some (IntKind.wrap .i64 ((32:Int)+(IntKind.wrap .i64 (((UInt8.toNat r3):Nat):Int))))))) (
 tif ((decide ((65536:Int)≤x))) (
 tif ((decide ((256:Int)≤(shrI .u64 x (16:Int))))) (
 a0a (at? lenT (IntKind.wrap .u8 (shrI .u64 (shrI .u64 x (16:Int)) (8:Int)))) fun r4 =>
 some (IntKind.wrap .i64 ((24:Int)+(IntKind.wrap .i64 (((UInt8.toNat r4):Nat):Int))))) (
 a0a (at? lenT (IntKind.wrap .u8 (shrI .u64 x (16:Int)))) fun r5 =>
 some (IntKind.wrap .i64 ((16:Int)+(IntKind.wrap .i64 (((UInt8.toNat r5):Nat):Int)))))) (
 tif ((decide ((256:Int)≤x))) (
 a0a (at? lenT (IntKind.wrap .u8 (shrI .u64 x (8:Int)))) fun r6 =>
 some (IntKind.wrap .i64 ((8:Int)+(IntKind.wrap .i64 (((UInt8.toNat r6):Nat):Int))))) (
 a0a (at? lenT (IntKind.wrap .u8 x)) fun r7 =>
 some (IntKind.wrap .i64 ((0:Int)+(IntKind.wrap .i64 (((UInt8.toNat r7):Nat):Int))))))):=z0i n x
theorem lenT_all:((List.range 256).all fun z=>match lenT[z]? with | some r=>decide (r.toNat=bl 64 z) | none=>false)=true:=by decide +kernel
end Go.Proofs.YtojobamheigpbaaGreatDoor
namespace Go.Proofs.YtojobamheigpbaaGreatDoor
open Go.Flat Go.Plim
set_option linter.unusedVariables false
set_option linter.unusedSimpArgs false
theorem d0v (n x:Nat):j0h (n+1) (ofN x)=some (decide (x=0)):=by
 rw[p1h,ofN_zero]
theorem up_small {x k:Nat} (hk:k≤128) (h:x*2^k<340282366920938463463374607431768211456):x<2^(128-k):=by
 have e:340282366920938463463374607431768211456=2^(128-k)*2^k:=by rw[←Nat.pow_add,show 128-k+k=128 by omega]
 rw[e] at h;exact Nat.lt_of_mul_lt_mul_right h
theorem t0g (n x k:Nat) (hk:k<128) (h:x*2^k<340282366920938463463374607431768211456):y0u (n+1) (ofN x) (k:Int)=some (ofN (x*2^k)):=by
 rw[y1w];simp only[tfd];by_cases c:64≤k
 ·have e:(k:Int)-64=((k-64:Nat):Int):=by omega
  have hx:x<18446744073709551616:=Nat.lt_of_lt_of_le (up_small (by omega) h) (show 2^(128-k)≤2^64 from Nat.pow_le_pow_right (by decide) (by omega));have e2:x*2^k=18446744073709551616*(x*2^(k-64)):=by
   rw[show (18446744073709551616:Nat)=2^64 from rfl,Nat.mul_left_comm,←Nat.pow_add,show 64+(k-64)=k by omega]
  rw[if_pos (by omega),w64 (by omega) (by omega),if_neg (by omega),e];show some (shlI .u64 ((x % 18446744073709551616:Nat):Int) _,_)=some (((x*2^k / 18446744073709551616:Nat):Int),((x*2^k % 18446744073709551616:Nat):Int));rw[shlN _ _ (by omega),Nat.mod_eq_of_lt hx,e2,Nat.mul_div_cancel_left _ (by decide),Nat.mul_mod_right];rw[e2] at h;have:x*2^(k-64)<18446744073709551616:=Nat.lt_of_mul_lt_mul_left (show 18446744073709551616*(x*2^(k-64))<18446744073709551616*18446744073709551616 from h);rw[Nat.mod_eq_of_lt this];rfl
 ·have e:(64:Int)-k=((64-k:Nat):Int):=by omega
  obtain ⟨a1,a2,a3⟩:=half_up (show k<64 by omega) h;rw[if_neg (by omega),if_neg (by omega),w64 (by omega) (by omega),if_neg (by omega),if_neg (by omega),e];show some (orI .u64 (shlI .u64 ((x / 18446744073709551616:Nat):Int) _) (shrI .u64 ((x % 18446744073709551616:Nat):Int) _),shlI .u64 ((x % 18446744073709551616:Nat):Int) _)=some (((x*2^k / 18446744073709551616:Nat):Int),((x*2^k % 18446744073709551616:Nat):Int));have hq:x*2^k / 18446744073709551616<18446744073709551616:=Nat.div_lt_of_lt_mul h
  have h1:x / 18446744073709551616*2^k<18446744073709551616:=Nat.lt_of_le_of_lt (by rw[←a1];exact Nat.le_add_right _ _) hq;have h2:x % 18446744073709551616 / 2^(64-k)<18446744073709551616:=Nat.lt_of_le_of_lt (Nat.div_le_self _ _) (Nat.mod_lt _ (by decide));rw[shlN _ _ (by omega),shrN _ _ (by omega),shlN _ _ (by omega),Nat.mod_eq_of_lt h1,orN h1 h2,c2f a2,a1,a3]
theorem w0h (n x k:Nat) (hk:k<128) (h:x<340282366920938463463374607431768211456):u0u (n+1) (ofN x) (k:Int)=some (ofN (x / 2^k)):=by
 rw[p1k];simp only[tfd];have hq:x / 18446744073709551616<18446744073709551616:=Nat.div_lt_of_lt_mul h;by_cases c:64≤k
 ·have e:(k:Int)-64=((k-64:Nat):Int):=by omega
  rw[if_pos (by omega),w64 (by omega) (by omega),if_neg (by omega),e];show some (_,shrI .u64 ((x / 18446744073709551616:Nat):Int) _)=some (((x / 2^k / 18446744073709551616:Nat):Int),((x / 2^k % 18446744073709551616:Nat):Int));have e2:x / 2^k=x / 18446744073709551616 / 2^(k-64):=by
   rw[Nat.div_div_eq_div_mul,show (18446744073709551616:Nat)=2^64 from rfl,←Nat.pow_add,show 64+(k-64)=k by omega]
  have hlt:x / 18446744073709551616 / 2^(k-64)<18446744073709551616:=Nat.lt_of_le_of_lt (Nat.div_le_self _ _) hq;rw[shrN _ _ (by omega),e2,Nat.div_eq_of_lt hlt,Nat.mod_eq_of_lt hlt];rfl
 ·have e:(64:Int)-k=((64-k:Nat):Int):=by omega
  obtain ⟨a1,a2,a3,m,a4⟩:=n2n (show k<64 by omega) h;rw[if_neg (by omega),if_neg (by omega),if_neg (by omega),w64 (by omega) (by omega),if_neg (by omega),e];show some (shrI .u64 ((x / 18446744073709551616:Nat):Int) _,orI .u64 (shrI .u64 ((x % 18446744073709551616:Nat):Int) _) (shlI .u64 ((x / 18446744073709551616:Nat):Int) _))=some (((x / 2^k / 18446744073709551616:Nat):Int),((x / 2^k % 18446744073709551616:Nat):Int));have h3:x % 18446744073709551616 / 2^k<18446744073709551616:=Nat.lt_of_le_of_lt (Nat.div_le_self _ _) (Nat.mod_lt _ (by decide))
  have h4:x / 18446744073709551616*2^(64-k) % 18446744073709551616<18446744073709551616:=Nat.mod_lt _ (by decide);rw[shrN _ _ (by omega),shrN _ _ (by omega),shlN _ _ (by omega),orN h3 h4,Nat.or_comm];have a4':x / 18446744073709551616*2^(64-k) % 18446744073709551616=m*2^(64-k):=by rw[Nat.mul_comm m];exact a4
  rw[a4',c2f a3,←a4',Nat.add_comm];rw[show x % 18446744073709551616 / 2^k+x / 18446744073709551616*2^(64-k) % 18446744073709551616=x / 2^k % 18446744073709551616 from a2,show x / 18446744073709551616 / 2^k=x / 2^k / 18446744073709551616 from a1]
theorem wide_sub (n:Nat) {x y:Nat} (hx:x<340282366920938463463374607431768211456) (h:y≤x):n1q (n+2) (ofN x) (ofN y)=some (ofN (x-y),0):=by
 rw[w1z];have h1:x / 18446744073709551616<18446744073709551616:=Nat.div_lt_of_lt_mul hx;have h2:y / 18446744073709551616<18446744073709551616:=Nat.div_lt_of_lt_mul (Nat.lt_of_le_of_lt h hx);have h3:x % 18446744073709551616<18446744073709551616:=Nat.mod_lt _ (by decide);have h4:y % 18446744073709551616<18446744073709551616:=Nat.mod_lt _ (by decide);have e:∀z:Nat,ofN z=(((z / 18446744073709551616:Nat):Int),((z % 18446744073709551616:Nat):Int)):=fun _=>rfl
 rw[e x,e y,e (x-y)];have ex:=Nat.div_add_mod x 18446744073709551616;have ey:=Nat.div_add_mod y 18446744073709551616;have ez:=Nat.div_add_mod (x-y) 18446744073709551616;have h5:(x-y) % 18446744073709551616<18446744073709551616:=Nat.mod_lt _ (by decide);generalize x / 18446744073709551616=a at *
 generalize x % 18446744073709551616=b at *
 generalize y / 18446744073709551616=c at *
 generalize y % 18446744073709551616=d at *
 generalize (x-y) / 18446744073709551616=p at *
 generalize (x-y) % 18446744073709551616=q at *
 simp only[s0u,tfd,tft];by_cases hb:b<d
 ·have hb':(b:Int)<(d:Int)+0:=by omega
  rw[if_pos (by omega),if_pos (by omega),if_pos (by omega),if_pos (by omega),if_pos (by omega),if_pos (by omega),if_pos hb',if_pos (by omega),if_pos (by omega),if_neg (by omega),l0c,obs,if_pos rfl];congr 3<;>omega
 ·have hb':¬(b:Int)<(d:Int)+0:=by omega
  rw[if_pos (by omega),if_pos (by omega),if_pos (by omega),if_pos (by omega),if_pos (by omega),if_pos (by omega),if_neg hb',if_pos (by omega),if_pos (by omega),if_neg (by omega),l0c,obs,if_pos rfl];congr 3<;>omega
theorem o0t (n:Nat) {x y:Nat} (hx:x<340282366920938463463374607431768211456) (h:y≤x):j0i (n+3) (ofN x) (ofN y)=some (ofN (x-y)):=by
 rw[p1j,wide_sub n hx h];rfl
theorem a1o (n:Nat) {x y:Nat} (hx:x<340282366920938463463374607431768211456) (hy:y<340282366920938463463374607431768211456):j0y (n+1) (ofN x) (ofN y)=some (decide (x<y)):=by
 rw[s1o n (o0a hx) (o0a hy),l1j,l1j];congr 1;exact decide_eq_decide.2 (by omega)
theorem tz_pow (n:Nat):((List.range 64).all fun t=>match k0k (n+1) ((2^t:Nat):Int) with | some r=>decide (r=(t:Int)) | none=>false)=true:=by kernel_rfl
theorem tz_at (n t:Nat) (ht:t<64):k0k (n+1) ((2^t:Nat):Int)=some (t:Int):=by
 have h:=List.all_eq_true.1 (tz_pow n) t (List.mem_range.2 ht);split at h
 ·rename_i r hr;rw[hr,of_decide_eq_true h]
 ·cases h
theorem c2t {x:Nat} (h0:0<x) (h:x<18446744073709551616):andI .u64 (x:Int) (IntKind.wrap .u64 ((0:Int)-x))=((2^tz 64 x:Nat):Int):=by
 rw[show IntKind.wrap .u64 ((0:Int)-x)=((18446744073709551616-x:Nat):Int) by rw[IntKind.wrap_u64];omega,andN h (by omega)];exact congrArg Int.ofNat (low_bit h0 h)
theorem tz_val (n:Nat) {x:Nat} (h0:0<x) (h:x<18446744073709551616):k0k (n+1) (x:Int)=some ((tz 64 x:Nat):Int):=by
 have ht:=(w0p 64 x h0 h).1;have hp:=Nat.two_pow_pos (tz 64 x);have hp2:2^tz 64 x<18446744073709551616:=Nat.pow_lt_pow_right (a:=2) (by decide) ht;rw[←tz_at n _ ht];have e:tz 64 (2^tz 64 x)=tz 64 x:=f1w hp hp2 (Nat.mod_self _) (by rw[Nat.div_self hp]);rw[d1n,d1n,c2t h0 h,c2t hp hp2,e,decide_eq_false (show ¬((x:Int)=0) by omega),decide_eq_false (show ¬(((2^tz 64 x:Nat):Int)=0) by omega)]
theorem w0z (n:Nat) {x:Nat} (h0:0<x) (h:x<340282366920938463463374607431768211456):g0b (n+2) (ofN x)=some ((tz 128 x:Nat):Int):=by
 rw[d1v];show tif (decide (((x % 18446744073709551616:Nat):Int)=0)) (a0a (k0k (n+1) ((x / 18446744073709551616:Nat):Int)) fun r0=>some (IntKind.wrap .i64 (64+r0))) (a0a (k0k (n+1) ((x % 18446744073709551616:Nat):Int)) fun r1=>some r1)=_;rw[tfd];by_cases c:x % 18446744073709551616=0
 ·have h1:0<x / 18446744073709551616:=by omega
  have h2:x / 18446744073709551616<18446744073709551616:=Nat.div_lt_of_lt_mul h;have ht:=(w0p 64 _ h1 h2).1;rw[if_pos (by omega),tz_val n h1 h2,obs,w64 (by omega) (by omega),tz_hi h c h0];congr 1
 ·rw[if_neg (by omega),tz_val n (by omega) (Nat.mod_lt _ (by decide)),obs,tz_lo h (by omega)]
theorem lenT_at {z:Nat} (h:z<256):∃r,at? lenT (z:Int)=some r∧r.toNat=bl 64 z:=by
 have h1:=List.all_eq_true.1 lenT_all z (List.mem_range.2 h);split at h1
 ·rename_i r hr;refine ⟨r,?_,of_decide_eq_true h1⟩;unfold at?;rw[decide_eq_true (by omega)];exact hr
 ·cases h1
theorem o0e {x s K:Nat} {I S:Int} (hK:K=2^s) (hI:I=((x / K:Nat):Int)) (hS:S=s) (h2:x / K<256) (h1:K≤x∨s=0) (hx:x<18446744073709551616) (hs:s≤56) :
  (a0a (at? lenT (IntKind.wrap .u8 I)) fun r=>some (IntKind.wrap .i64 (S+IntKind.wrap .i64 (((UInt8.toNat r):Nat):Int))))=some ((bl 64 x:Nat):Int):=by
 obtain ⟨r,hr,hb⟩:=lenT_at h2;have hle:=(j0r 64 (x / K) (Nat.lt_of_le_of_lt (Nat.div_le_self _ _) hx)).2.2;have e:bl 64 x=s+bl 64 (x / K):=by
  rcases h1 with h1 | rfl
  ·rw[hK] at h1 ⊢;exact e2d hx h1
  ·subst hK;simp
 rw[hI,e];generalize x / K=z at *
 rw[wu8 (by omega) (by omega),hr,obs,hb,w64 (x:=((bl 64 z:Nat):Int)) (by omega) (by omega),hS,w64 (by omega) (by omega)];congr 1
theorem v1k (n:Nat) {x:Nat} (h:x<18446744073709551616):d0i (n+1) (x:Int)=some ((bl 64 x:Nat):Int):=by
 have s32:∀z:Nat,shrI .u64 (z:Int) (32:Int)=((z / 4294967296:Nat):Int):=fun z=>shrN z 32 (by decide)
 have s16:∀z:Nat,shrI .u64 (z:Int) (16:Int)=((z / 65536:Nat):Int):=fun z=>shrN z 16 (by decide)
 have s8:∀z:Nat,shrI .u64 (z:Int) (8:Int)=((z / 256:Nat):Int):=fun z=>shrN z 8 (by decide)
 have h':=h;rw[h2a];simp only[s32,s16,s8,tfd];by_cases c5:4294967296≤x
 ·rw[if_pos (by omega)];by_cases c4:65536≤x / 4294967296
  ·rw[if_pos (by omega)];by_cases c3:256≤x / 4294967296 / 65536
   ·rw[if_pos (by omega)];exact o0e (s:=56) (K:=72057594037927936) rfl (by omega) rfl (by omega) (.inl (by omega)) h (by decide)
   ·rw[if_neg (by omega)];exact o0e (s:=48) (K:=281474976710656) rfl (by omega) rfl (by omega) (.inl (by omega)) h (by decide)
  ·rw[if_neg (by omega)];by_cases c3:256≤x / 4294967296
   ·rw[if_pos (by omega)];exact o0e (s:=40) (K:=1099511627776) rfl (by omega) rfl (by omega) (.inl (by omega)) h (by decide)
   ·rw[if_neg (by omega)];exact o0e (s:=32) (K:=4294967296) rfl (by omega) rfl (by omega) (.inl (by omega)) h (by decide)
 ·rw[if_neg (by omega)];by_cases c4:65536≤x
  ·rw[if_pos (by omega)];by_cases c3:256≤x / 65536
   ·rw[if_pos (by omega)];exact o0e (s:=24) (K:=16777216) rfl (by omega) rfl (by omega) (.inl (by omega)) h (by decide)
   ·rw[if_neg (by omega)];exact o0e (s:=16) (K:=65536) rfl (by omega) rfl (by omega) (.inl (by omega)) h (by decide)
  ·rw[if_neg (by omega)];by_cases c3:256≤x
   ·rw[if_pos (by omega)];exact o0e (s:=8) (K:=256) rfl (by omega) rfl (by omega) (.inl (by omega)) h (by decide)
   ·rw[if_neg (by omega)];exact o0e (s:=0) (K:=1) rfl (by omega) rfl (by omega) (.inr rfl) h (by decide)
theorem c2w (n:Nat) {x:Nat} (h:x<340282366920938463463374607431768211456):u0t (n+2) (ofN x)=some ((bl 128 x:Nat):Int):=by
 rw[p1i];show tif (!decide (((x / 18446744073709551616:Nat):Int)=0)) (a0a (d0i (n+1) ((x / 18446744073709551616:Nat):Int)) fun r0=>some (IntKind.wrap .i64 (64+r0))) (a0a (d0i (n+1) ((x % 18446744073709551616:Nat):Int)) fun r1=>some r1)=_;have hq:x / 18446744073709551616<18446744073709551616:=Nat.div_lt_of_lt_mul h;rw[tfn,tfd];by_cases c:x / 18446744073709551616=0
 ·have hx:x<18446744073709551616:=by omega
  rw[if_pos (by omega),v1k n (Nat.mod_lt _ (by decide)),obs,Nat.mod_eq_of_lt hx,e2c (k:=64) (m:=128) hx h]
 ·have hle:=(j0r 64 (x / 18446744073709551616) hq).2.2;rw[if_neg (by omega),v1k n hq,obs,w64 (by omega) (by omega),e2d (k:=128) (s:=64) h (by omega)];rw[←e2c (k:=128) (m:=64) (x:=x / 18446744073709551616) (Nat.lt_of_lt_of_le hq (by decide)) hq];congr 1
theorem or_ofN {x y:Nat} (hx:x<340282366920938463463374607431768211456) (hy:y<340282366920938463463374607431768211456):((orI .u64 (ofN x).1 (ofN y).1,orI .u64 (ofN x).2 (ofN y).2):Wd)=ofN (x ||| y):=by
 show ((orI .u64 ((x / 18446744073709551616:Nat):Int) ((y / 18446744073709551616:Nat):Int),orI .u64 ((x % 18446744073709551616:Nat):Int) ((y % 18446744073709551616:Nat):Int)):Wd)=((((x ||| y) / 18446744073709551616:Nat):Int),(((x ||| y) % 18446744073709551616:Nat):Int));have e1:(x ||| y) / 18446744073709551616=x / 18446744073709551616 ||| y / 18446744073709551616:=Nat.or_div_two_pow (n:=64)
 have e2:(x ||| y) % 18446744073709551616=x % 18446744073709551616 ||| y % 18446744073709551616:=Nat.or_mod_two_pow (n:=64)
 rw[e1,e2,orN (Nat.div_lt_of_lt_mul hx) (Nat.div_lt_of_lt_mul hy),orN (Nat.mod_lt _ (by decide)) (Nat.mod_lt _ (by decide))]
theorem one_ofN:((0,1):Wd)=ofN 1:=rfl
theorem zero_ofN:((0,0):Wd)=ofN 0:=rfl
theorem whole_l3 (n:Nat) {d A:Nat} (hd:0<d) (hA:A<340282366920938463463374607431768211456) (hdM:d<340282366920938463463374607431768211456) (s4:Wd):∀(k f a q:Nat),q+a / d=A / d→a≤A→a<d*2^k→2^k ∣ q→(k=0∨d*2^(k-1)<340282366920938463463374607431768211456)→k≤128→k<f →
  g0r (n+3) f (ofN a,ofN d,s4,ofN q,(k:Int)-1,())=some (.inl (s4,ofN (A / d),())):=by
 intro k;induction k with
 | zero =>
  intro f a q h1 h2 h3 h4 h5 h6 hf;obtain ⟨f,rfl⟩:∃g,f=g+1:=⟨f-1,by omega⟩;rw[j0g,decide_eq_false (by omega),tff];rw[Nat.pow_zero,Nat.mul_one] at h3;rw[Nat.div_eq_of_lt h3,Nat.add_zero] at h1;rw[h1]
 | succ k ih =>
  intro f a q h1 h2 h3 h4 h5 h6 hf;obtain ⟨f,rfl⟩:∃g,f=g+1:=⟨f-1,by omega⟩;have h5':d*2^k<340282366920938463463374607431768211456:=by
   rcases h5 with h | h
   ·cases h
   ·exact h
  have hk5:k=0∨d*2^(k-1)<340282366920938463463374607431768211456:=by
   rcases Nat.eq_zero_or_pos k with e | e
   ·exact .inl e
   ·refine .inr (Nat.lt_of_le_of_lt (Nat.mul_le_mul_left d (Nat.pow_le_pow_right (by decide) (Nat.sub_le _ _))) h5')
  have hpk:2^k<340282366920938463463374607431768211456:=Nat.lt_of_lt_of_le (Nat.pow_lt_pow_right (a:=2) (n:=128) (by decide) (by omega)) (by decide);have eb:((k+1:Nat):Int)-1=(k:Int):=by omega
  have hq2:2^k ∣ q:=Nat.dvd_trans (Nat.pow_dvd_pow 2 (Nat.le_succ k)) h4;rw[j0g,eb,decide_eq_true (by omega),tft,t0g (n+2) d k (by omega) h5',obs,a1o (n+2) (by omega) h5',obs,w64 (by omega) (by omega),tfd];by_cases hlt:a<d*2^k
  ·rw[if_pos hlt];exact ih f a q h1 h2 hlt hq2 hk5 (by omega) (by omega)
  ·rw[if_neg hlt,o0t n (by omega) (by omega),obs,a1n,obs,one_ofN,t0g (n+2) 1 k (by omega) (by rw[Nat.one_mul];exact hpk),obs,Nat.one_mul];have hqA:q≤A / d:=by rw[←h1];exact Nat.le_add_right _ _
   have hqM:q<340282366920938463463374607431768211456:=Nat.lt_of_le_of_lt (Nat.le_trans hqA (Nat.div_le_self _ _)) hA;rw[or_ofN hqM hpk,or_pow h4];refine ih f (a-d*2^k) (q+2^k) ?_ (by omega) ?_ (Nat.dvd_add hq2 (Nat.dvd_refl _)) hk5 (by omega) (by omega)
   ·rw[div_part hd (by omega)];exact h1
   ·rw[Nat.pow_succ,←Nat.mul_assoc] at h3;omega
theorem t0f (n:Nat) {a d:Nat} (ha:a<340282366920938463463374607431768211456) (hd:0<d) (hdM:d<340282366920938463463374607431768211456):r0f (n+4) (ofN a) (ofN d)=some (ofN (a / d)):=by
 have la:=(j0r 128 a ha).2.2;have ld:=(j0r 128 d hdM).2;have ld1:=(ld.1 hd).1;rw[k1j,c2w (n+1) ha,obs,c2w (n+1) hdM,obs,w64 (by omega) (by omega)];by_cases h:bl 128 d≤bl 128 a
 ·have h0:0<a:=by
   rcases Nat.eq_zero_or_pos a with e | e
   ·rw[e,c1l] at h;omega
   ·exact e
  have e:((bl 128 a:Nat):Int)-((bl 128 d:Nat):Int)=((bl 128 a-bl 128 d+1:Nat):Int)-1:=by omega
  rw[e,zero_ofN,whole_l3 n hd ha hdM _ (bl 128 a-bl 128 d+1) a0b a 0 (by omega) (Nat.le_refl _) (bl_over ha hdM hd) (Nat.dvd_zero _) (.inr (by rw[Nat.add_sub_cancel];exact bl_up ha hdM (by omega) h0)) (by omega) (by unfold a0b;omega),obs,a0w]
 ·have hlt:=bl_less ha hdM (by omega);rw[show a0b=(2^70-1)+1 from rfl,j0g,decide_eq_false (by omega),tff,obs,a0w,Nat.div_eq_of_lt hlt];rfl
theorem d2f (n:Nat) {A B f:Nat} (ha0:0<A) (ha:A<340282366920938463463374607431768211456) (hb0:0<B) (hb:B<340282366920938463463374607431768211456) (s4:Wd) (tw:Int):d0a (n+3) (f+1) (ofN A,ofN B,s4,tw,()) =
  if od B<A then d0a (n+3) f (ofN (od B),ofN (A-od B),s4,tw,()) else d0a (n+3) f (ofN A,ofN (od B-A),s4,tw,()):=by
 have ht:=(o0w hb0 hb).1;have hle:od B<340282366920938463463374607431768211456:=Nat.lt_of_le_of_lt (od_le B) hb;rw[m0t,d0v,obs,tfn,decide_eq_false (by omega),tff,w0z (n+1) hb0 hb,obs,w0h (n+2) B _ ht hb,obs]
 change a0a (j0y (n+3) (ofN (od B)) (ofN A)) _=_
 rw[a1o (n+2) hle ha,obs,tfd];by_cases h:od B<A
 ·rw[if_pos h,if_pos h]
  change a0a (j0i (n+3) (ofN A) (ofN (od B))) _=_
  rw[o0t n ha (by omega),obs];rfl
 ·rw[if_neg h,if_neg h]
  change a0a (j0i (n+3) (ofN (od B)) (ofN A)) _=_
  rw[o0t n hle (by omega),obs]
theorem gcd_l5 (n:Nat) (s4:Wd) (tw:Int):∀(k f A B:Nat),0<A→A<340282366920938463463374607431768211456→A % 2=1→B<340282366920938463463374607431768211456→B % 2=0→A*B<2^k→k<f →
  d0a (n+3) f (ofN A,ofN B,s4,tw,())=some (.inl (ofN (Nat.gcd A B),s4,tw,())):=by
 intro k;induction k with
 | zero =>
  intro f A B h1 h2 h3 h4 h5 h6 hf;obtain ⟨f,rfl⟩:∃g,f=g+1:=⟨f-1,by omega⟩;have:B=0:=by
   rcases Nat.eq_zero_or_pos B with e | e
   ·exact e
   ·have:=Nat.mul_pos h1 e;omega
  subst this;rw[m0t,d0v,obs,tfn,decide_eq_true rfl,tft,Nat.gcd_zero_right]
 | succ k ih =>
  intro f A B h1 h2 h3 h4 h5 h6 hf;obtain ⟨f,rfl⟩:∃g,f=g+1:=⟨f-1,by omega⟩;rcases Nat.eq_zero_or_pos B with e | hB
  ·subst e;rw[m0t,d0v,obs,tfn,decide_eq_true rfl,tft,Nat.gcd_zero_right]
  ·have hev:=od_even hB h4 h5;have hod:=(o0w hB h4).2.2;have hpos:=m2e hB h4;have hg:=n2q h3 hB h4;have hp:A*od B<2^k:=by
    have:A*(2*od B)≤A*B:=Nat.mul_le_mul_left A hev;rw[Nat.mul_left_comm] at this;rw[Nat.pow_succ] at h6;omega
   rw[d2f n h1 h2 hB h4];by_cases h:od B<A
   ·rw[if_pos h,ih f (od B) (A-od B) hpos (by omega) hod (by omega) (by omega) (Nat.lt_of_le_of_lt (by rw[Nat.mul_comm A];exact Nat.mul_le_mul_left _ (Nat.sub_le _ _)) hp) (by omega),f1g (by omega),Nat.gcd_comm,hg]
   ·rw[if_neg h,ih f A (od B-A) h1 h2 h3 (by omega) (by omega) (Nat.lt_of_le_of_lt (Nat.mul_le_mul_left _ (Nat.sub_le _ _)) hp) (by omega),f1g (by omega),hg]
theorem gcd_any (n:Nat) (s4:Wd) (tw:Int) {A B:Nat} (h1:0<A) (h2:A<340282366920938463463374607431768211456) (h3:A % 2=1) (hB:0<B) (h4:B<340282366920938463463374607431768211456):d0a (n+3) a0b (ofN A,ofN B,s4,tw,())=some (.inl (ofN (Nat.gcd A B),s4,tw,())):=by
 have hod:=(o0w hB h4).2.2;have hpos:=m2e hB h4;have hle:=od_le B;have hg:=n2q h3 hB h4;have hm:∀ {x y:Nat},x<340282366920938463463374607431768211456→y<340282366920938463463374607431768211456→x*y<2^256:=fun hx hy=>Nat.lt_of_lt_of_le (Nat.mul_lt_mul'' hx hy) (by decide)
 rw[show a0b=(2^70-1)+1 from rfl,d2f n h1 h2 hB h4];by_cases h:od B<A
 ·rw[if_pos h,gcd_l5 n s4 tw 256 _ (od B) (A-od B) hpos (by omega) hod (by omega) (by omega) (hm (by omega) (by omega)) (by decide),f1g (by omega),Nat.gcd_comm,hg]
 ·rw[if_neg h,gcd_l5 n s4 tw 256 _ A (od B-A) h1 h2 h3 (by omega) (by omega) (hm (by omega) (by omega)) (by decide),f1g (by omega),hg]
theorem u1g (n:Nat) {x y:Nat} (hx:x<340282366920938463463374607431768211456) (hy:y<340282366920938463463374607431768211456):y0v (n+4) (ofN x) (ofN y)=some (ofN (Nat.gcd x y)):=by
 rw[u1h,d0v,obs,or_ofN hx hy];by_cases h0:x=0
 ·subst h0;rw[decide_eq_true rfl,tft,Nat.gcd_zero_left,Nat.zero_or]
 rw[decide_eq_false h0,tff,d0v,obs];by_cases h1:y=0
 ·subst h1;rw[decide_eq_true rfl,tft,Nat.gcd_zero_right,Nat.or_zero]
 have hx0:0<x:=by omega
 have hy0:0<y:=by omega
 obtain ⟨a1,a2,a3⟩:=o0w hx0 hx;obtain ⟨b1,b2,b3⟩:=o0w hy0 hy;have hle:od x<340282366920938463463374607431768211456:=Nat.lt_of_le_of_lt (od_le x) hx;rw[decide_eq_false h1,tff,w0z (n+1) hx0 hx,obs,w0z (n+1) hy0 hy,obs,obs,w0h (n+2) x _ a1 hx,obs]
 change a0a (d0a (n+3) a0b (ofN (od x),ofN y,_,_,())) _=_
 rw[gcd_any n _ _ (m2e hx0 hx) hle a3 hy0 hy,obs,a0w];have e:(if ((tz 128 y:Nat):Int)<((tz 128 x:Nat):Int) then ((tz 128 y:Nat):Int) else ((tz 128 x:Nat):Int))=((min (tz 128 x) (tz 128 y):Nat):Int):=by
  split<;>omega
 have hg:=n2o hx0 hx hy0 hy;have hlt:Nat.gcd x y<340282366920938463463374607431768211456:=Nat.lt_of_le_of_lt (Nat.gcd_le_left y hx0) hx;simp only;rw[e,t0g (n+2) _ _ (by omega) (by rw[←hg];exact hlt),obs,←hg]
theorem lo_ofN {b:Nat} (h:b<18446744073709551616):(((0:Int),(b:Int)):Wd)=ofN b:=by
 unfold ofN;rw[Nat.div_eq_of_lt h,Nat.mod_eq_of_lt h];rfl
def redV (x y:Nat):(Wd×Wd)×Int:=if y=0 then (((0,0),(0,0)),1) else ((ofN (x / Nat.gcd x y),ofN (y / Nat.gcd x y)),0)
theorem u1f (n:Nat) {x y:Nat} (hx:x<340282366920938463463374607431768211456) (hy:y<340282366920938463463374607431768211456):t0i (n+5) (ofN x) (ofN y)=some (redV x y):=by
 rw[g1z,d0v,obs,tfd];unfold redV;by_cases h:y=0
 ·rw[if_pos h,if_pos h]
 ·have hg:0<Nat.gcd x y:=Nat.gcd_pos_of_pos_right x (by omega);have hl:Nat.gcd x y<340282366920938463463374607431768211456:=Nat.lt_of_le_of_lt (Nat.gcd_le_right x (by omega)) hy;rw[if_neg h,if_neg h,u1g n hx hy,obs,t0f n hx hg hl,obs,t0f n hy hg hl,obs]
def k1m (a:Wd) (ms:Int):(Wd×Wd)×Int :=
 if ms=0 then (((0,0),(0,0)),12) else if wv a*1000<340282366920938463463374607431768211456 then redV (wv a*1000).toNat ms.toNat else (((0,0),(0,0)),1)
theorem g2h {a:Wd} (ha:WdOk a) {ms:Int} (hm:0≤ms∧ms≤18446744073709551615) (h:wv a*1000<340282366920938463463374607431768211456):mkW (wv a*1000)=ofN (wv a*1000).toNat∧(wv a*1000).toNat<340282366920938463463374607431768211456∧(((0:Int),ms):Wd)=ofN ms.toNat∧ms.toNat<340282366920938463463374607431768211456:=by
 obtain ⟨h1,h2⟩:=h0v ha;have e:wv a*1000=(((wv a*1000).toNat:Nat):Int):=by omega
 refine ⟨?_,by omega,?_,by omega⟩
 ·conv=>lhs;rw[e]
  exact i1g _
 ·rw[←lo_ofN (by omega)];congr 1;omega
theorem m1e (n:Nat) {a:Wd} (ha:WdOk a) {ms:Int} (hm:0≤ms∧ms≤18446744073709551615):u0v (n+6) a ms=some (k1m a ms):=by
 rw[p1l,tfd];unfold k1m;by_cases h0:ms=0
 ·rw[if_pos h0,if_pos h0]
 rw[if_neg h0,if_neg h0,u0g (n+3) ha 1000 (by omega),obs];unfold g1c;by_cases h:wv a*1000<340282366920938463463374607431768211456
 ·obtain ⟨p1,p2,p3,p4⟩:=g2h ha hm h;rw[if_pos h,if_pos h];simp only[decide_true,Bool.not_true,tff];rw[a1n,obs,p1,p3,u1f n p2 p4,obs]
 ·rw[if_neg h,if_neg h];rfl
section
variable {del:Ev×Unit→Option Bool} {p:Ev→Bool} {L:List Ev} (hd:∀x∈L,del (x,())=some (p x))
include hd
theorem index_ev (n:Nat) (l:List Ev) (hL:l.length≤1000000):∀(rest pre:List Ev) (f:Nat) (i len:Int),(∀x∈rest,x∈L)→l=pre++rest→i=pre.length→len=l.length→rest.length<f →
  (c0l n f (l,del,len,i,())=some (.inl ())∧∀x∈rest,p x=false) ∨
  (∃A x B,rest=A++x::B∧(∀y∈A,p y=false)∧p x=true∧c0l n f (l,del,len,i,())=some (.inr (i+A.length))):=by
 intro rest;induction rest with
 | nil =>
  intro pre f i len hm hl hi hn hf;obtain ⟨f,rfl⟩:∃g,f=g+1:=⟨f-1,by simp at hf;omega⟩;rw[h0h];exact .inl ⟨by simp only[tfd,if_neg (idxe hl hi hn)],by simp⟩
 | cons x rest ih =>
  intro pre f i len hm hl hi hn hf;obtain ⟨f,rfl⟩:∃g,f=g+1:=⟨f-1,by simp at hf;omega⟩;rw[h0h];simp only[tfd,if_pos (idx hl hi hn),b0s hl hi,obs,hd x (hm x (by simp)),idxw hl hi (show l.length≤1000000000000 by omega)];cases hp:p x with
  | true=>exact .inr ⟨[],x,rest,rfl,by simp,hp,by simp⟩
  | false =>
   rw[tff];rcases ih (pre++[x]) f (i+1) len (fun y hy=>hm y (by simp[hy])) (idxl hl) (idxs hi) hn (by simp at hf;omega) with ⟨h1,h2⟩ | ⟨A,y,B,h1,h2,h3,h4⟩
   ·exact .inl ⟨h1,by intro z hz;rcases List.mem_cons.1 hz with rfl | hz;exact hp;exact h2 z hz⟩
   ·refine .inr ⟨x::A,y,B,by rw[h1];rfl,?_,h3,by rw[h4,List.length_cons,show i+1+(A.length:Int)=i+((A.length+1:Nat):Int) by omega]⟩;intro z hz;rcases List.mem_cons.1 hz with rfl | hz
    ·exact hp
    ·exact h2 z hz
theorem o2v (n:Nat) (l0:List Ev) (hL:l0.length≤1000000):∀(rest F G:List Ev) (f:Nat) (i j:Int),(∀x∈rest,x∈L)→(F++(G++rest)).length=l0.length→G≠[]→i=F.length→j=F.length+G.length→rest.length<f →
  ∃G',c0e n f (F++(G++rest),del,i,j,())=some (.inl (F++rest.filter (fun x => !p x)++G',(F++rest.filter (fun x => !p x)).length,()))∧(F++rest.filter (fun x => !p x)++G').length=l0.length:=by
 intro rest;induction rest with
 | nil =>
  intro F G f i j hm hl hg hi hj hf;obtain ⟨f,rfl⟩:∃g,f=g+1:=⟨f-1,by simp at hf;omega⟩;rw[g0q];have:¬(j<((F++(G++[])).length:Int)):=by simp;omega
  simp only[tfd,if_neg this];exact ⟨G,by simp[hi],by simpa using hl⟩
 | cons x rest ih =>
  intro F G f i j hm hl hg hi hj hf;have hm':∀y∈rest,y∈L:=fun y hy=>hm y (by simp[hy])
  obtain ⟨f,rfl⟩:∃g,f=g+1:=⟨f-1,by simp at hf;omega⟩;rw[g0q];simp only[List.length_append,List.length_cons] at hl;have hlt:j<((F++(G++x::rest)).length:Int):=by simp;omega
  have hat:at? (F++(G++x::rest)) j=some x:=b0s (pre:=F++G) (rest:=rest) (by simp) (by simp;omega);have hget:(F++(G++x::rest))[j.toNat]? = some x:=by
   rw[show j.toNat=F.length+G.length by omega,List.getElem?_append_right (by omega),List.getElem?_append_right (by omega)];simp
  simp only[tfd,if_pos hlt,hat,hget,obs,hd x (hm x (by simp))];have wj:IntKind.wrap .i64 (j+1)=j+1:=by rw[w64 (by omega) (by omega)]
  have wi:IntKind.wrap .i64 (i+1)=i+1:=by rw[w64 (by omega) (by omega)]
  rw[wj,wi]
  match G,hg with
  | g::G,_ =>
  cases hp:p x with
  | false =>
   have hat':at? (F++(g::G++x::rest)) i=some g:=b0s (pre:=F) (rest:=G++x::rest) (by simp) hi;have hget':(F++(g::G++x::rest))[i.toNat]? = some g:=by
    rw[show i.toNat=F.length by omega];simp
   have hset:(F++(g::G++x::rest)).set i.toNat x=(F++[x])++((G++[x])++rest):=by
    rw[show i.toNat=F.length by omega,List.set_append_right _ _ (by omega)];simp
   simp only[Bool.not_false,tft,hat',hget',obs,hset];obtain ⟨G',h1,h2⟩:=ih (F++[x]) (G++[x]) f (i+1) (j+1) hm' (by simp at hl ⊢;omega) (by simp) (by simp;omega) (by simp at hj ⊢;omega) (by simp at hf;omega);refine ⟨G',?_,?_⟩
   ·rw[h1];simp[List.filter_cons,hp]
   ·rw[←h2];simp[List.filter_cons,hp]
  | true =>
   simp only[Bool.not_true,tff];obtain ⟨G',h1,h2⟩:=ih F (g::G++[x]) f i (j+1) hm' (by simp at hl ⊢;omega) (by simp) hi (by simp at hj ⊢;omega) (by simp at hf;omega);simp only[List.append_assoc,List.singleton_append] at h1;refine ⟨G',?_,?_⟩
   ·rw[h1];simp[List.filter_cons,hp]
   ·rw[←h2];simp[List.filter_cons,hp]
theorem i2n (n:Nat) (l:List Ev) (hL:l.length≤1000000) (hm:∀x∈l,x∈L):d0h (n+2) l del=some (l.filter fun x => !p x):=by
 rw[s0n,s0z];rcases index_ev hd n l hL l [] a0b 0 l.length hm rfl rfl rfl (by unfold a0b;omega) with ⟨h1,h2⟩ | ⟨A,x,B,h1,h2,h3,h4⟩
 ·rw[h1];simp only[obs,a0w,tfd,if_pos trivial];exact congrArg some (List.filter_eq_self.2 fun y hy=>by simp[h2 y hy]).symm
 ·rw[h4];have hl:l.length=A.length+(B.length+1):=by rw[h1];simp
  simp only[obs,m0p,tfd,Int.zero_add];rw[if_neg (by omega),w64 (x:=(A.length:Int)+1) (by omega) (by omega)];obtain ⟨G',g1,g2⟩:=o2v hd (n+1) l hL B A [x] a0b (A.length:Int) (A.length+1) (fun y hy=>hm y (by rw[h1];simp[hy])) (by rw[h1];simp) (by simp) rfl (by simp) (by unfold a0b;omega);rw[show A++([x]++B)=l by rw[h1];simp] at g1;rw[g1];have hF:A++B.filter (fun x => !p x)=l.filter fun x => !p x:=by
   rw[h1,List.filter_append,List.filter_cons];have:A.filter (fun x => !p x)=A:=List.filter_eq_self.2 fun y hy=>by simp[h2 y hy]
   simp[h3,this]
  rw[hF] at g2 ⊢;generalize (l.filter fun x => !p x)=F at *
  simp only[obs,a0w,s0u,tfd,Int.toNat_natCast];have hle:F.length≤(F++G').length:=by simp
  have k1:putRow (F++G') F.length (List.replicate ((F++G').length-F.length) ((0:Int),((0:Int),((0:Int),false))))=F++List.replicate ((F++G').length-F.length) ((0:Int),((0:Int),((0:Int),false))):=by
   unfold putRow;rw[List.drop_of_length_le (by simp)];simp
  rw[k1,if_pos (by omega),if_pos hle,if_pos (by omega),if_pos (by omega),if_pos (by simp;omega)];simp
end
def WidP (w:Int):Prop:=1≤w∧w≤1099511627776
instance (w:Int):Decidable (WidP w):=by unfold WidP;infer_instance
def RngP (a b:Int):Prop:=0≤a∧b≤35184372088832∧a<b
instance (a b:Int):Decidable (RngP a b):=by unfold RngP;infer_instance
def o0o (a b w:Int):Int×(Int×Int):=if WidP w∧RngP a b then (if a % w=0∧b % w=0 then (a / w,(b / w,0)) else (0,(0,10))) else (0,(0,1))
theorem k2n {w:Int} (a b:Int) (hw:WidP w) :
  (tif (decide (a<(0:Int))) (some ((0:Int),((0:Int),(1:Int)))) (
  tif (decide ((35184372088832:Int)<b)) (some ((0:Int),((0:Int),(1:Int)))) (
  tif (decide (b≤a)) (some ((0:Int),((0:Int),(1:Int)))) (
  tif (decide (w=(0:Int))) none (
  tif (!(decide ((Int.tmod a w)=(0:Int)))) (some ((0:Int),((0:Int),(10:Int)))) (
  tif (decide (w=(0:Int))) none (
  tif (!(decide ((Int.tmod b w)=(0:Int)))) (some ((0:Int),((0:Int),(10:Int)))) (
  tif (decide (w=(0:Int))) none (
  tif (decide (w=(0:Int))) none (
  some ((IntKind.wrap .i64 (Int.tdiv a w)),((IntKind.wrap .i64 (Int.tdiv b w)),(0:Int)))))))))))))=some (o0o a b w):=by
 obtain ⟨w1,w2⟩:=hw;unfold o0o;simp only[tfd,tfn];by_cases h:RngP a b
 ·obtain ⟨h1,h2,h3⟩:=h;have qa:0≤a / w∧a / w≤a:=⟨Int.ediv_nonneg h1 (by omega),Int.ediv_le_self _ h1⟩;have qb:0≤b / w∧b / w≤b:=⟨Int.ediv_nonneg (by omega) (by omega),Int.ediv_le_self _ (by omega)⟩;rw[if_neg (by omega),if_neg (by omega),if_neg (by omega),if_neg (by omega),if_pos (show WidP w∧RngP a b from ⟨⟨w1,w2⟩,h1,h2,h3⟩),o0l h1,o0l (show 0≤b by omega),m0c h1,m0c (show 0≤b by omega),w64 (by omega) (by omega),w64 (by omega) (by omega)];by_cases ha:a % w=0
  ·rw[if_pos ha,if_neg (by omega)];by_cases hb:b % w=0
   ·rw[if_pos hb,if_neg (by omega),if_neg (by omega),if_pos ⟨ha,hb⟩]
   ·rw[if_neg hb,if_neg (fun k=>hb k.2)]
  ·rw[if_neg ha,if_neg (fun k=>ha k.1)]
 ·rw[if_neg (show ¬(WidP w∧RngP a b) from fun k=>h k.2)];by_cases h1:a<0
  ·rw[if_pos h1]
  rw[if_neg h1];by_cases h2:35184372088832<b
  ·rw[if_pos h2]
  rw[if_neg h2,if_pos (by unfold RngP at h;omega)]
theorem a1p (n:Nat) (a b w:Int):h0w (n+3) a b w=some (o0o a b w):=by
 rw[e2q,f1s,wi_in,obs,obs,tfn,tfd];by_cases h:WidP w
 ·rw[if_pos (show 1≤w∧w≤1099511627776 from h)];exact k2n a b h
 ·rw[if_neg (show ¬(1≤w∧w≤1099511627776) from h)];unfold o0o;rw[if_neg (fun k=>h k.1)]
noncomputable def oneV (s:Sta) (k a b:Int):Int :=
 if (o0o a b (b0c s.1 k)).2.2=0 then (if (o0o a b (b0c s.1 k)).1<(oldV s.2.1 (b0c s.1 k) (p0f s.1 k)).1 then 11 else 0) else (o0o a b (b0c s.1 k)).2.2
theorem kept_ok {s:Sta} (h:StaOk s) {k:Int} (h0:0≤k) (h2:k≤2):n2b s k=((oldV s.2.1 (b0c s.1 k) (p0f s.1 k)).1,(s.2.1 / b0c s.1 k,0)):=by
 unfold n2b;rw[if_pos h,if_neg (by omega)]
theorem tier3 {t:Int} (h1:1≤t) (h3:t≤3):IntKind.wrap .i64 (t-1)=t-1:=w64 (by omega) (by omega)
theorem y0x (n:Nat) {s:Sta} (hw:StaW s) (h:StaOk s) {t:Int} (h1:1≤t) (h3:t≤3) (a b:Int):y0y (n+17) s t a b=some (oneV s (t-1) a b):=by
 rw[u1l,tier3 h1 h3];have hk:=kept_ok h (k:=t-1) (by omega) (by omega);unfold oneV;rcases (by omega:t=1∨t=2∨t=3) with e | e | e<;>subst e
 ·rw[show ((1:Int)-1)=0 from rfl] at hk ⊢;rw[decide_eq_true (show (0:Int)=0 from rfl),tft]
  change a0a (h0w _ a b (b0c s.1 0)) _=_
  rw[a1p (n+13),obs,tfn,tfd,f1h n hw 0,hk,obs];by_cases hs:(o0o a b (b0c s.1 0)).2.2=0
  ·rw[if_pos hs,if_pos hs,decide_eq_true rfl,tft,tfd];split<;>rfl
  ·rw[if_neg hs,if_neg hs]
 ·rw[show ((2:Int)-1)=1 from rfl] at hk ⊢;rw[decide_eq_false (show ¬((1:Int)=0) by decide),tff];rw[decide_eq_true (show (1:Int)=1 from rfl),tft]
  change a0a (h0w _ a b (b0c s.1 1)) _=_
  rw[a1p (n+13),obs,tfn,tfd,f1h n hw 1,hk,obs];by_cases hs:(o0o a b (b0c s.1 1)).2.2=0
  ·rw[if_pos hs,if_pos hs,decide_eq_true rfl,tft,tfd];split<;>rfl
  ·rw[if_neg hs,if_neg hs]
 ·rw[show ((3:Int)-1)=2 from rfl] at hk ⊢;rw[decide_eq_false (show ¬((2:Int)=0) by decide),tff];rw[decide_eq_false (show ¬((2:Int)=1) by decide),tff];rw[decide_eq_true (show (2:Int)=2 from rfl),tft]
  change a0a (h0w _ a b (b0c s.1 2)) _=_
  rw[a1p (n+13),obs,tfn,tfd,f1h n hw 2,hk,obs];by_cases hs:(o0o a b (b0c s.1 2)).2.2=0
  ·rw[if_pos hs,if_pos hs,decide_eq_true rfl,tft,tfd];split<;>rfl
  ·rw[if_neg hs,if_neg hs]
theorem span_why (a b w:Int):(o0o a b w).2.2=0∨(o0o a b w).2.2=1∨(o0o a b w).2.2=10:=by
 unfold o0o;split
 ·split
  ·exact .inl rfl
  ·exact .inr (.inr rfl)
 ·exact .inr (.inl rfl)
theorem m2c (s:Sta) (k a b:Int):oneV s k a b=0∨oneV s k a b=1∨oneV s k a b=10∨oneV s k a b=11:=by
 unfold oneV;rcases span_why a b (b0c s.1 k) with h | h | h<;>rw[h]
 ·rw[if_pos rfl];split
  ·exact .inr (.inr (.inr rfl))
  ·exact .inl rfl
 ·exact .inr (.inl rfl)
 ·exact .inr (.inr (.inl rfl))
noncomputable def d0z (s:Sta) (a b:Int):Nat→Int→Int→Int×Int
 | 0,_,why=>(0,why)
 | d+1,t,why=>if oneV s (t-1) a b=0 then (t,0) else if oneV s (t-1) a b=1 then (0,1) else d0z s a b d (t+1) (if oneV s (t-1) a b=11 then 11 else why)
theorem j2i {s:Sta} {a b t:Int} (e:oneV s (t-1) a b=0) (d:Nat) (why:Int):d0z s a b (d+1) t why=(t,0):=by
 conv=>lhs;unfold d0z
 rw[if_pos e]
theorem j2h {s:Sta} {a b t:Int} (e:oneV s (t-1) a b=1) (d:Nat) (why:Int):d0z s a b (d+1) t why=(0,1):=by
 conv=>lhs;unfold d0z
 rw[if_neg (by omega),if_pos e]
theorem b2g {s:Sta} {a b t:Int} (e:oneV s (t-1) a b=10) (d:Nat) (why:Int):d0z s a b (d+1) t why=d0z s a b d (t+1) why:=by
 conv=>lhs;unfold d0z
 rw[if_neg (by omega),if_neg (by omega),if_neg (by omega)]
theorem b2f {s:Sta} {a b t:Int} (e:oneV s (t-1) a b=11) (d:Nat) (why:Int):d0z s a b (d+1) t why=d0z s a b d (t+1) 11:=by
 conv=>lhs;unfold d0z
 rw[if_neg (by omega),if_neg (by omega),if_pos e]
theorem k1n (n:Nat) {s:Sta} (hw:StaW s) (h:StaOk s) (a b:Int):∀(d f:Nat) (t why:Int),1≤t→t+d=4→d<f →
  c0r (n+17) f (a,b,s,why,t,())=some (if (d0z s a b d t why).2=0 then .inr (d0z s a b d t why) else if (d0z s a b d t why).2=1 then .inr (d0z s a b d t why) else .inl ((d0z s a b d t why).2,()))∨(why≠10∧why≠11):=by
 intro d;induction d with
 | zero =>
  intro f t why h1 ht hf;obtain ⟨f,rfl⟩:∃g,f=g+1:=⟨f-1,by omega⟩;by_cases hy:why≠10∧why≠11
  ·exact .inr hy
  refine .inl ?_;rw[k0e,decide_eq_false (by omega),tff];unfold d0z;rw[if_neg (by simp only;omega),if_neg (by simp only;omega)]
 | succ d ih =>
  intro f t why h1 ht hf;obtain ⟨f,rfl⟩:∃g,f=g+1:=⟨f-1,by omega⟩;by_cases hy:why≠10∧why≠11
  ·exact .inr hy
  refine .inl ?_;rw[k0e,decide_eq_true (by omega),tft,y0x n hw h h1 (by omega),obs,w64 (by omega) (by omega)];simp only[tfd];rcases m2c s (t-1) a b with e | e | e | e
  ·rw[j2i e,e,if_pos rfl,if_pos rfl]
  ·rw[j2h e,e,if_neg (by decide),if_neg (by decide),if_neg (by decide),if_neg (by decide),if_pos rfl]
  ·rw[b2g e,e,if_neg (by decide),if_pos rfl];exact (ih f (t+1) why (by omega) (by omega) (by omega)).resolve_right hy
  ·rw[b2f e,e,if_neg (by decide),if_neg (by decide),if_pos rfl];exact (ih f (t+1) 11 (by omega) (by omega) (by omega)).resolve_right (by decide)
theorem y1y (n:Nat) {s:Sta} (hw:StaW s) (h:StaOk s) (a b:Int):m0u (n+18) s a b=some (d0z s a b 3 1 10):=by
 rw[y0w]
 change a0a (c0r (n+17) a0b (a,b,s,10,1,())) _=_
 rw[(k1n n hw h a b 3 a0b 1 10 (by decide) rfl (by unfold a0b;omega)).resolve_right (by decide),obs];split
 ·rfl
 ·split
  ·rfl
  ·rename_i h0 h1;rw[a0w];have hz:(d0z s a b 3 1 10).1=0:=by
    have key:∀(d:Nat) (t why:Int),(d0z s a b d t why).2≠0→(d0z s a b d t why).1=0:=by
     intro d;induction d with
     | zero=>intro t why _;rfl
     | succ d ih =>
      intro t why;unfold d0z;split
      ·intro k;exact absurd rfl k
      ·split
       ·intro _;rfl
       ·exact ih _ _
    exact key 3 1 10 h0
   exact congrArg some (Prod.ext hz.symm rfl)
noncomputable def b0q (s:Sta) (t a b:Int):Int×Int :=
 if StaOk s then (if t<0∨3<t then (0,1) else if t=0 then d0z s a b 3 1 10 else if oneV s (t-1) a b=0 then (t,0) else (0,oneV s (t-1) a b)) else (0,2)
theorem m1f (n:Nat) {s:Sta} (hw:StaW s) (t a b:Int):u0w (n+19) s t a b=some (b0q s t a b):=by
 rw[p1p,e0w (n+4) hw,obs,tfn,tfd];unfold b0q;by_cases h:StaOk s
 case neg=>rw[if_neg h,if_neg h];rfl
 rw[if_pos h,if_pos h,if_pos rfl];simp only[tfd,tfn];by_cases h0:t<0
 ·rw[if_pos h0,if_pos (.inl h0)]
 by_cases h3:3<t
 ·rw[if_neg h0,if_pos h3,if_pos (.inr h3)]
 rw[if_neg h0,if_neg h3,if_neg (show ¬(t<0∨3<t) by omega)];by_cases hz:t=0
 ·rw[if_pos hz,if_pos hz,y1y n hw h,obs]
 ·rw[if_neg hz,if_neg hz,y0x (n+1) hw h (by omega) (by omega),obs];by_cases ho:oneV s (t-1) a b=0
  ·rw[if_pos ho,if_pos ho]
  ·rw[if_neg ho,if_neg ho]
def h1e (c:Cel):(Wd×Wd)×Int:=if c.2.2.2.2.2.2<1 then (((0,0),(0,0)),12) else k1m c.2.2.2.1 c.2.2.2.2.2.2
theorem m1g (n:Nat) {c:Cel} (hw:WdOk c.2.2.2.1) (hs:c.2.2.2.2.2.2≤9223372036854775807):u0x (n+7) c=some (h1e c):=by
 rw[p1q,tfd];unfold h1e;by_cases h:c.2.2.2.2.2.2<1
 ·rw[if_pos h,if_pos h]
 ·rw[if_neg h,if_neg h,wu64 (by omega) (by omega),m1e n hw ⟨by omega,by omega⟩,obs]
theorem f2t (n:Nat) (c:Conf) {s:Ser} (hw:SerW s) {k:Int} (h0:0≤k) (h2:k≤2) (i j:Int):d0o (n+22) c s k i j=some (rangeK c s k i j):=by
 unfold rangeK;rcases (by omega:k=0∨k=1∨k=2) with e | e | e
 ·subst e;rw[if_pos rfl];exact o1z n c hw i j
 ·subst e;rw[if_neg (by decide),if_pos rfl];exact o1y n c hw i j
 ·subst e;rw[if_neg (by decide),if_neg (by decide)];exact o1x n c hw i j
theorem o1s {a b w:Int} (h:(o0o a b w).2.2=0):WidP w∧RngP a b∧a % w=0∧b % w=0∧o0o a b w=(a / w,(b / w,0))∧0≤a / w∧a / w≤b / w:=by
 unfold o0o at h ⊢;split at h
 ·rename_i h1;split at h
  ·rename_i h2;rw[if_pos h1,if_pos h2];exact ⟨h1.1,h1.2,h2.1,h2.2,rfl,Int.ediv_nonneg h1.2.1 (by have:=h1.1.1;omega),Int.ediv_le_ediv (by have:=h1.1.1;omega) (Int.le_of_lt h1.2.2.2)⟩
  ·cases h
 ·cases h
theorem c2i {s:Sta} {k a b:Int} (h:oneV s k a b=0):(o0o a b (b0c s.1 k)).2.2=0∧(oldV s.2.1 (b0c s.1 k) (p0f s.1 k)).1≤(o0o a b (b0c s.1 k)).1:=by
 unfold oneV at h;split at h
 ·rename_i h1;split at h
  ·cases h
  ·exact ⟨h1,by omega⟩
 ·rename_i h1;exact absurd h h1
theorem which_ok {s:Sta} {a b:Int}:∀(d:Nat) (t why:Int),why≠0→(d0z s a b d t why).2=0→t≤(d0z s a b d t why).1∧(d0z s a b d t why).1<t+d∧oneV s ((d0z s a b d t why).1-1) a b=0:=by
 intro d;induction d with
 | zero=>intro t why hw h;exact absurd h hw
 | succ d ih =>
  intro t why hw h;rcases m2c s (t-1) a b with e | e | e | e
  ·rw[j2i e];exact ⟨by simp only;omega,by simp only;omega,e⟩
  ·rw[j2h e] at h;cases h
  ·rw[b2g e] at h ⊢;obtain ⟨h1,h2,h3⟩:=ih (t+1) why hw h;exact ⟨by omega,by omega,h3⟩
  ·rw[b2f e] at h ⊢;obtain ⟨h1,h2,h3⟩:=ih (t+1) 11 (by decide) h;exact ⟨by omega,by omega,h3⟩
theorem o1c {s:Sta} {t a b:Int} (h:(b0q s t a b).2=0):StaOk s∧1≤(b0q s t a b).1∧(b0q s t a b).1≤3∧oneV s ((b0q s t a b).1-1) a b=0∧0≤t∧t≤3∧(1≤t→(b0q s t a b).1=t):=by
 unfold b0q at h ⊢;by_cases hs:StaOk s
 case neg=>rw[if_neg hs] at h;cases h
 rw[if_pos hs] at h ⊢;by_cases h1:t<0∨3<t
 ·rw[if_pos h1] at h;cases h
 rw[if_neg h1] at h ⊢;by_cases h0:t=0
 ·rw[if_pos h0] at h ⊢;obtain ⟨k1,k2,k3⟩:=which_ok 3 1 10 (by decide) h;exact ⟨hs,k1,by omega,k3,by omega,by omega,by omega⟩
 ·rw[if_neg h0] at h ⊢;by_cases ho:oneV s (t-1) a b=0
  ·rw[if_pos ho];exact ⟨hs,by simp only;omega,by simp only;omega,ho,by omega,by omega,fun _=>rfl⟩
  ·rw[if_neg ho] at h;exact absurd h ho
noncomputable def l1g (s:Sta) (l:List Lab) (k a b:Int):Cel :=
 match i0l s l with
 | some i=>(rangeK s.1 ((s.2.2.2[i]?).getD ser0) k (a / b0c s.1 k) (b / b0c s.1 k)).1
 | none=>z0
theorem found {s:Sta} (hs:StaOk s) {l:List Lab} {i:Nat} (h:i0l s l=some i):∃x,s.2.2.2[i]? = some x∧x.1=l∧LvX s x∧SerOk s.1 x:=by
 obtain ⟨x,hx,h1,h2,_⟩:=f0d.1 h;exact ⟨x,hx,h1,h2,(q1d hs (List.mem_of_getElem? hx) h2).1⟩
theorem u1m (n:Nat) {s:Sta} (hw:StaW s) (hs:StaOk s) {q:List Lab×(Int×(Int×Int))} {k:Int} (h0:0≤k) (h2:k≤2) (ho:oneV s k q.2.2.1 q.2.2.2=0):p1n (n+23) s q k=some (l1g s q.1 k q.2.2.1 q.2.2.2,0):=by
 obtain ⟨l,t,a,b⟩:=q;simp only at ho ⊢;rw[y1z];simp only;rw[b2q (n+12) hw l,obs,tfn,tfd];unfold l1g;cases hf:i0l s l with
 | none=>rw[m1z hs.whole hf,if_neg (show ¬((3:Int)=0) by decide)];rfl
 | some i =>
  obtain ⟨x,hx,hxl,hlv,hok⟩:=found hs hf;obtain ⟨s1,s2⟩:=c2i ho;obtain ⟨_,_,_,_,e,e1,e2⟩:=o1s s1;have hfine:=y1x hok k e1 e2;rw[m1y hs.whole hf,if_pos rfl];simp only[hx,Option.getD_some];have fin:∀(x':Ser),x'=x→a0a (d0o (n+22) s.1 x' k (a / b0c s.1 k) (b / b0c s.1 k)) (fun r=>some r)=some ((rangeK s.1 x k (a / b0c s.1 k) (b / b0c s.1 k)).1,0):=by
   rintro x' rfl;rw[f2t n s.1 (hw.at hx).1 h0 h2,obs];exact congrArg some (Prod.ext rfl hfine)
  rcases (by omega:k=0∨k=1∨k=2) with ek | ek | ek<;>subst ek
  ·rw[decide_eq_true rfl,tft]
   change a0a (h0w (n+22) a b (b0c s.1 0)) _=_
   rw[a1p (n+19),obs,e];simp only[decide_true,Bool.not_true,tff];rw[e1p hx,obs];exact fin x rfl
  ·rw[decide_eq_false (show ¬((1:Int)=0) by decide),tff,decide_eq_true rfl,tft]
   change a0a (h0w (n+22) a b (b0c s.1 1)) _=_
   rw[a1p (n+19),obs,e];simp only[decide_true,Bool.not_true,tff];rw[e1p hx,obs];exact fin x rfl
  ·rw[decide_eq_false (show ¬((2:Int)=0) by decide),tff,decide_eq_false (show ¬((2:Int)=1) by decide),tff,decide_eq_true rfl,tft]
   change a0a (h0w (n+22) a b (b0c s.1 2)) _=_
   rw[a1p (n+19),obs,e];simp only[decide_true,Bool.not_true,tff];rw[e1p hx,obs];exact fin x rfl
theorem mrgE_okc (a b:Cel):b0h (mrgE a b).1:=by
 unfold mrgE;split
 ·rename_i h;split
  ·rename_i ha;exact v1g h.1 h.2 ha
  ·exact p0t
 ·exact p0t
theorem b1l (ok:Prop) [Decidable ok] (i j last w:Int) (t:List Slo) (now:Cel×Int):b0h (c0o ok i j last w t now).1:=by
 unfold c0o;split
 ·split
  ·exact p0t
  split
  ·exact p0t
  split
  ·exact p0t
  split
  ·exact p0g _ _ _
  split
  ·exact p0g _ _ _
  split
  ·exact p0t
  ·exact mrgE_okc _ _
 ·exact p0t
theorem g2i (c:Conf) (s:Ser) (k i j:Int):b0h (rangeK c s k i j).1:=by
 unfold rangeK;split
 ·exact b1l _ _ _ _ _ _ _
 split
 ·exact b1l _ _ _ _ _ _ _
 ·exact b1l _ _ _ _ _ _ _
theorem s1a (s:Sta) (l:List Lab) (k a b:Int):b0h (l1g s l k a b):=by
 unfold l1g;split
 ·exact g2i _ _ _ _ _
 ·exact p0t
theorem g0z {c:Cel} (h:b0h c):WdOk c.2.2.2.1∧c.2.2.2.2.2.2≤9223372036854775807:=by
 rcases h with rfl | h
 ·exact ⟨⟨by simp[z0],by simp[z0]⟩,by simp[z0]⟩
 ·have h1:=h.s1;have h2:=h.l.t1;have h3:=h.f.t0;exact ⟨h.w,by omega⟩
abbrev zr:Int×(Cel×((Wd×Wd)×Int)):=(0,(z0,(((0,0),(0,0)),0)))
noncomputable def doQ (s:Sta) (l:List Lab) (t a b:Int):(Int×(Cel×((Wd×Wd)×Int)))×Int :=
 if StaOk s then (if LabOk l then (if (b0q s t a b).2=0 then (((b0q s t a b).1,(l1g s l ((b0q s t a b).1-1) a b,h1e (l1g s l ((b0q s t a b).1-1) a b))),0) else (zr,(b0q s t a b).2)) else (zr,8)) else (zr,2)
theorem p1o (n:Nat) {s:Sta} (hw:StaW s) (l:List Lab):h1j (n+15) s l=some (if StaOk s then (if LabOk l then 0 else 8) else 2):=by
 rw[u1n,e0w n hw,obs,tfn,tfd];by_cases h:StaOk s
 ·rw[if_pos h,if_pos h,if_pos rfl,g0y (n+8) l,obs]
 ·rw[if_neg h,if_neg h,if_neg (by decide)]
theorem y0z (n:Nat) {s:Sta} (hw:StaW s) (q:List Lab×(Int×(Int×Int))):r0i (n+24) s q=some (doQ s q.1 q.2.1 q.2.2.1 q.2.2.2):=by
 rw[z1a,p1o (n+8) hw,obs,tfn,tfd];unfold doQ;by_cases h:StaOk s
 case neg=>rw[if_neg h,if_neg h,if_neg (by decide)];rfl
 rw[if_pos h,if_pos h];by_cases hl:LabOk q.1
 case neg=>rw[if_neg hl,if_neg hl,if_neg (by decide)];rfl
 rw[if_pos hl,if_pos hl,if_pos rfl,m1f (n+4) hw,obs,tfn,tfd];by_cases ht:(b0q s q.2.1 q.2.2.1 q.2.2.2).2=0
 case neg=>rw[if_neg ht,if_neg ht];rfl
 obtain ⟨_,t1,t3,ho,_⟩:=o1c ht;have hr:=g0z (s1a s q.1 ((b0q s q.2.1 q.2.2.1 q.2.2.2).1-1) q.2.2.1 q.2.2.2);rw[if_pos ht,if_pos ht,w64 (by omega) (by omega),u1m n hw h (by omega) (by omega) ho,obs];simp only[decide_true,Bool.not_true,tff];rw[m1g (n+16) hr.1 hr.2,obs]
theorem clone_ev (n:Nat) (s:List Ev) (h:s.length≤1000000):o0s (n+1) s=some s:=by
 rw[b1e,decide_eq_true (show (0+s.length)*32≤140737488355328 by omega)];simp only[tft,List.nil_append];by_cases h0:s.length=0
 ·rw[decide_eq_true h0,tft,List.length_eq_zero_iff.1 h0,j1h]
 ·rw[decide_eq_false h0,tff]
def inR (a b:Int) (e:Ev):Bool:=decide (a≤e.1)&&decide (e.1<b)
theorem e2h {q:List Lab×(Int×(Int×Int))} (h:Wf q0p q):q.1.length≤9223372036854775807:=h.1.1
theorem n2h (n:Nat) {c:Conf} (h:OkC c):c1e (n+4) c=some (idxC c):=by
 have hl:=h.rng.log;rw[r1t,a1d n h];simp only[obs,tfd,tfn];rw[if_pos trivial,t0k (n+2) _ 120 (by omega) (by omega) (by omega) (by omega)];rfl
theorem home_own (n:Nat) {c:Conf} (h:OkC c):j1b (n+5) c=some (hom c):=by
 have hl:=h.rng.log;have hi:=idx_range h.rng;rw[w1g,a1d (n+1) h,n2h n h];simp only[obs,tfd,tfn];rw[if_pos trivial,w64 (x:=1+idxC c) (by omega) (by omega),w64 (by omega) (by omega)];rfl
theorem l2l (n:Nat) {c:Conf} (h:OkC c):c1d (n+4) c=some (plc c):=by
 rw[r1s,a1d n h,h1l (n+1) h.rng];simp only[obs,tfd,tfn];rw[if_pos trivial]
theorem size_own (n:Nat) {c:Conf} (h:OkC c):a1a (n+6) c=some (sizR c):=by
 obtain ⟨e,_⟩:=siz_wrap h;rw[d1k,a1d (n+2) h,home_own n h,l2l (n+1) h];simp only[obs,tfd,tfn,e];rw[if_pos trivial];unfold sizR;by_cases hs:16777216<siz c
 ·rw[if_pos hs,if_pos hs]
 ·rw[if_neg hs,if_neg hs]
theorem y1e (n:Nat) {c:Conf} (h:¬OkC c):a1a (n+6) c=some (0,2):=by
 rw[d1k,e2a (n+2) h];simp only[obs,tfd,tfn];rw[if_neg (by decide)]
theorem m0e (n:Nat) (c:Conf):m0f (n+7) c=some (l0e c):=by
 rw[f2f];unfold l0e;by_cases h:OkC c
 case neg=>rw[y1e n h,if_neg h];rfl
 rw[size_own n h,if_pos h,obs,tfn,tfd];by_cases h1:(sizR c).2=0
 ·rw[if_pos h1,if_pos h1,cap_test h];rfl
 ·rw[if_neg h1,if_neg h1];rfl
theorem serW_put {c:Conf} {s t:Ser} {e:Ev} (h:SerOk c s) (hp:putE c s e=(t,0)):SerW t∧SerM t:=by
 obtain ⟨q1,q2,q3,q4,q5⟩:=m0o h hp;have hc:=q1.fold.cok.rng;refine ⟨⟨?_,fun x hx=>EvW.of (q1.raw.f.ok x hx),q1.fold.w,?_⟩,?_⟩
 ·have:=q2.t0;have:=q2.t1;rw[q4];unfold I64;omega
 ·rcases q1.st with ⟨_,k⟩ | ⟨_,k⟩
  ·rw[k.opn];exact b1a
  ·have:=k.fit.i0;exact ⟨by unfold I64;omega,.of k.fit.n.ok⟩
 ·have l1:=q1.lab.n1;have l2:=q1.raw.len;have l3:=q1.raw.m1;have:=q1.fold.lens;exact ⟨by omega,by omega,by omega,by omega,by omega⟩
theorem write_w {s t:Sta} (hw:StaW s) {l:List Lab} {e:Ev} {v:Int} (h:e0u s l e=(t,v)):StaW t:=by
 by_cases hv:v=0
 ·subst hv;obtain ⟨hg,i,x,b,y,hp,hput,rfl,_⟩:=u0f h;obtain ⟨p1,p2,p3,p4⟩:=r0j hg hp;have hy:=serW_put p1 hput;refine ⟨by simpa [setS] using hw.len,fun z hz => ?_⟩;rcases List.mem_or_eq_of_mem_set hz with k | k
  ·exact hw.ser z k
  ·rw[k];exact hy
 ·have:t=sta0:=by
   unfold e0u at h;split at h
   ·exact (congrArg Prod.fst h).symm
   ·split at h
    ·exact (congrArg Prod.fst h).symm
    ·exact absurd (congrArg Prod.snd h).symm hv
  rw[this];exact k2k
theorem b2e {s:Sta} (hw:StaW s) (l:List Lab) (e:Ev):StaW (e0u s l e).1:=write_w hw (v:=(e0u s l e).2) rfl
structure StaInv (N:Nat) (s:Sta):Prop where
 ok:StaOk s
 w:StaW s
 ser:∀x∈s.2.2.2,x=ser0∨∃l,SerInv s.1 x l∧l≠[]∧l.length≤N
theorem n2e {c:Conf} (h:(l0e c).2=0):StaInv 0 (l0e c).1:=by
 refine ⟨(newSt_ok h).1,newSt_w c,fun x hx => .inl ?_⟩;unfold l0e at h hx;split at hx
 ·split at hx
  ·exact List.eq_of_mem_replicate hx
  ·rename_i h1 h2;rw[if_pos h1,if_neg h2] at h;exact absurd h h2
 ·simp[sta0] at hx
theorem rng_inR {w a b:Int} (hw:1≤w) (ha:a % w=0) (hb:b % w=0) (l:List Ev):rng w l (a / w) (b / w)=l.filter (inR a b):=by
 unfold rng;apply List.filter_congr;intro e _;unfold inR;rw[←Bool.decide_and];apply decide_eq_decide.2;have ea:a / w*w=a:=Int.ediv_mul_cancel_of_emod_eq_zero ha;have eb:b / w*w=b:=Int.ediv_mul_cancel_of_emod_eq_zero hb;have h1:=Int.le_ediv_iff_mul_le (a:=a / w) (b:=e.1) (c:=w) (by omega);have h2:=Int.le_ediv_iff_mul_le (a:=b / w) (b:=e.1) (c:=w) (by omega);rw[ea] at h1;rw[eb] at h2;omega
theorem h2j {c:Conf} {x:Ser} {l:List Ev} (h:SerInv c x l) (hl:l≠[]) {k i j:Int} (hk0:0≤k) (hk2:k≤2) (h0:0≤i) (hij:i≤j) (hk:x.2.1 / b0c c k<i+p0f c k):rangeK c x k i j=(cellOf (rng (b0c c k) l i j),0):=by
 unfold rangeK;rcases (by omega:k=0∨k=1∨k=2) with e | e | e
 ·subst e;rw[if_pos rfl];exact h2m h hl h0 hij hk
 ·subst e;rw[if_neg (by decide),if_pos rfl];exact h2l h hl h0 hij hk
 ·subst e;rw[if_neg (by decide),if_neg (by decide)];exact h2k h hl h0 hij hk
theorem last_le {s:Sta} (hs:StaOk s) {i:Nat} {x:Ser} (hx:s.2.2.2[i]? = some x) (hn:x≠ser0) {k:Int} (h0:0≤k) (h2:k≤2):x.2.1 / b0c s.1 k≤s.2.1 / b0c s.1 k:=by
 obtain ⟨_,r1,r2,_⟩:=(hs.right i x hx).resolve_left hn;have hc:=hs.whole.1;have hr:=hc.rng;have w0:=hr.w0.1;have w1:=hr.w1.1;have w2:=hr.w2.1;have b0:x.2.1 / s.1.2.1.1≤s.2.1 / s.1.2.1.1:=by
  have:x.2.1<(s.2.1 / s.1.2.1.1+1)*s.1.2.1.1:=by rw[Int.add_mul,Int.one_mul];exact r2
  have:=Int.ediv_lt_of_lt_mul (by omega) this;omega
 have b1:x.2.1 / s.1.2.1.2.1≤s.2.1 / s.1.2.1.2.1:=by
  rw[←(edvm (t:=x.2.1) w0 w1 hc.m1).2,←(edvm (t:=s.2.1) w0 w1 hc.m1).2];exact Int.ediv_le_ediv (g0d w0 w1 hc.m1) b0
 have b2:x.2.1 / s.1.2.1.2.2≤s.2.1 / s.1.2.1.2.2:=by
  rw[←(edvm (t:=x.2.1) w1 w2 hc.m2).2,←(edvm (t:=s.2.1) w1 w2 hc.m2).2];exact Int.ediv_le_ediv (g0d w1 w2 hc.m2) b1
 rcases (by omega:k=0∨k=1∨k=2) with e | e | e<;>subst e
 ·exact b0
 ·exact b1
 ·exact b2
theorem kept_lt {s:Sta} (hs:StaOk s) {i:Nat} {x:Ser} (hx:s.2.2.2[i]? = some x) (hn:x≠ser0) {k a b:Int} (h0:0≤k) (h2:k≤2) (ho:oneV s k a b=0):x.2.1 / b0c s.1 k<a / b0c s.1 k+p0f s.1 k:=by
 have hl:=last_le hs hx hn h0 h2;obtain ⟨s1,s2⟩:=c2i ho;obtain ⟨_,_,_,_,e,e1,e2⟩:=o1s s1;obtain ⟨r1,r2,r3,r4⟩:=o1a hs.whole.1 k;have ht:=hs.clock.1;rw[e] at s2;unfold oldV at s2;rw[if_pos (show OfP s.2.1 (b0c s.1 k)∧1≤p0f s.1 k∧p0f s.1 k≤4096 from ⟨⟨ht.1,ht.2,r1,r2⟩,r3,r4⟩)] at s2;simp only at s2;split at s2<;>omega
theorem r1m {s:Sta} {l:List Lab} {t a b:Int} (h:(doQ s l t a b).2=0):StaOk s∧LabOk l∧(b0q s t a b).2=0∧doQ s l t a b=(((b0q s t a b).1,(l1g s l ((b0q s t a b).1-1) a b,h1e (l1g s l ((b0q s t a b).1-1) a b))),0):=by
 unfold doQ at h ⊢;by_cases h1:StaOk s
 case neg=>rw[if_neg h1] at h;cases h
 rw[if_pos h1] at h ⊢;by_cases h2:LabOk l
 case neg=>rw[if_neg h2] at h;cases h
 rw[if_pos h2] at h ⊢;by_cases h3:(b0q s t a b).2=0
 ·rw[if_pos h3];exact ⟨h1,h2,h3,rfl⟩
 ·rw[if_neg h3] at h;exact absurd h h3
theorem c0d {d f:Nat} (h:d<f):∃g,f=g+1:=⟨f-1,by omega⟩
def Fd (o:Int) (r:Int×Int) (a b:List Slo):Prop:=a.length=b.length∧∀j:Nat,a[j]? = b[j]? ∨ (a[j]? = some s0∧∃s,b[j]? = some s∧s≠s0∧¬j1t o r s)
theorem Fd.refl (o r) (a:List Slo):Fd o r a a:=⟨rfl,fun _ => .inl rfl⟩
theorem Fd.mono {o o':Int} {r} {a b:List Slo} (h:Fd o r a b) (ho:o≤o'):Fd o' r a b :=
 ⟨h.1,fun j=>(h.2 j).imp id fun ⟨h1,s,h2,h3,h4⟩=>⟨h1,s,h2,h3,fun k=>h4 fun q=>k ⟨by have:=q.1;omega,q.2⟩⟩⟩
theorem Fd.fade {o r} {a b:List Slo} (h:Fd o r a b):Fd o r (m0z o r a) b:=by
 refine ⟨by rw[g0t];exact h.1,fun j => ?_⟩;unfold m0z;rw[List.getElem?_map];rcases h.2 j with k | ⟨k,s,k2,k3⟩
 ·rw[k];cases hb:b[j]? with
  | none=>exact .inl rfl
  | some s =>
   simp only[Option.map_some];by_cases q:j1t o r s
   ·rw[if_pos q];exact .inl rfl
   ·rw[if_neg q];by_cases z:s=s0
    ·rw[z];exact .inl rfl
    ·exact .inr ⟨rfl,s,rfl,z,q⟩
 ·rw[k];simp only[Option.map_some];refine .inr ⟨?_,s,k2,k3⟩;split<;>rfl
theorem Fd.put {o r} {a b:List Slo} (h:Fd o r a b) (i:Int) (c:Cel):Fd o r (tput a i c) (tput b i c):=by
 unfold tput;refine ⟨by simp[h.1],fun j => ?_⟩;rw[h.1,List.getElem?_set,List.getElem?_set,h.1];split
 ·exact .inl rfl
 ·exact h.2 j
theorem Fd.up {o:Int} {r r':Int×Int} {a b:List Slo} {w:Int} (h:Fd o r a b) (hb:TierOk b w) (hn:a0s b r.2) (hr:r.1≤r'.1):Fd o r' a b:=by
 refine ⟨h.1,fun j=>(h.2 j).imp id fun ⟨h1,s,h2,h3,h4⟩=>⟨h1,s,h2,h3,fun k=>h4 fun q=>k ⟨q.1,.inl ?_⟩⟩⟩;rcases q.2 with q | q
 ·omega
 ·obtain ⟨_,hf⟩:=(hb.s j s h2).resolve_left h3;have:=hn s (List.mem_of_getElem? h2) (by have:=hf.n.n1;omega);omega
theorem up_ext:∀ {A B:List Slo},Up A→Up B→(∀s,s∈A↔s∈B)→A=B:=by
 intro A;induction A with
 | nil =>
  intro B _ _ h;cases B with
  | nil=>rfl
  | cons b B=>exact absurd ((h b).2 (by simp)) (by simp)
 | cons a A ih =>
  intro B ha hb h;cases B with
  | nil=>exact absurd ((h a).1 (by simp)) (by simp)
  | cons b B =>
   have ha':=ha;have hb':=hb;unfold Up at ha hb;rw[List.pairwise_cons] at ha hb;have e:a=b:=by
    rcases List.mem_cons.1 ((h a).1 (by simp)) with k | k
    ·exact k
    ·rcases List.mem_cons.1 ((h b).2 (by simp)) with q | q
     ·exact q.symm
     ·have:=ha.1 b q;have:=hb.1 a k;omega
   subst e;rw[ih ha.2 hb.2 (fun s => ?_)];constructor
   ·intro k;rcases List.mem_cons.1 ((h s).1 (by simp[k])) with q | q
    ·have:=ha.1 s k;rw[q] at this;omega
    ·exact q
   ·intro k;rcases List.mem_cons.1 ((h s).2 (by simp[k])) with q | q
    ·have:=hb.1 s k;rw[q] at this;omega
    ·exact q
theorem Fd.tfold {o r} {a b:List Slo} {w i j:Int} (h:Fd o r a b) (ha:TierOk a w) (hb:TierOk b w) (hk:o≤i∨r.1≤i∧j≤r.2):tfold a i j=tfold b i j:=by
 have e:within a i j=within b i j:=by
  unfold within;refine congrArg _ (up_ext ((w0s ha).filter _) ((w0s hb).filter _) fun s => ?_);rw[List.mem_filter,List.mem_filter,o0d,o0d];simp only[decide_eq_true_eq];constructor
  ·rintro ⟨⟨h1,h2⟩,h3⟩;obtain ⟨n,hn⟩:=List.getElem?_of_mem h1;rcases h.2 n with k | ⟨k,_⟩
   ·exact ⟨⟨List.mem_of_getElem? (by rw[←k];exact hn),h2⟩,h3⟩
   ·rw[hn] at k;injection k with k;exact absurd k h2
  ·rintro ⟨⟨h1,h2⟩,h3,h4⟩;obtain ⟨n,hn⟩:=List.getElem?_of_mem h1;rcases h.2 n with k | ⟨k,s',k2,k3,k4⟩
   ·exact ⟨⟨List.mem_of_getElem? (by rw[k];exact hn),h2⟩,h3,h4⟩
   ·exfalso;rw[hn] at k2;injection k2 with k2;subst k2;exact k4 fun q=>by have:=q.1;rcases q.2 with q | q<;>omega
 unfold Go.Plim.tfold;rw[e]
structure Fad (c:Conf) (o:Int×(Int×Int)) (x y:Ser):Prop where
 lab:x.1=y.1
 last:x.2.1=y.2.1
 raw:x.2.2.1=y.2.2.1
 opn:x.2.2.2.2=y.2.2.2.2
 t0:Fd o.1 (o0x c y.2.1) x.2.2.2.1.1 y.2.2.2.1.1
 t1:Fd o.2.1 (p0u c y.2.1) x.2.2.2.1.2.1 y.2.2.2.1.2.1
 t2:Fd o.2.2 (0,0) x.2.2.2.1.2.2 y.2.2.2.1.2.2
theorem Fad.refl (c o) (x:Ser):Fad c o x x:=⟨rfl,rfl,rfl,rfl,.refl _ _ _,.refl _ _ _,.refl _ _ _⟩
theorem Fad.mono {c} {o o':Int×(Int×Int)} {x y:Ser} (h:Fad c o x y) (h0:o.1≤o'.1) (h1:o.2.1≤o'.2.1) (h2:o.2.2≤o'.2.2):Fad c o' x y :=
 ⟨h.lab,h.last,h.raw,h.opn,h.t0.mono h0,h.t1.mono h1,h.t2.mono h2⟩
def olds (c:Conf) (now:Int):Int×(Int×Int):=((oldV now c.2.1.1 c.2.2.1.1).1,((oldV now c.2.1.2.1 c.2.2.1.2.1).1,(oldV now c.2.1.2.2 c.2.2.1.2.2).1))
theorem Fad.clean {c} {now:Int} {x y:Ser} (h:Fad c (olds c now) x y):Fad c (olds c now) (i0u c now x) y:=by
 refine ⟨h.lab,h.last,h.raw,h.opn,?_,?_,?_⟩
 ·show Fd _ _ (m0z _ (o0x c x.2.1) _) _;rw[h.last];exact h.t0.fade
 ·show Fd _ _ (m0z _ (p0u c x.2.1) _) _;rw[h.last];exact h.t1.fade
 ·exact h.t2.fade
theorem i1b {c:Conf} (h:OkC c) (t:Int):t / c.2.1.1+1≤(o0x c t).2∧(o0x c t).1≤t / c.2.1.1:=by
 have hr:=h.rng;have hp:=g0d hr.w0.1 hr.w1.1 h.m1;have q:=(edvm (t:=t) hr.w0.1 hr.w1.1 h.m1).2;unfold o0x;simp only;rw[←q];have:=Int.lt_ediv_add_one_mul_self (t / c.2.1.1) hp;rw[Int.add_mul,Int.one_mul] at this;exact ⟨by omega,Int.ediv_mul_le _ (by omega)⟩
theorem v1f {c:Conf} (h:OkC c) (t:Int):t / c.2.1.2.1+1≤(p0u c t).2∧(p0u c t).1≤t / c.2.1.2.1:=by
 have hr:=h.rng;have hp:=g0d hr.w1.1 hr.w2.1 h.m2;have q:=(edvm (t:=t) hr.w1.1 hr.w2.1 h.m2).2;unfold p0u;simp only;rw[←q];have:=Int.lt_ediv_add_one_mul_self (t / c.2.1.2.1) hp;rw[Int.add_mul,Int.one_mul] at this;exact ⟨by omega,Int.ediv_mul_le _ (by omega)⟩
theorem need_nb {c:Conf} {y:Ser} (h:SerOk c y):a0s y.2.2.2.1.1 (o0x c y.2.1).2∧a0s y.2.2.2.1.2.1 (p0u c y.2.1).2:=by
 obtain ⟨b0,b1,_⟩:=nb_all h;exact ⟨f0g b0 (i1b h.fold.cok _).1,f0g b1 (v1f h.fold.cok _).1⟩
theorem Fad.now1 {c} {o} {x y:Ser} (h:Fad c o x y) (hx:SerOk c x) (hy:SerOk c y):now1 c x=now1 c y:=by
 unfold Go.Proofs.YtojobamheigpbaaGreatDoor.now1;have e:Go.Plim.tfold x.2.2.2.1.1 (y.2.1 / c.2.1.2.1*(c.2.1.2.1 / c.2.1.1)) (y.2.1 / c.2.1.1)=Go.Plim.tfold y.2.2.2.1.1 (y.2.1 / c.2.1.2.1*(c.2.1.2.1 / c.2.1.1)) (y.2.1 / c.2.1.1) :=
  h.t0.tfold hx.fold.t0 hy.fold.t0 (.inr ⟨Int.le_refl _,by have:=(i1b hy.fold.cok y.2.1).1;omega⟩)
 rw[h.last,h.opn,e]
theorem Fad.now2 {c} {o} {x y:Ser} (h:Fad c o x y) (hx:SerOk c x) (hy:SerOk c y):now2 c x=now2 c y:=by
 unfold Go.Proofs.YtojobamheigpbaaGreatDoor.now2;have e:Go.Plim.tfold x.2.2.2.1.2.1 (y.2.1 / c.2.1.2.2*(c.2.1.2.2 / c.2.1.2.1)) (y.2.1 / c.2.1.2.1)=Go.Plim.tfold y.2.2.2.1.2.1 (y.2.1 / c.2.1.2.2*(c.2.1.2.2 / c.2.1.2.1)) (y.2.1 / c.2.1.2.1) :=
  h.t1.tfold hx.fold.t1 hy.fold.t1 (.inr ⟨Int.le_refl _,by have:=(v1f hy.fold.cok y.2.1).1;omega⟩)
 rw[h.now1 hx hy,h.last,e]
theorem h1h {o r} {a b:List Slo} {w i j last:Int} {now:Cel×Int} {ok ok':Prop} [Decidable ok] [Decidable ok'] (h1:ok) (h2:ok') (h:Fd o r a b) (ha:TierOk a w) (hb:TierOk b w) (hi:o≤i):c0o ok i j last w a now=c0o ok' i j last w b now:=by
 unfold c0o;rw[if_pos h1,if_pos h2,h.tfold ha hb (.inl hi)]
theorem Fad.rangeK {c} {now:Int} {x y:Ser} (h:Fad c (olds c now) x y) (hx:SerOk c x) (hy:SerOk c y) {k:Int} (h0:0≤k) (h2:k≤2) {i j:Int} (hi:(oldV now (b0c c k) (p0f c k)).1≤i):rangeK c x k i j=rangeK c y k i j:=by
 unfold Go.Proofs.YtojobamheigpbaaGreatDoor.rangeK;unfold b0c p0f at hi;rcases (by omega:k=0∨k=1∨k=2) with e | e | e
 ·subst e;rw[if_pos rfl,if_pos rfl] at hi ⊢;rw[h.last,h.opn];exact h1h hx hy h.t0 hx.fold.t0 hy.fold.t0 hi
 ·subst e;rw[if_neg (by decide),if_pos rfl,if_neg (by decide),if_pos rfl] at hi ⊢;rw[h.last,h.now1 hx hy];exact h1h hx hy h.t1 hx.fold.t1 hy.fold.t1 hi
 ·subst e;rw[if_neg (by decide),if_neg (by decide),if_neg (by decide),if_neg (by decide)] at hi ⊢;rw[h.last,h.now2 hx hy];exact h1h hx hy h.t2 hx.fold.t2 hy.fold.t2 hi
theorem v1e {c:Conf} (h:OkC c) {T U:Int} (hTU:T≤U):(o0x c T).1≤(o0x c U).1∧(p0u c T).1≤(p0u c U).1:=by
 have hr:=h.rng;have p0:=g0d hr.w0.1 hr.w1.1 h.m1;have p1:=g0d hr.w1.1 hr.w2.1 h.m2;have w1:=hr.w1.1;have w2:=hr.w2.1;exact ⟨Int.mul_le_mul_of_nonneg_right (Int.ediv_le_ediv (by omega) hTU) (by omega),Int.mul_le_mul_of_nonneg_right (Int.ediv_le_ediv (by omega) hTU) (by omega)⟩
theorem up1_fd {c:Conf} (hc:OkC c) {s t:Trs} {o0 o1 T j:Int} {r:Int×Int} (hs:TierOk s.1 c.2.1.1) (ht:TierOk t.1 c.2.1.1) (h0:Fd o0 (o0x c T) s.1 t.1) (h1:Fd o1 r s.2.1 t.2.1) :
  (up1 c s (T / c.2.1.1) j).1=s.1∧(up1 c t (T / c.2.1.1) j).1=t.1∧(up1 c s (T / c.2.1.1) j).2.2=s.2.2∧(up1 c t (T / c.2.1.1) j).2.2=t.2.2∧Fd o1 r (up1 c s (T / c.2.1.1) j).2.1 (up1 c t (T / c.2.1.1) j).2.1:=by
 have hr:=hc.rng;have q:=(edvm (t:=T) hr.w0.1 hr.w1.1 hc.m1).1;have e:mk1 c s (T / c.2.1.2.1)=mk1 c t (T / c.2.1.2.1):=by
  unfold mk1;refine h0.tfold hs ht (.inr ⟨Int.le_refl _,?_⟩);rw[Int.add_mul,Int.one_mul];exact Int.le_refl _
 unfold up1;rw[q,e];split
 ·exact ⟨rfl,rfl,rfl,rfl,h1⟩
 ·split
  ·exact ⟨rfl,rfl,rfl,rfl,h1.put _ _⟩
  ·exact ⟨rfl,rfl,rfl,rfl,h1⟩
theorem up2_fd {c:Conf} (hc:OkC c) {s t:Trs} {o1 o2 T j:Int} {r:Int×Int} (hs:TierOk s.2.1 c.2.1.2.1) (ht:TierOk t.2.1 c.2.1.2.1) (h1:Fd o1 (p0u c T) s.2.1 t.2.1) (h2:Fd o2 r s.2.2 t.2.2) :
  (up2 c s (T / c.2.1.1) j).1=s.1∧(up2 c t (T / c.2.1.1) j).1=t.1∧(up2 c s (T / c.2.1.1) j).2.1=s.2.1∧(up2 c t (T / c.2.1.1) j).2.1=t.2.1∧Fd o2 r (up2 c s (T / c.2.1.1) j).2.2 (up2 c t (T / c.2.1.1) j).2.2:=by
 have hr:=hc.rng;have m02:c.2.1.2.2 % c.2.1.1=0:=hc.m02;have q:=(edvm (t:=T) hr.w0.1 hr.w2.1 m02).1;have e:mk2 c s (T / c.2.1.2.2)=mk2 c t (T / c.2.1.2.2):=by
  unfold mk2;refine h1.tfold hs ht (.inr ⟨Int.le_refl _,?_⟩);rw[Int.add_mul,Int.one_mul];exact Int.le_refl _
 unfold up2;rw[q,e];split
 ·exact ⟨rfl,rfl,rfl,rfl,h2⟩
 ·split
  ·exact ⟨rfl,rfl,rfl,rfl,h2.put _ _⟩
  ·exact ⟨rfl,rfl,rfl,rfl,h2⟩
theorem upw_fd {c:Conf} (hc:OkC c) {s t:Trs} {o0 o1 o2 T U:Int} (hTU:T≤U) (hs:FoldOk c s) (ht:FoldOk c t) (h0:Fd o0 (o0x c T) s.1 t.1) (h1:Fd o1 (p0u c T) s.2.1 t.2.1) (h2:Fd o2 (0,0) s.2.2 t.2.2) (n0:a0s t.1 (o0x c T).2) (n1:a0s t.2.1 (p0u c T).2) :
  Fd o0 (o0x c U) (upw c s (T / c.2.1.1) (U / c.2.1.1)).1 (upw c t (T / c.2.1.1) (U / c.2.1.1)).1∧Fd o1 (p0u c U) (upw c s (T / c.2.1.1) (U / c.2.1.1)).2.1 (upw c t (T / c.2.1.1) (U / c.2.1.1)).2.1∧Fd o2 (0,0) (upw c s (T / c.2.1.1) (U / c.2.1.1)).2.2 (upw c t (T / c.2.1.1) (U / c.2.1.1)).2.2:=by
 obtain ⟨m0,m1⟩:=v1e hc hTU;have k0:Fd o0 (o0x c U) s.1 t.1:=h0.up ht.t0 n0 m0;have k1:Fd o1 (p0u c U) s.2.1 t.2.1:=h1.up ht.t1 n1 m1;obtain ⟨a1,a2,a3,a4,a5⟩:=up1_fd (j:=U / c.2.1.1) hc hs.t0 ht.t0 h0 h1;obtain ⟨_,_,_,_,b5⟩:=up1_fd (j:=U / c.2.1.1) hc hs.t0 ht.t0 h0 k1;have s1:=s1v hs (T / c.2.1.1) (U / c.2.1.1);have t1:=s1v ht (T / c.2.1.1) (U / c.2.1.1);obtain ⟨c1,c2,c3,c4,c5⟩:=up2_fd (o2:=o2) (r:=(0,0)) (j:=U / c.2.1.1) hc s1.t1 t1.t1 a5 (by rw[a3,a4];exact h2);unfold upw;rw[c1,c2,c3,c4,a1,a2];exact ⟨k0,b5,c5⟩
theorem j2r {c:Conf} {o:Int×(Int×Int)} {x y:Ser} {e:Ev} (h:Fad c o x y) (hx:SerOk c x) (hy:SerOk c y) (hlt:y.2.1<e.1) (hq:(turned c y (e.1 / c.2.1.1)).2=0) :
  (turned c x (e.1 / c.2.1.1)).2=0∧(turned c x (e.1 / c.2.1.1)).1.2=(turned c y (e.1 / c.2.1.1)).1.2∧Fd o.1 (o0x c e.1) (turned c x (e.1 / c.2.1.1)).1.1.1 (turned c y (e.1 / c.2.1.1)).1.1.1∧Fd o.2.1 (p0u c e.1) (turned c x (e.1 / c.2.1.1)).1.1.2.1 (turned c y (e.1 / c.2.1.1)).1.1.2.1∧Fd o.2.2 (0,0) (turned c x (e.1 / c.2.1.1)).1.1.2.2 (turned c y (e.1 / c.2.1.1)).1.1.2.2:=by
 have hc:=hy.fold.cok;obtain ⟨n0,n1⟩:=need_nb hy;obtain ⟨m0,m1⟩:=v1e hc (Int.le_of_lt hlt);by_cases ht:a1k y (e.1 / c.2.1.1)
 case neg =>
  have htx:¬a1k x (e.1 / c.2.1.1):=by unfold a1k at ht ⊢;rw[h.opn];exact ht
  unfold turned;rw[if_neg ht,if_neg htx];exact ⟨rfl,h.opn,h.t0.up hy.fold.t0 n0 m0,h.t1.up hy.fold.t1 n1 m1,h.t2⟩
 have htx:a1k x (e.1 / c.2.1.1):=by unfold a1k at ht ⊢;rw[h.opn];exact ht
 have hE:EndsP c y:=by
  rcases hy.st with ⟨_,k⟩ | ⟨_,k⟩
  ·exact absurd k.opn ht.1
  ·exact k
 have ei:y.2.2.2.2.1=y.2.1 / c.2.1.1:=by rw[←hE.fit.l,hE.ol]
 unfold turned at hq ⊢;rw[if_pos ht] at hq;rw[if_pos ht,if_pos htx];by_cases hk:(l0a c y.2.2.2.1 y.2.2.2.2 (e.1 / c.2.1.1)).2=0
 case neg=>rw[if_neg hk] at hq;exact absurd hq hk
 have hk':=hk;unfold l0a at hk';rw[if_pos hy.fold,if_neg ht.1,if_pos hE.fit,if_neg ht.2] at hk';by_cases hb:y.2.2.2.2.1≤e.1 / c.2.1.1∧h0u c.2.1.1 (e.1 / c.2.1.1)
 case neg=>rw[if_neg hb] at hk';cases hk'
 have ey:l0a c y.2.2.2.1 y.2.2.2.2 (e.1 / c.2.1.1)=(upw c (tput y.2.2.2.1.1 y.2.2.2.2.1 y.2.2.2.2.2,y.2.2.2.1.2) y.2.2.2.2.1 (e.1 / c.2.1.1),0):=by
  unfold l0a;rw[if_pos hy.fold,if_neg ht.1,if_pos hE.fit,if_neg ht.2,if_pos hb]
 have ex:l0a c x.2.2.2.1 x.2.2.2.2 (e.1 / c.2.1.1)=(upw c (tput x.2.2.2.1.1 y.2.2.2.2.1 y.2.2.2.2.2,x.2.2.2.1.2) y.2.2.2.2.1 (e.1 / c.2.1.1),0):=by
  unfold l0a;rw[h.opn,if_pos hx.fold,if_neg ht.1,if_pos hE.fit,if_neg ht.2,if_pos hb]
 rw[ex,ey,if_pos rfl,if_pos rfl,ei];have fx:=r0x hx.fold hE.fit;have fy:=r0x hy.fold hE.fit;rw[ei] at fx fy;have k0:=h.t0.put (y.2.1 / c.2.1.1) y.2.2.2.2.2;have nb:a0s (tput y.2.2.2.1.1 (y.2.1 / c.2.1.1) y.2.2.2.2.2) (o0x c y.2.1).2:=p1x n0 (by have:=(i1b hc y.2.1).1;omega);exact ⟨rfl,rfl,upw_fd hc (Int.le_of_lt hlt) fx fy k0 h.t1 h.t2 nb n1⟩
theorem Fad.putE {c:Conf} {o:Int×(Int×Int)} {x y y':Ser} {e:Ev} (h:Fad c o x y) (hx:SerOk c x) (hy:SerOk c y) (hp:putE c y e=(y',0)):∃x',putE c x e=(x',0)∧Fad c o x' y':=by
 obtain ⟨_,he,hlt,_⟩:=m0o hy hp;unfold Go.Proofs.YtojobamheigpbaaGreatDoor.putE at hp ⊢;rw[if_pos ⟨hy,he⟩,if_neg (by omega)] at hp;rw[if_pos ⟨hx,he⟩,if_neg (by rw[h.last];omega)];by_cases h1:(turned c y (e.1 / c.2.1.1)).2=0
 case neg=>rw[if_pos h1] at hp;exact absurd (congrArg Prod.snd hp) h1
 obtain ⟨a1,a2,a3,a4,a5⟩:=j2r h hx hy hlt h1;rw[if_neg (fun k=>k h1)] at hp;rw[if_neg (fun k=>k a1),h.raw,a2];by_cases h2:(i0h y.2.2.1 c.1 e).2=0
 case neg=>rw[if_pos h2] at hp;exact absurd (congrArg Prod.snd hp) h2
 rw[if_neg (fun k=>k h2)] at hp ⊢;by_cases h3:(mrgE (turned c y (e.1 / c.2.1.1)).1.2.2 (b0w e)).2=0
 case neg=>rw[if_pos h3] at hp;exact absurd (congrArg Prod.snd hp) h3
 rw[if_neg (fun k=>k h3)] at hp ⊢;injection hp with hp _;subst hp;exact ⟨_,rfl,h.lab,rfl,rfl,rfl,a3,a4,a5⟩
theorem d2y {α:Type} {s:Sta} (h:StaOk s) (x y:α):tif (decide ((if StaOk s then (0:Int) else 2)=0)) x y=x:=by rw[if_pos h];rfl
theorem d2z {α:Type} {s:Sta} (h:¬StaOk s) (x y:α):tif (decide ((if StaOk s then (0:Int) else 2)=0)) x y=y:=by rw[if_neg h];rfl
theorem q1r {α:Type} {l pre rest:List α} {x:α} {i:Int} (h:l=pre++x::rest) (hi:i=pre.length):l[i.toNat]? = some x:=by subst h hi;simp
theorem set_mid {α:Type} {pre rest:List α} {x v:α} {i:Int} (hi:i=pre.length):(pre++x::rest).set i.toNat v=(pre++[v])++rest:=by subst hi;simp
theorem at_nn {α:Type} {l:List α} {i:Int} {x:α} (h0:0≤i) (h:l[i.toNat]? = some x):at? l i=some x:=by unfold at?;rw[decide_eq_true h0];exact h
section
variable {del:Int×Unit→Option Bool} {p:Int→Bool} {L:List Int} (hd:∀x∈L,del (x,())=some (p x))
include hd
theorem index_il (n:Nat) (l:List Int) (hL:l.length≤1000000):∀(rest pre:List Int) (f:Nat) (i len:Int),(∀x∈rest,x∈L)→l=pre++rest→i=pre.length→len=l.length→rest.length<f →
  (d0g n f (l,del,len,i,())=some (.inl ())∧∀x∈rest,p x=false) ∨
  (∃A x B,rest=A++x::B∧(∀y∈A,p y=false)∧p x=true∧d0g n f (l,del,len,i,())=some (.inr (i+A.length))):=by
 intro rest;induction rest with
 | nil =>
  intro pre f i len hm hl hi hn hf;obtain ⟨f,rfl⟩:∃g,f=g+1:=⟨f-1,by simp at hf;omega⟩;rw[i0s];exact .inl ⟨by simp only[tfd,if_neg (idxe hl hi hn)],by simp⟩
 | cons x rest ih =>
  intro pre f i len hm hl hi hn hf;obtain ⟨f,rfl⟩:∃g,f=g+1:=⟨f-1,by simp at hf;omega⟩;rw[i0s];simp only[tfd,if_pos (idx hl hi hn),b0s hl hi,obs,hd x (hm x (by simp)),idxw hl hi (show l.length≤1000000000000 by omega)];cases hp:p x with
  | true=>exact .inr ⟨[],x,rest,rfl,by simp,hp,by simp⟩
  | false =>
   rw[tff];rcases ih (pre++[x]) f (i+1) len (fun y hy=>hm y (by simp[hy])) (idxl hl) (idxs hi) hn (by simp at hf;omega) with ⟨h1,h2⟩ | ⟨A,y,B,h1,h2,h3,h4⟩
   ·exact .inl ⟨h1,by intro z hz;rcases List.mem_cons.1 hz with rfl | hz;exact hp;exact h2 z hz⟩
   ·refine .inr ⟨x::A,y,B,by rw[h1];rfl,?_,h3,by rw[h4,List.length_cons,show i+1+(A.length:Int)=i+((A.length+1:Nat):Int) by omega]⟩;intro z hz;rcases List.mem_cons.1 hz with rfl | hz
    ·exact hp
    ·exact h2 z hz
theorem o2u (n:Nat) (l0:List Int) (hL:l0.length≤1000000):∀(rest F G:List Int) (f:Nat) (i j:Int),(∀x∈rest,x∈L)→(F++(G++rest)).length=l0.length→G≠[]→i=F.length→j=F.length+G.length→rest.length<f →
  ∃G',c0w n f (F++(G++rest),del,i,j,())=some (.inl (F++rest.filter (fun x => !p x)++G',(F++rest.filter (fun x => !p x)).length,()))∧(F++rest.filter (fun x => !p x)++G').length=l0.length:=by
 intro rest;induction rest with
 | nil =>
  intro F G f i j hm hl hg hi hj hf;obtain ⟨f,rfl⟩:∃g,f=g+1:=⟨f-1,by simp at hf;omega⟩;rw[i0f];have:¬(j<((F++(G++[])).length:Int)):=by simp;omega
  simp only[tfd,if_neg this];exact ⟨G,by simp[hi],by simpa using hl⟩
 | cons x rest ih =>
  intro F G f i j hm hl hg hi hj hf;have hm':∀y∈rest,y∈L:=fun y hy=>hm y (by simp[hy])
  obtain ⟨f,rfl⟩:∃g,f=g+1:=⟨f-1,by simp at hf;omega⟩;rw[i0f];simp only[List.length_append,List.length_cons] at hl;have hlt:j<((F++(G++x::rest)).length:Int):=by simp;omega
  have hat:at? (F++(G++x::rest)) j=some x:=b0s (pre:=F++G) (rest:=rest) (by simp) (by simp;omega);have hget:(F++(G++x::rest))[j.toNat]? = some x:=by
   rw[show j.toNat=F.length+G.length by omega,List.getElem?_append_right (by omega),List.getElem?_append_right (by omega)];simp
  simp only[tfd,if_pos hlt,hat,hget,obs,hd x (hm x (by simp))];have wj:IntKind.wrap .i64 (j+1)=j+1:=by rw[w64 (by omega) (by omega)]
  have wi:IntKind.wrap .i64 (i+1)=i+1:=by rw[w64 (by omega) (by omega)]
  rw[wj,wi]
  match G,hg with
  | g::G,_ =>
  cases hp:p x with
  | false =>
   have hat':at? (F++(g::G++x::rest)) i=some g:=b0s (pre:=F) (rest:=G++x::rest) (by simp) hi;have hget':(F++(g::G++x::rest))[i.toNat]? = some g:=by
    rw[show i.toNat=F.length by omega];simp
   have hset:(F++(g::G++x::rest)).set i.toNat x=(F++[x])++((G++[x])++rest):=by
    rw[show i.toNat=F.length by omega,List.set_append_right _ _ (by omega)];simp
   simp only[Bool.not_false,tft,hat',hget',obs,hset];obtain ⟨G',h1,h2⟩:=ih (F++[x]) (G++[x]) f (i+1) (j+1) hm' (by simp at hl ⊢;omega) (by simp) (by simp;omega) (by simp at hj ⊢;omega) (by simp at hf;omega);refine ⟨G',?_,?_⟩
   ·rw[h1];simp[List.filter_cons,hp]
   ·rw[←h2];simp[List.filter_cons,hp]
  | true =>
   simp only[Bool.not_true,tff];obtain ⟨G',h1,h2⟩:=ih F (g::G++[x]) f i (j+1) hm' (by simp at hl ⊢;omega) (by simp) hi (by simp at hj ⊢;omega) (by simp at hf;omega);simp only[List.append_assoc,List.singleton_append] at h1;refine ⟨G',?_,?_⟩
   ·rw[h1];simp[List.filter_cons,hp]
   ·rw[←h2];simp[List.filter_cons,hp]
theorem i2m (n:Nat) (l:List Int) (hL:l.length≤1000000) (hm:∀x∈l,x∈L):j0d (n+2) l del=some (l.filter fun x => !p x):=by
 rw[v0r,w0u];rcases index_il hd n l hL l [] a0b 0 l.length hm rfl rfl rfl (by unfold a0b;omega) with ⟨h1,h2⟩ | ⟨A,x,B,h1,h2,h3,h4⟩
 ·rw[h1];simp only[obs,a0w,tfd,if_pos trivial];exact congrArg some (List.filter_eq_self.2 fun y hy=>by simp[h2 y hy]).symm
 ·rw[h4];have hl:l.length=A.length+(B.length+1):=by rw[h1];simp
  simp only[obs,m0p,tfd,Int.zero_add];rw[if_neg (by omega),w64 (x:=(A.length:Int)+1) (by omega) (by omega)];obtain ⟨G',g1,g2⟩:=o2u hd (n+1) l hL B A [x] a0b (A.length:Int) (A.length+1) (fun y hy=>hm y (by rw[h1];simp[hy])) (by rw[h1];simp) (by simp) rfl (by simp) (by unfold a0b;omega);rw[show A++([x]++B)=l by rw[h1];simp] at g1;rw[g1];have hF:A++B.filter (fun x => !p x)=l.filter fun x => !p x:=by
   rw[h1,List.filter_append,List.filter_cons];have:A.filter (fun x => !p x)=A:=List.filter_eq_self.2 fun y hy=>by simp[h2 y hy]
   simp[h3,this]
  rw[hF] at g2 ⊢;generalize (l.filter fun x => !p x)=F at *
  simp only[obs,a0w,s0u,tfd,Int.toNat_natCast];have hle:F.length≤(F++G').length:=by simp
  have k1:putRow (F++G') F.length (List.replicate ((F++G').length-F.length) (0:Int))=F++List.replicate ((F++G').length-F.length) (0:Int):=by
   unfold putRow;rw[List.drop_of_length_le (by simp)];simp
  rw[k1,if_pos (by omega),if_pos hle,if_pos (by omega),if_pos (by omega),if_pos (by simp;omega)];simp
end
theorem z1p {s:Sta} {z:Int} (h:z∈(g0c s).map Int.ofNat):0≤z∧∃y,s.2.2.2[z.toNat]? = some y∧LvX s y:=by
 obtain ⟨i,hi,rfl⟩:=List.mem_map.1 h;have h1:=(List.mem_filter.1 hi).2;obtain ⟨x,hx,hl⟩:=q1a.1 h1;exact ⟨Int.natCast_nonneg i,x,hx,hl⟩
theorem x1p (n:Nat) {s:Sta} {z:Int} {x:Ser} (h0:0≤z) (hx:s.2.2.2[z.toNat]? = some x):m0d (n+7) z s=some (!a2h s z.toNat):=by
 rw[k1b,at_nn h0 hx,obs,g1u n,obs];unfold a2h;rw[hx]
theorem due_list (s:Sta):((g0c s).map Int.ofNat).filter (fun z=>a2h s z.toNat)=((g0c s).filter (a2h s)).map Int.ofNat:=by
 rw[List.filter_map];rfl
theorem k2c (n:Nat) {s:Sta} (hw:StaW s):g1l (n+15) s=some ((dueV s).map Int.ofNat):=by
 rw[t1i,e0w n hw,obs,tfn];unfold dueV;by_cases h:StaOk s
 case neg=>rw[d2z h,if_neg h];rfl
 have hd:∀z∈(g0c s).map Int.ofNat,(fun y2:Int×Unit=>m0d (n+14) y2.1 s) (z,())=some (!a2h s z.toNat):=fun z hz=>by
  obtain ⟨h0,y,hy,_⟩:=z1p hz;exact x1p (n+7) h0 hy
 have hL:((g0c s).map Int.ofNat).length≤1000000:=by have:=q1e s;have:=h.whole.len;simp;omega
 have e:z1s s=(g0c s).map Int.ofNat:=if_pos h.whole;rw[d2y h,o1k (n+6) hw,obs,e,i2m (del:=fun y2:Int×Unit=>m0d (n+14) y2.1 s) (p:=fun z => !a2h s z.toNat) hd (n+12) _ hL (fun _ hx=>hx),obs,if_pos h,←due_list];simp only[Bool.not_not]
noncomputable def doV (s:Sta):Sta×(Int×Int):=if StaOk s then (c1t s,(((dueV s).length:Int),0)) else (sta0,(0,2))
theorem sweep_do (n:Nat) {s:Sta} (hw:StaW s):o1i (n+16) s=some (doV s):=by
 rw[x1r,e0w (n+1) hw,obs,tfn];unfold doV;by_cases h:StaOk s
 case neg=>rw[d2z h,if_neg h,if_neg h];rfl
 rw[d2y h,if_pos h,k2c n hw,obs,List.length_map];rfl
theorem b2o {s:Sta} (hw:StaW s):StaW (c1t s):=⟨hw.len,hw.ser⟩
theorem o2e (o:Int) (r:Int×Int) (x:Slo) (l:List Slo):m0z o r (x::l)=(if j1t o r x then x else s0)::m0z o r l:=rfl
theorem a2c (n:Nat) (o a b:Int):∀(rest pre:List Slo) (f:Nat) (ix len:Int),pre.length+rest.length≤1000000→ix=pre.length→len=(pre.length:Int)+rest.length→rest.length<f →
  c0j n f (o,a,b,pre++rest,len,ix,())=some (.inl (pre++m0z o (a,b) rest,())):=by
 intro rest;induction rest with
 | nil =>
  intro pre f ix len hL hi hn hf;obtain ⟨f,rfl⟩:∃g,f=g+1:=⟨f-1,by simp at hf;omega⟩;rw[s0j,decide_eq_false (by simp at hn;omega),tff];rfl
 | cons x rest ih =>
  intro pre f ix len hL hi hn hf;obtain ⟨f,rfl⟩:∃g,f=g+1:=⟨f-1,by simp at hf;omega⟩;simp only[List.length_cons] at hL hn hf;have go:∀v:Slo,v=(if j1t o (a,b) x then x else s0)→c0j n f (o,a,b,(pre++[v])++rest,len,ix+1,())=some (.inl (pre++m0z o (a,b) (x::rest),())):=by
   intro v hv;rw[ih (pre++[v]) f (ix+1) len (by simp;omega) (by simp;omega) (by simp;omega) (by omega),o2e,←hv];simp
  have same:(pre++[x])++rest=pre++x::rest:=by simp
  have gm:∀v:Slo,(pre++x::rest).set ix.toNat v=(pre++[v])++rest:=fun v=>set_mid hi
  rw[s0j,decide_eq_true (by omega),tft,b0s rfl hi,obs,q1r rfl hi,obs,w64 (by omega) (by omega)];simp only[tfd,obs,gm];by_cases h1:x.1<o
  ·rw[if_pos h1];by_cases h2:x.1<a
   ·rw[if_pos h2];exact go s0 (if_neg (fun k:j1t o (a,b) x=>k ⟨h1,.inl h2⟩)).symm
   ·rw[if_neg h2];by_cases h3:b≤x.1
    ·rw[if_pos h3];exact go s0 (if_neg (fun k:j1t o (a,b) x=>k ⟨h1,.inr h3⟩)).symm
    ·rw[if_neg h3,←same];exact go x (if_pos (show j1t o (a,b) x from fun k=>k.2.elim h2 h3)).symm
  ·rw[if_neg h1,←same];exact go x (if_pos (show j1t o (a,b) x from fun k=>h1 k.1)).symm
theorem c2k {t a b:Int} (ht:0≤t∧t<35184372088832) (ha:1≤a) (hb:1≤b) (hb1:b≤1099511627776) (hm:b % a=0):0≤t / b*(b / a)∧t / b*(b / a)≤t∧1≤b / a∧b / a≤1099511627776:=by
 have hp:=g0d ha hb hm;have q:=(edvm (t:=t) ha hb hm).2;have h0:0≤t / b:=Int.ediv_nonneg ht.1 (by omega);have h1:t / b*(b / a)≤t / a:=by rw[←q];exact Int.ediv_mul_le _ (by omega)
 have h2:t / a≤t:=Int.ediv_le_self _ ht.1;have h3:b / a≤b:=Int.ediv_le_self _ (by omega);exact ⟨Int.mul_nonneg h0 (by omega),by omega,by omega,by omega⟩
theorem c2l {a b:Int} (ha:1≤a) (hb:1≤b) (hb1:b≤1099511627776):IntKind.wrap .i64 (Int.tdiv b a)=b / a:=p0p ⟨by omega,by omega⟩ ha
theorem needed_0 (n:Nat) {c:Conf} (h:OkC c) {t:Int} (ht:0≤t∧t<35184372088832):e0k (n+1) c t 0=some (o0x c t):=by
 have hr:=h.rng;obtain ⟨a1,a2,a3,a4⟩:=c2k ht hr.w0.1 hr.w1.1 hr.w1.2 h.m1;rw[a1v,tfd,if_neg (nz hr.w0.1),tfd,if_neg (nz hr.w1.1),p0p ht hr.w1.1,c2l hr.w0.1 hr.w1.1 hr.w1.2,w64 (x:=t / c.2.1.2.1*(c.2.1.2.1 / c.2.1.1)) (by omega) (by omega),w64 (by omega) (by omega)];rfl
theorem needed_1 (n:Nat) {c:Conf} (h:OkC c) {t:Int} (ht:0≤t∧t<35184372088832):e0k (n+1) c t 1=some (p0u c t):=by
 have hr:=h.rng;obtain ⟨a1,a2,a3,a4⟩:=c2k ht hr.w1.1 hr.w2.1 hr.w2.2 h.m2;rw[a1u,tfd,if_neg (nz hr.w1.1),tfd,if_neg (nz hr.w2.1),p0p ht hr.w2.1,c2l hr.w1.1 hr.w2.1 hr.w2.2,w64 (x:=t / c.2.1.2.2*(c.2.1.2.2 / c.2.1.2.1)) (by omega) (by omega),w64 (by omega) (by omega)];rfl
theorem fade_0 (n:Nat) {c:Conf} (h:OkC c) (x:Ser) (ht:0≤x.2.1∧x.2.1<35184372088832) (hL:x.2.2.2.1.1.length≤1000000) (o:Int):f0u (n+2) c x 0 o=some (m0z o (o0x c x.2.1) x.2.2.2.1.1):=by
 rw[g1j,needed_0 n h ht,obs,q0d n _ hL,obs];have e:=a2c (n+1) o (o0x c x.2.1).1 (o0x c x.2.1).2 x.2.2.2.1.1 [] a0b 0 (x.2.2.2.1.1.length:Int) (by simpa using hL) rfl (by simp) (by unfold a0b;omega);rw[List.nil_append] at e;rw[e,obs,a0w];rfl
theorem fade_1 (n:Nat) {c:Conf} (h:OkC c) (x:Ser) (ht:0≤x.2.1∧x.2.1<35184372088832) (hL:x.2.2.2.1.2.1.length≤1000000) (o:Int):f0u (n+2) c x 1 o=some (m0z o (p0u c x.2.1) x.2.2.2.1.2.1):=by
 rw[g1i,needed_1 n h ht,obs,q0d n _ hL,obs];have e:=a2c (n+1) o (p0u c x.2.1).1 (p0u c x.2.1).2 x.2.2.2.1.2.1 [] a0b 0 (x.2.2.2.1.2.1.length:Int) (by simpa using hL) rfl (by simp) (by unfold a0b;omega);rw[List.nil_append] at e;rw[e,obs,a0w];rfl
theorem fade_2 (n:Nat) (c:Conf) (x:Ser) (hL:x.2.2.2.1.2.2.length≤1000000) (o:Int):f0u (n+2) c x 2 o=some (m0z o (0,0) x.2.2.2.1.2.2):=by
 rw[g1h,a1t,obs,q0d n _ hL,obs];have e:=a2c (n+1) o 0 0 x.2.2.2.1.2.2 [] a0b 0 (x.2.2.2.1.2.2.length:Int) (by simpa using hL) rfl (by simp) (by unfold a0b;omega);rw[List.nil_append] at e;rw[e,obs,a0w];rfl
theorem time_of {s:Sta} (h:StaOk s) {x:Ser} (hx:SerOk s.1 x) (h0:0≤x.2.1):0≤x.2.1∧x.2.1<35184372088832:=n0w hx (by omega)
theorem p2e (n:Nat) {s:Sta} (h:StaOk s) {x:Ser} (hx:SerOk s.1 x) (h0:0≤x.2.1) (s2:Sta) (out:List Ser) (i:Int) (L:List Int) (q1 q2:Int) (f:Nat) :
  b0z (n+14) (f+4) (s,s2,out,i,x,L,q1,q2,s.1.2.1,(0:Int),())=some (.inl (s,s2,out,i,i0u s.1 s.2.1 x,L,q1,q2,())):=by
 have hr:=h.whole.1.rng;have ht:=h.clock.1;have hc:=h.whole.1;have hT:=time_of h hx h0;have l0:=hx.fold.t0.l1;have l1:=hx.fold.t1.l1;have l2:=hx.fold.t2.l1;rw[v0o,s0r (n+10),obs,tfn,decide_eq_true (r0o ⟨ht.1,ht.2,hr.w0.1,hr.w0.2⟩ hr.n0),tft,fade_0 (n+12) hc x hT (by omega),obs];generalize e0:m0z (oldV s.2.1 s.1.2.1.1 s.1.2.2.1.1).1 (o0x s.1 x.2.1) x.2.2.2.1.1=F0;rw[v0n,s0r (n+10),obs,tfn,decide_eq_true (r0o ⟨ht.1,ht.2,hr.w1.1,hr.w1.2⟩ hr.n1),tft,
  fade_1 (n+12) hc (x.1,(x.2.1,(x.2.2.1,((F0,x.2.2.2.1.2),x.2.2.2.2)))) hT (by show x.2.2.2.1.2.1.length≤_;omega),obs]
 dsimp only;generalize e1:m0z (oldV s.2.1 s.1.2.1.2.1 s.1.2.2.1.2.1).1 (p0u s.1 x.2.1) x.2.2.2.1.2.1=F1;rw[v0m,s0r (n+10),obs,tfn,decide_eq_true (r0o ⟨ht.1,ht.2,hr.w2.1,hr.w2.2⟩ hr.n2),tft,
  fade_2 (n+12) s.1 (x.1,(x.2.1,(x.2.2.1,((F0,(F1,x.2.2.2.1.2.2)),x.2.2.2.2)))) (by show x.2.2.2.1.2.2.length≤_;omega),obs,v0l]
 subst e0 e1;rfl
noncomputable def d2x (s:Sta) (L:List Int) (out:List Ser):List Ser:=L.foldl (fun o z=>o.set z.toNat (i0u s.1 s.2.1 ((s.2.2.2[z.toNat]?).getD ser0))) out
theorem clean_l6 (n:Nat) {s:Sta} (h:StaOk s) (s2:Sta) (L:List Int) (hL:L.length≤1000000) (hm:∀z∈L,0≤z∧∃y,s.2.2.2[z.toNat]? = some y∧SerOk s.1 y∧0≤y.2.1):∀(rest pre:List Int) (f:Nat) (out:List Ser) (ix len:Int),L=pre++rest→ix=pre.length→len=L.length→rest.length<f→out.length=s.2.2.2.length →
  g0p (n+14) f (s,s2,out,L,len,ix,())=some (.inl (s,s2,d2x s rest out,())):=by
 intro rest;induction rest with
 | nil =>
  intro pre f out ix len hl hi hn hf ho;obtain ⟨f,rfl⟩:∃g,f=g+1:=⟨f-1,by simp at hf;omega⟩;rw[p0h,decide_eq_false (idxe hl hi hn),tff];rfl
 | cons z rest ih =>
  intro pre f out ix len hl hi hn hf ho;obtain ⟨f,rfl⟩:∃g,f=g+1:=⟨f-1,by simp at hf;omega⟩;obtain ⟨h0,y,hy,hs,hy0⟩:=hm z (by rw[hl];simp);have hlt:z.toNat<out.length:=by rw[ho];exact (List.getElem?_eq_some_iff.1 hy).1
  have hg:out[z.toNat]? = some out[z.toNat]:=List.getElem?_eq_getElem hlt;have e10:=p2e n h hs hy0 s2 out z L len ix (2^70-4);rw[show 2^70-4+4=a0b from by decide] at e10;rw[p0h,decide_eq_true (idx hl hi hn),tft,b0s hl hi,obs,q1r hl hi,obs,at_nn h0 hy,obs,e10,obs,a0w];dsimp only;rw[at_nn h0 hg,obs,hg,obs,idxw hl hi (show L.length≤1000000000000 by omega),ih (pre++[z]) f _ (ix+1) len (idxl hl) (idxs hi) hn (by simp at hf;omega) (by simpa using ho)];unfold d2x;rw[List.foldl_cons,hy];rfl
theorem set_fold {α:Type} (g:Int→α) (j:Nat):∀(L:List Int) (out:List α),(∀z∈L,0≤z)→(L.foldl (fun o z=>o.set z.toNat (g z)) out)[j]? = if (j:Int)∈L then (if j<out.length then some (g j) else none) else out[j]? := by
 intro L;induction L with
 | nil=>intro out _;simp
 | cons z L ih =>
  intro out hz;have h0:=hz z (by simp);rw[List.foldl_cons,ih _ (fun y hy=>hz y (by simp[hy])),List.length_set];by_cases h:(j:Int)∈L
  ·rw[if_pos h,if_pos (show (j:Int)∈z::L by simp[h])]
  ·rw[if_neg h,List.getElem?_set];by_cases e:z.toNat=j
   ·have e':z=(j:Int):=by omega
    rw[if_pos e,if_pos (show (j:Int)∈z::L by simp[e']),e,e']
   ·rw[if_neg e,if_neg (show ¬(j:Int)∈z::L by simp[h];omega)]
theorem i2o {s:Sta} (h:StaOk s):d2x s ((g0c s).map Int.ofNat) (List.replicate s.2.2.2.length ser0)=s.2.2.2.map (n0g s):=by
 apply List.ext_getElem?;intro j;unfold d2x;rw[set_fold (fun z=>i0u s.1 s.2.1 ((s.2.2.2[z.toNat]?).getD ser0)) j _ _ (fun z hz=>(z1p hz).1),List.getElem?_map,List.length_replicate];have hmem:((j:Int)∈(g0c s).map Int.ofNat)↔lvAt s j=true:=by
  constructor
  ·intro hz;obtain ⟨i,hi,e⟩:=List.mem_map.1 hz;have e:i=j:=by injection e
   rw[←e];exact (List.mem_filter.1 hi).2
  ·intro hl;exact List.mem_map.2 ⟨j,List.mem_filter.2 ⟨List.mem_range.2 (m2n hl),hl⟩,rfl⟩
 by_cases hl:lvAt s j=true
 ·obtain ⟨x,hx,hlx⟩:=q1a.1 hl;rw[if_pos (hmem.2 hl),if_pos (m2n hl),hx];simp only[Option.map_some,Int.toNat_natCast,hx,Option.getD_some];exact congrArg some (if_pos hlx).symm
 ·rw[if_neg (fun k=>hl (hmem.1 k)),List.getElem?_replicate];cases hx:s.2.2.2[j]? with
  | none=>rw[if_neg (by have:=List.getElem?_eq_none_iff.1 hx;omega)];rfl
  | some x =>
   rw[if_pos (List.getElem?_eq_some_iff.1 hx).1];have hn:¬LvX s x:=fun k=>hl (q1a.2 ⟨x,hx,k⟩)
   exact congrArg some (if_neg hn).symm
noncomputable def d2v (s:Sta):Sta×Int:=if StaOk s then (d1l s,0) else (sta0,2)
theorem z1q {s:Sta} (h:StaOk s):∀z∈(g0c s).map Int.ofNat,0≤z∧∃y,s.2.2.2[z.toNat]? = some y∧SerOk s.1 y∧0≤y.2.1:=by
 intro z hz;obtain ⟨h0,y,hy,hl⟩:=z1p hz;exact ⟨h0,y,hy,q1d h (List.mem_of_getElem? hy) hl⟩
theorem x1q (n:Nat) {s:Sta} (hw:StaW s):w0t (n+15) s=some (d2v s):=by
 rw[k1c,e0w n hw,obs,tfn];unfold d2v;by_cases h:StaOk s
 case neg=>rw[d2z h,if_neg h,if_neg h];rfl
 have hlen:=h.whole.len;have hL:((g0c s).map Int.ofNat).length≤1000000:=by have:=q1e s;simp;omega
 have e:z1s s=(g0c s).map Int.ofNat:=if_pos h.whole;have e6:=clean_l6 n h sta0 _ hL (z1q h) _ [] a0b (List.replicate s.2.2.2.length ser0) 0 _ rfl rfl rfl (by unfold a0b;omega) (by simp);rw[i2o h] at e6;rw[d2y h,if_pos h,decide_eq_true (by omega),decide_eq_true (Int.le_refl _),decide_eq_true (show (s.2.2.2.length:Int)*264≤140737488355328 by omega),Bool.and_self,Bool.and_self,tft,o1k (n+6) hw,obs,e,Int.toNat_natCast]
 change a0a (g0p (n+14) a0b (s,sta0,List.replicate s.2.2.2.length ser0,(g0c s).map Int.ofNat,(((g0c s).map Int.ofNat).length:Int),(0:Int),())) _=_
 rw[e6,obs,a0w];rfl
theorem cleanX_w {c:Conf} {now:Int} {x:Ser} (hx:SerW x∧SerM x):SerW (i0u c now x)∧SerM (i0u c now x):=by
 obtain ⟨⟨h1,h2,h3,h4⟩,m1,m2,m3,m4,m5⟩:=hx;have fw:∀(o:Int) (r:Int×Int) (l:List Slo),(∀z∈l,SloW z)→∀z∈m0z o r l,SloW z:=by
  intro o r l hl z hz;obtain ⟨y,hy,e⟩:=List.mem_map.1 hz;split at e
  ·rw[←e];exact hl y hy
  ·rw[←e];exact b1a
 refine ⟨⟨h1,h2,?_,h4⟩,m1,m2,by simpa [i0u,g0t] using m3,by simpa [i0u,g0t] using m4,by simpa [i0u,g0t] using m5⟩;obtain ⟨t1,t2,t3⟩:=h3;exact ⟨fw _ _ _ t1,fw _ _ _ t2,fw _ _ _ t3⟩
theorem d2w {s:Sta} (hw:StaW s):StaW (d1l s):=by
 refine ⟨by simpa [d1l] using hw.len,fun x hx => ?_⟩;obtain ⟨y,hy,e⟩:=List.mem_map.1 hx;unfold n0g at e;split at e
 ·rw[←e];exact cleanX_w (hw.ser y hy)
 ·rw[←e];exact ⟨ser0_w,ser0_m⟩
structure EvInv (N:Nat) (s:Sta):Prop where
 ok:StaOk s
 w:StaW s
 ser:∀x∈s.2.2.2,x=ser0∨∃y l,SerInv s.1 y l∧l≠[]∧l.length≤N∧Fad s.1 (olds s.1 s.2.1) x y
theorem EvInv.of {N:Nat} {s:Sta} (h:StaInv N s):EvInv N s:=⟨h.ok,h.w,fun x hx=>(h.ser x hx).imp id fun ⟨l,h1,h2,h3⟩=>⟨x,l,h1,h2,h3,.refl _ _ _⟩⟩
theorem EvInv.mono {N M:Nat} {s:Sta} (h:EvInv N s) (hm:N≤M):EvInv M s :=
 ⟨h.ok,h.w,fun x hx=>(h.ser x hx).imp id fun ⟨y,l,h1,h2,h3,h4⟩=>⟨y,l,h1,h2,Nat.le_trans h3 hm,h4⟩⟩
theorem v1d {s:Sta} (h:StaOk s) {now:Int} (h1:s.2.1≤now) (h2:now<35184372088832):(olds s.1 s.2.1).1≤(olds s.1 now).1∧(olds s.1 s.2.1).2.1≤(olds s.1 now).2.1∧(olds s.1 s.2.1).2.2≤(olds s.1 now).2.2:=by
 have hr:=h.whole.1.rng;have hc:=h.clock.1;have c1:=hc.1;have c2:=hc.2;exact ⟨f1b ⟨c1,c2,hr.w0.1,hr.w0.2⟩ ⟨by omega,h2,hr.w0.1,hr.w0.2⟩ h1 hr.n0,f1b ⟨c1,c2,hr.w1.1,hr.w1.2⟩ ⟨by omega,h2,hr.w1.1,hr.w1.2⟩ h1 hr.n1,f1b ⟨c1,c2,hr.w2.1,hr.w2.2⟩ ⟨by omega,h2,hr.w2.1,hr.w2.2⟩ h1 hr.n2⟩
theorem EvInv.tick {N:Nat} {s:Sta} (h:EvInv N s) (now:Int):EvInv N (a1s s now).1:=by
 unfold a1s;by_cases hm:Moves s now
 ·rw[if_pos hm];obtain ⟨m1,m2,m3⟩:=v1d h.ok (Int.le_of_lt hm.2.1) hm.2.2;exact ⟨j2z hm,k2a h.w now,fun x hx=>(h.ser x hx).imp id fun ⟨y,l,h1,h2,h3,h4⟩=>⟨y,l,h1,h2,h3,h4.mono m1 m2 m3⟩⟩
 ·rw[if_neg hm];exact h
theorem a2d {c:Conf} {o:Int×(Int×Int)} {x y x':Ser} {l:List Ev} {e:Ev} (hx:SerOk c x) (h:Fad c o x y) (hy:SerInv c y l) (hL:l.length<1000000) (hp:Go.Proofs.YtojobamheigpbaaGreatDoor.putE c x e=(x',0)):∃y',SerInv c y' (l++[e])∧Fad c o x' y':=by
 obtain ⟨_,he,hlt,_⟩:=m0o hx hp;have hf:Foll (l++[e]):=by
  refine b0b.2 ⟨hy.foll,⟨by simp[he],by simp⟩,fun a ha b hb => ?_⟩;simp at hb;subst hb;rcases hy.last with ⟨k,_⟩ | k
  ·rw[k] at ha;cases ha
  ·have:=k.le a ha;rw[h.last] at hlt;omega
 obtain ⟨y',h1,h2⟩:=y1k hy hf hL;obtain ⟨x'',h3,h4⟩:=h.putE hx (k0c hy) h1;rw[hp] at h3;injection h3 with h3 _;subst h3;exact ⟨y',h2,h4⟩
theorem EvInv.write {N:Nat} {s:Sta} (h:EvInv N s) (hb:N<1000000) (l:List Lab) (e:Ev):EvInv (N+1) (if (e0u s l e).2=0 then (e0u s l e).1 else s):=by
 by_cases h0:(e0u s l e).2=0
 case neg=>rw[if_neg h0];exact h.mono (Nat.le_succ N)
 rw[if_pos h0];have hw:e0u s l e=((e0u s l e).1,0):=Prod.ext rfl h0;have hww:=b2e h.w l e;generalize (e0u s l e).1=t at *
 refine ⟨g1m hw,hww,?_⟩;obtain ⟨hg,i,x,b,y,hp,hput,rfl,_⟩:=u0f hw;obtain ⟨p1,_⟩:=r0j hg hp;intro z hz;rcases List.mem_or_eq_of_mem_set hz with k | k
 ·exact (h.ser z k).imp id fun ⟨y,l,h1,h2,h3,h4⟩=>⟨y,l,h1,h2,by omega,h4⟩
 ·subst k;right;cases hp with
  | found hf hx hl hlv ht =>
   obtain ⟨y0,l0,h1,_,h3,h4⟩:=(h.ser x (List.mem_of_getElem? hx)).resolve_left hlv.1;obtain ⟨y',q1,q2⟩:=a2d p1 h4 h1 (by omega) hput;exact ⟨y',_,q1,by simp,by simp;omega,q2⟩
  | room hf hs hr =>
   obtain ⟨y',q1,q2⟩:=a2d (o:=olds s.1 s.2.1) p1 (.refl _ _ _) (p1w hg.st.whole.1 hg.lab) (by simp) hput;exact ⟨y',_,q1,by simp,by simp,q2⟩
theorem EvInv.sweep {N:Nat} {s:Sta} (h:EvInv N s):EvInv N (c1t s):=⟨b2m h.ok,b2o h.w,h.ser⟩
theorem EvInv.clean {N:Nat} {s:Sta} (h:EvInv N s):EvInv N (d1l s):=by
 refine ⟨d2u h.ok,d2w h.w,fun z hz => ?_⟩;obtain ⟨x,hx,e⟩:=List.mem_map.1 hz;unfold n0g at e;split at e
 ·rename_i hl;obtain ⟨y,l,h1,h2,h3,h4⟩:=(h.ser x hx).resolve_left hl.1;rw[←e];exact .inr ⟨y,l,h1,h2,h3,h4.clean⟩
 ·exact .inl e.symm
theorem i2p (n:Nat) (l0:List Ev) (s2:Cel) (l:List Ev) (hL:l.length≤1000000000000) (hw:∀e∈l,EvW e):∀(rest pre:List Ev) (f:Nat) (i len:Int),l=pre++rest→i=pre.length→len=l.length→rest.length<f →
  q0e (n+1) f (l0,s2,l,len,i,())=some (if ∀e∈rest,EvOk e then .inl (l0,s2,()) else .inr (z0,2)):=by
 intro rest;induction rest with
 | nil =>
  intro pre f i len hl hi hn hf;obtain ⟨f,rfl⟩:∃g,f=g+1:=⟨f-1,by simp at hf;omega⟩;rw[a1e];simp[tfd,if_neg (idxe hl hi hn)]
 | cons x rest ih =>
  intro pre f i len hl hi hn hf;obtain ⟨f,rfl⟩:∃g,f=g+1:=⟨f-1,by simp at hf;omega⟩;rw[a1e];have hx:EvW x:=hw x (by rw[hl];simp);simp only[tfd,tfn,if_pos (idx hl hi hn),b0s hl hi,obs,e0s n hx,idxw hl hi hL,z02];by_cases ho:EvOk x
  ·rw[if_pos ho,ih (pre++[x]) f (i+1) len (idxl hl) (idxs hi) hn (by simp at hf;omega)];have e:(∀e∈x::rest,EvOk e)↔(∀e∈rest,EvOk e):=by simp[ho]
   by_cases hr:∀e∈rest,EvOk e
   ·rw[if_pos hr,if_pos (e.2 hr)]
   ·rw[if_neg hr,if_neg (fun k=>hr (e.1 k))]
  ·have h2:¬(∀e∈x::rest,EvOk e):=fun k=>ho (k x (by simp))
   rw[if_neg ho,if_neg ho,if_neg h2];rfl
theorem a2q (n:Nat) (s2:Cel) (l:List Ev) (hL:l.length≤1000000000000) (hok:∀e∈l,EvOk e):∀(rest pre:List Ev) (f:Nat) (i len:Int),l=pre++rest→i=pre.length→len=l.length→rest.length<f→Foll pre →
  n0h (n+6) f (s2,cellOf pre,l,len,i,())=some (if l.Pairwise (fun a b=>a.1<b.1) then .inl (s2,cellOf l,()) else .inr (z0,9)):=by
 intro rest;induction rest with
 | nil =>
  intro pre f i len hl hi hn hf hp;obtain ⟨f,rfl⟩:∃g,f=g+1:=⟨f-1,by simp at hf;omega⟩;rw[w0l];simp only[tfd,if_neg (idxe hl hi hn)];rw[List.append_nil] at hl;subst hl;rw[if_pos hp.inc]
 | cons x rest ih =>
  intro pre f i len hl hi hn hf hp;obtain ⟨f,rfl⟩:∃g,f=g+1:=⟨f-1,by simp at hf;omega⟩;rw[w0l];have hx:EvOk x:=hok x (by rw[hl];simp);simp only[tfd,tfn,if_pos (idx hl hi hn),b0s hl hi,obs,d1m,h0q n (.of (e0g hp)) (d2o (.of hx)),idxw hl hi hL];by_cases hf':Foll (pre++[x])
  ·rw[(i1e hp hx).1 hf'];simp only[if_pos trivial];exact ih (pre++[x]) f (i+1) len (idxl hl) (idxs hi) hn (by simp at hf;omega) hf'
  ·rw[(i1e hp hx).2 hf'];simp only;have:¬(l.Pairwise fun a b=>a.1<b.1):=by
    intro k;apply hf';rw[idxl hl] at k;exact ⟨fun e he=>hok e (by rw[idxl hl];exact List.mem_append_left _ he),(List.pairwise_append.1 k).1⟩
   rw[if_neg (by decide),if_neg this];rfl
theorem cell_of (n:Nat) (l:List Ev) (hL:l.length≤1000000000000) (hw:∀e∈l,EvW e):a2s (n+7) l=some (ofE l):=by
 have e1:=i2p (n+5) l z0 l hL hw l [] a0b 0 l.length rfl rfl rfl (by unfold a0b;omega);rw[i2s];have e1':q0e (n+6) a0b (l,((0:Int),(((0:Int),((0:Int),((0:Int),false))),(((0:Int),((0:Int),((0:Int),false))),(((0:Int),(0:Int)),((0:Int),((0:Int),(0:Int))))))),l,(l.length:Int),(0:Int),())=_:=e1;rw[e1'];unfold ofE;by_cases h:∀e∈l,EvOk e
 ·rw[if_pos h,if_pos h];simp only[obs,a0w];have e2:=a2q n z0 l hL h l [] a0b 0 l.length rfl rfl rfl (by unfold a0b;omega) Foll.nil;have e2':n0h (n+6) a0b (z0,((0:Int),(((0:Int),((0:Int),((0:Int),false))),(((0:Int),((0:Int),((0:Int),false))),(((0:Int),(0:Int)),((0:Int),((0:Int),(0:Int))))))),l,(l.length:Int),(0:Int),())=_:=e2;rw[e2'];by_cases h':l.Pairwise fun a b=>a.1<b.1
  ·rw[if_pos h',if_pos h'];simp
  ·rw[if_neg h',if_neg h'];simp
 ·rw[if_neg h,if_neg h];simp
abbrev Act:Type:=Int×((List Lab×Ev)×Int)
theorem small_l4 (n:Nat) (acts:List Act) (hL:acts.length≤9223372036854775807) (hw:∀x∈acts,x.2.1.1.length≤9223372036854775807):∀(rest pre:List Act) (f:Nat) (ix len:Int),acts=pre++rest→ix=pre.length→len=acts.length→rest.length<f →
  e0v (n+1) f (acts,len,ix,())=some (.inl ())∨e0v (n+1) f (acts,len,ix,())=some (.inr false):=by
 intro rest;induction rest with
 | nil =>
  intro pre f ix len ha hi hl hf;obtain ⟨f,rfl⟩:=c0d hf;subst hi;subst hl;rw[List.append_nil] at ha;subst ha;rw[l0x,decide_eq_false (by omega),tff];exact .inl rfl
 | cons x r ih =>
  intro pre f ix len ha hi hl hf;obtain ⟨f,rfl⟩:=c0d hf;have hlen:acts.length=pre.length+(r.length+1):=by rw[ha];simp
  subst hi;subst hl;have hat:at? acts (pre.length:Int)=some x:=by
   rw[ha];exact b0s (pre:=pre) (rest:=r) rfl rfl
  rw[l0x,decide_eq_true (by omega),tft,hat,obs];rcases z0o n x.2.1.1 (hw x (by rw[ha];simp)) with h | h
  ·rw[h];exact .inr rfl
  ·rw[h,obs,show (decide ((1:Int)=0))=false from rfl,tff,w64 (by omega) (by omega)];exact ih (pre++[x]) f ((pre.length:Int)+1) (acts.length:Int) (by rw[ha];simp) (by simp) rfl (by simp at hf;omega)
theorem u0l (n:Nat) (acts:List Act) (hL:acts.length≤9223372036854775807) (hw:∀x∈acts,x.2.1.1.length≤9223372036854775807):e0m (n+2) acts=some false∨(e0m (n+2) acts=some true∧acts.length≤40):=by
 rw[d1o,tfd];by_cases h:(40:Int)<((acts.length:Nat):Int)
 ·rw[if_pos h];exact .inl rfl
 rw[if_neg h];rcases small_l4 n acts hL hw acts [] a0b 0 _ rfl rfl rfl (by unfold a0b;omega) with e | e
 ·rw[e];exact .inr ⟨rfl,by omega⟩
 ·rw[e];exact .inl rfl
theorem d2i (n:Nat) (c:Conf):i0w (n+8) c=some false∨(i0w (n+8) c=some true∧(l0e c).2=0):=by
 rw[n1w,m0e n,obs,tfd];by_cases h:(l0e c).2=0
 case neg=>rw[if_neg h];exact .inl rfl
 rw[if_pos h];simp only[tfd];by_cases h1:((((l0e c).1.2.2.2.length:Nat):Int))≤8
 case neg=>rw[if_neg h1];exact .inl rfl
 rw[if_pos h1];by_cases h2:c.1≤60
 case neg=>rw[if_neg h2];exact .inl rfl
 rw[if_pos h2];by_cases h3:c.2.2.1.1≤40
 case neg=>rw[if_neg h3];exact .inl rfl
 rw[if_pos h3];by_cases h4:c.2.2.1.2.1≤40
 case neg=>rw[if_neg h4];exact .inl rfl
 rw[if_pos h4];by_cases h5:c.2.2.1.2.2≤40
 ·rw[decide_eq_true h5];exact .inr ⟨rfl,h⟩
 ·rw[decide_eq_false h5];exact .inl rfl
theorem s1j {acts:List Act} (ha:Wf (.slice b0y) acts):acts.length≤9223372036854775807∧(∀x∈acts,x.2.1.1.length≤9223372036854775807)∧∀x∈acts,EvW x.2.1.2 :=
 ⟨Nat.le_trans ha.1 (by decide),fun x hx=>Nat.le_trans (ha.2 x hx).2.1.1.1 (by decide),fun x hx=>ev_wf (ha.2 x hx).2.1.2⟩
end Go.Proofs.YtojobamheigpbaaGreatDoor

namespace Go.Plim
open Go.Flat
set_option linter.unusedVariables false
theorem m2l (e:Ty) {key:List UInt8}:∀(xs:List (El .str×El e)) (i:Nat),(∀p∈xs,p.1≠key)→mget .str e xs key i=none:=by
 intro xs;induction xs with
 | nil=>intro i _;rfl
 | cons p r ih =>
  intro i h;obtain ⟨a,v⟩:=p;have hne:(key==a)=false:=by
   have:=h (a,v) (by simp);simp only[ne_eq] at this;cases hq:(key==a) with
   | false=>rfl
   | true=>exact absurd (eq_of_beq hq).symm this
  simp only[mget,e1j];rw[hne];exact ih (i+1) fun p hp=>h p (by simp[hp])
theorem mget_at (e:Ty) {key:List UInt8} {v:El e} {post:List (El .str×El e)}:∀(pre:List (El .str×El e)) (i:Nat),(∀p∈pre,p.1≠key)→mget .str e (pre++(key,v)::post) key i=some (i+pre.length,v):=by
 intro pre;induction pre with
 | nil=>intro i _;simp[mget,e1j]
 | cons p r ih =>
  intro i h;obtain ⟨a,w⟩:=p;have hne:(key==a)=false:=by
   have:=h (a,w) (by simp);simp only[ne_eq] at this;cases hq:(key==a) with
   | false=>rfl
   | true=>exact absurd (eq_of_beq hq).symm this
  simp only[List.cons_append,mget,e1j];rw[hne,cond_false,ih (i+1) fun p hp=>h p (by simp[hp])];simp;omega
theorem mput_new (e:Ty) {key:List UInt8} {v:El e}:∀(xs:List (El .str×El e)),(∀p∈xs,p.1≠key)→mput .str e xs key v=xs++[(key,v)]:=by
 intro xs;induction xs with
 | nil=>intro _;rfl
 | cons p r ih =>
  intro h;obtain ⟨a,w⟩:=p;have hne:(key==a)=false:=by
   have:=h (a,w) (by simp);simp only[ne_eq] at this;cases hq:(key==a) with
   | false=>rfl
   | true=>exact absurd (eq_of_beq hq).symm this
  simp only[mput,e1j];rw[hne,cond_false,ih fun p hp=>h p (by simp[hp])];rfl
theorem p2n (e:Ty) {L V:Type} {key:L→List UInt8} (hk:∀a b,key a=key b→a=b) (f:L×V→El e) {B:List (L×V)} {l:L} (hl:l ∉ B.map Prod.fst) (i:Nat) (w:El e) :
  mget .str e (B.map fun p=>(key p.1,f p)) (key l) i=none∧mput .str e (B.map fun p=>(key p.1,f p)) (key l) w=(B.map fun p=>(key p.1,f p))++[(key l,w)]:=by
 have h:∀p∈B.map (fun p=>((key p.1,f p):El .str×El e)),p.1≠key l:=by
  intro p hp e2;obtain ⟨q,hq,rfl⟩:=List.mem_map.1 hp;exact hl (List.mem_map.2 ⟨q,hq,hk _ _ e2⟩)
 exact ⟨m2l e _ i h,mput_new e _ h⟩
theorem bk_at (e:Ty) {L V:Type} {key:L→List UInt8} (hk:∀a b,key a=key b→a=b) (f:L×V→El e) {pre post:List (L×V)} {l:L} {v:V} (hl:l ∉ pre.map Prod.fst) (i:Nat) (w:El e) :
  mget .str e ((pre++(l,v)::post).map fun p=>(key p.1,f p)) (key l) i=some (i+pre.length,f (l,v)) ∧
  ((pre++(l,v)::post).map fun p=>((key p.1,f p):El .str×El e)).set pre.length (key l,w)=(pre.map fun p=>(key p.1,f p))++(key l,w)::post.map fun p=>(key p.1,f p):=by
 have h:∀p∈pre.map (fun p=>((key p.1,f p):El .str×El e)),p.1≠key l:=by
  intro p hp e2;obtain ⟨q,hq,rfl⟩:=List.mem_map.1 hp;exact hl (List.mem_map.2 ⟨q,hq,hk _ _ e2⟩)
 have hg:=mget_at e (v:=f (l,v)) (post:=post.map fun p=>((key p.1,f p):El .str×El e)) (pre.map fun p=>(key p.1,f p)) i h;refine ⟨by rw[List.map_append,List.map_cons,hg,List.length_map],?_⟩;rw[List.map_append,List.map_cons,List.set_append_right _ _ (by simp)];simp
theorem bk_set (e:Ty) {L V:Type} {key:L→List UInt8} (f:L×V→El e) {pre post:List (L×V)} {l:L} {v:V} (w:El e) :
  mset .str e ((pre++(l,v)::post).map fun p=>((key p.1,f p):El .str×El e)) pre.length w=(pre.map fun p=>(key p.1,f p))++(key l,w)::post.map fun p=>(key p.1,f p):=by
 rw[m2i];have h:((pre++(l,v)::post).map fun p=>((key p.1,f p):El .str×El e))[pre.length]? = some (key l,f (l,v)):=by
  rw[List.map_append,List.map_cons,List.getElem?_append_right (by simp)];simp
 rw[h];dsimp only;rw[List.map_append,List.map_cons,List.set_append_right _ _ (by simp)];simp
def uvB (n:Nat):List UInt8:=if n<128 then [UInt8.ofNat n] else UInt8.ofNat (n % 128+128)::uvB (n / 128)
termination_by n
decreasing_by omega
theorem x0t {n:Nat} (h:n<128):uvB n=[UInt8.ofNat n]:=by unfold uvB;rw[if_pos h]
theorem e1q {n:Nat} (h:¬n<128):uvB n=UInt8.ofNat (n % 128+128)::uvB (n / 128):=by rw[uvB];rw[if_neg h]
theorem b2i {a b:Nat} (ha:a<256) (hb:b<256) (h:UInt8.ofNat a=UInt8.ofNat b):a=b:=by
 have:=congrArg UInt8.toNat h;simp at this;omega
theorem j2m:∀(a b:Nat) (x y:List UInt8),uvB a++x=uvB b++y→a=b∧x=y:=by
 intro a;induction a using Nat.strongRecOn with
 | _ a ih =>
  intro b x y h;by_cases ha:a<128
  ·rw[x0t ha] at h;by_cases hb:b<128
   ·rw[x0t hb] at h;simp only[List.cons_append,List.nil_append,List.cons.injEq] at h;exact ⟨b2i (by omega) (by omega) h.1,h.2⟩
   ·rw[e1q hb] at h;simp only[List.cons_append,List.nil_append,List.cons.injEq] at h;have:=b2i (by omega) (by omega) h.1;omega
  ·rw[e1q ha] at h;by_cases hb:b<128
   ·rw[x0t hb] at h;simp only[List.cons_append,List.nil_append,List.cons.injEq] at h;have:=b2i (by omega) (by omega) h.1;omega
   ·rw[e1q hb] at h;simp only[List.cons_append,List.cons.injEq] at h;have h1:=b2i (by omega) (by omega) h.1;obtain ⟨h2,h3⟩:=ih (a / 128) (by omega) (b / 128) x y h.2;exact ⟨by omega,h3⟩
def txB (s:List UInt8):List UInt8:=uvB s.length++s
theorem j2q {s t x y:List UInt8} (h:txB s++x=txB t++y):s=t∧x=y:=by
 unfold txB at h;rw[List.append_assoc,List.append_assoc] at h;obtain ⟨h1,h2⟩:=j2m _ _ _ _ h;exact List.append_inj h2 h1
def labB (l:List (List UInt8×List UInt8)):List UInt8:=uvB l.length++l.flatMap fun x=>txB x.1++txB x.2
theorem q1k {l m:List (List UInt8×List UInt8)} (h:labB l=labB m):l=m:=by
 unfold labB at h;obtain ⟨h1,h2⟩:=j2m _ _ _ _ h;clear h;induction l generalizing m with
 | nil =>
  cases m with
  | nil=>rfl
  | cons=>cases h1
 | cons x l ih =>
  cases m with
  | nil=>cases h1
  | cons y m =>
   simp only[List.flatMap_cons,List.append_assoc] at h2;obtain ⟨k1,k2⟩:=j2q h2;obtain ⟨k3,k4⟩:=j2q k2;rw[ih (by simpa using h1) k4];congr 1;exact Prod.ext k1 k3
end Go.Plim

namespace Go.Plim
open Go.Flat
set_option linter.unusedVariables false
theorem l2s:∀c:Fin 256,orI .u8 (c.val:Int) 128=(c.val:Int) % 128+128:=by decide +kernel
theorem or128 (v:Int):orI .u8 (IntKind.wrap .u8 v) 128=v % 128+128:=by
 rw[f1r];have h1:=Int.emod_nonneg v (show (256:Int)≠0 by decide);have h2:=Int.emod_lt_of_pos v (show (0:Int)<256 by decide);have:=l2s ⟨(v % 256).toNat,by omega⟩;simp only at this;rw[show (((v % 256).toNat:Nat):Int)=v % 256 by omega] at this;rw[this];omega
theorem shr7 {v:Int} (h:0≤v):shrI .u64 v 7=v / 128:=by
 show v.fdiv (2^(7:Int).toNat)=_;rw[Int.fdiv_eq_ediv_of_nonneg _ (by decide)];rfl
def uvI (v:Int):List Int:=k0j (uvB v.toNat)
theorem s1u {v:Int} (h0:0≤v) (h:v<128):uvI v=[v]:=by
 unfold uvI;rw[x0t (by omega)];simp[k0j];omega
theorem n1s {v:Int} (h0:0≤v) (h:¬v<128):uvI v=(v % 128+128)::uvI (v / 128):=by
 unfold uvI;rw[e1q (by omega)];have e:(v / 128).toNat=v.toNat / 128:=by omega
 rw[e];simp[k0j];omega
end Go.Plim

namespace Go.Proofs.YtojobamheigpbaaGreatDoor
open Go.Flat Go.Plim
set_option linter.unusedVariables false
set_option linter.unusedSimpArgs false
theorem d1f {u x:Sta} {l:List Lab} {e:Ev} (h:e0u u l e=(x,0)):∃i y,i0l x l=some i∧x.2.2.2[i]? = some y∧y.2.1=e.1:=by
 obtain ⟨hg,i,z,b,y,hp,hput,rfl,_⟩:=u0f h;obtain ⟨p1,p2,p3,p4⟩:=r0j hg hp;obtain ⟨q1,q2,q3,q4,q5⟩:=m0o p1 hput;have hy:(setS u i y).2.2.2[i]? = some y:=by rw[n0v,if_pos rfl,if_pos p3]
 have hne:y≠ser0:=fun k=>by
  have e1:y.1=[]:=congrArg Prod.fst k;have:=q1.lab.n0;rw[e1] at this;simp at this
 have hl:LvX (setS u i y) y:=m2h (s:=u) hg.st hne (by rw[q4];exact hg.lo) (by rw[q4];exact hg.ev.t1);refine ⟨i,y,f0d.2 ⟨y,hy,q5.trans p2,hl,fun j hj w hw hn => ?_⟩,hy,q4⟩;rw[n0v,if_neg (by omega)] at hw;cases hp with
 | found hf hx hl hlv ht =>
  obtain ⟨_,_,_,_,first⟩:=f0d.1 hf;exact first j hj w hw hn
 | room hf hs hr=>exact h0o.1 hf w (List.mem_of_getElem? hw) hn
theorem v1v (x:Sta) (now:Int) (l:List Lab):i0l (a1s x now).1 l=i0l x l:=by
 unfold a1s;split<;>rfl
theorem z1b (x:Sta) (now:Int):(a1s x now).1.2.2.2=x.2.2.2:=by
 unfold a1s;split<;>rfl
abbrev Bk:Type:=List (List Lab×List Ev)
def putB:Bk→List Lab→Ev→Bk
 | [],l,e=>[(l,[e])]
 | (m,es)::r,l,e=>if m=l then (m,es++[e])::r else (m,es)::putB r l e
def evsB (B:Bk) (l:List Lab):List Ev:=match B.find? (fun p=>decide (p.1=l)) with | some p=>p.2 | none=>[]
def keysB (B:Bk):List (List Lab):=B.map Prod.fst
def sumB (B:Bk):Nat:=(B.map fun p=>p.2.length).sum
theorem l2g (l:List Lab) (e:Ev):∀B:Bk,keysB (putB B l e)=if l∈keysB B then keysB B else keysB B++[l]:=by
 intro B;induction B with
 | nil=>rfl
 | cons p r ih =>
  obtain ⟨m,es⟩:=p;unfold keysB at *
  simp only[putB];by_cases h:m=l
  ·subst h;simp
  ·rw[if_neg h];simp only[List.map_cons,ih,List.mem_cons];by_cases k:l∈r.map Prod.fst
   ·rw[if_pos k,if_pos (.inr k)]
   ·rw[if_neg k,if_neg (by rintro (q | q);exact h q.symm;exact k q)];rfl
theorem c2b (l:List Lab) (e:Ev):∀B:Bk,sumB (putB B l e)=sumB B+1:=by
 intro B;induction B with
 | nil=>rfl
 | cons p r ih =>
  obtain ⟨m,es⟩:=p;unfold sumB at *
  simp only[putB];by_cases h:m=l
  ·rw[if_pos h];simp;omega
  ·rw[if_neg h];simp only[List.map_cons,List.sum_cons,ih];omega
theorem p1r {l:List Lab} {e:Ev}:∀ {B:Bk},(keysB B).Nodup→∀ {p:List Lab×List Ev},p∈putB B l e→(p.1≠l∧p∈B)∨(∃es,p=(l,es++[e])∧((l,es)∈B∨(es=[]∧l ∉ keysB B))):=by
 intro B;induction B with
 | nil=>intro _ p h;simp[putB] at h;exact .inr ⟨[],by simp[h],.inr ⟨rfl,by simp[keysB]⟩⟩
 | cons q r ih =>
  intro hn p h;obtain ⟨m,es⟩:=q;have hn':m ∉ keysB r∧(keysB r).Nodup:=by unfold keysB at hn ⊢;simpa using hn
  simp only[putB] at h;by_cases hm:m=l
  ·rw[if_pos hm] at h;subst hm;rcases List.mem_cons.1 h with h | h
   ·exact .inr ⟨es,h,.inl (by simp)⟩
   ·refine .inl ⟨fun k=>hn'.1 ?_,by simp[h]⟩;rw[←k];exact List.mem_map.2 ⟨p,h,rfl⟩
  ·rw[if_neg hm] at h;rcases List.mem_cons.1 h with h | h
   ·subst h;exact .inl ⟨hm,by simp⟩
   ·rcases ih hn'.2 h with ⟨k1,k2⟩ | ⟨es',k1,k2⟩
    ·exact .inl ⟨k1,by simp[k2]⟩
    ·refine .inr ⟨es',k1,?_⟩;rcases k2 with k2 | ⟨k2,k3⟩
     ·exact .inl (by simp[k2])
     ·exact .inr ⟨k2,by unfold keysB at k3 ⊢;simp only[List.map_cons,List.mem_cons,not_or];exact ⟨fun e=>hm e.symm,k3⟩⟩
theorem g2j {l:List Lab} {e:Ev}:∀ {B:Bk} {p:List Lab×List Ev},p∈B→p.1≠l→p∈putB B l e:=by
 intro B;induction B with
 | nil=>intro p h;cases h
 | cons q r ih =>
  intro p h hp;obtain ⟨m,es⟩:=q;simp only[putB];by_cases hm:m=l
  ·rw[if_pos hm];rcases List.mem_cons.1 h with h | h
   ·subst h;exact absurd hm hp
   ·simp[h]
  ·rw[if_neg hm];rcases List.mem_cons.1 h with h | h
   ·subst h;simp
   ·simp[ih h hp]
theorem c2c {l:List Lab} {e:Ev}:∀ {B:Bk} {es:List Ev},(keysB B).Nodup→(l,es)∈B→(l,es++[e])∈putB B l e:=by
 intro B;induction B with
 | nil=>intro es _ h;cases h
 | cons q r ih =>
  intro es hn h;obtain ⟨m,es'⟩:=q;have hn':m ∉ keysB r∧(keysB r).Nodup:=by unfold keysB at hn ⊢;simpa using hn
  simp only[putB];by_cases hm:m=l
  ·rw[if_pos hm];subst hm;rcases List.mem_cons.1 h with h | h
   ·simp only[Prod.mk.injEq] at h;rw[h.2];simp
   ·exact absurd (List.mem_map.2 ⟨_,h,rfl⟩) hn'.1
  ·rw[if_neg hm];rcases List.mem_cons.1 h with h | h
   ·simp only[Prod.mk.injEq] at h;exact absurd h.1.symm hm
   ·simp[ih hn'.2 h]
theorem putB_new {l:List Lab} {e:Ev}:∀ {B:Bk},l ∉ keysB B→(l,[e])∈putB B l e:=by
 intro B;induction B with
 | nil=>intro _;simp[putB]
 | cons q r ih =>
  intro h;obtain ⟨m,es⟩:=q;have h':l≠m∧l ∉ keysB r:=by unfold keysB at h ⊢;simpa using h
  simp only[putB];rw[if_neg (fun k=>h'.1 k.symm)];simp[ih h'.2]
theorem l0g {B:Bk} (hn:(keysB B).Nodup) {l:List Lab} {es:List Ev} (h:(l,es)∈B):evsB B l=es:=by
 unfold evsB;induction B with
 | nil=>cases h
 | cons q r ih =>
  obtain ⟨m,es'⟩:=q;have hn':m ∉ keysB r∧(keysB r).Nodup:=by unfold keysB at hn ⊢;simpa using hn
  by_cases hm:m=l
  ·subst hm;rcases List.mem_cons.1 h with h | h
   ·simp only[Prod.mk.injEq] at h;simp[h.2]
   ·exact absurd (List.mem_map.2 ⟨_,h,rfl⟩) hn'.1
  ·rcases List.mem_cons.1 h with h | h
   ·simp only[Prod.mk.injEq] at h;exact absurd h.1.symm hm
   ·rw[List.find?_cons_of_neg (by simpa using hm)];exact ih hn'.2 h
theorem t0u (B:Bk) (l:List Lab):(evsB B l=[]∧l ∉ keysB B)∨(l,evsB B l)∈B:=by
 unfold evsB;cases hf:B.find? (fun p=>decide (p.1=l)) with
 | none =>
  left;refine ⟨rfl,fun h => ?_⟩;obtain ⟨p,hp,e⟩:=List.mem_map.1 h;have:=List.find?_eq_none.1 hf p hp;simp[e] at this
 | some p =>
  right;have h1:=List.mem_of_find?_eq_some hf;have h2:=List.find?_some hf;simp at h2;rw[←h2];exact h1
def Gon (s:Sta) (es:List Ev):Prop:=∀e∈es,o0z s.1 e.1 s.2.1=true
theorem i1s {t u now w m:Int} (h0:0≤t) (htu:t≤u) (h:r0u u now w m=true):r0u t now w m=true:=by
 unfold r0u at *
 have h:=of_decide_eq_true h;obtain ⟨⟨h1,h2,h3,h4⟩,h5,h6⟩:=h;have:t / w≤u / w:=Int.ediv_le_ediv (by omega) htu;exact decide_eq_true ⟨⟨h0,by omega,h3,h4⟩,h5,by omega⟩
theorem o2x {c:Conf} {t u now:Int} (h0:0≤t) (htu:t≤u) (h:o0z c u now=true):o0z c t now=true:=by
 unfold o0z at *
 simp only[Bool.and_eq_true] at h ⊢;exact ⟨h.1,i1s h0 htu h.2.1,i1s h0 htu h.2.2.1,i1s h0 htu h.2.2.2⟩
theorem dead_lt {s:Sta} (hs:StaOk s) {t:Int} (h:o0z s.1 t s.2.1=true):t<mk s:=by
 unfold o0z at h;simp only[Bool.and_eq_true] at h;obtain ⟨_,h,_⟩:=h;unfold r0u at h;obtain ⟨⟨h1,h2,h3,h4⟩,h5,h6⟩:=of_decide_eq_true h;have hr:=hs.whole.1.rng;have ht:=hs.clock.1;unfold oldV at h6;rw[if_pos ⟨⟨ht.1,ht.2,h3,h4⟩,hr.n0.1,hr.n0.2⟩] at h6;have hd:=Int.ediv_nonneg h1 (show (0:Int)≤s.1.2.1.1 by omega);have hlt:t / s.1.2.1.1<s.2.1 / s.1.2.1.1:=by
  have:=hr.n0.1;simp only at h6;split at h6<;>omega
 unfold mk;exact Int.lt_of_lt_of_le (Int.lt_mul_of_ediv_lt (by omega) (show t / s.1.2.1.1<t / s.1.2.1.1+1 by omega)) (Int.mul_le_mul_of_nonneg_right (by omega) (by omega))
theorem Gon.mono {s t:Sta} {es:List Ev} (hs:StaOk s) (h:Gon s es) (hc:t.1=s.1) (h1:s.2.1≤t.2.1) (h2:t0z t.2.1):Gon t es:=fun e he=>by
 rw[hc];exact w1d hs.clock.1 h2 h1 (h e he)
structure BkInv (N:Nat) (s:Sta) (B:Bk):Prop where
 ok:StaOk s
 w:StaW s
 nd:(keysB B).Nodup
 bk:∀p∈B,LabOk p.1∧Foll p.2∧p.2≠[]
 sum:sumB B≤N
 ser:∀(i:Nat) x,s.2.2.2[i]? = some x→x=ser0∨∃y l,SerInv s.1 y l∧l≠[]∧l.length≤N∧Fad s.1 (olds s.1 s.2.1) x y∧(LvX s x→∃old,(x.1,old++l)∈B∧Gon s old)
 gone:∀p∈B,i0l s p.1=none→Gon s p.2
theorem BkInv.ev {N:Nat} {s:Sta} {B:Bk} (h:BkInv N s B):EvInv N s:=⟨h.ok,h.w,fun x hx=>by
 obtain ⟨i,hi⟩:=List.getElem?_of_mem hx
 exact (h.ser i x hi).imp id fun ⟨y,l,h1,h2,h3,h4,_⟩=>⟨y,l,h1,h2,h3,h4⟩⟩
theorem BkInv.mono {N M:Nat} {s:Sta} {B:Bk} (h:BkInv N s B) (hm:N≤M):BkInv M s B :=
 ⟨h.ok,h.w,h.nd,h.bk,Nat.le_trans h.sum hm,fun i x hx=>(h.ser i x hx).imp id fun ⟨y,l,h1,h2,h3,h4⟩=>⟨y,l,h1,h2,Nat.le_trans h3 hm,h4⟩,h.gone⟩
theorem BkInv.new {c:Conf} (h:(l0e c).2=0):BkInv 0 (l0e c).1 []:=by
 have k:=n2e h;refine ⟨k.ok,k.w,List.nodup_nil,(fun p hp=>by cases hp),Nat.le_refl _,fun i x hx => ?_,(fun p hp=>by cases hp)⟩;rcases k.ser x (List.mem_of_getElem? hx) with q | ⟨l,q1,q2,q3⟩
 ·exact .inl q
 ·exact absurd (List.length_eq_zero_iff.1 (by omega)) q2
theorem BkInv.tick {N:Nat} {s:Sta} {B:Bk} (h:BkInv N s B) (now:Int):BkInv N (a1s s now).1 B:=by
 have hf:=v1v s now;unfold a1s at hf ⊢;by_cases hm:Moves s now
 ·rw[if_pos hm] at hf ⊢;obtain ⟨m1,m2,m3⟩:=v1d h.ok (Int.le_of_lt hm.2.1) hm.2.2;have ht:t0z now:=⟨by have:=h.ok.clock.1.1;have:=hm.2.1;omega,hm.2.2⟩;have hg:∀es,Gon s es→Gon (f2e s now) es:=fun es k=>k.mono h.ok rfl (Int.le_of_lt hm.2.1) ht
  exact ⟨j2z hm,k2a h.w now,h.nd,h.bk,h.sum,fun i x hx=>(h.ser i x hx).imp id fun ⟨y,l,h1,h2,h3,h4,h5⟩=>⟨y,l,h1,h2,h3,h4.mono m1 m2 m3,fun hl=>by
   obtain ⟨old,k1,k2⟩:=h5 hl
   exact ⟨old,k1,hg _ k2⟩⟩,fun p hp hn=>hg _ (h.gone p hp (by rw[←hf];exact hn))⟩
 ·rw[if_neg hm];exact h
theorem BkInv.one {N:Nat} {s:Sta} {B:Bk} (h:BkInv N s B) {i:Nat} {x:Ser} (hx:s.2.2.2[i]? = some x) (hl:LvX s x):∃y l old,SerInv s.1 y l∧l≠[]∧l.length≤N∧Fad s.1 (olds s.1 s.2.1) x y∧(x.1,old++l)∈B∧Gon s old:=by
 obtain ⟨y,l,h1,h2,h3,h4,h5⟩:=(h.ser i x hx).resolve_left hl.1;obtain ⟨old,k1,k2⟩:=h5 hl;exact ⟨y,l,old,h1,h2,h3,h4,k1,k2⟩
theorem BkInv.same {N:Nat} {s:Sta} {B:Bk} (h:BkInv N s B) {l:List Lab} {es es':List Ev} (h1:(l,es)∈B) (h2:(l,es')∈B):es=es':=by
 rw[←l0g h.nd h1,←l0g h.nd h2]
theorem inv_le {c:Conf} {y:Ser} {l:List Ev} (h:SerInv c y l):∀e∈l,e.1≤y.2.1:=by
 intro e he;rcases h.last with ⟨k,_⟩ | k
 ·rw[k] at he;cases he
 ·exact k.le e he
theorem BkInv.sweep {N:Nat} {s:Sta} {B:Bk} (h:BkInv N s B):BkInv N (c1t s) B:=by
 refine ⟨b2m h.ok,b2o h.w,h.nd,h.bk,h.sum,fun i x hx=>(h.ser i x hx).imp id fun ⟨y,l,h1,h2,h3,h4,h5⟩=>⟨y,l,h1,h2,h3,h4,fun hl=>h5 (o1h h.ok hl)⟩,fun p hp hn => ?_⟩;cases hf:i0l s p.1 with
 | none=>exact h.gone p hp hf
 | some i =>
  obtain ⟨x,hx,hxl,hlv,_⟩:=f0d.1 hf;obtain ⟨y,l,old,h1,h2,h3,h4,h5,h6⟩:=h.one hx hlv;have hd:o0z s.1 x.2.1 s.2.1=true:=by
   cases hd:o0z s.1 x.2.1 s.2.1 with
   | true=>rfl
   | false=>exact absurd ⟨hxl,(b2n h.ok).2 ⟨hlv.1,hd⟩⟩ (h0o.1 hn x (List.mem_of_getElem? hx))
  have hp2:p.2=old++l:=h.same (l:=x.1) (by rw[hxl];exact hp) h5;rw[hp2];intro e he;rcases List.mem_append.1 he with he | he
  ·exact h6 e he
  ·exact o2x (h1.foll.ok e he).t0 (by rw[h4.last];exact inv_le h1 e he) hd
theorem BkInv.clean {N:Nat} {s:Sta} {B:Bk} (h:BkInv N s B):BkInv N (d1l s) B:=by
 refine ⟨d2u h.ok,d2w h.w,h.nd,h.bk,h.sum,fun i z hz => ?_,fun p hp hn=>h.gone p hp ?_⟩
 ·have hz:(s.2.2.2.map (n0g s))[i]? = some z:=hz;rw[List.getElem?_map] at hz;cases hx:s.2.2.2[i]? with
  | none=>rw[hx] at hz;cases hz
  | some x =>
   rw[hx] at hz;simp only[Option.map_some,Option.some.injEq] at hz;unfold n0g at hz;split at hz
   ·rename_i hl;obtain ⟨y,l,old,h1,h2,h3,h4,h5,h6⟩:=h.one hx hl;rw[←hz];exact .inr ⟨y,l,h1,h2,h3,h4.clean,fun _=>⟨old,h5,h6⟩⟩
   ·exact .inl hz.symm
 ·rw[h0o] at hn ⊢;rintro x hx ⟨k1,k2⟩;refine hn (n0g s x) (List.mem_map.2 ⟨x,hx,rfl⟩) ⟨?_,(w1i h.ok hx).2 k2⟩;unfold n0g;rw[if_pos k2];exact k1
theorem BkInv.write {N:Nat} {s t:Sta} {B:Bk} (h:BkInv N s B) (hb:N<1000000) {l:List Lab} {e:Ev} (hw:e0u s l e=(t,0)):BkInv (N+1) t (putB B l e)∧LabOk l∧EvOk e∧∀a∈evsB B l,a.1<e.1:=by
 have hww:=b2e h.w l e;rw[hw] at hww;obtain ⟨i0,y0,hfw,_,_⟩:=d1f hw;obtain ⟨hg,i,x,b,z,hp,hput,rfl,_⟩:=u0f hw;obtain ⟨p1,p2,p3,p4⟩:=r0j hg hp;obtain ⟨q1,q2,q3,q4,q5⟩:=m0o p1 hput;have hkn:(keysB (putB B l e)).Nodup:=by
  rw[l2g];by_cases k:l∈keysB B
  ·rw[if_pos k];exact h.nd
  ·rw[if_neg k,List.nodup_append];exact ⟨h.nd,by simp,fun a ha b hb2 e=>k (by simp at hb2;rw[←hb2,←e];exact ha)⟩
 have core:∃y l0 old,SerInv s.1 y l0∧l0.length≤N∧Fad s.1 (olds s.1 s.2.1) x y∧(l,(old++l0)++[e])∈putB B l e∧Gon s old∧evsB B l=old++l0∧∀a∈old++l0,a.1<e.1:=by
  cases hp with
  | found hf hx hl hlv ht =>
   obtain ⟨y,l0,old,h1,h2,h3,h4,h5,h6⟩:=h.one hx hlv;rw[hl] at h5;have hfo:=(h.bk _ h5).2.1;have hle:∀a∈l0,a.1<e.1:=fun a ha=>by have:=inv_le h1 a ha;rw[←h4.last] at this;omega
   refine ⟨y,l0,old,h1,h3,h4,c2c h.nd h5,h6,l0g h.nd h5,fun a ha => ?_⟩;rcases List.mem_append.1 ha with ha | ha
   ·obtain ⟨a0,ha0⟩:=List.exists_mem_of_ne_nil l0 h2;have:=(b0b.1 hfo).2.2 a ha a0 ha0;have:=hle a0 ha0;omega
   ·exact hle a ha
  | room hf hs hr =>
   refine ⟨_,[],evsB B l,p1w hg.st.whole.1 hg.lab,Nat.zero_le _,.refl _ _ _,?_,?_,by simp,fun a ha => ?_⟩
   ·rw[List.append_nil];rcases t0u B l with ⟨k1,k2⟩ | k
    ·rw[k1];exact putB_new k2
    ·exact c2c h.nd k
   ·rcases t0u B l with ⟨k1,k2⟩ | k
    ·rw[k1];intro a ha;cases ha
    ·exact h.gone _ k hf
   ·rw[List.append_nil] at ha;rcases t0u B l with ⟨k1,k2⟩ | k
    ·rw[k1] at ha;cases ha
    ·have:=dead_lt h.ok (h.gone _ k hf a ha);have:=hg.lo;omega
 obtain ⟨y,l0,old,c1,c2,c3,c4,c5,c6,c7⟩:=core;obtain ⟨y',r1,r2⟩:=a2d p1 c3 c1 (by omega) hput;refine ⟨⟨g1m hw,hww,hkn,fun p hp' => ?_,by rw[c2b];have:=h.sum;omega,fun j u hu => ?_,fun p hp' hn => ?_⟩,hg.lab,hg.ev,fun a ha=>c7 a (by rw[←c6];exact ha)⟩
 ·rcases p1r h.nd hp' with ⟨_,k⟩ | ⟨es,rfl,k⟩
  ·exact h.bk p k
  ·have hes:es=old++l0:=by
    rcases k with k | ⟨k1,k2⟩
    ·rw[←c6,l0g h.nd k]
    ·rw[←c6,k1];rcases t0u B l with ⟨k3,_⟩ | k3
     ·exact k3.symm
     ·exact absurd (List.mem_map.2 ⟨_,k3,rfl⟩) k2
   have hfo:Foll es:=by
    rcases k with k | ⟨k1,_⟩
    ·exact (h.bk _ k).2.1
    ·rw[k1];exact Foll.nil
   exact ⟨hg.lab,b0b.2 ⟨hfo,⟨by simp[hg.ev],by simp⟩,fun a ha b hb=>by simp at hb;subst hb;exact c7 a (hes ▸ ha)⟩,by simp⟩
 ·rw[n0v] at hu;by_cases hij:i=j
  ·rw[if_pos hij,if_pos p3] at hu;injection hu with hu;subst hu;right;refine ⟨y',l0++[e],r1,by simp,by simp;omega,r2,fun _=>⟨old,?_,c5⟩⟩;rw[q5,p2,←List.append_assoc];exact c4
  ·rw[if_neg hij] at hu;refine (h.ser j u hu).imp id fun ⟨y2,l2,h1,h2,h3,h4,h5⟩=>⟨y2,l2,h1,h2,by omega,h4,fun hl => ?_⟩
   obtain ⟨old2,k1,k2⟩:=h5 hl;refine ⟨old2,g2j k1 (fun hul => ?_),k2⟩;have hul:u.1=l:=hul;have hfu:=i1v h.ok hu hl;rw[hul] at hfu;cases hp with
   | found hf hx hl' hlv ht=>rw[hf] at hfu;injection hfu with hfu;exact hij hfu
   | room hf hs hr=>rw[hf] at hfu;cases hfu
 ·rcases p1r h.nd hp' with ⟨k1,k⟩ | ⟨es,rfl,k⟩
  ·refine h.gone p k ?_;rw[h0o] at hn ⊢;rintro u hu ⟨k2,k3⟩;obtain ⟨j,hj⟩:=List.getElem?_of_mem hu;have hij:i≠j:=by
    rintro rfl;cases hp with
    | found hf hx hl' hlv ht=>rw[hx] at hj;injection hj with hj;subst hj;exact k1 (k2.symm.trans hl')
    | room hf hs hr =>
     obtain ⟨x',hx',hx'',_⟩:=p0n.1 hr;rw[hx'] at hj;injection hj with hj;subst hj;exact hx'' k3
   refine hn u (List.mem_of_getElem? (i:=j) ?_) ⟨k2,k3⟩;rw[n0v,if_neg hij];exact hj
  ·rw[hfw] at hn;cases hn
theorem o2w {c:Conf} {t now k:Int} (k0:0≤k) (k2:k≤2) (h:o0z c t now=true):r0u t now (b0c c k) (p0f c k)=true:=by
 unfold o0z at h;simp only[Bool.and_eq_true] at h;unfold b0c p0f;rcases (by omega:k=0∨k=1∨k=2) with e | e | e<;>subst e
 ·exact h.2.1
 ·exact h.2.2.1
 ·exact h.2.2.2
theorem q1o {s:Sta} {es:List Ev} (hg:Gon s es) {k a b:Int} (k0:0≤k) (k2:k≤2) (ho:oneV s k a b=0):es.filter (inR a b)=[]:=by
 obtain ⟨s1,s2⟩:=c2i ho;obtain ⟨wp,rp,ha,hb,e,e1,e2⟩:=o1s s1;rw[e] at s2;rw[List.filter_eq_nil_iff];intro x hx;have hd:=o2w k0 k2 (hg x hx);unfold r0u at hd;obtain ⟨h1,h2,h3⟩:=of_decide_eq_true hd;have h4:x.1 / b0c s.1 k<a / b0c s.1 k:=by
  have:(oldV s.2.1 (b0c s.1 k) (p0f s.1 k)).1≤a / b0c s.1 k:=s2;omega
 have h5:x.1<a:=by
  rcases Int.lt_or_le x.1 a with q | q
  ·exact q
  ·have:=Int.ediv_le_ediv (show 0<b0c s.1 k by have:=wp.1;omega) q;omega
 unfold inR;simp;omega
theorem bk_cell {N:Nat} {s:Sta} {B:Bk} (h:BkInv N s B) (l:List Lab) {k a b:Int} (k0:0≤k) (k2:k≤2) (ho:oneV s k a b=0):l1g s l k a b=cellOf ((evsB B l).filter (inR a b)):=by
 obtain ⟨s1,s2⟩:=c2i ho;obtain ⟨wp,rp,ma,mb,e,e1,e2⟩:=o1s s1;unfold l1g;cases hf:i0l s l with
 | none =>
  simp only;rcases t0u B l with ⟨q1,_⟩ | q
  ·rw[q1];rfl
  ·rw[q1o (h.gone _ q hf) k0 k2 ho];rfl
 | some i =>
  obtain ⟨x,hx,hxl,hlv,hok⟩:=found h.ok hf;simp only[hx,Option.getD_some];obtain ⟨y,l0,old,h1,h2,h3,h4,h5,h6⟩:=h.one hx hlv;rw[hxl] at h5;rw[l0g h.nd h5,List.filter_append,q1o h6 k0 k2 ho,List.nil_append];have hk:=kept_lt h.ok hx hlv.1 k0 k2 ho;rw[e] at s2;rw[h4.rangeK hok (k0c h1) k0 k2 s2,h2j h1 h2 k0 k2 e1 e2 (by rw[←h4.last];exact hk),rng_inR wp.1 ma mb]
theorem s1e {N:Nat} {s:Sta} {B:Bk} (h:BkInv N s B) (l:List Lab):Foll (evsB B l):=by
 rcases t0u B l with ⟨q1,_⟩ | q
 ·rw[q1];exact Foll.nil
 ·exact (h.bk _ q).2.1
theorem t0w {N:Nat} {s:Sta} {B:Bk} (h:BkInv N s B) {l:List Lab} {t a b:Int} (hd:(doQ s l t a b).2=0):(doQ s l t a b).1.2.1=cellOf ((evsB B l).filter (inR a b)):=by
 obtain ⟨hs,hl,ht,e⟩:=r1m hd;obtain ⟨_,t1,t3,ho,_⟩:=o1c ht;rw[e];exact bk_cell h l (by omega) (by omega) ho
theorem bk_of {N:Nat} {s:Sta} {B:Bk} (h:BkInv N s B) (l:List Lab) (a b:Int):ofE ((evsB B l).filter (inR a b))=(cellOf ((evsB B l).filter (inR a b)),0) :=
 ofE_foll ((s1e h l).sub List.filter_sublist)
end Go.Proofs.YtojobamheigpbaaGreatDoor

namespace Go.Plim
open Go.Flat Go.Proofs.YtojobamheigpbaaGreatDoor
set_option linter.unusedVariables false
set_option linter.unusedSimpArgs false
end Go.Plim

namespace Go.Proofs.YtojobamheigpbaaGreatDoor
open Go.Flat Go.Plim
set_option linter.unusedVariables false
set_option linter.unusedSimpArgs false
def evN (x:Ser):Int:=x.2.2.1.1+((x.2.2.1.2.2.length:Nat):Int)
theorem evN_zero:evN ser0=0:=rfl
theorem putE_evN {c:Conf} {x z:Ser} {e:Ev} (hx:SerOk c x) (hp:putE c x e=(z,0)):evN z=evN x+1:=by
 have hroom:=hx.fold.cok.rng.raw.1;unfold putE at hp;by_cases h1:SerOk c x∧EvOk e
 case neg=>rw[if_neg h1] at hp;cases hp
 rw[if_pos h1] at hp;by_cases h2:e.1≤x.2.1
 ·rw[if_pos h2] at hp;cases hp
 rw[if_neg h2] at hp;by_cases h3:(turned c x (e.1 / c.2.1.1)).2≠0
 ·rw[if_pos h3] at hp;exact absurd (congrArg Prod.snd hp) h3
 rw[if_neg h3] at hp;by_cases h4:(i0h x.2.2.1 c.1 e).2≠0
 ·rw[if_pos h4] at hp;exact absurd (congrArg Prod.snd hp) h4
 rw[if_neg h4] at hp;by_cases h5:(mrgE (turned c x (e.1 / c.2.1.1)).1.2.2 (b0w e)).2≠0
 ·rw[if_pos h5] at hp;exact absurd (congrArg Prod.snd hp) h5
 rw[if_neg h5] at hp;have hp:=(Prod.ext_iff.1 hp).1;have hp:_=z:=hp;have hr:z.2.2.1=(i0h x.2.2.1 c.1 e).1:=by rw[←hp]
 have h4:(i0h x.2.2.1 c.1 e).2=0:=by
  rcases Int.lt_trichotomy (i0h x.2.2.1 c.1 e).2 0 with q | q | q
  ·exact absurd (Int.ne_of_lt q) h4
  ·exact q
  ·exact absurd (Int.ne_of_gt q) h4
 unfold i0h at hr h4;split at h4
 case isFalse=>cases h4
 rename_i k1;rw[if_pos k1] at hr;split at h4
 case isFalse=>cases h4
 rename_i k2;rw[if_pos k2] at hr;split at h4
 ·cases h4
 rename_i k3;rw[if_neg k3] at hr;unfold evN;rw[hr];unfold k0m;split
 ·simp;omega
 ·rename_i hlen;have hpos:1≤x.2.2.1.2.2.length:=by omega
  simp only[List.length_append,List.length_drop,List.length_cons,List.length_nil];omega
theorem sum_set:∀(l:List Ser) (i:Nat) (x z:Ser),l[i]? = some x→((l.set i z).map evN).sum=(l.map evN).sum-evN x+evN z:=by
 intro l;induction l with
 | nil=>intro i x z h;simp at h
 | cons y r ih =>
  intro i x z h;cases i with
  | zero=>simp at h;subst h;simp;omega
  | succ i =>
   have:=ih i x z (by simpa using h);simp only[List.set_cons_succ,List.map_cons,List.sum_cons,this];omega
structure CtInv (N:Nat) (s:Sta) (B:Bk):Prop where
 bk:BkInv N s B
 sw:s.2.2.1 = -1
 liv:∀p∈B,∃i,i0l s p.1=some i
 tot:(s.2.2.2.map evN).sum=((sumB B:Nat):Int)
theorem CtInv.new {c:Conf} (h:(l0e c).2=0):CtInv 0 (l0e c).1 []:=by
 have k:=BkInv.new h;have hz:∀x∈(l0e c).1.2.2.2,x=ser0:=by
  intro x hx;rcases (n2e h).ser x hx with q | ⟨l,q1,q2,q3⟩
  ·exact q
  ·exact absurd (List.length_eq_zero_iff.1 (by omega)) q2
 refine ⟨k,?_,(fun p hp=>by cases hp),?_⟩
 ·unfold l0e at h ⊢;split
  ·split
   ·rfl
   ·rename_i h1 h2;rw[if_pos h1,if_neg h2] at h;exact absurd h h2
  ·rename_i h1;rw[if_neg h1] at h;exact absurd h (by decide)
 ·have:∀l:List Ser,(∀x∈l,x=ser0)→(l.map evN).sum=0:=by
   intro l;induction l with
   | nil=>intro _;rfl
   | cons x r ih =>
    intro hl;have hx:=hl x (by simp);subst hx;simp only[List.map_cons,List.sum_cons,evN_zero,ih fun y hy=>hl y (by simp[hy])];rfl
  rw[this _ hz];rfl
theorem CtInv.mono {N M:Nat} {s:Sta} {B:Bk} (h:CtInv N s B) (hm:N≤M):CtInv M s B:=⟨h.bk.mono hm,h.sw,h.liv,h.tot⟩
theorem CtInv.tick {N:Nat} {s:Sta} {B:Bk} (h:CtInv N s B) (now:Int):CtInv N (a1s s now).1 B:=by
 refine ⟨h.bk.tick now,?_,fun p hp => ?_,?_⟩
 ·unfold a1s;split
  ·exact h.sw
  ·exact h.sw
 ·obtain ⟨i,hi⟩:=h.liv p hp;exact ⟨i,by rw[v1v];exact hi⟩
 ·rw[z1b];exact h.tot
theorem ct_live {s:Sta} (h:s.2.2.1 = -1) (x:Ser):LvX s x↔x≠ser0:=⟨fun k=>k.1,fun k=>⟨k,.inl h⟩⟩
theorem CtInv.write {N:Nat} {s t:Sta} {B:Bk} (h:CtInv N s B) (hb:N<1000000) {l:List Lab} {e:Ev} (hw:e0u s l e=(t,0)):CtInv (N+1) t (putB B l e):=by
 obtain ⟨hbk,_,_,_⟩:=h.bk.write hb hw;obtain ⟨i0,y0,hfw,_,_⟩:=d1f hw;obtain ⟨hg,i,x,b,z,hp,hput,rfl,_⟩:=u0f hw;obtain ⟨p1,p2,p3,p4⟩:=r0j hg hp;obtain ⟨q1,q2,q3,q4,q5⟩:=m0o p1 hput;refine ⟨hbk,h.sw,fun p hp' => ?_,?_⟩
 ·rcases p1r h.bk.nd hp' with ⟨k1,k⟩ | ⟨es,rfl,k⟩
  ·obtain ⟨j,hj⟩:=h.liv p k;obtain ⟨u,hu,hul,hlv,_⟩:=f0d.1 hj;cases hf:i0l (setS s i z) p.1 with
   | some j'=>exact ⟨j',rfl⟩
   | none =>
    exfalso;have hij:i≠j:=by
     rintro rfl;cases hp with
     | found hf' hx hl' hlv' ht=>rw[hx] at hu;injection hu with hu;subst hu;exact k1 (hul.symm.trans hl')
     | room hf' hs hr =>
      obtain ⟨x',hx',hx'',_⟩:=p0n.1 hr;rw[hx'] at hu;injection hu with hu;subst hu;exact hx'' hlv
    refine h0o.1 hf u (List.mem_of_getElem? (i:=j) ?_) ⟨hul,hlv⟩;rw[n0v,if_neg hij];exact hu
  ·exact ⟨i0,hfw⟩
 ·rw[c2b];have key:∃x0,s.2.2.2[i]? = some x0∧evN x0=evN x:=by
   cases hp with
   | found hf hx hl hlv ht=>exact ⟨x,hx,rfl⟩
   | room hf hs hr =>
    obtain ⟨x',hx',hx'',_⟩:=p0n.1 hr;have:x'=ser0:=by
     by_cases k:x'=ser0
     ·exact k
     ·exact absurd ((ct_live h.sw x').2 k) hx''
    exact ⟨x',hx',by rw[this];rfl⟩
  obtain ⟨x0,k1,k2⟩:=key;show ((s.2.2.2.set i z).map evN).sum=_;rw[sum_set _ i x0 z k1,h.tot,k2,putE_evN p1 hput];omega
theorem e2z (n:Nat) {N:Nat} {s:Sta} {B:Bk} (h:BkInv N s B) (hb:N<1000000) (x:Act) (hx:EvW x.2.1.2):∃t v,i0y (n+25) x s=some (t,v) ∧
  ((x.1=0∧v=0∧BkInv (N+1) t (putB B x.2.1.1 x.2.1.2)∧LabOk x.2.1.1∧EvOk x.2.1.2∧(∀a∈evsB B x.2.1.1,a.1<x.2.1.2.1)∧e0u s x.2.1.1 x.2.1.2=(t,0))∨(¬(x.1=0∧v=0)∧BkInv (N+1) t B∧(x.1≤1→t=s∨∃now,t=(a1s s now).1))):=by
 rw[n1y,tfd];by_cases h0:x.1=0
 ·rw[if_pos h0,j2f n h.w x.2.1.1 hx,obs,tfd];by_cases k:(e0u s x.2.1.1 x.2.1.2).2=0
  ·rw[if_pos k];have hw:e0u s x.2.1.1 x.2.1.2=((e0u s x.2.1.1 x.2.1.2).1,0):=Prod.ext rfl k;obtain ⟨b1,b2,b3,b4⟩:=h.write hb hw;exact ⟨_,_,rfl,.inl ⟨h0,by first | exact k | rfl,b1,b2,b3,b4,hw⟩⟩
  ·rw[if_neg k];exact ⟨_,_,rfl,.inr ⟨fun q=>k q.2,h.mono (Nat.le_succ N),fun _ => .inl rfl⟩⟩
 rw[if_neg h0,tfd];by_cases h1:x.1=1
 ·rw[if_pos h1,csc_tick (n+9) h.w,obs];exact ⟨_,_,rfl,.inr ⟨fun q=>h0 q.1,(h.tick x.2.2).mono (Nat.le_succ N),fun _ => .inr ⟨_,rfl⟩⟩⟩
 rw[if_neg h1,tfd];by_cases h2:x.1=2
 ·rw[if_pos h2,sweep_do (n+8) h.w,obs];have e:doV s=(c1t s,(((dueV s).length:Int),0)):=by unfold doV;rw[if_pos h.ok]
  rw[e];exact ⟨_,_,rfl,.inr ⟨fun q=>h0 q.1,h.sweep.mono (Nat.le_succ N),fun q=>by omega⟩⟩
 rw[if_neg h2,tfd];by_cases h3:x.1=3
 ·rw[if_pos h3,x1q (n+9) h.w,obs];have e:d2v s=(d1l s,0):=by unfold d2v;rw[if_pos h.ok]
  rw[e];exact ⟨_,_,rfl,.inr ⟨fun q=>h0 q.1,h.clean.mono (Nat.le_succ N),fun q=>by omega⟩⟩
 rw[if_neg h3];exact ⟨_,_,rfl,.inr ⟨fun q=>h0 q.1,h.mono (Nat.le_succ N),fun _ => .inl rfl⟩⟩
theorem uint_l (n:Nat):∀(m f:Nat) (w:List Int) (v:Int),v.toNat≤m→0≤v→m<f→w.length+(uvI v).length≤140737488355328 →
  ∃w' v',d0y n f (w,v,())=some (.inl (w',(v',())))∧w'++[v']=w++uvI v∧0≤v'∧v'<128:=by
 intro m;induction m using Nat.strongRecOn with
 | _ m ih =>
  intro f w v hm h0 hf hl;obtain ⟨f,rfl⟩:=c0d hf;rw[s0f,tfd];by_cases h:v<128
  ·rw[if_neg (by omega)];exact ⟨w,v,rfl,by rw[s1u h0 h],h0,h⟩
  ·rw[n1s h0 h] at hl;simp only[List.length_cons] at hl;rw[if_pos (by omega),decide_eq_true (show (w.length+1)*1≤140737488355328 by omega),tft,or128,shr7 h0];obtain ⟨w',v',e1,e2,e3,e4⟩:=ih (v / 128).toNat (by omega) f (w++[v % 128+128]) (v / 128) (Nat.le_refl _) (by omega) (by omega) (by simp only[List.length_append,List.length_singleton];omega);exact ⟨w',v',e1,by rw[e2,n1s h0 h];simp,e3,e4⟩
theorem b2h (n:Nat) {v:Int} (h0:0≤v) (h1:v≤18446744073709551615) {w:List Int} (hl:w.length+(uvI v).length≤140737488355328):g0e (n+1) w v=some (w++uvI v):=by
 obtain ⟨w',v',e1,e2,e3,e4⟩:=uint_l n v.toNat a0b w v (Nat.le_refl _) h0 (by unfold a0b;omega) hl;have hlen:w'.length+1≤140737488355328:=by
  have:=congrArg List.length e2;simp only[List.length_append,List.length_singleton] at this;omega
 rw[v0t,e1,obs,a0w,decide_eq_true (show (w'.length+1)*1≤140737488355328 by omega),tft,f1r,Int.emod_eq_of_lt e3 (by omega),e2]
theorem x1f:∀(m:Nat) (v:Int),v.toNat≤m→0≤v→(uvI v).length≤v.toNat+1:=by
 intro m;induction m using Nat.strongRecOn with
 | _ m ih =>
  intro v hm h0;by_cases h:v<128
  ·rw[s1u h0 h];simp
  ·rw[n1s h0 h];have:=ih (v / 128).toNat (by omega) (v / 128) (Nat.le_refl _) (by omega);simp only[List.length_cons];omega
theorem c1j (a b:List UInt8):k0j (a++b)=k0j a++k0j b:=by simp[k0j]
theorem c1i (a:List UInt8):(k0j a).length=a.length:=by simp[k0j]
theorem x1e (n:Nat):uvI (n:Int)=k0j (uvB n):=by unfold uvI;rw[Int.toNat_natCast]
theorem j2p {s:List UInt8} (h:s.length≤256):(txB s).length≤1000:=by
 have:=x1f s.length (s.length:Int) (by simp) (by omega);rw[x1e,c1i] at this;unfold txB;rw[List.length_append];simp at this;omega
theorem raw_val (n:Nat) {w:List Int} {s:List UInt8} (h:w.length+s.length≤140737488355328):k0p (n+1) w s=some (w++k0j s):=by
 rw[x0j,List.length_map,decide_eq_true (show (w.length+s.length)*1≤140737488355328 by omega),tft];rfl
theorem b2k (n:Nat) {w:List Int} {s:List UInt8} (hs:s.length≤256) (h:w.length≤1000000):g0f (n+2) w s=some (w++k0j (txB s)):=by
 have h1:=x1f s.length (s.length:Int) (by simp) (by omega);have h2:((s.length:Int)).toNat=s.length:=by simp
 rw[v0u,wu64 (by omega) (by omega),b2h n (by omega) (by omega) (by omega),obs,raw_val n (by rw[List.length_append];omega),obs,List.append_assoc,x1e,←c1j];rfl
theorem out_val (n:Nat) (w:List Int):k0q (n+1) w=some (toB w,w):=by rw[x0k];rfl
theorem lab_len {l:List Lab} (h:LabOk l):∀x∈l,x.1.length≤256∧x.2.length≤256:=by
 have key:∀l:List Lab,∀x∈l,(x.1.length:Int)+x.2.length≤sumL l:=by
  intro l;induction l with
  | nil=>intro x hx;cases hx
  | cons y l ih =>
   intro x hx;rw[t1k];have:=k2e l;rcases List.mem_cons.1 hx with rfl | hx
   ·omega
   ·have:=ih x hx;omega
 intro x hx;have:=key l x hx;have:=h.t;omega
theorem bytes_l (n:Nat) {l:List Lab} (hl:LabOk l):∀(rest pre:List Lab) (f:Nat) (w:List Int) (ix len:Int),l=pre++rest→ix=pre.length→len=l.length→rest.length<f→w.length+2000*rest.length≤100000 →
  j0w (n+2) f (w,l,len,ix,())=some (.inl (w++k0j (rest.flatMap fun x=>txB x.1++txB x.2),())):=by
 intro rest;induction rest with
 | nil =>
  intro pre f w ix len ha hi hn hf hw;obtain ⟨f,rfl⟩:=c0d hf;rw[p0x,decide_eq_false (idxe ha hi hn),tff];simp[k0j]
 | cons x r ih =>
  intro pre f w ix len ha hi hn hf hw;obtain ⟨f,rfl⟩:=c0d hf;simp only[List.length_cons] at hw;obtain ⟨k1,k2⟩:=lab_len hl x (by rw[ha];simp);have t1:=j2p k1;have t2:=j2p k2;have hL:l.length≤1000000000000:=by have:=hl.n1;omega
  rw[p0x,decide_eq_true (idx ha hi hn),tft,b0s ha hi,obs,b2k n k1 (by omega),obs,b2k n k2 (by rw[List.length_append,c1i];omega),obs,idxw ha hi hL];rw[ih (pre++[x]) f _ (ix+1) len (idxl ha) (idxs hi) hn (by simp at hf;omega) (by simp only[List.length_append,c1i];omega)];simp only[List.flatMap_cons,c1j,List.append_assoc]
theorem i1p (n:Nat) (l:List Lab):r0t (n+7) l=some (if LabOk l then (labB l,0) else ([],8)):=by
 rw[k1x,g0y n l,obs,tfn,tfd];by_cases h:LabOk l
 case neg=>rw[if_neg h,if_neg h,if_neg (by decide)]
 rw[if_pos h,if_pos h,if_pos rfl];have hn:=h.n1;have h1:=x1f l.length (l.length:Int) (by simp) (by omega);have h2:((l.length:Int)).toNat=l.length:=by simp
 rw[wu64 (by omega) (by omega),b2h (n+5) (by omega) (by omega) (by simp only[List.length_nil];omega),obs,bytes_l (n+4) h l [] a0b _ 0 _ rfl rfl rfl (by unfold a0b;omega) (by simp only[List.nil_append];omega),obs,a0w,out_val (n+5),obs];rw[List.nil_append,x1e,←c1j,f2b];rfl
abbrev BkE:Type:=List (List UInt8)×List (List UInt8×(List Lab×List Ev))
def bkM (B:Bk):BkE:=(B.map fun p=>labB p.1,B.map fun p=>(labB p.1,p))
theorem s1f:bkM []=([],[]):=rfl
abbrev j1q:Ty:=(.ref (.wrap (.pair (.slice (.wrap (.pair .str .str))) (.own (.wrap (.pair (.int .i64) (.pair (.int .u64) (.pair (.int .i64) .bool))))))))
theorem e2e {B:Bk} {l:List Lab} (h:l∈keysB B):∃pre es post,B=pre++(l,es)::post∧l ∉ pre.map Prod.fst:=by
 induction B with
 | nil=>cases h
 | cons p r ih =>
  obtain ⟨m,es⟩:=p;by_cases hm:m=l
  ·subst hm;exact ⟨[],es,r,rfl,by simp⟩
  ·have:l∈keysB r:=by
    rcases List.mem_cons.1 (show l∈m::keysB r from h) with k | k
    ·exact absurd k.symm hm
    ·exact k
   obtain ⟨pre,es',post,e1,e2⟩:=ih this;exact ⟨(m,es)::pre,es',post,by rw[e1];rfl,by simp only[List.map_cons,List.mem_cons,not_or];exact ⟨fun k=>hm k.symm,e2⟩⟩
theorem e2f {B:Bk} {l:List Lab} (h:l ∉ keysB B):mget .str j1q (bkM B).2 (labB l) 0=none :=
 (p2n j1q (fun a b=>q1k) (fun p:List Lab×List Ev=>p) h 0 (l,[])).1
theorem bkM_new {B:Bk} {l:List Lab} (h:l ∉ keysB B) (e:Ev):((bkM B).1++[labB l],mput .str j1q (bkM B).2 (labB l) (l,[e]))=bkM (putB B l e):=by
 have h1:mput .str j1q (bkM B).2 (labB l) (l,[e])=(bkM B).2++[(labB l,(l,[e]))]:=(p2n j1q (fun a b=>q1k) (fun p:List Lab×List Ev=>p) h 0 (l,[e])).2;have h2:putB B l e=B++[(l,[e])]:=by
  clear h1;induction B with
  | nil=>rfl
  | cons p r ih =>
   obtain ⟨m,es⟩:=p;have h':l≠m∧l ∉ keysB r:=by unfold keysB at h ⊢;simpa using h
   simp only[putB];rw[if_neg (fun k=>h'.1 k.symm),ih h'.2];rfl
 rw[h1,h2];unfold bkM;simp
theorem p2o {pre post:Bk} {l:List Lab} {es:List Ev} (h:l ∉ pre.map Prod.fst):mget .str j1q (bkM (pre++(l,es)::post)).2 (labB l) 0=some (pre.length,(l,es)):=by
 have:=(bk_at j1q (fun a b=>q1k) (fun p:List Lab×List Ev=>p) (v:=es) (post:=post) h 0 (l,[])).1;rw[Nat.zero_add] at this;exact this
theorem a2x {pre post:Bk} {l:List Lab} {es:List Ev} (w:List Ev):mset .str j1q (bkM (pre++(l,es)::post)).2 pre.length (l,w)=(bkM (pre++(l,w)::post)).2:=by
 have:=bk_set (key:=labB) j1q (fun p:List Lab×List Ev=>p) (pre:=pre) (post:=post) (l:=l) (v:=es) (l,w);unfold bkM;rw[this];simp
theorem bkM_keys {pre post:Bk} {l:List Lab} {es w:List Ev}:(bkM (pre++(l,es)::post)).1=(bkM (pre++(l,w)::post)).1:=by simp[bkM]
theorem putB_at {pre post:Bk} {l:List Lab} {es:List Ev} (h:l ∉ pre.map Prod.fst) (e:Ev):putB (pre++(l,es)::post) l e=pre++(l,es++[e])::post:=by
 induction pre with
 | nil=>simp[putB]
 | cons p r ih =>
  obtain ⟨m,q⟩:=p;have h':l≠m∧l ∉ r.map Prod.fst:=by simpa using h
  simp only[List.cons_append,putB];rw[if_neg (fun k=>h'.1 k.symm),ih h'.2]
theorem o2g {pre post:Bk} {l:List Lab} {es:List Ev} (h:l ∉ pre.map Prod.fst):evsB (pre++(l,es)::post) l=es:=by
 unfold evsB;induction pre with
 | nil=>simp
 | cons p r ih =>
  obtain ⟨m,q⟩:=p;have h':l≠m∧l ∉ r.map Prod.fst:=by simpa using h
  rw[List.cons_append,List.find?_cons_of_neg (by simpa using fun k=>h'.1 k.symm)];exact ih h'.2
theorem v1w {B:Bk} {l:List Lab} (h:l ∉ keysB B):evsB B l=[]:=by
 rcases t0u B l with k | k
 ·exact k.1
 ·exact absurd (List.mem_map.2 ⟨_,k,rfl⟩) h
theorem o1j {B:Bk} {p:List Lab×List Ev} (h:p∈B):p.2.length≤sumB B:=by
 unfold sumB;induction B with
 | nil=>cases h
 | cons q r ih =>
  simp only[List.map_cons,List.sum_cons];rcases List.mem_cons.1 h with rfl | h
  ·omega
  ·have:=ih h;omega
theorem i1m {B:Bk} (h:∀p∈B,p.2≠[]):B.length≤sumB B:=by
 unfold sumB;induction B with
 | nil=>simp
 | cons q r ih =>
  simp only[List.map_cons,List.sum_cons,List.length_cons];have:=ih fun p hp=>h p (List.mem_cons_of_mem _ hp)
  have:=List.length_pos_iff.2 (h q (by simp));omega
theorem flat_put (n:Nat) {N:Nat} {s:Sta} {B:Bk} (h:BkInv N s B) (hN:N≤1000000) {l:List Lab} {e:Ev} (hl:LabOk l) (he:EvOk e) (ha:∀a∈evsB B l,a.1<e.1):i0k (n+9) (bkM B) l e=some (0,bkM (putB B l e)):=by
 rw[e1k,g0y (n+2) l,if_pos hl,obs,tfn,tfd,if_pos rfl,e0s (n+7) (.of he),if_pos he,obs,tfn,tfd,if_pos rfl,i1p n l,if_pos hl,obs,tfn,tfd,if_pos rfl];have hBl:B.length≤1000000:=Nat.le_trans (Nat.le_trans (i1m fun p hp=>(h.bk p hp).2.2) h.sum) hN;by_cases hm:l∈keysB B
 case neg =>
  rw[e2f hm];have hlen:(bkM B).1.length=B.length:=by simp[bkM]
  have hn:=hl.n1;show tif (decide ((((List.length (bkM B).1)+1)*16)≤140737488355328)) _ _=_;rw[decide_eq_true (show ((bkM B).1.length+1)*16≤140737488355328 by omega),tft,x0l (n+7) l (by omega),obs,←bkM_new hm e]
 obtain ⟨pre,es,post,rfl,hp⟩:=e2e hm;have hmem:(l,es)∈pre++(l,es)::post:=by simp
 have hes:=h.bk _ hmem;have hel:es.length≤1000000:=Nat.le_trans (Nat.le_trans (o1j hmem) h.sum) hN;rw[o2g hp] at ha;obtain ⟨ys,z,hyz⟩:∃ys z,es=ys++[z]:=⟨_,_,(List.dropLast_concat_getLast hes.2.2).symm⟩;subst hyz;simp only[List.length_append,List.length_singleton] at hel;rw[p2o hp];simp only[v0s];have e1:IntKind.wrap .i64 ((((List.length (ys++[z])):Nat):Int)-(1:Int))=(ys.length:Int):=by
  rw[List.length_append,List.length_singleton,w64 (by omega) (by omega)];omega
 rw[e1,b0s (pre:=ys) (rest:=[]) (x:=z) rfl rfl,obs,Int.toNat_natCast,List.getElem?_concat_length,obs,o0f (n+5) (.of (hes.2.1.ok z (by simp))) (.of he),obs,decide_eq_true ⟨hes.2.1.ok z (by simp),he,ha z (by simp)⟩];simp only[Bool.not_true,tff];rw[decide_eq_true (show ((ys++[z]).length+1)*32≤140737488355328 by simp only[List.length_append,List.length_singleton];omega),tft,putB_at hp,a2x];exact congrArg some (congrArg (Prod.mk (0:Int)) (Prod.ext bkM_keys rfl))
theorem z1z (n:Nat) {N:Nat} {s:Sta} {B:Bk} (h:BkInv N s B) (hN:N≤1000000) (l:List Lab):k0n (n+9) (bkM B) l=some (evsB B l,bkM B):=by
 rw[x0f,i1p n l,obs,tfn,tfd];by_cases hl:LabOk l
 case neg =>
  rw[if_neg hl,if_neg (by decide),v1w fun hm => ?_];obtain ⟨p,hp,rfl⟩:=List.mem_map.1 hm;exact hl (h.bk p hp).1
 rw[if_pos hl,if_pos rfl];by_cases hm:l∈keysB B
 case neg=>rw[e2f hm,v1w hm];rfl
 obtain ⟨pre,es,post,rfl,hp⟩:=e2e hm;have hmem:(l,es)∈pre++(l,es)::post:=by simp
 have hel:es.length≤1000000:=Nat.le_trans (Nat.le_trans (o1j hmem) h.sum) hN;rw[p2o hp];simp only[v0s];rw[clone_ev (n+7) es hel,obs,a2x,o2g hp]
theorem a2a (n:Nat) (e:Ev) (a b:Int):d0l (n+1) e a b=some (!inR a b e):=by
 rw[x0g,tfd];unfold inR;by_cases h:e.1<a
 ·rw[if_pos h,decide_eq_false (by omega)];rfl
 ·rw[if_neg h,decide_eq_true (show a≤e.1 by omega),Bool.true_and,←decide_not];exact congrArg some (decide_eq_decide.2 (by omega))
theorem z0u (n:Nat) {N:Nat} {s:Sta} {B:Bk} (h:BkInv N s B) (hN:N≤1000000) (l:List Lab) (a b:Int):d0b (n+10) (bkM B) l a b=some (cellOf ((evsB B l).filter (inR a b)),bkM B):=by
 have hel:(evsB B l).length≤1000000:=by
  rcases t0u B l with k | k
  ·rw[k.1];simp
  ·exact Nat.le_trans (Nat.le_trans (o1j k) h.sum) hN
 have hd:d0h (n+9) (evsB B l) (fun y:Ev×Unit=>d0l (n+9) y.1 a b)=some ((evsB B l).filter (inR a b)):=by
  rw[i2n (del:=fun y:Ev×Unit=>d0l (n+9) y.1 a b) (L:=evsB B l) (p:=fun e => !inR a b e) (fun x _=>a2a (n+8) x a b) (n+7) _ hel (fun _ h=>h)];simp only[Bool.not_not]
 rw[c1b,z1z n h hN l,obs]
 change a0a (d0h (n+9) (evsB B l) (fun y:Ev×Unit=>d0l (n+9) y.1 a b)) _=_
 rw[hd,obs,cell_of (n+2) _ (Nat.le_trans (List.length_filter_le _ _) (by omega)) (fun e he => .of ((s1e h l).ok e ((List.mem_filter.1 he).1))),obs,bk_of h l a b]
theorem i2b (n:Nat) {N:Nat} {s:Sta} {B:Bk} (h:BkInv N s B) (hN:N≤1000000):∀(rest pre:Bk) (f:Nat) (ix len:Int),B=pre++rest→ix=pre.length→len=B.length→rest.length<f →
  g0w (n+1) f (bkM B,pre.map Prod.fst,len,ix,())=some (.inl (bkM B,(B.map Prod.fst,()))):=by
 have hBl:B.length≤1000000:=Nat.le_trans (Nat.le_trans (i1m fun p hp=>(h.bk p hp).2.2) h.sum) hN;intro rest;induction rest with
 | nil =>
  intro pre f ix len ha hi hn hf;obtain ⟨f,rfl⟩:=c0d hf;rw[m0y,decide_eq_false (idxe ha hi hn),tff,ha,List.append_nil]
 | cons x r ih =>
  intro pre f ix len ha hi hn hf;obtain ⟨f,rfl⟩:=c0d hf;obtain ⟨l,es⟩:=x;have hk:=h.nd;have hp:l ∉ pre.map Prod.fst:=by
   rw[ha] at hk;unfold keysB at hk;rw[List.map_append,List.nodup_append] at hk;exact fun q=>hk.2.2 l q l (by simp) rfl
  have hat:at? (bkM B).1 ix=some (labB l):=by
   have:(bkM B).1=(pre.map fun p=>labB p.1)++labB l::(r.map fun p=>labB p.1):=by rw[ha];simp[bkM]
   exact b0s this (by simpa using hi)
  have hat2:(bkM B).1[ix.toNat]? = some (labB l):=by
   have:(bkM B).1=(pre.map fun p=>labB p.1)++labB l::(r.map fun p=>labB p.1):=by rw[ha];simp[bkM]
   rw[this,hi,Int.toNat_natCast,List.getElem?_append_right (by simp)];simp
  have hlab:=(h.bk (l,es) (by rw[ha];simp)).1;have hln:l.length≤16:=hlab.n1;have hlen:(pre.map Prod.fst).length=pre.length:=by simp
  have hpl:pre.length≤B.length:=by rw[ha];simp
  have hset:mset .str j1q (bkM B).2 pre.length (l,es)=(bkM B).2:=by rw[ha];exact a2x es
  have hget:mget .str j1q (bkM B).2 (labB l) 0=some (pre.length,(l,es)):=by rw[ha];exact p2o hp
  rw[m0y,decide_eq_true (idx ha hi hn),tft,hat,obs,hat2,obs,hget,obs,x0l n l (by omega),obs,decide_eq_true (show ((pre.map Prod.fst).length+1)*24≤140737488355328 by omega),tft,hset,idxw ha hi (by omega)];have:=ih (pre++[(l,es)]) f (ix+1) len (idxl ha) (idxs hi) hn (by simp at hf;omega);rw[List.map_append] at this;exact this
theorem flat_all (n:Nat) {N:Nat} {s:Sta} {B:Bk} (h:BkInv N s B) (hN:N≤1000000):s0a (n+2) (bkM B)=some (B.map Prod.fst,bkM B):=by
 have hBl:B.length≤1000000:=Nat.le_trans (Nat.le_trans (i1m fun p hp=>(h.bk p hp).2.2) h.sum) hN;have hlen:(bkM B).1.length=B.length:=by simp[bkM]
 have:=i2b n h hN B [] a0b 0 ((List.length (bkM B).1:Nat):Int) rfl rfl (by rw[hlen]) (by unfold a0b;omega);rw[e1l];exact obind_of this _
theorem j2x (n:Nat) (b:BkE) {x:Act} {v:Int} (h:¬(x.1=0∧v=0)):h0e (n+1) b x v=some (true,b):=by
 rw[x0w,tfn,tfd];by_cases h0:x.1=0
 ·rw[if_pos h0,tfn,tfd,if_neg (fun k=>h ⟨h0,k⟩)]
 ·rw[if_neg h0]
theorem f2a (n:Nat) {N:Nat} {s:Sta} {B:Bk} (h:BkInv N s B) (hN:N≤1000000) {x:Act} (h0:x.1=0) (hl:LabOk x.2.1.1) (he:EvOk x.2.1.2) (ha:∀a∈evsB B x.2.1.1,a.1<x.2.1.2.1):h0e (n+10) (bkM B) x 0=some (true,bkM (putB B x.2.1.1 x.2.1.2)):=by
 rw[x0w,tfn,tfd,if_pos h0,tfn,tfd,if_pos rfl,flat_put n h hN hl he ha];rfl
def upV (w t:Int):Int:=(t+w-1) / w
theorem up_ge {w t:Int} (hw:1≤w):t≤upV w t*w:=by
 unfold upV;have h1:=Int.mul_ediv_add_emod (t+w-1) w;have h2:=Int.emod_lt_of_pos (t+w-1) (show 0<w by omega);rw[Int.mul_comm] at h1;omega
theorem up_nn {w t:Int} (hw:1≤w) (ht:0≤t):0≤upV w t:=Int.ediv_nonneg (by omega) (by omega)
theorem down_le {w t:Int} (hw:1≤w):t / w*w≤t:=by
 have h1:=Int.mul_ediv_add_emod t w;have h2:=Int.emod_nonneg t (show w≠0 by omega);rw[Int.mul_comm] at h1;omega
noncomputable def innA (s:Sta) (k a:Int):Int:=if upV (b0c s.1 k) a<(oldV s.2.1 (b0c s.1 k) (p0f s.1 k)).1 then (oldV s.2.1 (b0c s.1 k) (p0f s.1 k)).1 else upV (b0c s.1 k) a
theorem z1v {s:Sta} (hs:StaOk s) {k a b:Int} (h0:0≤k) (h2:k≤2) (ha:0≤a) (hb:b≤35184372088832) (hlt:innA s k a<b / b0c s.1 k) :
  oneV s k (innA s k a*b0c s.1 k) (b / b0c s.1 k*b0c s.1 k)=0∧a≤innA s k a*b0c s.1 k∧b / b0c s.1 k*b0c s.1 k≤b∧innA s k a*b0c s.1 k<b / b0c s.1 k*b0c s.1 k∧0≤innA s k a:=by
 obtain ⟨r1,r2,r3,r4⟩:=o1a hs.whole.1 k;generalize hw:b0c s.1 k=w at *
 have hup:=up_ge (t:=a) r1;have hupn:=up_nn r1 ha;have hi:upV w a≤innA s k a∧(oldV s.2.1 w (p0f s.1 k)).1≤innA s k a:=by
  unfold innA;rw[hw];split<;>omega
 have hb2:=down_le (t:=b) r1;have hn:0≤innA s k a:=by omega
 have h3:upV w a*w≤innA s k a*w:=Int.mul_le_mul_of_nonneg_right hi.1 (by omega);have h4:innA s k a*w<b / w*w:=Int.mul_lt_mul_of_pos_right hlt (by omega);have h5:0≤innA s k a*w:=Int.mul_nonneg hn (by omega);refine ⟨?_,by omega,hb2,h4,hn⟩;have e:o0o (innA s k a*w) (b / w*w) w=(innA s k a,(b / w,0)):=by
  unfold o0o;rw[if_pos ⟨⟨r1,r2⟩,h5,by omega,h4⟩,if_pos ⟨Int.mul_emod_left _ _,Int.mul_emod_left _ _⟩,Int.mul_ediv_cancel _ (by omega),Int.mul_ediv_cancel _ (by omega)]
 unfold oneV;rw[hw,e];simp only[if_true];rw[if_neg (by omega)]
theorem h2o {N:Nat} {s:Sta} {B:Bk} (h:BkInv N s B) {l:List Lab} {k a b:Int} (h0:0≤k) (h2:k≤2) (ha:0≤a) (hb:b≤35184372088832) (hlt:innA s k a<b / b0c s.1 k) (hl:LabOk l) :
  (doQ s l (k+1) (innA s k a*b0c s.1 k) (b / b0c s.1 k*b0c s.1 k)).2=0 ∧
   (doQ s l (k+1) (innA s k a*b0c s.1 k) (b / b0c s.1 k*b0c s.1 k)).1.2.1=cellOf ((evsB B l).filter (inR (innA s k a*b0c s.1 k) (b / b0c s.1 k*b0c s.1 k))):=by
 have ho:=(z1v h.ok h0 h2 ha hb hlt).1;have ht:(b0q s (k+1) (innA s k a*b0c s.1 k) (b / b0c s.1 k*b0c s.1 k)).2=0:=by
  unfold b0q;rw[if_pos h.ok,if_neg (by omega),if_neg (by omega),show k+1-1=k by omega,if_pos ho]
 have hd:(doQ s l (k+1) (innA s k a*b0c s.1 k) (b / b0c s.1 k*b0c s.1 k)).2=0:=by
  unfold doQ;rw[if_pos h.ok,if_pos hl,if_pos ht]
 exact ⟨hd,t0w h hd⟩
noncomputable def innV (s:Sta) (t a b:Int):Int×(Int×Int) :=
 if StaOk s then (if t<1∨3<t∨a<0∨35184372088832<b∨b≤a then (0,(0,1)) else
  if b / b0c s.1 (t-1)≤innA s (t-1) a then (0,(0,3)) else (innA s (t-1) a*b0c s.1 (t-1),(b / b0c s.1 (t-1)*b0c s.1 (t-1),0))) else (0,(0,2))
theorem s1g (n:Nat) {s:Sta} (hw:StaW s) (t a b:Int):j1l (n+17) s t a b=some (if StaOk s then (if t<1∨3<t∨a<0∨35184372088832<b∨b≤a then ((0,(0,(0,0))),1) else
  ((b0c s.1 (t-1),((oldV s.2.1 (b0c s.1 (t-1)) (p0f s.1 (t-1))).1,(a,b))),0)) else ((0,(0,(0,0))),2)):=by
 rw[w1t,e0w (n+2) hw,obs,tfn];by_cases h:StaOk s
 case neg=>rw[d2z h,if_neg h,if_neg h]
 rw[d2y h,if_pos h];simp only[tfd];by_cases h1:t<1
 ·rw[if_pos h1,if_pos (.inl h1)]
 by_cases h2:3<t
 ·rw[if_neg h1,if_pos h2,if_pos (.inr (.inl h2))]
 by_cases h3:a<0
 ·rw[if_neg h1,if_neg h2,if_pos h3,if_pos (.inr (.inr (.inl h3)))]
 by_cases h4:35184372088832<b
 ·rw[if_neg h1,if_neg h2,if_neg h3,if_pos h4,if_pos (.inr (.inr (.inr (.inl h4))))]
 by_cases h5:b≤a
 ·rw[if_neg h1,if_neg h2,if_neg h3,if_neg h4,if_pos h5,if_pos (.inr (.inr (.inr (.inr h5))))]
 rw[if_neg h1,if_neg h2,if_neg h3,if_neg h4,if_neg h5,if_neg (show ¬(t<1∨3<t∨a<0∨35184372088832<b∨b≤a) by omega),w64 (x:=t-1) (by omega) (by omega),f1h n hw,obs];unfold n2b;rw[if_pos h,if_neg (show ¬(t-1<0∨2<t-1) by omega)];have hu:t-1=0∨t-1=1∨t-1=2:=by omega
 rcases hu with e | e | e<;>(rw[e];rfl)
theorem auto_up (n:Nat) {w t:Int} (x:Int×(Int×Int)) (hw:1≤w∧w≤1099511627776) (ht:0≤t∧t≤35184372088832):t0y (n+1) (w,x) t=some (upV w t):=by
 have h1:0≤(t+w-1) / w:=Int.ediv_nonneg (by omega) (by omega);have h2:(t+w-1) / w≤t+w-1:=Int.ediv_le_self _ (by omega);rw[j1k,tfd];simp only;rw[if_neg (by omega),w64 (x:=t+w) (by omega) (by omega),w64 (x:=t+w-1) (by omega) (by omega),m0c (by omega),w64 (by omega) (by omega)];rfl
theorem v0g (n:Nat) {s:Sta} (hw:StaW s) (t a b:Int):v0h (n+18) s t a b=some (innV s t a b):=by
 rw[s1h,s1g n hw,obs,tfn];unfold innV;by_cases h:StaOk s
 case neg=>rw[if_neg h,if_neg h];rfl
 rw[if_pos h,if_pos h];by_cases hr:t<1∨3<t∨a<0∨35184372088832<b∨b≤a
 ·rw[if_pos hr,if_pos hr];rfl
 rw[if_neg hr,if_neg hr];obtain ⟨r1,r2,r3,r4⟩:=o1a h.whole.1 (t-1);have hc:=h.clock.1;have hb0:0≤b / b0c s.1 (t-1):=Int.ediv_nonneg (by omega) (by omega);have hb1:b / b0c s.1 (t-1)≤b:=Int.ediv_le_self _ (by omega);simp only;rw[tfd,if_pos trivial,auto_up (n+16) _ ⟨r1,r2⟩ (by omega),obs,tfd,if_neg (by omega),m0c (by omega),w64 (x:=b / b0c s.1 (t-1)) (by omega) (by omega),tfd];show (if b / b0c s.1 (t-1)≤innA s (t-1) a then _ else _)=_;by_cases hlt:b / b0c s.1 (t-1)≤innA s (t-1) a
 ·rw[if_pos hlt,if_pos hlt]
 rw[if_neg hlt,if_neg hlt];obtain ⟨_,q1,q2,q3,q4⟩:=z1v h (k:=t-1) (a:=a) (b:=b) (by omega) (by omega) (by omega) (by omega) (by omega);show a0a (n0l _ _ (innA s (t-1) a) _) _=_;rw[a1h];simp only;rw[w64 (x:=innA s (t-1) a*b0c s.1 (t-1)) (by omega) (by omega),w64 (x:=b / b0c s.1 (t-1)*b0c s.1 (t-1)) (by omega) (by omega)];rfl
noncomputable def finV (s:Sta) (a b:Int):Int×(Int×(Int×Int)) :=
 if (innV s 1 a b).2.2=0 then (1,innV s 1 a b) else if (innV s 1 a b).2.2≠3 then (0,(0,(0,(innV s 1 a b).2.2))) else
 if (innV s 2 a b).2.2=0 then (2,innV s 2 a b) else if (innV s 2 a b).2.2≠3 then (0,(0,(0,(innV s 2 a b).2.2))) else
 if (innV s 3 a b).2.2=0 then (3,innV s 3 a b) else (0,(0,(0,(innV s 3 a b).2.2)))
theorem a2z (n:Nat) {s:Sta} (hw:StaW s) (a b:Int):n0m (n+19) s a b=some (finV s a b):=by
 obtain ⟨f,hf⟩:∃f,a0b=f+1+1+1+1:=⟨a0b-4,by unfold a0b;omega⟩;rw[l1h,hf];rw[g0h];simp only[tfd];rw[if_pos trivial,if_pos (by omega),v0g n hw,obs];unfold finV;by_cases h1:(innV s 1 a b).2.2=0
 ·rw[if_pos h1,if_pos h1];rfl
 rw[if_neg h1,if_neg h1,g0h];simp only[tfd];by_cases h2:(innV s 1 a b).2.2=3
 case neg=>rw[if_neg h2,if_pos h2];rfl
 rw[if_pos h2,if_pos (show IntKind.wrap .i64 ((1:Int)+1)≤3 by decide),if_neg (show ¬((innV s 1 a b).2.2≠3) from fun k=>k h2),show IntKind.wrap .i64 ((1:Int)+1)=2 from rfl,v0g n hw,obs];by_cases h3:(innV s 2 a b).2.2=0
 ·rw[if_pos h3,if_pos h3];rfl
 rw[if_neg h3,if_neg h3,g0h];simp only[tfd];by_cases h4:(innV s 2 a b).2.2=3
 case neg=>rw[if_neg h4,if_pos h4];rfl
 rw[if_pos h4,if_pos (show IntKind.wrap .i64 ((2:Int)+1)≤3 by decide),if_neg (show ¬((innV s 2 a b).2.2≠3) from fun k=>k h4),show IntKind.wrap .i64 ((2:Int)+1)=3 from rfl,v0g n hw,obs];by_cases h5:(innV s 3 a b).2.2=0
 ·rw[if_pos h5,if_pos h5];rfl
 rw[if_neg h5,if_neg h5,g0h];simp only[tfd];by_cases h6:(innV s 3 a b).2.2=3
 ·rw[if_pos h6,show IntKind.wrap .i64 ((3:Int)+1)=4 from rfl,if_neg (by decide)];rfl
 ·rw[if_neg h6];rfl
end Go.Proofs.YtojobamheigpbaaGreatDoor
