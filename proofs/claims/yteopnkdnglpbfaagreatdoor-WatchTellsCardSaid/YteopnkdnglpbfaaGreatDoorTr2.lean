/- Trees, printed by program. -/
import Derived.Test.YteopnkdnglpbfaaGreatDoorTr0
import Derived.KernelRfl
open Go.IntKind (wrap)
set_option linter.unusedVariables false
namespace Go.Proofs.YteopnkdnglpbfaaGreatDoor
open Go.Flat
theorem y1e (n:Nat) (s:List UInt8):n1w (n+1) s =
 tif ((s.length:Int)<1) (
 some false) (
 tif ((64:Int)<(s.length:Int)) (
 some false) (
 a0a (at? s (0:Int)) fun r0 =>
 tif ((48:Int)<=(((UInt8.toNat r0):Nat):Int)) (
 a0a (at? s (0:Int)) fun r1 =>
 tif ((((UInt8.toNat r1):Nat):Int)<=57) (
 some false) (
 a0a (c0c n a0b (s,(0,()))) fun r2 =>
 b0x (fun y3 =>
 some true) (fun z4 =>
 some z4) r2)) (
 a0a (c0c n a0b (s,(0,()))) fun r5 =>
 b0x (fun y6 =>
 some true) (fun z7 =>
 some z7) r5))):=by kernel_rfl
theorem u0h (n f:Nat) (s:List UInt8) (i:Int):c0c n (f+1) (s,i,()) =
 tif (i<(s.length:Int)) (
 a0a (at? s i) fun r0 =>
 tif ((97:Int)<=(((UInt8.toNat r0):Nat):Int)) (
 tif ((((UInt8.toNat r0):Nat):Int)<=122) (
 c0c n f (s,((wrap .i64 (i+1)),()))) (
 tif ((65:Int)<=(((UInt8.toNat r0):Nat):Int)) (
 tif ((((UInt8.toNat r0):Nat):Int)<=90) (
 c0c n f (s,((wrap .i64 (i+1)),()))) (
 tif ((48:Int)<=(((UInt8.toNat r0):Nat):Int)) (
 tif ((((UInt8.toNat r0):Nat):Int)<=57) (
 c0c n f (s,((wrap .i64 (i+1)),()))) (
 tif (!((((UInt8.toNat r0):Nat):Int)=95)) (
 some (.inr false)) (
 c0c n f (s,((wrap .i64 (i+1)),()))))) (
 tif (!((((UInt8.toNat r0):Nat):Int)=95)) (
 some (.inr false)) (
 c0c n f (s,((wrap .i64 (i+1)),())))))) (
 tif ((48:Int)<=(((UInt8.toNat r0):Nat):Int)) (
 tif ((((UInt8.toNat r0):Nat):Int)<=57) (
 c0c n f (s,((wrap .i64 (i+1)),()))) (
 tif (!((((UInt8.toNat r0):Nat):Int)=95)) (
 some (.inr false)) (
 c0c n f (s,((wrap .i64 (i+1)),()))))) (
 tif (!((((UInt8.toNat r0):Nat):Int)=95)) (
 some (.inr false)) (
 c0c n f (s,((wrap .i64 (i+1)),()))))))) (
 tif ((65:Int)<=(((UInt8.toNat r0):Nat):Int)) (
 tif ((((UInt8.toNat r0):Nat):Int)<=90) (
 c0c n f (s,((wrap .i64 (i+1)),()))) (
 tif ((48:Int)<=(((UInt8.toNat r0):Nat):Int)) (
 tif ((((UInt8.toNat r0):Nat):Int)<=57) (
 c0c n f (s,((wrap .i64 (i+1)),()))) (
 tif (!((((UInt8.toNat r0):Nat):Int)=95)) (
 some (.inr false)) (
 c0c n f (s,((wrap .i64 (i+1)),()))))) (
 tif (!((((UInt8.toNat r0):Nat):Int)=95)) (
 some (.inr false)) (
 c0c n f (s,((wrap .i64 (i+1)),())))))) (
 tif ((48:Int)<=(((UInt8.toNat r0):Nat):Int)) (
 tif ((((UInt8.toNat r0):Nat):Int)<=57) (
 c0c n f (s,((wrap .i64 (i+1)),()))) (
 tif (!((((UInt8.toNat r0):Nat):Int)=95)) (
 some (.inr false)) (
 c0c n f (s,((wrap .i64 (i+1)),()))))) (
 tif (!((((UInt8.toNat r0):Nat):Int)=95)) (
 some (.inr false)) (
 c0c n f (s,((wrap .i64 (i+1)),()))))))) (
 some (.inl ())):=by kernel_rfl
theorem d2t (n:Nat) (s:a0m) (tier:Int) (from_:Int) (to:Int):n1n (n+1) s tier from_ to =
 tif ((wrap .i64 (tier-1))=0) (
 a0a (f0m n from_ to s.1.2.1.1) fun r0 =>
 tif (!(r0.2.2=0)) (
 some r0.2.2) (
 a0a (w0r n s (wrap .i64 (tier-1))) fun r1 =>
 tif (r0.1<r1.1) (
 some (11:Int)) (
 some (0:Int)))) (
 tif ((wrap .i64 (tier-1))=1) (
 a0a (f0m n from_ to s.1.2.1.2.1) fun r2 =>
 tif (!(r2.2.2=0)) (
 some r2.2.2) (
 a0a (w0r n s (wrap .i64 (tier-1))) fun r3 =>
 tif (r2.1<r3.1) (
 some (11:Int)) (
 some (0:Int)))) (
 tif ((wrap .i64 (tier-1))=2) (
 a0a (f0m n from_ to s.1.2.1.2.2) fun r4 =>
 tif (!(r4.2.2=0)) (
 some r4.2.2) (
 a0a (w0r n s (wrap .i64 (tier-1))) fun r5 =>
 tif (r4.1<r5.1) (
 some (11:Int)) (
 some (0:Int)))) (
 none))):=by kernel_rfl
theorem a1v (n:Nat) (w:Int):d1x (n+1) w =
 tif ((1:Int)<=w) (
 some (decide (w<=1099511627776))) (
 some false):=by kernel_rfl
theorem x1q (n:Nat) (l:(List a0c)) (i:Int) (k:Int):p0u (n+1) l i k =
 tif (i<0) (
 some ((0,((0,(0,(0,false))),((0,(0,(0,false))),((0,0),(0,(0,0)))))),1)) (
 tif (k<i) (
 some ((0,((0,(0,(0,false))),((0,(0,(0,false))),((0,0),(0,(0,0)))))),1)) (
 a0a (p0v n l) fun r0 =>
 a0a (g0t n a0b (l,(i,(k,((0,((0,(0,(0,false))),((0,(0,(0,false))),((0,0),(0,(0,0)))))),([],(r0,((r0.length:Int),(0,()))))))))) fun r1 =>
 b0x (fun y2 =>
 a0a (y1a n y2.2.1) fun r3 =>
 some r3) (fun z4 =>
 some z4) r1)):=by kernel_rfl
theorem u0f (n f:Nat) (l:(List a0c)) (i:Int) (k:Int) (s6:b0v) (cells:(List b0v)) (s20:(List a0c)) (s21:Int) (s22:Int):g0t n (f+1) (l,i,k,s6,cells,s20,s21,s22,()) =
 tif (s22<s21) (
 a0a (at? s20 s22) fun r0 =>
 tif (i<=r0.1) (
 tif (r0.1<k) (
 a0a (z0h n l r0.1) fun r1 =>
 tif ((decide (r1.1=r0.2.1))&&((decide (r1.2.1.1=r0.2.2.1.1))&&((decide (r1.2.1.2.1=r0.2.2.1.2.1))&&((decide (r1.2.1.2.2.1=r0.2.2.1.2.2.1))&&((r1.2.1.2.2.2==r0.2.2.1.2.2.2)&&((decide (r1.2.2.1.1=r0.2.2.2.1.1))&&((decide (r1.2.2.1.2.1=r0.2.2.2.1.2.1))&&((decide (r1.2.2.1.2.2.1=r0.2.2.2.1.2.2.1))&&((r1.2.2.1.2.2.2==r0.2.2.2.1.2.2.2)&&((decide (r1.2.2.2.1.1=r0.2.2.2.2.1.1))&&((decide (r1.2.2.2.1.2=r0.2.2.2.2.1.2))&&((decide (r1.2.2.2.2.1=r0.2.2.2.2.2.1))&&((decide (r1.2.2.2.2.2.1=r0.2.2.2.2.2.2.1))&&(decide (r1.2.2.2.2.2.2=r0.2.2.2.2.2.2.2))))))))))))))) (
 tif ((((List.length cells)+1)*112)<=140737488355328) (
 g0t n f (l,(i,(k,(s6,((cells++(r0.2::[])),(s20,(s21,((wrap .i64 (s22+1)),()))))))))) (
 none)) (
 g0t n f (l,(i,(k,(s6,(cells,(s20,(s21,((wrap .i64 (s22+1)),())))))))))) (
 g0t n f (l,(i,(k,(s6,(cells,(s20,(s21,((wrap .i64 (s22+1)),())))))))))) (
 g0t n f (l,(i,(k,(s6,(cells,(s20,(s21,((wrap .i64 (s22+1)),())))))))))) (
 some (.inl (s6,(cells,())))):=by kernel_rfl
theorem s1j (n:Nat) (c:b0p) (s:b0j) (i:Int):l0t (n+1) c s (0:Int) i =
 tif (s.2.1=((-1):Int)) (
 some ((0,((0,(0,(0,false))),((0,(0,(0,false))),((0,0),(0,(0,0)))))),0)) (
 tif (c.2.1.1=0) (
 none) (
 tif ((wrap .i64 (Int.tdiv s.2.1 c.2.1.1))<i) (
 some ((0,((0,(0,(0,false))),((0,(0,(0,false))),((0,0),(0,(0,0)))))),0)) (
 tif (c.2.1.1=0) (
 none) (
 tif (i<(wrap .i64 (Int.tdiv s.2.1 c.2.1.1))) (
 a0a (z0h n s.2.2.2.1.1 i) fun r0 =>
 some (r0,0)) (
 some (s.2.2.2.2.2,0)))))):=by kernel_rfl
theorem s1i (n:Nat) (c:b0p) (s:b0j) (i:Int):l0t (n+1) c s (1:Int) i =
 tif (s.2.1=((-1):Int)) (
 some ((0,((0,(0,(0,false))),((0,(0,(0,false))),((0,0),(0,(0,0)))))),0)) (
 tif (c.2.1.2.1=0) (
 none) (
 tif ((wrap .i64 (Int.tdiv s.2.1 c.2.1.2.1))<i) (
 some ((0,((0,(0,(0,false))),((0,(0,(0,false))),((0,0),(0,(0,0)))))),0)) (
 tif (c.2.1.2.1=0) (
 none) (
 tif (i<(wrap .i64 (Int.tdiv s.2.1 c.2.1.2.1))) (
 a0a (z0h n s.2.2.2.1.2.1 i) fun r0 =>
 some (r0,0)) (
 tif (c.2.1.1=0) (
 none) (
 a0a (o0b n c (1:Int)) fun r1 =>
 a0a (p0u n s.2.2.2.1.1 (wrap .i64 (i*r1)) (wrap .i64 (Int.tdiv s.2.1 c.2.1.1))) fun r2 =>
 tif (!(r2.2=0)) (
 some ((0,((0,(0,(0,false))),((0,(0,(0,false))),((0,0),(0,(0,0)))))),r2.2)) (
 a0a (l0t n c s (0:Int) (wrap .i64 (Int.tdiv s.2.1 c.2.1.1))) fun r3 =>
 tif (!(r3.2=0)) (
 some ((0,((0,(0,(0,false))),((0,(0,(0,false))),((0,0),(0,(0,0)))))),r3.2)) (
 a0a (j0m n r2.1 r3.1) fun r4 =>
 some r4)))))))):=by kernel_rfl
theorem s1h (n:Nat) (c:b0p) (s:b0j) (i:Int):l0t (n+1) c s (2:Int) i =
 tif (s.2.1=((-1):Int)) (
 some ((0,((0,(0,(0,false))),((0,(0,(0,false))),((0,0),(0,(0,0)))))),0)) (
 tif (c.2.1.2.2=0) (
 none) (
 tif ((wrap .i64 (Int.tdiv s.2.1 c.2.1.2.2))<i) (
 some ((0,((0,(0,(0,false))),((0,(0,(0,false))),((0,0),(0,(0,0)))))),0)) (
 tif (c.2.1.2.2=0) (
 none) (
 tif (i<(wrap .i64 (Int.tdiv s.2.1 c.2.1.2.2))) (
 a0a (z0h n s.2.2.2.1.2.2 i) fun r0 =>
 some (r0,0)) (
 tif (c.2.1.2.1=0) (
 none) (
 a0a (o0b n c (2:Int)) fun r1 =>
 a0a (p0u n s.2.2.2.1.2.1 (wrap .i64 (i*r1)) (wrap .i64 (Int.tdiv s.2.1 c.2.1.2.1))) fun r2 =>
 tif (!(r2.2=0)) (
 some ((0,((0,(0,(0,false))),((0,(0,(0,false))),((0,0),(0,(0,0)))))),r2.2)) (
 a0a (l0t n c s (1:Int) (wrap .i64 (Int.tdiv s.2.1 c.2.1.2.1))) fun r3 =>
 tif (!(r3.2=0)) (
 some ((0,((0,(0,(0,false))),((0,(0,(0,false))),((0,0),(0,(0,0)))))),r3.2)) (
 a0a (j0m n r2.1 r3.1) fun r4 =>
 some r4)))))))):=by kernel_rfl
theorem s1t (n:Nat) (a:b0v) (b:b0v):j0m (n+1) a b =
 a0a (r0x n a) fun r0 =>
 tif (!(r0=0)) (
 some ((0,((0,(0,(0,false))),((0,(0,(0,false))),((0,0),(0,(0,0)))))),2)) (
 a0a (r0x n b) fun r1 =>
 tif (!(r1=0)) (
 some ((0,((0,(0,(0,false))),((0,(0,(0,false))),((0,0),(0,(0,0)))))),2)) (
 tif (a.1=0) (
 some (b,0)) (
 tif (b.1=0) (
 some (a,0)) (
 tif (b.2.1.1<=a.2.2.1.1) (
 some ((0,((0,(0,(0,false))),((0,(0,(0,false))),((0,0),(0,(0,0)))))),9)) (
 a0a (v0e n a.2.2.1 b.2.1) fun r2 =>
 a0a (y1l n (a.2.2.2.1::(r2.1.2.2.2.1::(b.2.2.2.1::[])))) fun r3 =>
 some (((wrap .i64 (a.1+b.1)),(a.2.1,(b.2.2.1,(r3.1,((wrap .i64 ((wrap .i64 (a.2.2.2.2.1+r2.1.2.2.2.2.1))+b.2.2.2.2.1)),((wrap .i64 ((wrap .i64 (a.2.2.2.2.2.1+r2.1.2.2.2.2.2.1))+b.2.2.2.2.2.1)),(wrap .i64 ((wrap .i64 (a.2.2.2.2.2.2+r2.1.2.2.2.2.2.2))+b.2.2.2.2.2.2)))))))),0)))))):=by kernel_rfl
theorem y1i (n:Nat) (inc:(Int×Int)) (ms:Int):n1y (n+1) inc ms =
 tif (ms=0) (
 some (((0,0),(0,0)),12)) (
 a0a (l0y n inc (1000:Int)) fun r0 =>
 tif (!(r0.2=0)) (
 some (((0,0),(0,0)),r0.2)) (
 a0a (z0i n r0.1 (0,ms)) fun r1 =>
 some r1)):=by kernel_rfl
theorem t1g (n:Nat) (a:(Int×Int)):f0e (n+1) a =
 some ((wrap .i64 (andI .u64 (shrI .u64 a.2 (0:Int)) (255:Int))),((wrap .i64 (andI .u64 (shrI .u64 a.2 (8:Int)) (255:Int))),((wrap .i64 (andI .u64 (shrI .u64 a.2 (16:Int)) (255:Int))),((wrap .i64 (andI .u64 (shrI .u64 a.2 (24:Int)) (255:Int))),((wrap .i64 (andI .u64 (shrI .u64 a.2 (32:Int)) (255:Int))),((wrap .i64 (andI .u64 (shrI .u64 a.2 (40:Int)) (255:Int))),((wrap .i64 (andI .u64 (shrI .u64 a.2 (48:Int)) (255:Int))),((wrap .i64 (andI .u64 (shrI .u64 a.2 (56:Int)) (255:Int))),((wrap .i64 (andI .u64 (shrI .u64 a.1 (0:Int)) (255:Int))),((wrap .i64 (andI .u64 (shrI .u64 a.1 (8:Int)) (255:Int))),((wrap .i64 (andI .u64 (shrI .u64 a.1 (16:Int)) (255:Int))),((wrap .i64 (andI .u64 (shrI .u64 a.1 (24:Int)) (255:Int))),((wrap .i64 (andI .u64 (shrI .u64 a.1 (32:Int)) (255:Int))),((wrap .i64 (andI .u64 (shrI .u64 a.1 (40:Int)) (255:Int))),((wrap .i64 (andI .u64 (shrI .u64 a.1 (48:Int)) (255:Int))),(wrap .i64 (andI .u64 (shrI .u64 a.1 (56:Int)) (255:Int)))))))))))))))))):=by kernel_rfl
theorem j1r (n:Nat) (n_:Int) (low:Int) (high:Int):f0w (n+1) n_ low high =
 tif (low<=n_) (
 some (decide (n_<=high))) (
 some false):=by kernel_rfl
theorem b1v (n:Nat) (n_:Int) (low:Int) (high:Int):i0d (n+1) n_ low high =
 tif (low<=n_) (
 some (decide (n_<=high))) (
 some false):=by kernel_rfl
theorem p1x (n:Nat) (c:b0p):k0x (n+1) c =
 a0a (k0y n c.1 (16:Int)) fun r0 =>
 a0a (k0y n c.2.2.1.1 (4:Int)) fun r1 =>
 a0a (k0y n c.2.2.1.2.1 (4:Int)) fun r2 =>
 a0a (k0y n c.2.2.1.2.2 (4:Int)) fun r3 =>
 some (wrap .i64 ((wrap .i64 ((wrap .i64 ((wrap .i64 ((1:Int)+r0))+r1))+r2))+r3)):=by kernel_rfl
theorem j1o (n:Nat) (e:b0d):m0c (n+1) e =
 tif (e.1<0) (
 some (2:Int)) (
 tif ((35184372088832:Int)<=e.1) (
 some (2:Int)) (
 tif (e.2.2.1<0) (
 some (2:Int)) (
 tif (e.1<e.2.2.1) (
 some (2:Int)) (
 tif (e.2.2.2) (
 tif (!((decide (e.1=e.1))&&((decide (e.2.1=0))&&((decide (e.2.2.1=0))&&(e.2.2.2==true))))) (
 some (2:Int)) (
 some (0:Int))) (
 some (0:Int)))))):=by kernel_rfl
theorem f1q (n:Nat) (c:b0p) (s:b0j):p0m (n+1) c s =
 a0a (z0z n c s.2.2.2.1) fun r0 =>
 tif (!(r0=0)) (
 some (none,2)) (
 a0a (q0h n s.1) fun r1 =>
 tif (!(r1=0)) (
 some (none,2)) (
 a0a (d1m n s.2.2.1 c.1) fun r2 =>
 tif (!(r2=0)) (
 some (none,2)) (
 tif (s.2.1=((-1):Int)) (
 a0a (d1d n (c,s)) fun r3 =>
 tif (r3) (
 some ((some (c,s)),0)) (
 tif (!(s.2.1=((-1):Int))) (
 a0a (c1d n (c,s)) fun r4 =>
 tif (r4) (
 some ((some (c,s)),0)) (
 some (none,2))) (
 some (none,2)))) (
 tif (!(s.2.1=((-1):Int))) (
 a0a (c1d n (c,s)) fun r5 =>
 tif (r5) (
 some ((some (c,s)),0)) (
 some (none,2))) (
 some (none,2)))))):=by kernel_rfl
theorem f1r (n:Nat) (a:b0j) (b:b0j):l0n (n+1) a b =
 a0a (o0l n a.1 b.1) fun r0 =>
 tif (r0) (
 tif (a.2.1=b.2.1) (
 a0a (a2i n a.2.2.1 b.2.2.1) fun r1 =>
 tif (r1) (
 tif ((decide (a.2.2.2.2.1=b.2.2.2.2.1))&&((decide (a.2.2.2.2.2.1=b.2.2.2.2.2.1))&&((decide (a.2.2.2.2.2.2.1.1=b.2.2.2.2.2.2.1.1))&&((decide (a.2.2.2.2.2.2.1.2.1=b.2.2.2.2.2.2.1.2.1))&&((decide (a.2.2.2.2.2.2.1.2.2.1=b.2.2.2.2.2.2.1.2.2.1))&&((a.2.2.2.2.2.2.1.2.2.2==b.2.2.2.2.2.2.1.2.2.2)&&((decide (a.2.2.2.2.2.2.2.1.1=b.2.2.2.2.2.2.2.1.1))&&((decide (a.2.2.2.2.2.2.2.1.2.1=b.2.2.2.2.2.2.2.1.2.1))&&((decide (a.2.2.2.2.2.2.2.1.2.2.1=b.2.2.2.2.2.2.2.1.2.2.1))&&((a.2.2.2.2.2.2.2.1.2.2.2==b.2.2.2.2.2.2.2.1.2.2.2)&&((decide (a.2.2.2.2.2.2.2.2.1.1=b.2.2.2.2.2.2.2.2.1.1))&&((decide (a.2.2.2.2.2.2.2.2.1.2=b.2.2.2.2.2.2.2.2.1.2))&&((decide (a.2.2.2.2.2.2.2.2.2.1=b.2.2.2.2.2.2.2.2.2.1))&&((decide (a.2.2.2.2.2.2.2.2.2.2.1=b.2.2.2.2.2.2.2.2.2.2.1))&&(decide (a.2.2.2.2.2.2.2.2.2.2.2=b.2.2.2.2.2.2.2.2.2.2.2)))))))))))))))) (
 a0a (h0o n a.2.2.2.1.1 b.2.2.2.1.1) fun r2 =>
 tif (r2) (
 a0a (h0o n a.2.2.2.1.2.1 b.2.2.2.1.2.1) fun r3 =>
 tif (r3) (
 a0a (h0o n a.2.2.2.1.2.2 b.2.2.2.1.2.2) fun r4 =>
 some r4) (
 some false)) (
 some false)) (
 some false)) (
 some false)) (
 some false)) (
 some false):=by kernel_rfl
theorem w0c (n:Nat) (k:Int) (p1:Int) (p2:a0m):f0q (n+1) k p1 p2 =
 tif (k=p1) (
 some true) (
 a0a (g0n n p2 k) fun r0 =>
 tif (r0) (
 a0a (at? p2.2.2.2 k) fun r1 =>
 a0a (at? p2.2.2.2 p1) fun r2 =>
 a0a (o0l n r1.1 r2.1) fun r3 =>
 some r3) (
 some false)):=by kernel_rfl
theorem y0w (n:Nat) (v:a0m) (i:Int):g0n (n+1) v i =
 a0a (at? v.2.2.2 i) fun r0 =>
 a0a (w0d n r0) fun r1 =>
 tif (!r1) (
 tif (v.2.2.1=((-1):Int)) (
 some true) (
 a0a (v0a n v.1 r0.2.1 v.2.2.1) fun r2 =>
 some (!r2))) (
 some false):=by kernel_rfl
theorem y0c (n:Nat) (a:(List (List UInt8×List UInt8))) (b:(List (List UInt8×List UInt8))):o0l (n+1) a b =
 a0a (m0y n a b) fun r0 =>
 some r0:=by kernel_rfl
theorem b1j (n:Nat) (x:Int):j0s (n+1) x =
 tif (x=0) (
 some (64:Int)) (
 a0a (at? ((0:Int)::((1:Int)::((56:Int)::((2:Int)::((57:Int)::((49:Int)::((28:Int)::((3:Int)::((61:Int)::((58:Int)::((42:Int)::((50:Int)::((38:Int)::((29:Int)::((17:Int)::((4:Int)::((62:Int)::((47:Int)::((59:Int)::((36:Int)::((45:Int)::((43:Int)::((51:Int)::((22:Int)::((53:Int)::((39:Int)::((33:Int)::((30:Int)::((24:Int)::((18:Int)::((12:Int)::((5:Int)::((63:Int)::((55:Int)::((48:Int)::((27:Int)::((60:Int)::((41:Int)::((37:Int)::((16:Int)::((46:Int)::((35:Int)::((44:Int)::((21:Int)::((52:Int)::((32:Int)::((23:Int)::((11:Int)::((54:Int)::((26:Int)::((40:Int)::((15:Int)::((34:Int)::((20:Int)::((31:Int)::((10:Int)::((25:Int)::((14:Int)::((19:Int)::((9:Int)::((13:Int)::((8:Int)::((7:Int)::((6:Int)::[])))))))))))))))))))))))))))))))))))))))))))))))))))))))))))))))) (shrI .u64 (wrap .u64 ((285870213051353865:Int)*(andI .u64 x (wrap .u64 ((0:Int)-x))))) (58:Int))) fun r0 =>
 some (wrap .i64 r0)):=by kernel_rfl
theorem v1t (n:Nat) (a:(Int×Int)) (b:(Int×Int)):l1t (n+1) a b =
 tif ((((0:Int)<=a.2)&&((0:Int)<=b.2))&&((b.2<18446744073709551616)&&true)) (
 tif ((((0:Int)<=a.1)&&((0:Int)<=b.1))&&((b.1<18446744073709551616)&&(((0:Int)<=(if a.2<(b.2+0) then (1:Int) else (0:Int)))&&((if a.2<(b.2+0) then (1:Int) else (0:Int))<=1)))) (
 a0a (q0t n ((((a.1-b.1)-(if a.2<(b.2+0) then (1:Int) else (0:Int))) % (18446744073709551616:Int)),(((a.2-b.2)-0) % (18446744073709551616:Int))) (if a.1<(b.1+(if a.2<(b.2+0) then (1:Int) else (0:Int))) then (1:Int) else (0:Int))) fun r0 =>
 some r0) (
 none)) (
 none):=by kernel_rfl
theorem p1b (n:Nat) (s:List UInt8):z0w (n+1) s =
 tif (s==[]) (
 some false) (
 tif ((64:Int)<(s.length:Int)) (
 some false) (
 a0a (at? s (0:Int)) fun r0 =>
 a0a (q0g n (((UInt8.toNat r0):Nat):Int)) fun r1 =>
 tif (r1) (
 some false) (
 a0a (g0j n (List.map (fun y2=>(((UInt8.toNat y2):Nat):Int)) s) (fun y3=>s0h n y3.1)) fun r4 =>
 some (!r4)))):=by kernel_rfl
theorem z1t (n:Nat) (s:a0m) (k:Int):y0j (n+1) s k =
 a0a (v1f n s k) fun r0 =>
 tif (!(r0=0)) (
 some (0,(0,r0))) (
 tif (k=0) (
 tif (k=0) (
 a0a (f0d n s.2.1 s.1.2.1.1 s.1.2.2.1.1) fun r1 =>
 tif (s.1.2.1.1=0) (
 none) (
 some (r1.1,((wrap .i64 (Int.tdiv s.2.1 s.1.2.1.1)),r1.2)))) (
 tif (k=1) (
 a0a (f0d n s.2.1 s.1.2.1.1 s.1.2.2.1.2.1) fun r2 =>
 tif (s.1.2.1.1=0) (
 none) (
 some (r2.1,((wrap .i64 (Int.tdiv s.2.1 s.1.2.1.1)),r2.2)))) (
 tif (k=2) (
 a0a (f0d n s.2.1 s.1.2.1.1 s.1.2.2.1.2.2) fun r3 =>
 tif (s.1.2.1.1=0) (
 none) (
 some (r3.1,((wrap .i64 (Int.tdiv s.2.1 s.1.2.1.1)),r3.2)))) (
 none)))) (
 tif (k=1) (
 tif (k=0) (
 a0a (f0d n s.2.1 s.1.2.1.2.1 s.1.2.2.1.1) fun r4 =>
 tif (s.1.2.1.2.1=0) (
 none) (
 some (r4.1,((wrap .i64 (Int.tdiv s.2.1 s.1.2.1.2.1)),r4.2)))) (
 tif (k=1) (
 a0a (f0d n s.2.1 s.1.2.1.2.1 s.1.2.2.1.2.1) fun r5 =>
 tif (s.1.2.1.2.1=0) (
 none) (
 some (r5.1,((wrap .i64 (Int.tdiv s.2.1 s.1.2.1.2.1)),r5.2)))) (
 tif (k=2) (
 a0a (f0d n s.2.1 s.1.2.1.2.1 s.1.2.2.1.2.2) fun r6 =>
 tif (s.1.2.1.2.1=0) (
 none) (
 some (r6.1,((wrap .i64 (Int.tdiv s.2.1 s.1.2.1.2.1)),r6.2)))) (
 none)))) (
 tif (k=2) (
 tif (k=0) (
 a0a (f0d n s.2.1 s.1.2.1.2.2 s.1.2.2.1.1) fun r7 =>
 tif (s.1.2.1.2.2=0) (
 none) (
 some (r7.1,((wrap .i64 (Int.tdiv s.2.1 s.1.2.1.2.2)),r7.2)))) (
 tif (k=1) (
 a0a (f0d n s.2.1 s.1.2.1.2.2 s.1.2.2.1.2.1) fun r8 =>
 tif (s.1.2.1.2.2=0) (
 none) (
 some (r8.1,((wrap .i64 (Int.tdiv s.2.1 s.1.2.1.2.2)),r8.2)))) (
 tif (k=2) (
 a0a (f0d n s.2.1 s.1.2.1.2.2 s.1.2.2.1.2.2) fun r9 =>
 tif (s.1.2.1.2.2=0) (
 none) (
 some (r9.1,((wrap .i64 (Int.tdiv s.2.1 s.1.2.1.2.2)),r9.2)))) (
 none)))) (
 none)))):=by kernel_rfl
theorem m1g (n:Nat) (i:Int) (p1:a0m) (p2:(List (List UInt8×List UInt8))) (p3:a0m):f0y (n+1) i p1 p2 p3 =
 a0a (at? p1.2.2.2 i) fun r0 =>
 a0a (o0l n r0.1 p2) fun r1 =>
 tif (r1) (
 a0a (g0n n p3 i) fun r2 =>
 some r2) (
 some false):=by kernel_rfl
theorem c1s (n:Nat) (w:Int):l1v (n+1) w =
 a0a (p0a n w (1:Int) (1099511627776:Int)) fun r0 =>
 some r0:=by kernel_rfl
theorem m1l (n:Nat) (s:c0n) (i:Int) (j:Int):p0g (n+1) s (0:Int) i j =
 tif (s.2.2.1=((-1):Int)) (
 some ((0,((0,(0,(0,false))),((0,(0,(0,false))),((0,0),(0,(0,0)))))),0)) (
 tif (s.1.2.1.1=0) (
 none) (
 a0a (l0g n s.2.2.2.2.1.1 i j) fun r0 =>
 tif (!(r0.2=0)) (
 some r0) (
 tif ((wrap .i64 (Int.tdiv s.2.2.1 s.1.2.1.1))<i) (
 some r0) (
 tif (j<=(wrap .i64 (Int.tdiv s.2.2.1 s.1.2.1.1))) (
 some r0) (
 a0a (l0j n s (0:Int)) fun r1 =>
 tif (!(r1.2=0)) (
 some ((0,((0,(0,(0,false))),((0,(0,(0,false))),((0,0),(0,(0,0)))))),r1.2)) (
 a0a (h0e n r0.1 r1.1) fun r2 =>
 some r2)))))):=by kernel_rfl
theorem m1k (n:Nat) (s:c0n) (i:Int) (j:Int):p0g (n+1) s (1:Int) i j =
 tif (s.2.2.1=((-1):Int)) (
 some ((0,((0,(0,(0,false))),((0,(0,(0,false))),((0,0),(0,(0,0)))))),0)) (
 tif (s.1.2.1.2.1=0) (
 none) (
 a0a (l0g n s.2.2.2.2.1.2.1 i j) fun r0 =>
 tif (!(r0.2=0)) (
 some r0) (
 tif ((wrap .i64 (Int.tdiv s.2.2.1 s.1.2.1.2.1))<i) (
 some r0) (
 tif (j<=(wrap .i64 (Int.tdiv s.2.2.1 s.1.2.1.2.1))) (
 some r0) (
 a0a (l0j n s (1:Int)) fun r1 =>
 tif (!(r1.2=0)) (
 some ((0,((0,(0,(0,false))),((0,(0,(0,false))),((0,0),(0,(0,0)))))),r1.2)) (
 a0a (h0e n r0.1 r1.1) fun r2 =>
 some r2)))))):=by kernel_rfl
theorem m1j (n:Nat) (s:c0n) (i:Int) (j:Int):p0g (n+1) s (2:Int) i j =
 tif (s.2.2.1=((-1):Int)) (
 some ((0,((0,(0,(0,false))),((0,(0,(0,false))),((0,0),(0,(0,0)))))),0)) (
 tif (s.1.2.1.2.2=0) (
 none) (
 a0a (l0g n s.2.2.2.2.1.2.2 i j) fun r0 =>
 tif (!(r0.2=0)) (
 some r0) (
 tif ((wrap .i64 (Int.tdiv s.2.2.1 s.1.2.1.2.2))<i) (
 some r0) (
 tif (j<=(wrap .i64 (Int.tdiv s.2.2.1 s.1.2.1.2.2))) (
 some r0) (
 a0a (l0j n s (2:Int)) fun r1 =>
 tif (!(r1.2=0)) (
 some ((0,((0,(0,(0,false))),((0,(0,(0,false))),((0,0),(0,(0,0)))))),r1.2)) (
 a0a (h0e n r0.1 r1.1) fun r2 =>
 some r2)))))):=by kernel_rfl
theorem d1n (n:Nat) (num:(Int×Int)) (den:(Int×Int)):r0i (n+1) num den =
 a0a (i0q n den) fun r0 =>
 tif (r0) (
 some (((0,0),(0,0)),1)) (
 a0a (w0q n num den) fun r1 =>
 a0a (p0o n num r1) fun r2 =>
 a0a (p0o n den r1) fun r3 =>
 some ((r2,r3),0)):=by kernel_rfl
theorem x0z (n:Nat) (x:Int) (y:Int):i0a (n+1) x y =
 some ((wrap .u64 ((wrap .u64 ((wrap .u64 ((shrI .u64 x (32:Int))*(shrI .u64 y (32:Int))))+(shrI .u64 (wrap .u64 ((wrap .u64 ((shrI .u64 x (32:Int))*(andI .u64 y (4294967295:Int))))+(shrI .u64 (wrap .u64 ((andI .u64 x (4294967295:Int))*(andI .u64 y (4294967295:Int)))) (32:Int)))) (32:Int))))+(shrI .u64 (wrap .u64 ((andI .u64 (wrap .u64 ((wrap .u64 ((shrI .u64 x (32:Int))*(andI .u64 y (4294967295:Int))))+(shrI .u64 (wrap .u64 ((andI .u64 x (4294967295:Int))*(andI .u64 y (4294967295:Int)))) (32:Int)))) (4294967295:Int))+(wrap .u64 ((andI .u64 x (4294967295:Int))*(shrI .u64 y (32:Int)))))) (32:Int)))),(wrap .u64 (x*y))):=by kernel_rfl
theorem q1l (n:Nat) (a:(Int×Int)) (over:Int):q0t (n+1) a over =
 tif (!(over=0)) (
 some ((0,0),1)) (
 some (a,0)):=by kernel_rfl
theorem s1o (n:Nat) (c:b0p):d1w (n+1) c =
 a0a (n0z n c.1 (16:Int)) fun r0 =>
 a0a (n0z n c.2.2.1.1 (4:Int)) fun r1 =>
 a0a (n0z n c.2.2.1.2.1 (4:Int)) fun r2 =>
 a0a (n0z n c.2.2.1.2.2 (4:Int)) fun r3 =>
 some (wrap .i64 ((wrap .i64 ((wrap .i64 ((wrap .i64 ((1:Int)+r0))+r1))+r2))+r3)):=by kernel_rfl
theorem x1t (n:Nat) (a:(Int×(Int×(List b0d)))) (b:(Int×(Int×(List b0d)))):a2m (n+1) a b =
 tif (a.1=b.1) (
 tif (a.2.1=b.2.1) (
 a0a (r0t n a.2.2 b.2.2) fun r0 =>
 some r0) (
 some false)) (
 some false):=by kernel_rfl
theorem x1n (n:Nat) (a:((List a0c)×((List a0c)×(List a0c)))) (b:((List a0c)×((List a0c)×(List a0c)))):a2k (n+1) a b =
 a0a (w0y n a.1 b.1) fun r0 =>
 tif (!r0) (
 some false) (
 a0a (w0y n a.2.1 b.2.1) fun r1 =>
 tif (!r1) (
 some false) (
 a0a (w0y n a.2.2 b.2.2) fun r2 =>
 tif (!r2) (
 some false) (
 some true))):=by kernel_rfl
theorem s1v (n:Nat) (e:b0d):l0u (n+1) e =
 tif (e.1<0) (
 some (2:Int)) (
 tif ((35184372088832:Int)<=e.1) (
 some (2:Int)) (
 tif (e.2.2.1<0) (
 some (2:Int)) (
 tif (e.1<e.2.2.1) (
 some (2:Int)) (
 tif (e.2.2.2) (
 tif (!(e.2.1=0)) (
 some (2:Int)) (
 tif (!(e.2.2.1=0)) (
 some (2:Int)) (
 some (0:Int)))) (
 some (0:Int)))))):=by kernel_rfl
theorem s1m (n:Nat) (l:(List a0c)) (w:Int):r0s (n+1) l w =
 tif ((l.length:Int)<1) (
 some (2:Int)) (
 tif ((4096:Int)<(l.length:Int)) (
 some (2:Int)) (
 tif (w<1) (
 some (2:Int)) (
 tif ((1099511627776:Int)<w) (
 some (2:Int)) (
 a0a (g0y n a0b (l,(w,(l,((l.length:Int),(0,())))))) fun r0 =>
 b0x (fun y1 =>
 some (0:Int)) (fun z2 =>
 some z2) r0)))):=by kernel_rfl
theorem r0r (n f:Nat) (l:(List a0c)) (w:Int) (s23:(List a0c)) (s24:Int) (s25:Int):g0y n (f+1) (l,w,s23,s24,s25,()) =
 tif (s25<s24) (
 a0a (at? s23 s25) fun r0 =>
 tif ((decide (r0.1=0))&&((decide (r0.2.1=0))&&((decide (r0.2.2.1.1=0))&&((decide (r0.2.2.1.2.1=0))&&((decide (r0.2.2.1.2.2.1=0))&&((r0.2.2.1.2.2.2==false)&&((decide (r0.2.2.2.1.1=0))&&((decide (r0.2.2.2.1.2.1=0))&&((decide (r0.2.2.2.1.2.2.1=0))&&((r0.2.2.2.1.2.2.2==false)&&((decide (r0.2.2.2.2.1.1=0))&&((decide (r0.2.2.2.2.1.2=0))&&((decide (r0.2.2.2.2.2.1=0))&&((decide (r0.2.2.2.2.2.2.1=0))&&(decide (r0.2.2.2.2.2.2.2=0)))))))))))))))) (
 g0y n f (l,(w,(s23,(s24,((wrap .i64 (s25+1)),())))))) (
 a0a (c1e n r0.2 w r0.1) fun r1 =>
 tif (!r1) (
 some (.inr (2:Int))) (
 a0a (c1f n r0.1 (l.length:Int)) fun r2 =>
 tif (!(r2=s25)) (
 some (.inr (2:Int))) (
 g0y n f (l,(w,(s23,(s24,((wrap .i64 (s25+1)),()))))))))) (
 some (.inl ())):=by kernel_rfl
theorem s1u (n:Nat) (c:b0v):r0x (n+1) c =
 tif ((decide (c.1=0))&&((decide (c.2.1.1=0))&&((decide (c.2.1.2.1=0))&&((decide (c.2.1.2.2.1=0))&&((c.2.1.2.2.2==false)&&((decide (c.2.2.1.1=0))&&((decide (c.2.2.1.2.1=0))&&((decide (c.2.2.1.2.2.1=0))&&((c.2.2.1.2.2.2==false)&&((decide (c.2.2.2.1.1=0))&&((decide (c.2.2.2.1.2=0))&&((decide (c.2.2.2.2.1=0))&&((decide (c.2.2.2.2.2.1=0))&&(decide (c.2.2.2.2.2.2=0))))))))))))))) (
 some (0:Int)) (
 tif (c.1<1) (
 some (2:Int)) (
 a0a (l0u n c.2.1) fun r0 =>
 tif (!(r0=0)) (
 some (2:Int)) (
 a0a (l0u n c.2.2.1) fun r1 =>
 tif (!(r1=0)) (
 some (2:Int)) (
 tif (c.2.2.1.1<c.2.1.1) (
 some (2:Int)) (
 tif ((wrap .i64 ((wrap .i64 (c.2.2.1.1-c.2.1.1))+1))<c.1) (
 some (2:Int)) (
 tif (c.1=1) (
 tif (!((decide (c.2.1.1=c.2.2.1.1))&&((decide (c.2.1.2.1=c.2.2.1.2.1))&&((decide (c.2.1.2.2.1=c.2.2.1.2.2.1))&&(c.2.1.2.2.2==c.2.2.1.2.2.2))))) (
 some (2:Int)) (
 tif ((1:Int)<c.1) (
 tif (c.2.1.1=c.2.2.1.1) (
 some (2:Int)) (
 tif (c.2.2.2.2.1<0) (
 some (2:Int)) (
 tif (c.2.2.2.2.2.1<0) (
 some (2:Int)) (
 tif (c.2.2.2.2.2.2<0) (
 some (2:Int)) (
 tif (c.1<=c.2.2.2.2.1) (
 some (2:Int)) (
 tif (c.1<=c.2.2.2.2.2.1) (
 some (2:Int)) (
 tif (c.1<=(wrap .i64 (c.2.2.2.2.1+c.2.2.2.2.2.1))) (
 some (2:Int)) (
 tif ((wrap .i64 (c.2.2.1.1-c.2.1.1))<c.2.2.2.2.2.2) (
 some (2:Int)) (
 a0a (l0y n (0,18446744073709551615) (wrap .u64 (wrap .i64 (c.1-1)))) fun r2 =>
 a0a (k0i n r2.1 c.2.2.2.1) fun r3 =>
 tif (r3) (
 some (2:Int)) (
 some (0:Int))))))))))) (
 tif (c.2.2.2.2.1<0) (
 some (2:Int)) (
 tif (c.2.2.2.2.2.1<0) (
 some (2:Int)) (
 tif (c.2.2.2.2.2.2<0) (
 some (2:Int)) (
 tif (c.1<=c.2.2.2.2.1) (
 some (2:Int)) (
 tif (c.1<=c.2.2.2.2.2.1) (
 some (2:Int)) (
 tif (c.1<=(wrap .i64 (c.2.2.2.2.1+c.2.2.2.2.2.1))) (
 some (2:Int)) (
 tif ((wrap .i64 (c.2.2.1.1-c.2.1.1))<c.2.2.2.2.2.2) (
 some (2:Int)) (
 a0a (l0y n (0,18446744073709551615) (wrap .u64 (wrap .i64 (c.1-1)))) fun r4 =>
 a0a (k0i n r4.1 c.2.2.2.1) fun r5 =>
 tif (r5) (
 some (2:Int)) (
 some (0:Int)))))))))))) (
 tif ((1:Int)<c.1) (
 tif (c.2.1.1=c.2.2.1.1) (
 some (2:Int)) (
 tif (c.2.2.2.2.1<0) (
 some (2:Int)) (
 tif (c.2.2.2.2.2.1<0) (
 some (2:Int)) (
 tif (c.2.2.2.2.2.2<0) (
 some (2:Int)) (
 tif (c.1<=c.2.2.2.2.1) (
 some (2:Int)) (
 tif (c.1<=c.2.2.2.2.2.1) (
 some (2:Int)) (
 tif (c.1<=(wrap .i64 (c.2.2.2.2.1+c.2.2.2.2.2.1))) (
 some (2:Int)) (
 tif ((wrap .i64 (c.2.2.1.1-c.2.1.1))<c.2.2.2.2.2.2) (
 some (2:Int)) (
 a0a (l0y n (0,18446744073709551615) (wrap .u64 (wrap .i64 (c.1-1)))) fun r6 =>
 a0a (k0i n r6.1 c.2.2.2.1) fun r7 =>
 tif (r7) (
 some (2:Int)) (
 some (0:Int))))))))))) (
 tif (c.2.2.2.2.1<0) (
 some (2:Int)) (
 tif (c.2.2.2.2.2.1<0) (
 some (2:Int)) (
 tif (c.2.2.2.2.2.2<0) (
 some (2:Int)) (
 tif (c.1<=c.2.2.2.2.1) (
 some (2:Int)) (
 tif (c.1<=c.2.2.2.2.2.1) (
 some (2:Int)) (
 tif (c.1<=(wrap .i64 (c.2.2.2.2.1+c.2.2.2.2.2.1))) (
 some (2:Int)) (
 tif ((wrap .i64 (c.2.2.1.1-c.2.1.1))<c.2.2.2.2.2.2) (
 some (2:Int)) (
 a0a (l0y n (0,18446744073709551615) (wrap .u64 (wrap .i64 (c.1-1)))) fun r8 =>
 a0a (k0i n r8.1 c.2.2.2.1) fun r9 =>
 tif (r9) (
 some (2:Int)) (
 some (0:Int))))))))))))))))):=by kernel_rfl
theorem i2e (n:Nat) (t:Int) (w:Int):d0g (n+1) t w =
 tif (t<0) (
 some (0,1)) (
 tif ((35184372088832:Int)<=t) (
 some (0,1)) (
 a0a (d1x n w) fun r0 =>
 tif (!r0) (
 some (0,1)) (
 tif (w=0) (
 none) (
 tif (w=0) (
 none) (
 some ((wrap .i64 (Int.tdiv (wrap .i64 (t-(Int.tmod t w))) w)),0)))))):=by kernel_rfl
theorem x1z (n:Nat) (t:Int) (now:Int) (w:Int) (n_:Int):x0e (n+1) t now w n_ =
 a0a (d0g n t w) fun r0 =>
 a0a (d0w n now w n_) fun r1 =>
 tif (r0.2=0) (
 tif (r1.2=0) (
 some (decide (r0.1<r1.1))) (
 some false)) (
 some false):=by kernel_rfl
theorem e2l (n:Nat) (a:(Int×Int)) (b:(Int×Int)):n0g (n+1) a b =
 a0a (f0e n a) fun r0 =>
 a0a (f0e n b) fun r1 =>
 tif ((0:Int)<(wrap .i64 (Int.tdiv (wrap .i64 ((wrap .i64 (r0.2.2.2.2.2.2.2.2.2.2.2.2.2.2.2+r1.2.2.2.2.2.2.2.2.2.2.2.2.2.2.2))+(wrap .i64 (Int.tdiv (wrap .i64 ((wrap .i64 (r0.2.2.2.2.2.2.2.2.2.2.2.2.2.2.1+r1.2.2.2.2.2.2.2.2.2.2.2.2.2.2.1))+(wrap .i64 (Int.tdiv (wrap .i64 ((wrap .i64 (r0.2.2.2.2.2.2.2.2.2.2.2.2.2.1+r1.2.2.2.2.2.2.2.2.2.2.2.2.2.1))+(wrap .i64 (Int.tdiv (wrap .i64 ((wrap .i64 (r0.2.2.2.2.2.2.2.2.2.2.2.2.1+r1.2.2.2.2.2.2.2.2.2.2.2.2.1))+(wrap .i64 (Int.tdiv (wrap .i64 ((wrap .i64 (r0.2.2.2.2.2.2.2.2.2.2.2.1+r1.2.2.2.2.2.2.2.2.2.2.2.1))+(wrap .i64 (Int.tdiv (wrap .i64 ((wrap .i64 (r0.2.2.2.2.2.2.2.2.2.2.1+r1.2.2.2.2.2.2.2.2.2.2.1))+(wrap .i64 (Int.tdiv (wrap .i64 ((wrap .i64 (r0.2.2.2.2.2.2.2.2.2.1+r1.2.2.2.2.2.2.2.2.2.1))+(wrap .i64 (Int.tdiv (wrap .i64 ((wrap .i64 (r0.2.2.2.2.2.2.2.2.1+r1.2.2.2.2.2.2.2.2.1))+(wrap .i64 (Int.tdiv (wrap .i64 ((wrap .i64 (r0.2.2.2.2.2.2.2.1+r1.2.2.2.2.2.2.2.1))+(wrap .i64 (Int.tdiv (wrap .i64 ((wrap .i64 (r0.2.2.2.2.2.2.1+r1.2.2.2.2.2.2.1))+(wrap .i64 (Int.tdiv (wrap .i64 ((wrap .i64 (r0.2.2.2.2.2.1+r1.2.2.2.2.2.1))+(wrap .i64 (Int.tdiv (wrap .i64 ((wrap .i64 (r0.2.2.2.2.1+r1.2.2.2.2.1))+(wrap .i64 (Int.tdiv (wrap .i64 ((wrap .i64 (r0.2.2.2.1+r1.2.2.2.1))+(wrap .i64 (Int.tdiv (wrap .i64 ((wrap .i64 (r0.2.2.1+r1.2.2.1))+(wrap .i64 (Int.tdiv (wrap .i64 ((wrap .i64 (r0.2.1+r1.2.1))+(wrap .i64 (Int.tdiv (wrap .i64 ((wrap .i64 (r0.1+r1.1))+0)) (256:Int))))) (256:Int))))) (256:Int))))) (256:Int))))) (256:Int))))) (256:Int))))) (256:Int))))) (256:Int))))) (256:Int))))) (256:Int))))) (256:Int))))) (256:Int))))) (256:Int))))) (256:Int))))) (256:Int))))) (256:Int)))) (
 some ((0,0),1)) (
 a0a (a1x n ((Int.tmod (wrap .i64 ((wrap .i64 (r0.1+r1.1))+0)) (256:Int)),((Int.tmod (wrap .i64 ((wrap .i64 (r0.2.1+r1.2.1))+(wrap .i64 (Int.tdiv (wrap .i64 ((wrap .i64 (r0.1+r1.1))+0)) (256:Int))))) (256:Int)),((Int.tmod (wrap .i64 ((wrap .i64 (r0.2.2.1+r1.2.2.1))+(wrap .i64 (Int.tdiv (wrap .i64 ((wrap .i64 (r0.2.1+r1.2.1))+(wrap .i64 (Int.tdiv (wrap .i64 ((wrap .i64 (r0.1+r1.1))+0)) (256:Int))))) (256:Int))))) (256:Int)),((Int.tmod (wrap .i64 ((wrap .i64 (r0.2.2.2.1+r1.2.2.2.1))+(wrap .i64 (Int.tdiv (wrap .i64 ((wrap .i64 (r0.2.2.1+r1.2.2.1))+(wrap .i64 (Int.tdiv (wrap .i64 ((wrap .i64 (r0.2.1+r1.2.1))+(wrap .i64 (Int.tdiv (wrap .i64 ((wrap .i64 (r0.1+r1.1))+0)) (256:Int))))) (256:Int))))) (256:Int))))) (256:Int)),((Int.tmod (wrap .i64 ((wrap .i64 (r0.2.2.2.2.1+r1.2.2.2.2.1))+(wrap .i64 (Int.tdiv (wrap .i64 ((wrap .i64 (r0.2.2.2.1+r1.2.2.2.1))+(wrap .i64 (Int.tdiv (wrap .i64 ((wrap .i64 (r0.2.2.1+r1.2.2.1))+(wrap .i64 (Int.tdiv (wrap .i64 ((wrap .i64 (r0.2.1+r1.2.1))+(wrap .i64 (Int.tdiv (wrap .i64 ((wrap .i64 (r0.1+r1.1))+0)) (256:Int))))) (256:Int))))) (256:Int))))) (256:Int))))) (256:Int)),((Int.tmod (wrap .i64 ((wrap .i64 (r0.2.2.2.2.2.1+r1.2.2.2.2.2.1))+(wrap .i64 (Int.tdiv (wrap .i64 ((wrap .i64 (r0.2.2.2.2.1+r1.2.2.2.2.1))+(wrap .i64 (Int.tdiv (wrap .i64 ((wrap .i64 (r0.2.2.2.1+r1.2.2.2.1))+(wrap .i64 (Int.tdiv (wrap .i64 ((wrap .i64 (r0.2.2.1+r1.2.2.1))+(wrap .i64 (Int.tdiv (wrap .i64 ((wrap .i64 (r0.2.1+r1.2.1))+(wrap .i64 (Int.tdiv (wrap .i64 ((wrap .i64 (r0.1+r1.1))+0)) (256:Int))))) (256:Int))))) (256:Int))))) (256:Int))))) (256:Int))))) (256:Int)),((Int.tmod (wrap .i64 ((wrap .i64 (r0.2.2.2.2.2.2.1+r1.2.2.2.2.2.2.1))+(wrap .i64 (Int.tdiv (wrap .i64 ((wrap .i64 (r0.2.2.2.2.2.1+r1.2.2.2.2.2.1))+(wrap .i64 (Int.tdiv (wrap .i64 ((wrap .i64 (r0.2.2.2.2.1+r1.2.2.2.2.1))+(wrap .i64 (Int.tdiv (wrap .i64 ((wrap .i64 (r0.2.2.2.1+r1.2.2.2.1))+(wrap .i64 (Int.tdiv (wrap .i64 ((wrap .i64 (r0.2.2.1+r1.2.2.1))+(wrap .i64 (Int.tdiv (wrap .i64 ((wrap .i64 (r0.2.1+r1.2.1))+(wrap .i64 (Int.tdiv (wrap .i64 ((wrap .i64 (r0.1+r1.1))+0)) (256:Int))))) (256:Int))))) (256:Int))))) (256:Int))))) (256:Int))))) (256:Int))))) (256:Int)),((Int.tmod (wrap .i64 ((wrap .i64 (r0.2.2.2.2.2.2.2.1+r1.2.2.2.2.2.2.2.1))+(wrap .i64 (Int.tdiv (wrap .i64 ((wrap .i64 (r0.2.2.2.2.2.2.1+r1.2.2.2.2.2.2.1))+(wrap .i64 (Int.tdiv (wrap .i64 ((wrap .i64 (r0.2.2.2.2.2.1+r1.2.2.2.2.2.1))+(wrap .i64 (Int.tdiv (wrap .i64 ((wrap .i64 (r0.2.2.2.2.1+r1.2.2.2.2.1))+(wrap .i64 (Int.tdiv (wrap .i64 ((wrap .i64 (r0.2.2.2.1+r1.2.2.2.1))+(wrap .i64 (Int.tdiv (wrap .i64 ((wrap .i64 (r0.2.2.1+r1.2.2.1))+(wrap .i64 (Int.tdiv (wrap .i64 ((wrap .i64 (r0.2.1+r1.2.1))+(wrap .i64 (Int.tdiv (wrap .i64 ((wrap .i64 (r0.1+r1.1))+0)) (256:Int))))) (256:Int))))) (256:Int))))) (256:Int))))) (256:Int))))) (256:Int))))) (256:Int))))) (256:Int)),((Int.tmod (wrap .i64 ((wrap .i64 (r0.2.2.2.2.2.2.2.2.1+r1.2.2.2.2.2.2.2.2.1))+(wrap .i64 (Int.tdiv (wrap .i64 ((wrap .i64 (r0.2.2.2.2.2.2.2.1+r1.2.2.2.2.2.2.2.1))+(wrap .i64 (Int.tdiv (wrap .i64 ((wrap .i64 (r0.2.2.2.2.2.2.1+r1.2.2.2.2.2.2.1))+(wrap .i64 (Int.tdiv (wrap .i64 ((wrap .i64 (r0.2.2.2.2.2.1+r1.2.2.2.2.2.1))+(wrap .i64 (Int.tdiv (wrap .i64 ((wrap .i64 (r0.2.2.2.2.1+r1.2.2.2.2.1))+(wrap .i64 (Int.tdiv (wrap .i64 ((wrap .i64 (r0.2.2.2.1+r1.2.2.2.1))+(wrap .i64 (Int.tdiv (wrap .i64 ((wrap .i64 (r0.2.2.1+r1.2.2.1))+(wrap .i64 (Int.tdiv (wrap .i64 ((wrap .i64 (r0.2.1+r1.2.1))+(wrap .i64 (Int.tdiv (wrap .i64 ((wrap .i64 (r0.1+r1.1))+0)) (256:Int))))) (256:Int))))) (256:Int))))) (256:Int))))) (256:Int))))) (256:Int))))) (256:Int))))) (256:Int))))) (256:Int)),((Int.tmod (wrap .i64 ((wrap .i64 (r0.2.2.2.2.2.2.2.2.2.1+r1.2.2.2.2.2.2.2.2.2.1))+(wrap .i64 (Int.tdiv (wrap .i64 ((wrap .i64 (r0.2.2.2.2.2.2.2.2.1+r1.2.2.2.2.2.2.2.2.1))+(wrap .i64 (Int.tdiv (wrap .i64 ((wrap .i64 (r0.2.2.2.2.2.2.2.1+r1.2.2.2.2.2.2.2.1))+(wrap .i64 (Int.tdiv (wrap .i64 ((wrap .i64 (r0.2.2.2.2.2.2.1+r1.2.2.2.2.2.2.1))+(wrap .i64 (Int.tdiv (wrap .i64 ((wrap .i64 (r0.2.2.2.2.2.1+r1.2.2.2.2.2.1))+(wrap .i64 (Int.tdiv (wrap .i64 ((wrap .i64 (r0.2.2.2.2.1+r1.2.2.2.2.1))+(wrap .i64 (Int.tdiv (wrap .i64 ((wrap .i64 (r0.2.2.2.1+r1.2.2.2.1))+(wrap .i64 (Int.tdiv (wrap .i64 ((wrap .i64 (r0.2.2.1+r1.2.2.1))+(wrap .i64 (Int.tdiv (wrap .i64 ((wrap .i64 (r0.2.1+r1.2.1))+(wrap .i64 (Int.tdiv (wrap .i64 ((wrap .i64 (r0.1+r1.1))+0)) (256:Int))))) (256:Int))))) (256:Int))))) (256:Int))))) (256:Int))))) (256:Int))))) (256:Int))))) (256:Int))))) (256:Int))))) (256:Int)),((Int.tmod (wrap .i64 ((wrap .i64 (r0.2.2.2.2.2.2.2.2.2.2.1+r1.2.2.2.2.2.2.2.2.2.2.1))+(wrap .i64 (Int.tdiv (wrap .i64 ((wrap .i64 (r0.2.2.2.2.2.2.2.2.2.1+r1.2.2.2.2.2.2.2.2.2.1))+(wrap .i64 (Int.tdiv (wrap .i64 ((wrap .i64 (r0.2.2.2.2.2.2.2.2.1+r1.2.2.2.2.2.2.2.2.1))+(wrap .i64 (Int.tdiv (wrap .i64 ((wrap .i64 (r0.2.2.2.2.2.2.2.1+r1.2.2.2.2.2.2.2.1))+(wrap .i64 (Int.tdiv (wrap .i64 ((wrap .i64 (r0.2.2.2.2.2.2.1+r1.2.2.2.2.2.2.1))+(wrap .i64 (Int.tdiv (wrap .i64 ((wrap .i64 (r0.2.2.2.2.2.1+r1.2.2.2.2.2.1))+(wrap .i64 (Int.tdiv (wrap .i64 ((wrap .i64 (r0.2.2.2.2.1+r1.2.2.2.2.1))+(wrap .i64 (Int.tdiv (wrap .i64 ((wrap .i64 (r0.2.2.2.1+r1.2.2.2.1))+(wrap .i64 (Int.tdiv (wrap .i64 ((wrap .i64 (r0.2.2.1+r1.2.2.1))+(wrap .i64 (Int.tdiv (wrap .i64 ((wrap .i64 (r0.2.1+r1.2.1))+(wrap .i64 (Int.tdiv (wrap .i64 ((wrap .i64 (r0.1+r1.1))+0)) (256:Int))))) (256:Int))))) (256:Int))))) (256:Int))))) (256:Int))))) (256:Int))))) (256:Int))))) (256:Int))))) (256:Int))))) (256:Int))))) (256:Int)),((Int.tmod (wrap .i64 ((wrap .i64 (r0.2.2.2.2.2.2.2.2.2.2.2.1+r1.2.2.2.2.2.2.2.2.2.2.2.1))+(wrap .i64 (Int.tdiv (wrap .i64 ((wrap .i64 (r0.2.2.2.2.2.2.2.2.2.2.1+r1.2.2.2.2.2.2.2.2.2.2.1))+(wrap .i64 (Int.tdiv (wrap .i64 ((wrap .i64 (r0.2.2.2.2.2.2.2.2.2.1+r1.2.2.2.2.2.2.2.2.2.1))+(wrap .i64 (Int.tdiv (wrap .i64 ((wrap .i64 (r0.2.2.2.2.2.2.2.2.1+r1.2.2.2.2.2.2.2.2.1))+(wrap .i64 (Int.tdiv (wrap .i64 ((wrap .i64 (r0.2.2.2.2.2.2.2.1+r1.2.2.2.2.2.2.2.1))+(wrap .i64 (Int.tdiv (wrap .i64 ((wrap .i64 (r0.2.2.2.2.2.2.1+r1.2.2.2.2.2.2.1))+(wrap .i64 (Int.tdiv (wrap .i64 ((wrap .i64 (r0.2.2.2.2.2.1+r1.2.2.2.2.2.1))+(wrap .i64 (Int.tdiv (wrap .i64 ((wrap .i64 (r0.2.2.2.2.1+r1.2.2.2.2.1))+(wrap .i64 (Int.tdiv (wrap .i64 ((wrap .i64 (r0.2.2.2.1+r1.2.2.2.1))+(wrap .i64 (Int.tdiv (wrap .i64 ((wrap .i64 (r0.2.2.1+r1.2.2.1))+(wrap .i64 (Int.tdiv (wrap .i64 ((wrap .i64 (r0.2.1+r1.2.1))+(wrap .i64 (Int.tdiv (wrap .i64 ((wrap .i64 (r0.1+r1.1))+0)) (256:Int))))) (256:Int))))) (256:Int))))) (256:Int))))) (256:Int))))) (256:Int))))) (256:Int))))) (256:Int))))) (256:Int))))) (256:Int))))) (256:Int))))) (256:Int)),((Int.tmod (wrap .i64 ((wrap .i64 (r0.2.2.2.2.2.2.2.2.2.2.2.2.1+r1.2.2.2.2.2.2.2.2.2.2.2.2.1))+(wrap .i64 (Int.tdiv (wrap .i64 ((wrap .i64 (r0.2.2.2.2.2.2.2.2.2.2.2.1+r1.2.2.2.2.2.2.2.2.2.2.2.1))+(wrap .i64 (Int.tdiv (wrap .i64 ((wrap .i64 (r0.2.2.2.2.2.2.2.2.2.2.1+r1.2.2.2.2.2.2.2.2.2.2.1))+(wrap .i64 (Int.tdiv (wrap .i64 ((wrap .i64 (r0.2.2.2.2.2.2.2.2.2.1+r1.2.2.2.2.2.2.2.2.2.1))+(wrap .i64 (Int.tdiv (wrap .i64 ((wrap .i64 (r0.2.2.2.2.2.2.2.2.1+r1.2.2.2.2.2.2.2.2.1))+(wrap .i64 (Int.tdiv (wrap .i64 ((wrap .i64 (r0.2.2.2.2.2.2.2.1+r1.2.2.2.2.2.2.2.1))+(wrap .i64 (Int.tdiv (wrap .i64 ((wrap .i64 (r0.2.2.2.2.2.2.1+r1.2.2.2.2.2.2.1))+(wrap .i64 (Int.tdiv (wrap .i64 ((wrap .i64 (r0.2.2.2.2.2.1+r1.2.2.2.2.2.1))+(wrap .i64 (Int.tdiv (wrap .i64 ((wrap .i64 (r0.2.2.2.2.1+r1.2.2.2.2.1))+(wrap .i64 (Int.tdiv (wrap .i64 ((wrap .i64 (r0.2.2.2.1+r1.2.2.2.1))+(wrap .i64 (Int.tdiv (wrap .i64 ((wrap .i64 (r0.2.2.1+r1.2.2.1))+(wrap .i64 (Int.tdiv (wrap .i64 ((wrap .i64 (r0.2.1+r1.2.1))+(wrap .i64 (Int.tdiv (wrap .i64 ((wrap .i64 (r0.1+r1.1))+0)) (256:Int))))) (256:Int))))) (256:Int))))) (256:Int))))) (256:Int))))) (256:Int))))) (256:Int))))) (256:Int))))) (256:Int))))) (256:Int))))) (256:Int))))) (256:Int))))) (256:Int)),((Int.tmod (wrap .i64 ((wrap .i64 (r0.2.2.2.2.2.2.2.2.2.2.2.2.2.1+r1.2.2.2.2.2.2.2.2.2.2.2.2.2.1))+(wrap .i64 (Int.tdiv (wrap .i64 ((wrap .i64 (r0.2.2.2.2.2.2.2.2.2.2.2.2.1+r1.2.2.2.2.2.2.2.2.2.2.2.2.1))+(wrap .i64 (Int.tdiv (wrap .i64 ((wrap .i64 (r0.2.2.2.2.2.2.2.2.2.2.2.1+r1.2.2.2.2.2.2.2.2.2.2.2.1))+(wrap .i64 (Int.tdiv (wrap .i64 ((wrap .i64 (r0.2.2.2.2.2.2.2.2.2.2.1+r1.2.2.2.2.2.2.2.2.2.2.1))+(wrap .i64 (Int.tdiv (wrap .i64 ((wrap .i64 (r0.2.2.2.2.2.2.2.2.2.1+r1.2.2.2.2.2.2.2.2.2.1))+(wrap .i64 (Int.tdiv (wrap .i64 ((wrap .i64 (r0.2.2.2.2.2.2.2.2.1+r1.2.2.2.2.2.2.2.2.1))+(wrap .i64 (Int.tdiv (wrap .i64 ((wrap .i64 (r0.2.2.2.2.2.2.2.1+r1.2.2.2.2.2.2.2.1))+(wrap .i64 (Int.tdiv (wrap .i64 ((wrap .i64 (r0.2.2.2.2.2.2.1+r1.2.2.2.2.2.2.1))+(wrap .i64 (Int.tdiv (wrap .i64 ((wrap .i64 (r0.2.2.2.2.2.1+r1.2.2.2.2.2.1))+(wrap .i64 (Int.tdiv (wrap .i64 ((wrap .i64 (r0.2.2.2.2.1+r1.2.2.2.2.1))+(wrap .i64 (Int.tdiv (wrap .i64 ((wrap .i64 (r0.2.2.2.1+r1.2.2.2.1))+(wrap .i64 (Int.tdiv (wrap .i64 ((wrap .i64 (r0.2.2.1+r1.2.2.1))+(wrap .i64 (Int.tdiv (wrap .i64 ((wrap .i64 (r0.2.1+r1.2.1))+(wrap .i64 (Int.tdiv (wrap .i64 ((wrap .i64 (r0.1+r1.1))+0)) (256:Int))))) (256:Int))))) (256:Int))))) (256:Int))))) (256:Int))))) (256:Int))))) (256:Int))))) (256:Int))))) (256:Int))))) (256:Int))))) (256:Int))))) (256:Int))))) (256:Int))))) (256:Int)),((Int.tmod (wrap .i64 ((wrap .i64 (r0.2.2.2.2.2.2.2.2.2.2.2.2.2.2.1+r1.2.2.2.2.2.2.2.2.2.2.2.2.2.2.1))+(wrap .i64 (Int.tdiv (wrap .i64 ((wrap .i64 (r0.2.2.2.2.2.2.2.2.2.2.2.2.2.1+r1.2.2.2.2.2.2.2.2.2.2.2.2.2.1))+(wrap .i64 (Int.tdiv (wrap .i64 ((wrap .i64 (r0.2.2.2.2.2.2.2.2.2.2.2.2.1+r1.2.2.2.2.2.2.2.2.2.2.2.2.1))+(wrap .i64 (Int.tdiv (wrap .i64 ((wrap .i64 (r0.2.2.2.2.2.2.2.2.2.2.2.1+r1.2.2.2.2.2.2.2.2.2.2.2.1))+(wrap .i64 (Int.tdiv (wrap .i64 ((wrap .i64 (r0.2.2.2.2.2.2.2.2.2.2.1+r1.2.2.2.2.2.2.2.2.2.2.1))+(wrap .i64 (Int.tdiv (wrap .i64 ((wrap .i64 (r0.2.2.2.2.2.2.2.2.2.1+r1.2.2.2.2.2.2.2.2.2.1))+(wrap .i64 (Int.tdiv (wrap .i64 ((wrap .i64 (r0.2.2.2.2.2.2.2.2.1+r1.2.2.2.2.2.2.2.2.1))+(wrap .i64 (Int.tdiv (wrap .i64 ((wrap .i64 (r0.2.2.2.2.2.2.2.1+r1.2.2.2.2.2.2.2.1))+(wrap .i64 (Int.tdiv (wrap .i64 ((wrap .i64 (r0.2.2.2.2.2.2.1+r1.2.2.2.2.2.2.1))+(wrap .i64 (Int.tdiv (wrap .i64 ((wrap .i64 (r0.2.2.2.2.2.1+r1.2.2.2.2.2.1))+(wrap .i64 (Int.tdiv (wrap .i64 ((wrap .i64 (r0.2.2.2.2.1+r1.2.2.2.2.1))+(wrap .i64 (Int.tdiv (wrap .i64 ((wrap .i64 (r0.2.2.2.1+r1.2.2.2.1))+(wrap .i64 (Int.tdiv (wrap .i64 ((wrap .i64 (r0.2.2.1+r1.2.2.1))+(wrap .i64 (Int.tdiv (wrap .i64 ((wrap .i64 (r0.2.1+r1.2.1))+(wrap .i64 (Int.tdiv (wrap .i64 ((wrap .i64 (r0.1+r1.1))+0)) (256:Int))))) (256:Int))))) (256:Int))))) (256:Int))))) (256:Int))))) (256:Int))))) (256:Int))))) (256:Int))))) (256:Int))))) (256:Int))))) (256:Int))))) (256:Int))))) (256:Int))))) (256:Int))))) (256:Int)),(Int.tmod (wrap .i64 ((wrap .i64 (r0.2.2.2.2.2.2.2.2.2.2.2.2.2.2.2+r1.2.2.2.2.2.2.2.2.2.2.2.2.2.2.2))+(wrap .i64 (Int.tdiv (wrap .i64 ((wrap .i64 (r0.2.2.2.2.2.2.2.2.2.2.2.2.2.2.1+r1.2.2.2.2.2.2.2.2.2.2.2.2.2.2.1))+(wrap .i64 (Int.tdiv (wrap .i64 ((wrap .i64 (r0.2.2.2.2.2.2.2.2.2.2.2.2.2.1+r1.2.2.2.2.2.2.2.2.2.2.2.2.2.1))+(wrap .i64 (Int.tdiv (wrap .i64 ((wrap .i64 (r0.2.2.2.2.2.2.2.2.2.2.2.2.1+r1.2.2.2.2.2.2.2.2.2.2.2.2.1))+(wrap .i64 (Int.tdiv (wrap .i64 ((wrap .i64 (r0.2.2.2.2.2.2.2.2.2.2.2.1+r1.2.2.2.2.2.2.2.2.2.2.2.1))+(wrap .i64 (Int.tdiv (wrap .i64 ((wrap .i64 (r0.2.2.2.2.2.2.2.2.2.2.1+r1.2.2.2.2.2.2.2.2.2.2.1))+(wrap .i64 (Int.tdiv (wrap .i64 ((wrap .i64 (r0.2.2.2.2.2.2.2.2.2.1+r1.2.2.2.2.2.2.2.2.2.1))+(wrap .i64 (Int.tdiv (wrap .i64 ((wrap .i64 (r0.2.2.2.2.2.2.2.2.1+r1.2.2.2.2.2.2.2.2.1))+(wrap .i64 (Int.tdiv (wrap .i64 ((wrap .i64 (r0.2.2.2.2.2.2.2.1+r1.2.2.2.2.2.2.2.1))+(wrap .i64 (Int.tdiv (wrap .i64 ((wrap .i64 (r0.2.2.2.2.2.2.1+r1.2.2.2.2.2.2.1))+(wrap .i64 (Int.tdiv (wrap .i64 ((wrap .i64 (r0.2.2.2.2.2.1+r1.2.2.2.2.2.1))+(wrap .i64 (Int.tdiv (wrap .i64 ((wrap .i64 (r0.2.2.2.2.1+r1.2.2.2.2.1))+(wrap .i64 (Int.tdiv (wrap .i64 ((wrap .i64 (r0.2.2.2.1+r1.2.2.2.1))+(wrap .i64 (Int.tdiv (wrap .i64 ((wrap .i64 (r0.2.2.1+r1.2.2.1))+(wrap .i64 (Int.tdiv (wrap .i64 ((wrap .i64 (r0.2.1+r1.2.1))+(wrap .i64 (Int.tdiv (wrap .i64 ((wrap .i64 (r0.1+r1.1))+0)) (256:Int))))) (256:Int))))) (256:Int))))) (256:Int))))) (256:Int))))) (256:Int))))) (256:Int))))) (256:Int))))) (256:Int))))) (256:Int))))) (256:Int))))) (256:Int))))) (256:Int))))) (256:Int))))) (256:Int))))) (256:Int)))))))))))))))))) fun r2 =>
 some (r2,0)):=by kernel_rfl
theorem e2k (n:Nat) (a:(Int×Int)) (b:(Int×Int)):e1b (n+1) a b =
 a0a (k0i n a b) fun r0 =>
 tif (r0) (
 some ((0,0),1)) (
 a0a (f0e n a) fun r1 =>
 a0a (f0e n b) fun r2 =>
 tif (16=((((((((((((((((1+1)+1)+1)+1)+1)+1)+1)+1)+1)+1)+1)+1)+1)+1)+1) / 1)) (
 tif (16=((((((((((((((((1+1)+1)+1)+1)+1)+1)+1)+1)+1)+1)+1)+1)+1)+1)+1) / 1)) (
 a0a (k0t n a0b ((0,0),((r1.1::(r1.2.1::(r1.2.2.1::(r1.2.2.2.1::(r1.2.2.2.2.1::(r1.2.2.2.2.2.1::(r1.2.2.2.2.2.2.1::(r1.2.2.2.2.2.2.2.1::(r1.2.2.2.2.2.2.2.2.1::(r1.2.2.2.2.2.2.2.2.2.1::(r1.2.2.2.2.2.2.2.2.2.2.1::(r1.2.2.2.2.2.2.2.2.2.2.2.1::(r1.2.2.2.2.2.2.2.2.2.2.2.2.1::(r1.2.2.2.2.2.2.2.2.2.2.2.2.2.1::(r1.2.2.2.2.2.2.2.2.2.2.2.2.2.2.1::(r1.2.2.2.2.2.2.2.2.2.2.2.2.2.2.2::[])))))))))))))))),((r2.1::(r2.2.1::(r2.2.2.1::(r2.2.2.2.1::(r2.2.2.2.2.1::(r2.2.2.2.2.2.1::(r2.2.2.2.2.2.2.1::(r2.2.2.2.2.2.2.2.1::(r2.2.2.2.2.2.2.2.2.1::(r2.2.2.2.2.2.2.2.2.2.1::(r2.2.2.2.2.2.2.2.2.2.2.1::(r2.2.2.2.2.2.2.2.2.2.2.2.1::(r2.2.2.2.2.2.2.2.2.2.2.2.2.1::(r2.2.2.2.2.2.2.2.2.2.2.2.2.2.1::(r2.2.2.2.2.2.2.2.2.2.2.2.2.2.2.1::(r2.2.2.2.2.2.2.2.2.2.2.2.2.2.2.2::[])))))))))))))))),(0,(0,())))))) fun r3 =>
 b0x (fun y4 =>
 a0a ((y4.2.1)[0]?) fun r5 =>
 a0a ((y4.2.1)[1]?) fun r6 =>
 a0a ((y4.2.1)[2]?) fun r7 =>
 a0a ((y4.2.1)[3]?) fun r8 =>
 a0a ((y4.2.1)[4]?) fun r9 =>
 a0a ((y4.2.1)[5]?) fun r10 =>
 a0a ((y4.2.1)[6]?) fun r11 =>
 a0a ((y4.2.1)[7]?) fun r12 =>
 a0a ((y4.2.1)[8]?) fun r13 =>
 a0a ((y4.2.1)[9]?) fun r14 =>
 a0a ((y4.2.1)[10]?) fun r15 =>
 a0a ((y4.2.1)[11]?) fun r16 =>
 a0a ((y4.2.1)[12]?) fun r17 =>
 a0a ((y4.2.1)[13]?) fun r18 =>
 a0a ((y4.2.1)[14]?) fun r19 =>
 a0a ((y4.2.1)[15]?) fun r20 =>
 a0a (a1x n (r5,(r6,(r7,(r8,(r9,(r10,(r11,(r12,(r13,(r14,(r15,(r16,(r17,(r18,(r19,r20)))))))))))))))) fun r21 =>
 some (r21,0)) (fun z22 =>
 some z22) r3) (
 none)) (
 none)):=by kernel_rfl
theorem x0k (n f:Nat) (s4:(Int×Int)) (x:(List Int)) (y:(List Int)) (owed:Int) (s19:Int):k0t n (f+1) (s4,x,y,owed,s19,()) =
 tif (s19<16) (
 tif (((0:Int)<=s19)&&((s19<16)&&(s19<(x.length:Int)))) (
 a0a ((x)[(Int.toNat s19)]?) fun r0 =>
 tif (((0:Int)<=s19)&&((s19<16)&&(s19<(y.length:Int)))) (
 a0a ((y)[(Int.toNat s19)]?) fun r1 =>
 tif ((wrap .i64 ((wrap .i64 (r0-r1))-owed))<0) (
 tif (((0:Int)<=s19)&&((s19<16)&&(s19<(x.length:Int)))) (
 a0a ((x)[(Int.toNat s19)]?) fun r2 =>
 k0t n f (s4,((List.set x (Int.toNat s19) (wrap .i64 ((wrap .i64 ((wrap .i64 (r0-r1))-owed))+256))),(y,(1,((wrap .i64 (s19+1)),())))))) (
 none)) (
 tif (((0:Int)<=s19)&&((s19<16)&&(s19<(x.length:Int)))) (
 a0a ((x)[(Int.toNat s19)]?) fun r3 =>
 k0t n f (s4,((List.set x (Int.toNat s19) (wrap .i64 ((wrap .i64 (r0-r1))-owed))),(y,(0,((wrap .i64 (s19+1)),())))))) (
 none))) (
 none)) (
 none)) (
 some (.inl (s4,(x,())))):=by kernel_rfl
theorem y1m (n:Nat) (a:(Int×Int)) (b:(Int×Int)):k0i (n+1) a b =
 a0a (f0e n a) fun r0 =>
 a0a (f0e n b) fun r1 =>
 tif (!(r0.2.2.2.2.2.2.2.2.2.2.2.2.2.2.2=r1.2.2.2.2.2.2.2.2.2.2.2.2.2.2.2)) (
 some (decide (r0.2.2.2.2.2.2.2.2.2.2.2.2.2.2.2<r1.2.2.2.2.2.2.2.2.2.2.2.2.2.2.2))) (
 tif (!(r0.2.2.2.2.2.2.2.2.2.2.2.2.2.2.1=r1.2.2.2.2.2.2.2.2.2.2.2.2.2.2.1)) (
 some (decide (r0.2.2.2.2.2.2.2.2.2.2.2.2.2.2.1<r1.2.2.2.2.2.2.2.2.2.2.2.2.2.2.1))) (
 tif (!(r0.2.2.2.2.2.2.2.2.2.2.2.2.2.1=r1.2.2.2.2.2.2.2.2.2.2.2.2.2.1)) (
 some (decide (r0.2.2.2.2.2.2.2.2.2.2.2.2.2.1<r1.2.2.2.2.2.2.2.2.2.2.2.2.2.1))) (
 tif (!(r0.2.2.2.2.2.2.2.2.2.2.2.2.1=r1.2.2.2.2.2.2.2.2.2.2.2.2.1)) (
 some (decide (r0.2.2.2.2.2.2.2.2.2.2.2.2.1<r1.2.2.2.2.2.2.2.2.2.2.2.2.1))) (
 tif (!(r0.2.2.2.2.2.2.2.2.2.2.2.1=r1.2.2.2.2.2.2.2.2.2.2.2.1)) (
 some (decide (r0.2.2.2.2.2.2.2.2.2.2.2.1<r1.2.2.2.2.2.2.2.2.2.2.2.1))) (
 tif (!(r0.2.2.2.2.2.2.2.2.2.2.1=r1.2.2.2.2.2.2.2.2.2.2.1)) (
 some (decide (r0.2.2.2.2.2.2.2.2.2.2.1<r1.2.2.2.2.2.2.2.2.2.2.1))) (
 tif (!(r0.2.2.2.2.2.2.2.2.2.1=r1.2.2.2.2.2.2.2.2.2.1)) (
 some (decide (r0.2.2.2.2.2.2.2.2.2.1<r1.2.2.2.2.2.2.2.2.2.1))) (
 tif (!(r0.2.2.2.2.2.2.2.2.1=r1.2.2.2.2.2.2.2.2.1)) (
 some (decide (r0.2.2.2.2.2.2.2.2.1<r1.2.2.2.2.2.2.2.2.1))) (
 tif (!(r0.2.2.2.2.2.2.2.1=r1.2.2.2.2.2.2.2.1)) (
 some (decide (r0.2.2.2.2.2.2.2.1<r1.2.2.2.2.2.2.2.1))) (
 tif (!(r0.2.2.2.2.2.2.1=r1.2.2.2.2.2.2.1)) (
 some (decide (r0.2.2.2.2.2.2.1<r1.2.2.2.2.2.2.1))) (
 tif (!(r0.2.2.2.2.2.1=r1.2.2.2.2.2.1)) (
 some (decide (r0.2.2.2.2.2.1<r1.2.2.2.2.2.1))) (
 tif (!(r0.2.2.2.2.1=r1.2.2.2.2.1)) (
 some (decide (r0.2.2.2.2.1<r1.2.2.2.2.1))) (
 tif (!(r0.2.2.2.1=r1.2.2.2.1)) (
 some (decide (r0.2.2.2.1<r1.2.2.2.1))) (
 tif (!(r0.2.2.1=r1.2.2.1)) (
 some (decide (r0.2.2.1<r1.2.2.1))) (
 tif (!(r0.2.1=r1.2.1)) (
 some (decide (r0.2.1<r1.2.1))) (
 tif (!(r0.1=r1.1)) (
 some (decide (r0.1<r1.1))) (
 some false)))))))))))))))):=by kernel_rfl
theorem i2k (n:Nat) (l:(Int×(Int×(Int×(Int×(Int×(Int×(Int×(Int×(Int×(Int×(Int×(Int×(Int×(Int×(Int×Int)))))))))))))))):a1x (n+1) l =
 some ((orI .u64 (orI .u64 (orI .u64 (orI .u64 (orI .u64 (orI .u64 (orI .u64 (orI .u64 (0:Int) (shlI .u64 (wrap .u64 l.2.2.2.2.2.2.2.2.1) (0:Int))) (shlI .u64 (wrap .u64 l.2.2.2.2.2.2.2.2.2.1) (8:Int))) (shlI .u64 (wrap .u64 l.2.2.2.2.2.2.2.2.2.2.1) (16:Int))) (shlI .u64 (wrap .u64 l.2.2.2.2.2.2.2.2.2.2.2.1) (24:Int))) (shlI .u64 (wrap .u64 l.2.2.2.2.2.2.2.2.2.2.2.2.1) (32:Int))) (shlI .u64 (wrap .u64 l.2.2.2.2.2.2.2.2.2.2.2.2.2.1) (40:Int))) (shlI .u64 (wrap .u64 l.2.2.2.2.2.2.2.2.2.2.2.2.2.2.1) (48:Int))) (shlI .u64 (wrap .u64 l.2.2.2.2.2.2.2.2.2.2.2.2.2.2.2) (56:Int))),(orI .u64 (orI .u64 (orI .u64 (orI .u64 (orI .u64 (orI .u64 (orI .u64 (orI .u64 (0:Int) (shlI .u64 (wrap .u64 l.1) (0:Int))) (shlI .u64 (wrap .u64 l.2.1) (8:Int))) (shlI .u64 (wrap .u64 l.2.2.1) (16:Int))) (shlI .u64 (wrap .u64 l.2.2.2.1) (24:Int))) (shlI .u64 (wrap .u64 l.2.2.2.2.1) (32:Int))) (shlI .u64 (wrap .u64 l.2.2.2.2.2.1) (40:Int))) (shlI .u64 (wrap .u64 l.2.2.2.2.2.2.1) (48:Int))) (shlI .u64 (wrap .u64 l.2.2.2.2.2.2.2.1) (56:Int)))):=by kernel_rfl
theorem x1g (n:Nat) (s:a0m) (k:Int):w0r (n+1) s k =
 a0a (h0s n s) fun r0 =>
 tif (!(r0=0)) (
 some (0,(0,2))) (
 tif (k<0) (
 some (0,(0,1))) (
 tif ((2:Int)<k) (
 some (0,(0,1))) (
 tif (k=0) (
 tif (k=0) (
 a0a (d0w n s.2.1 s.1.2.1.1 s.1.2.2.1.1) fun r1 =>
 tif (k=0) (
 a0a (d0g n s.2.1 s.1.2.1.1) fun r2 =>
 some (r1.1,(r2.1,0))) (
 tif (k=1) (
 a0a (d0g n s.2.1 s.1.2.1.2.1) fun r3 =>
 some (r1.1,(r3.1,0))) (
 tif (k=2) (
 a0a (d0g n s.2.1 s.1.2.1.2.2) fun r4 =>
 some (r1.1,(r4.1,0))) (
 none)))) (
 tif (k=1) (
 a0a (d0w n s.2.1 s.1.2.1.1 s.1.2.2.1.2.1) fun r5 =>
 tif (k=0) (
 a0a (d0g n s.2.1 s.1.2.1.1) fun r6 =>
 some (r5.1,(r6.1,0))) (
 tif (k=1) (
 a0a (d0g n s.2.1 s.1.2.1.2.1) fun r7 =>
 some (r5.1,(r7.1,0))) (
 tif (k=2) (
 a0a (d0g n s.2.1 s.1.2.1.2.2) fun r8 =>
 some (r5.1,(r8.1,0))) (
 none)))) (
 tif (k=2) (
 a0a (d0w n s.2.1 s.1.2.1.1 s.1.2.2.1.2.2) fun r9 =>
 tif (k=0) (
 a0a (d0g n s.2.1 s.1.2.1.1) fun r10 =>
 some (r9.1,(r10.1,0))) (
 tif (k=1) (
 a0a (d0g n s.2.1 s.1.2.1.2.1) fun r11 =>
 some (r9.1,(r11.1,0))) (
 tif (k=2) (
 a0a (d0g n s.2.1 s.1.2.1.2.2) fun r12 =>
 some (r9.1,(r12.1,0))) (
 none)))) (
 none)))) (
 tif (k=1) (
 tif (k=0) (
 a0a (d0w n s.2.1 s.1.2.1.2.1 s.1.2.2.1.1) fun r13 =>
 tif (k=0) (
 a0a (d0g n s.2.1 s.1.2.1.1) fun r14 =>
 some (r13.1,(r14.1,0))) (
 tif (k=1) (
 a0a (d0g n s.2.1 s.1.2.1.2.1) fun r15 =>
 some (r13.1,(r15.1,0))) (
 tif (k=2) (
 a0a (d0g n s.2.1 s.1.2.1.2.2) fun r16 =>
 some (r13.1,(r16.1,0))) (
 none)))) (
 tif (k=1) (
 a0a (d0w n s.2.1 s.1.2.1.2.1 s.1.2.2.1.2.1) fun r17 =>
 tif (k=0) (
 a0a (d0g n s.2.1 s.1.2.1.1) fun r18 =>
 some (r17.1,(r18.1,0))) (
 tif (k=1) (
 a0a (d0g n s.2.1 s.1.2.1.2.1) fun r19 =>
 some (r17.1,(r19.1,0))) (
 tif (k=2) (
 a0a (d0g n s.2.1 s.1.2.1.2.2) fun r20 =>
 some (r17.1,(r20.1,0))) (
 none)))) (
 tif (k=2) (
 a0a (d0w n s.2.1 s.1.2.1.2.1 s.1.2.2.1.2.2) fun r21 =>
 tif (k=0) (
 a0a (d0g n s.2.1 s.1.2.1.1) fun r22 =>
 some (r21.1,(r22.1,0))) (
 tif (k=1) (
 a0a (d0g n s.2.1 s.1.2.1.2.1) fun r23 =>
 some (r21.1,(r23.1,0))) (
 tif (k=2) (
 a0a (d0g n s.2.1 s.1.2.1.2.2) fun r24 =>
 some (r21.1,(r24.1,0))) (
 none)))) (
 none)))) (
 tif (k=2) (
 tif (k=0) (
 a0a (d0w n s.2.1 s.1.2.1.2.2 s.1.2.2.1.1) fun r25 =>
 tif (k=0) (
 a0a (d0g n s.2.1 s.1.2.1.1) fun r26 =>
 some (r25.1,(r26.1,0))) (
 tif (k=1) (
 a0a (d0g n s.2.1 s.1.2.1.2.1) fun r27 =>
 some (r25.1,(r27.1,0))) (
 tif (k=2) (
 a0a (d0g n s.2.1 s.1.2.1.2.2) fun r28 =>
 some (r25.1,(r28.1,0))) (
 none)))) (
 tif (k=1) (
 a0a (d0w n s.2.1 s.1.2.1.2.2 s.1.2.2.1.2.1) fun r29 =>
 tif (k=0) (
 a0a (d0g n s.2.1 s.1.2.1.1) fun r30 =>
 some (r29.1,(r30.1,0))) (
 tif (k=1) (
 a0a (d0g n s.2.1 s.1.2.1.2.1) fun r31 =>
 some (r29.1,(r31.1,0))) (
 tif (k=2) (
 a0a (d0g n s.2.1 s.1.2.1.2.2) fun r32 =>
 some (r29.1,(r32.1,0))) (
 none)))) (
 tif (k=2) (
 a0a (d0w n s.2.1 s.1.2.1.2.2 s.1.2.2.1.2.2) fun r33 =>
 tif (k=0) (
 a0a (d0g n s.2.1 s.1.2.1.1) fun r34 =>
 some (r33.1,(r34.1,0))) (
 tif (k=1) (
 a0a (d0g n s.2.1 s.1.2.1.2.1) fun r35 =>
 some (r33.1,(r35.1,0))) (
 tif (k=2) (
 a0a (d0g n s.2.1 s.1.2.1.2.2) fun r36 =>
 some (r33.1,(r36.1,0))) (
 none)))) (
 none)))) (
 none)))))):=by kernel_rfl
theorem e2c (n:Nat) (l:(List a0c)) (i:Int):z0h (n+1) l i =
 tif (i<0) (
 some (0,((0,(0,(0,false))),((0,(0,(0,false))),((0,0),(0,(0,0))))))) (
 tif ((l.length:Int)=0) (
 some (0,((0,(0,(0,false))),((0,(0,(0,false))),((0,0),(0,(0,0))))))) (
 a0a (c1f n i (l.length:Int)) fun r0 =>
 a0a (at? l r0) fun r1 =>
 tif (!(r1.1=i)) (
 some (0,((0,(0,(0,false))),((0,(0,(0,false))),((0,0),(0,(0,0))))))) (
 some r1.2))):=by kernel_rfl
theorem e2e (n:Nat) (l:(List b0v)):y1a (n+1) l =
 a0a (o0d n a0b ((0,((0,(0,(0,false))),((0,(0,(0,false))),((0,0),(0,(0,0)))))),((0,((0,(0,(0,false))),((0,(0,(0,false))),((0,0),(0,(0,0)))))),(l,((l.length:Int),(0,())))))) fun r0 =>
 b0x (fun y1 =>
 some (y1.2.1,0)) (fun z2 =>
 some z2) r0:=by kernel_rfl
theorem x0f (n f:Nat) (s2:b0v) (c:b0v) (s9:(List b0v)) (s10:Int) (s11:Int):o0d n (f+1) (s2,c,s9,s10,s11,()) =
 tif (s11<s10) (
 a0a (at? s9 s11) fun r0 =>
 a0a (j0m n c r0) fun r1 =>
 tif (!(r1.2=0)) (
 some (.inr ((0,((0,(0,(0,false))),((0,(0,(0,false))),((0,0),(0,(0,0)))))),r1.2))) (
 o0d n f (s2,(r1.1,(s9,(s10,((wrap .i64 (s11+1)),()))))))) (
 some (.inl (s2,(c,())))):=by kernel_rfl
theorem x0d (n:Nat) (c:b0p) (tier:Int):o0b (n+1) c tier =
 a0a (h0w n c) fun r0 =>
 tif (!(r0=0)) (
 some (0:Int)) (
 tif (tier<1) (
 some (0:Int)) (
 tif ((2:Int)<tier) (
 some (0:Int)) (
 tif (tier=0) (
 tif ((wrap .i64 (tier-1))=0) (
 tif (c.2.1.1=0) (
 none) (
 some (wrap .i64 (Int.tdiv c.2.1.1 c.2.1.1)))) (
 tif ((wrap .i64 (tier-1))=1) (
 tif (c.2.1.2.1=0) (
 none) (
 some (wrap .i64 (Int.tdiv c.2.1.1 c.2.1.2.1)))) (
 tif ((wrap .i64 (tier-1))=2) (
 tif (c.2.1.2.2=0) (
 none) (
 some (wrap .i64 (Int.tdiv c.2.1.1 c.2.1.2.2)))) (
 none)))) (
 tif (tier=1) (
 tif ((wrap .i64 (tier-1))=0) (
 tif (c.2.1.1=0) (
 none) (
 some (wrap .i64 (Int.tdiv c.2.1.2.1 c.2.1.1)))) (
 tif ((wrap .i64 (tier-1))=1) (
 tif (c.2.1.2.1=0) (
 none) (
 some (wrap .i64 (Int.tdiv c.2.1.2.1 c.2.1.2.1)))) (
 tif ((wrap .i64 (tier-1))=2) (
 tif (c.2.1.2.2=0) (
 none) (
 some (wrap .i64 (Int.tdiv c.2.1.2.1 c.2.1.2.2)))) (
 none)))) (
 tif (tier=2) (
 tif ((wrap .i64 (tier-1))=0) (
 tif (c.2.1.1=0) (
 none) (
 some (wrap .i64 (Int.tdiv c.2.1.2.2 c.2.1.1)))) (
 tif ((wrap .i64 (tier-1))=1) (
 tif (c.2.1.2.1=0) (
 none) (
 some (wrap .i64 (Int.tdiv c.2.1.2.2 c.2.1.2.1)))) (
 tif ((wrap .i64 (tier-1))=2) (
 tif (c.2.1.2.2=0) (
 none) (
 some (wrap .i64 (Int.tdiv c.2.1.2.2 c.2.1.2.2)))) (
 none)))) (
 none)))))):=by kernel_rfl
theorem g1d (n:Nat) (p:b0d) (c:b0d):v0e (n+1) p c =
 a0a (l0u n p) fun r0 =>
 tif (!(r0=0)) (
 some ((0,((0,(0,(0,false))),((0,(0,(0,false))),((0,0),(0,(0,0)))))),2)) (
 a0a (l0u n c) fun r1 =>
 tif (!(r1=0)) (
 some ((0,((0,(0,(0,false))),((0,(0,(0,false))),((0,0),(0,(0,0)))))),2)) (
 tif (c.1<=p.1) (
 some ((0,((0,(0,(0,false))),((0,(0,(0,false))),((0,0),(0,(0,0)))))),9)) (
 tif (c.2.2.2) (
 some ((0,((0,(0,(0,false))),((0,(0,(0,false))),((0,0),(0,(0,0)))))),0)) (
 tif (p.1<c.2.2.1) (
 some ((0,((0,(0,(0,false))),((0,(0,(0,false))),((0,c.2.1),(1,(0,(wrap .i64 (c.1-c.2.2.1)))))))),0)) (
 tif (p.2.2.2) (
 some ((0,((0,(0,(0,false))),((0,(0,(0,false))),((0,0),(0,(1,0)))))),0)) (
 tif (c.2.1<p.2.1) (
 some ((0,((0,(0,(0,false))),((0,(0,(0,false))),((0,c.2.1),(1,(0,(wrap .i64 (c.1-p.1)))))))),0)) (
 some ((0,((0,(0,(0,false))),((0,(0,(0,false))),((0,(wrap .u64 (c.2.1-p.2.1))),(0,(0,(wrap .i64 (c.1-p.1)))))))),0)))))))):=by kernel_rfl
theorem e2j (n:Nat) (l:(List (Int×Int))):y1l (n+1) l =
 a0a (t0g n a0b ((0,0),((0,0),(l,((l.length:Int),(0,())))))) fun r0 =>
 b0x (fun y1 =>
 some (y1.2.1,0)) (fun z2 =>
 some z2) r0:=by kernel_rfl
theorem x0j (n f:Nat) (s2:(Int×Int)) (a:(Int×Int)) (s9:(List (Int×Int))) (s10:Int) (s11:Int):t0g n (f+1) (s2,a,s9,s10,s11,()) =
 tif (s11<s10) (
 a0a (at? s9 s11) fun r0 =>
 a0a (n0g n a r0) fun r1 =>
 tif (!(r1.2=0)) (
 some (.inr ((0,0),r1.2))) (
 t0g n f (s2,(r1.1,(s9,(s10,((wrap .i64 (s11+1)),()))))))) (
 some (.inl (s2,(a,())))):=by kernel_rfl
theorem t1f (n:Nat) (a:(Int×Int)) (n_:Int):l0y (n+1) a n_ =
 a0a (d0m n a0b (n_,(a,((0,0),((0,0),(false,())))))) fun r0 =>
 b0x (fun y1 =>
 some (y1.2.1,0)) (fun z2 =>
 some z2) r0:=by kernel_rfl
theorem h0x (n f:Nat) (n_:Int) (a_:(Int×Int)) (s4:(Int×Int)) (out:(Int×Int)) (over:Bool):d0m n (f+1) (n_,a_,s4,out,over,()) =
 tif ((0:Int)<n_) (
 tif ((Int.tmod n_ (2:Int))=1) (
 tif (over) (
 some (.inr ((0,0),1))) (
 a0a (n0g n out a_) fun r0 =>
 tif (!(r0.2=0)) (
 some (.inr ((0,0),r0.2))) (
 a0a (n0g n a_ a_) fun r1 =>
 tif (over) (
 d0m n f ((wrap .u64 (Int.tdiv n_ (2:Int))),(r1.1,(s4,(r0.1,(true,())))))) (
 d0m n f ((wrap .u64 (Int.tdiv n_ (2:Int))),(r1.1,(s4,(r0.1,((!(decide (r1.2=0))),()))))))))) (
 a0a (n0g n a_ a_) fun r2 =>
 tif (over) (
 d0m n f ((wrap .u64 (Int.tdiv n_ (2:Int))),(r2.1,(s4,(out,(true,())))))) (
 d0m n f ((wrap .u64 (Int.tdiv n_ (2:Int))),(r2.1,(s4,(out,((!(decide (r2.2=0))),())))))))) (
 some (.inl (s4,(out,())))):=by kernel_rfl
theorem n1x (n:Nat) (num:(Int×Int)) (den:(Int×Int)):z0i (n+1) num den =
 tif ((den.1=0)&&(den.2=0)) (
 some (((0,0),(0,0)),1)) (
 a0a (o1a n num den) fun r0 =>
 a0a (s0b n num r0) fun r1 =>
 a0a (s0b n den r0) fun r2 =>
 some ((r1.1,r2.1),0)):=by kernel_rfl
theorem p1y (n:Nat) (n_:Int) (by_:Int):k0y (n+1) n_ by_ =
 tif (by_=0) (
 none) (
 some (wrap .i64 (Int.tdiv (wrap .i64 ((wrap .i64 (n_+by_))-1)) by_))):=by kernel_rfl
theorem p1g (n:Nat) (c:b0p) (s:((List a0c)×((List a0c)×(List a0c)))):z0z (n+1) c s =
 a0a (e1s n c s) fun r0 =>
 oelim (r0.1) (
 some r0.2) fun r1 =>
 some r0.2:=by kernel_rfl
theorem r1v (n:Nat) (r:(Int×(Int×(List b0d)))) (room:Int):d1m (n+1) r room =
 tif (room<1) (
 some (2:Int)) (
 tif ((4096:Int)<room) (
 some (2:Int)) (
 tif (room<(r.2.2.length:Int)) (
 some (2:Int)) (
 tif (r.1<0) (
 some (2:Int)) (
 tif ((70368744177664:Int)<r.1) (
 some (2:Int)) (
 a0a (z0c n r.2.2) fun r0 =>
 tif (!r0) (
 some (2:Int)) (
 a0a (k1n n r room) fun r1 =>
 tif (!r1) (
 some (2:Int)) (
 some (0:Int)))))))):=by kernel_rfl
theorem r1l (n:Nat) (s:c0n):d1d (n+1) s =
 tif ((s.2.2.2.1.2.2.length:Int)=0) (
 tif ((decide (s.2.2.2.2.2.1=0))&&((decide (s.2.2.2.2.2.2.1=0))&&((decide (s.2.2.2.2.2.2.2.1.1=0))&&((decide (s.2.2.2.2.2.2.2.1.2.1=0))&&((decide (s.2.2.2.2.2.2.2.1.2.2.1=0))&&((s.2.2.2.2.2.2.2.1.2.2.2==false)&&((decide (s.2.2.2.2.2.2.2.2.1.1=0))&&((decide (s.2.2.2.2.2.2.2.2.1.2.1=0))&&((decide (s.2.2.2.2.2.2.2.2.1.2.2.1=0))&&((s.2.2.2.2.2.2.2.2.1.2.2.2==false)&&((decide (s.2.2.2.2.2.2.2.2.2.1.1=0))&&((decide (s.2.2.2.2.2.2.2.2.2.1.2=0))&&((decide (s.2.2.2.2.2.2.2.2.2.2.1=0))&&((decide (s.2.2.2.2.2.2.2.2.2.2.2.1=0))&&(decide (s.2.2.2.2.2.2.2.2.2.2.2.2=0)))))))))))))))) (
 a0a (d0y n s.2.2.2.2.1.1 (0:Int)) fun r0 =>
 tif (!r0) (
 a0a (d0y n s.2.2.2.2.1.2.1 (0:Int)) fun r1 =>
 tif (!r1) (
 a0a (d0y n s.2.2.2.2.1.2.2 (0:Int)) fun r2 =>
 some (!r2)) (
 some false)) (
 some false)) (
 some false)) (
 some false):=by kernel_rfl
theorem w1l (n:Nat) (s:c0n):c1d (n+1) s =
 a0a (m1x n s.2.2.2.1) fun r0 =>
 tif (r0.2=0) (
 tif (r0.1.1=s.2.2.1) (
 tif (s.2.2.2.2.2.2.2.2.1.1=s.2.2.1) (
 a0a (v0z n s.2.2.2.2.2.2 s.1.2.1.1 s.2.2.2.2.2.1) fun r1 =>
 tif (r1) (
 tif (s.1.2.1.1=0) (
 none) (
 a0a (d0y n s.2.2.2.2.1.1 (wrap .i64 (Int.tdiv s.2.2.1 s.1.2.1.1))) fun r2 =>
 tif (!r2) (
 tif (s.1.2.1.2.1=0) (
 none) (
 a0a (d0y n s.2.2.2.2.1.2.1 (wrap .i64 (Int.tdiv s.2.2.1 s.1.2.1.2.1))) fun r3 =>
 tif (!r3) (
 tif (s.1.2.1.2.2=0) (
 none) (
 a0a (d0y n s.2.2.2.2.1.2.2 (wrap .i64 (Int.tdiv s.2.2.1 s.1.2.1.2.2))) fun r4 =>
 some (!r4))) (
 some false))) (
 some false))) (
 some false)) (
 some false)) (
 some false)) (
 some false):=by kernel_rfl
theorem w1y (n:Nat) (a:(Int×(Int×(List b0d)))) (b:(Int×(Int×(List b0d)))):a2i (n+1) a b =
 tif (a.1=b.1) (
 tif (a.2.1=b.2.1) (
 a0a (m0z n a.2.2 b.2.2) fun r0 =>
 some r0) (
 some false)) (
 some false):=by kernel_rfl
theorem b1p (n:Nat) (s1:(List a0c)) (s2:(List a0c)):h0o (n+1) s1 s2 =
 tif (!((s1.length:Int)=(s2.length:Int))) (
 some false) (
 a0a (g0p n a0b (s1,(s2,((s1.length:Int),(0,()))))) fun r0 =>
 b0x (fun y1 =>
 some true) (fun z2 =>
 some z2) r0):=by kernel_rfl
theorem l0l (n f:Nat) (s1:(List a0c)) (s2:(List a0c)) (s12:Int) (s13:Int):g0p n (f+1) (s1,s2,s12,s13,()) =
 tif (s13<s12) (
 a0a (at? s1 s13) fun r0 =>
 a0a (at? s2 s13) fun r1 =>
 tif (!((decide (r0.1=r1.1))&&((decide (r0.2.1=r1.2.1))&&((decide (r0.2.2.1.1=r1.2.2.1.1))&&((decide (r0.2.2.1.2.1=r1.2.2.1.2.1))&&((decide (r0.2.2.1.2.2.1=r1.2.2.1.2.2.1))&&((r0.2.2.1.2.2.2==r1.2.2.1.2.2.2)&&((decide (r0.2.2.2.1.1=r1.2.2.2.1.1))&&((decide (r0.2.2.2.1.2.1=r1.2.2.2.1.2.1))&&((decide (r0.2.2.2.1.2.2.1=r1.2.2.2.1.2.2.1))&&((r0.2.2.2.1.2.2.2==r1.2.2.2.1.2.2.2)&&((decide (r0.2.2.2.2.1.1=r1.2.2.2.2.1.1))&&((decide (r0.2.2.2.2.1.2=r1.2.2.2.2.1.2))&&((decide (r0.2.2.2.2.2.1=r1.2.2.2.2.2.1))&&((decide (r0.2.2.2.2.2.2.1=r1.2.2.2.2.2.2.1))&&(decide (r0.2.2.2.2.2.2.2=r1.2.2.2.2.2.2.2))))))))))))))))) (
 some (.inr false)) (
 g0p n f (s1,(s2,(s12,((wrap .i64 (s13+1)),())))))) (
 some (.inl ())):=by kernel_rfl
theorem f1s (n:Nat) (c:b0p) (last:Int) (now:Int):v0a (n+1) c last now =
 a0a (i0u n c) fun r0 =>
 tif (r0=0) (
 a0a (c1t n last now c.2.1.1 c.2.2.1.1) fun r1 =>
 tif (r1) (
 a0a (c1t n last now c.2.1.2.1 c.2.2.1.2.1) fun r2 =>
 tif (r2) (
 a0a (c1t n last now c.2.1.2.2 c.2.2.1.2.2) fun r3 =>
 tif (r3) (
 some r3) (
 some r3)) (
 some r2)) (
 some r1)) (
 some (decide (r0=0))):=by kernel_rfl
theorem y0z (n:Nat) (s1:(List (List UInt8×List UInt8))) (s2:(List (List UInt8×List UInt8))):m0y (n+1) s1 s2 =
 tif (!((s1.length:Int)=(s2.length:Int))) (
 some false) (
 a0a (f0z n a0b (s1,(s2,((s1.length:Int),(0,()))))) fun r0 =>
 b0x (fun y1 =>
 some true) (fun z2 =>
 some z2) r0):=by kernel_rfl
theorem j0z (n f:Nat) (s1:(List (List UInt8×List UInt8))) (s2:(List (List UInt8×List UInt8))) (s12:Int) (s13:Int):f0z n (f+1) (s1,s2,s12,s13,()) =
 tif (s13<s12) (
 a0a (at? s1 s13) fun r0 =>
 a0a (at? s2 s13) fun r1 =>
 tif (!((r0.1==r1.1)&&(r0.2==r1.2))) (
 some (.inr false)) (
 f0z n f (s1,(s2,(s12,((wrap .i64 (s13+1)),())))))) (
 some (.inl ())):=by kernel_rfl
theorem j1k (n:Nat) (c:Int):q0g (n+1) c =
 tif ((48:Int)<=c) (
 some (decide (c<=57))) (
 some false):=by kernel_rfl
theorem p0i (n:Nat) (s:(List Int)) (f_:((Int×Unit)->Option Bool)):g0j (n+1) s f_ =
 a0a (n0v n s f_) fun r0 =>
 some (decide ((0:Int)<=r0)):=by kernel_rfl
theorem e1n (n:Nat) (c:Int):s0h (n+1) c =
 a0a (z0v n c) fun r0 =>
 some (!r0):=by kernel_rfl
theorem p1a (n:Nat) (c:Int):z0v (n+1) c =
 a0a (q0g n c) fun r0 =>
 tif (r0) (
 some true) (
 tif (c=95) (
 some true) (
 tif ((97:Int)<=(orI .u8 c (32:Int))) (
 some (decide ((orI .u8 c (32:Int))<=122))) (
 some false))):=by kernel_rfl
theorem v1e (n:Nat) (s:a0m) (k:Int):v1f (n+1) s k =
 a0a (h0g n s) fun r0 =>
 tif (!(r0=0)) (
 some r0) (
 tif (k<0) (
 some (1:Int)) (
 tif ((3:Int)<=k) (
 some (1:Int)) (
 some (0:Int)))):=by kernel_rfl
theorem q1s (n:Nat) (now:Int) (w:Int) (n_:Int):f0d (n+1) now w n_ =
 a0a (c2r n now w) fun r0 =>
 tif (!(r0.2=0)) (
 some (0,1)) (
 a0a (q1r n n_ (1:Int) (4096:Int)) fun r1 =>
 tif (!r1) (
 some (0,1)) (
 some ((if (0:Int)<(wrap .i64 ((wrap .i64 (r0.1+1))-n_)) then (wrap .i64 ((wrap .i64 (r0.1+1))-n_)) else (0:Int)),0))):=by kernel_rfl
theorem f1n (n:Nat) (n_:Int) (low:Int) (high:Int):p0a (n+1) n_ low high =
 tif (low<=n_) (
 some (decide (n_<=high))) (
 some false):=by kernel_rfl
theorem r1b (n:Nat) (l:(List a0c)) (i:Int) (k:Int):l0g (n+1) l i k =
 tif (i<0) (
 some ((0,((0,(0,(0,false))),((0,(0,(0,false))),((0,0),(0,(0,0)))))),1)) (
 tif (k<i) (
 some ((0,((0,(0,(0,false))),((0,(0,(0,false))),((0,0),(0,(0,0)))))),1)) (
 a0a (m1c n l) fun r0 =>
 a0a (g0v n a0b (i,(k,((0,((0,(0,(0,false))),((0,(0,(0,false))),((0,0),(0,(0,0)))))),([],(r0,((r0.length:Int),(0,())))))))) fun r1 =>
 b0x (fun y2 =>
 a0a (q1d n y2.2.1) fun r3 =>
 some r3) (fun z4 =>
 some z4) r1)):=by kernel_rfl
theorem q0x (n f:Nat) (i:Int) (k:Int) (s6:b0v) (cells:(List b0v)) (s20:(List a0c)) (s21:Int) (s22:Int):g0v n (f+1) (i,k,s6,cells,s20,s21,s22,()) =
 tif (s22<s21) (
 a0a (at? s20 s22) fun r0 =>
 tif (i<=r0.1) (
 tif (r0.1<k) (
 tif ((((List.length cells)+1)*112)<=140737488355328) (
 g0v n f (i,(k,(s6,((cells++(r0.2::[])),(s20,(s21,((wrap .i64 (s22+1)),())))))))) (
 none)) (
 g0v n f (i,(k,(s6,(cells,(s20,(s21,((wrap .i64 (s22+1)),()))))))))) (
 g0v n f (i,(k,(s6,(cells,(s20,(s21,((wrap .i64 (s22+1)),()))))))))) (
 some (.inl (s6,(cells,())))):=by kernel_rfl
theorem r1k (n:Nat) (s:c0n):l0j (n+1) s (0:Int) =
 some (s.2.2.2.2.2.2,0):=by kernel_rfl
theorem r1j (n:Nat) (s:c0n):l0j (n+1) s (1:Int) =
 tif (s.1.2.1.2.1=0) (
 none) (
 tif (s.1.2.1.1=0) (
 none) (
 tif (s.1.2.1.1=0) (
 none) (
 a0a (l0g n s.2.2.2.2.1.1 (wrap .i64 ((wrap .i64 (Int.tdiv s.2.2.1 s.1.2.1.2.1))*(wrap .i64 (Int.tdiv s.1.2.1.2.1 s.1.2.1.1)))) (wrap .i64 (Int.tdiv s.2.2.1 s.1.2.1.1))) fun r0 =>
 a0a (l0j n s (0:Int)) fun r1 =>
 tif (!(r0.2=0)) (
 some ((0,((0,(0,(0,false))),((0,(0,(0,false))),((0,0),(0,(0,0)))))),(if r0.2<r1.2 then r1.2 else r0.2))) (
 tif (!(r1.2=0)) (
 some ((0,((0,(0,(0,false))),((0,(0,(0,false))),((0,0),(0,(0,0)))))),(if r0.2<r1.2 then r1.2 else r0.2))) (
 a0a (h0e n r0.1 r1.1) fun r2 =>
 some r2))))):=by kernel_rfl
theorem r1i (n:Nat) (s:c0n):l0j (n+1) s (2:Int) =
 tif (s.1.2.1.2.2=0) (
 none) (
 tif (s.1.2.1.2.1=0) (
 none) (
 tif (s.1.2.1.2.1=0) (
 none) (
 a0a (l0g n s.2.2.2.2.1.2.1 (wrap .i64 ((wrap .i64 (Int.tdiv s.2.2.1 s.1.2.1.2.2))*(wrap .i64 (Int.tdiv s.1.2.1.2.2 s.1.2.1.2.1)))) (wrap .i64 (Int.tdiv s.2.2.1 s.1.2.1.2.1))) fun r0 =>
 a0a (l0j n s (1:Int)) fun r1 =>
 tif (!(r0.2=0)) (
 some ((0,((0,(0,(0,false))),((0,(0,(0,false))),((0,0),(0,(0,0)))))),(if r0.2<r1.2 then r1.2 else r0.2))) (
 tif (!(r1.2=0)) (
 some ((0,((0,(0,(0,false))),((0,(0,(0,false))),((0,0),(0,(0,0)))))),(if r0.2<r1.2 then r1.2 else r0.2))) (
 a0a (h0e n r0.1 r1.1) fun r2 =>
 some r2))))):=by kernel_rfl
theorem q1b (n:Nat) (a:b0v) (b:b0v):h0e (n+1) a b =
 a0a (o0t n a) fun r0 =>
 tif (!(r0=0)) (
 some ((0,((0,(0,(0,false))),((0,(0,(0,false))),((0,0),(0,(0,0)))))),2)) (
 a0a (o0t n b) fun r1 =>
 tif (!(r1=0)) (
 some ((0,((0,(0,(0,false))),((0,(0,(0,false))),((0,0),(0,(0,0)))))),2)) (
 a0a (s0p n a) fun r2 =>
 tif (r2) (
 some (b,0)) (
 a0a (s0p n b) fun r3 =>
 tif (r3) (
 some (a,0)) (
 a0a (v1l n a b) fun r4 =>
 some r4)))):=by kernel_rfl
theorem f1u (n:Nat) (a:(Int×Int)) (d:(Int×Int)):p0o (n+1) a d =
 a0a (t0b n a) fun r0 =>
 a0a (t0b n d) fun r1 =>
 a0a (g0o n a0b (a,(d,((0,0),((0,0),((wrap .i64 (r0-r1)),())))))) fun r2 =>
 b0x (fun y3 =>
 some y3.2.1) (fun z4 =>
 some z4) r2:=by kernel_rfl
theorem i0p (n f:Nat) (a_:(Int×Int)) (d_:(Int×Int)) (s4:(Int×Int)) (q:(Int×Int)) (by_:Int):g0o n (f+1) (a_,d_,s4,q,by_,()) =
 tif ((0:Int)<=by_) (
 a0a (w0p n d_ by_) fun r0 =>
 a0a (j0f n a_ r0) fun r1 =>
 tif (r1) (
 g0o n f (a_,(d_,(s4,(q,((wrap .i64 (by_-1)),())))))) (
 a0a (i0r n a_ r0) fun r2 =>
 a0a (q0u n (1:Int)) fun r3 =>
 a0a (w0p n r3 by_) fun r4 =>
 g0o n f (r2,(d_,(s4,(((orI .u64 q.1 r4.1),(orI .u64 q.2 r4.2)),((wrap .i64 (by_-1)),()))))))) (
 some (.inl (s4,(q,())))):=by kernel_rfl
theorem s1p (n:Nat) (n_:Int) (each:Int):n0z (n+1) n_ each =
 a0a (m0n n a0b (n_,(each,(0,())))) fun r0 =>
 b0x (fun y1 =>
 some y1.1) (fun z2 =>
 some z2) r0:=by kernel_rfl
theorem r0v (n f:Nat) (n_:Int) (each:Int) (k:Int):m0n n (f+1) (n_,each,k,()) =
 tif ((0:Int)<n_) (
 m0n n f ((wrap .i64 (n_-each)),(each,((wrap .i64 (k+1)),())))) (
 some (.inl (k,()))):=by kernel_rfl
theorem d1t (n:Nat) (a:(List b0d)) (b:(List b0d)):r0t (n+1) a b =
 tif (!((a.length:Int)=(b.length:Int))) (
 some false) (
 a0a (h0v n a0b (a,(b,((a.length:Int),(0,()))))) fun r0 =>
 b0x (fun y1 =>
 some true) (fun z2 =>
 some z2) r0):=by kernel_rfl
theorem m0m (n f:Nat) (a:(List b0d)) (b:(List b0d)) (s12:Int) (s13:Int):h0v n (f+1) (a,b,s12,s13,()) =
 tif (s13<s12) (
 a0a (at? a s13) fun r0 =>
 a0a (at? b s13) fun r1 =>
 tif (!((decide (r0.1=r1.1))&&((decide (r0.2.1=r1.2.1))&&((decide (r0.2.2.1=r1.2.2.1))&&(r0.2.2.2==r1.2.2.2))))) (
 some (.inr false)) (
 h0v n f (a,(b,(s12,((wrap .i64 (s13+1)),())))))) (
 some (.inl ())):=by kernel_rfl
theorem x1p (n:Nat) (a:(List a0c)) (b:(List a0c)):w0y (n+1) a b =
 tif (!((a.length:Int)=(b.length:Int))) (
 some false) (
 a0a (p0t n a0b (a,(b,((a.length:Int),(0,()))))) fun r0 =>
 b0x (fun y1 =>
 some true) (fun z2 =>
 some z2) r0):=by kernel_rfl
theorem u0e (n f:Nat) (a:(List a0c)) (b:(List a0c)) (s12:Int) (s13:Int):p0t n (f+1) (a,b,s12,s13,()) =
 tif (s13<s12) (
 a0a (at? a s13) fun r0 =>
 a0a (at? b s13) fun r1 =>
 tif (!((decide (r0.1=r1.1))&&((decide (r0.2.1=r1.2.1))&&((decide (r0.2.2.1.1=r1.2.2.1.1))&&((decide (r0.2.2.1.2.1=r1.2.2.1.2.1))&&((decide (r0.2.2.1.2.2.1=r1.2.2.1.2.2.1))&&((r0.2.2.1.2.2.2==r1.2.2.1.2.2.2)&&((decide (r0.2.2.2.1.1=r1.2.2.2.1.1))&&((decide (r0.2.2.2.1.2.1=r1.2.2.2.1.2.1))&&((decide (r0.2.2.2.1.2.2.1=r1.2.2.2.1.2.2.1))&&((r0.2.2.2.1.2.2.2==r1.2.2.2.1.2.2.2)&&((decide (r0.2.2.2.2.1.1=r1.2.2.2.2.1.1))&&((decide (r0.2.2.2.2.1.2=r1.2.2.2.2.1.2))&&((decide (r0.2.2.2.2.2.1=r1.2.2.2.2.2.1))&&((decide (r0.2.2.2.2.2.2.1=r1.2.2.2.2.2.2.1))&&(decide (r0.2.2.2.2.2.2.2=r1.2.2.2.2.2.2.2))))))))))))))))) (
 some (.inr false)) (
 p0t n f (a,(b,(s12,((wrap .i64 (s13+1)),())))))) (
 some (.inl ())):=by kernel_rfl
theorem x1y (n:Nat) (i:Int) (n_:Int):c1f (n+1) i n_ =
 tif (i<0) (
 some (0:Int)) (
 tif (n_<1) (
 some (0:Int)) (
 tif (n_=0) (
 none) (
 some (Int.tmod i n_)))):=by kernel_rfl
theorem n1v (n:Nat) (now:Int) (w:Int) (n_:Int):d0w (n+1) now w n_ =
 a0a (d0g n now w) fun r0 =>
 tif (!(r0.2=0)) (
 some (0,1)) (
 tif (n_<1) (
 some (0,1)) (
 tif ((4096:Int)<n_) (
 some (0,1)) (
 some ((if (wrap .i64 ((wrap .i64 (r0.1-n_))+1))<0 then (0:Int) else (wrap .i64 ((wrap .i64 (r0.1-n_))+1))),0)))):=by kernel_rfl
theorem u1v (n:Nat) (c:b0p) (s:((List a0c)×((List a0c)×(List a0c)))):e1s (n+1) c s =
 a0a (i0u n c) fun r0 =>
 tif (!(r0=0)) (
 some (none,r0)) (
 tif (!((s.1.length:Int)=c.2.2.1.1)) (
 some (none,2)) (
 a0a (n0r n s.1 c.2.1.1) fun r1 =>
 tif (!(r1=0)) (
 some (none,2)) (
 tif (!((s.2.1.length:Int)=c.2.2.1.2.1)) (
 some (none,2)) (
 a0a (n0r n s.2.1 c.2.1.2.1) fun r2 =>
 tif (!(r2=0)) (
 some (none,2)) (
 tif (!((s.2.2.length:Int)=c.2.2.1.2.2)) (
 some (none,2)) (
 a0a (n0r n s.2.2 c.2.1.2.2) fun r3 =>
 tif (!(r3=0)) (
 some (none,2)) (
 some ((some (c,s)),0)))))))):=by kernel_rfl
theorem m1v (n:Nat) (l:(List b0d)):z0c (n+1) l =
 a0a (g0c n a0b (l,(l,((l.length:Int),(0,()))))) fun r0 =>
 b0x (fun y1 =>
 some true) (fun z2 =>
 some z2) r0:=by kernel_rfl
theorem q0q (n f:Nat) (l:(List b0d)) (s5:(List b0d)) (s6:Int) (s7:Int):g0c n (f+1) (l,s5,s6,s7,()) =
 tif (s7<s6) (
 a0a (at? s5 s7) fun r0 =>
 a0a (m0c n r0) fun r1 =>
 tif (!(r1=0)) (
 some (.inr false)) (
 tif ((0:Int)<s7) (
 a0a (at? l (wrap .i64 (s7-1))) fun r2 =>
 a0a (m0r n r2 r0) fun r3 =>
 tif (!r3) (
 some (.inr false)) (
 g0c n f (l,(s5,(s6,((wrap .i64 (s7+1)),())))))) (
 g0c n f (l,(s5,(s6,((wrap .i64 (s7+1)),()))))))) (
 some (.inl ())):=by kernel_rfl
theorem m1w (n:Nat) (r:(Int×(Int×(List b0d)))) (room:Int):k1n (n+1) r room =
 tif (r.1=0) (
 some (decide (r.2.1=0))) (
 tif ((r.2.2.length:Int)=room) (
 tif ((0:Int)<=r.2.1) (
 a0a (at? r.2.2 (0:Int)) fun r0 =>
 some (decide (r.2.1<r0.1))) (
 some false)) (
 some false)):=by kernel_rfl
theorem b1r (n:Nat) (l:(List a0c)) (i:Int):d0y (n+1) l i =
 a0a (g0k n l (fun y0=>l0m n y0.1 i)) fun r1 =>
 some r1:=by kernel_rfl
theorem w1z (n:Nat) (r:(Int×(Int×(List b0d)))):m1x (n+1) r =
 tif ((r.2.2.length:Int)=0) (
 some ((0,(0,(0,false))),3)) (
 a0a (at? r.2.2 (wrap .i64 ((r.2.2.length:Int)-1))) fun r0 =>
 some (r0,0)):=by kernel_rfl
theorem r1c (n:Nat) (c:b0v) (w:Int) (i:Int):v0z (n+1) c w i =
 tif (c.1=0) (
 some false) (
 a0a (o0t n c) fun r0 =>
 tif (!(r0=0)) (
 some false) (
 a0a (f0p n a0b (w,(i,((c.2.1.1,c.2.2.1.1),(0,()))))) fun r1 =>
 b0x (fun y2 =>
 some true) (fun z3 =>
 some z3) r1)):=by kernel_rfl
theorem l0h (n f:Nat) (w:Int) (i:Int) (s25:(Int×Int)) (s26:Int):f0p n (f+1) (w,i,s25,s26,()) =
 tif (s26<2) (
 tif (s26=0) (
 a0a (c2r n s25.1 w) fun r0 =>
 tif (!(r0.2=0)) (
 some (.inr false)) (
 tif (!(r0.1=i)) (
 some (.inr false)) (
 f0p n f (w,(i,(s25,((wrap .i64 (s26+1)),()))))))) (
 tif (s26=1) (
 a0a (c2r n s25.2 w) fun r1 =>
 tif (!(r1.2=0)) (
 some (.inr false)) (
 tif (!(r1.1=i)) (
 some (.inr false)) (
 f0p n f (w,(i,(s25,((wrap .i64 (s26+1)),()))))))) (
 none))) (
 some (.inl ())):=by kernel_rfl
end Go.Proofs.YteopnkdnglpbfaaGreatDoor
