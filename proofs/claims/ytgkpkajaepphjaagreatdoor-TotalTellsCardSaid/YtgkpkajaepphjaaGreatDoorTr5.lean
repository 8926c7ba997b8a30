/- Trees, printed by program. -/
import Derived.Test.YtgkpkajaepphjaaGreatDoorTr0
import Derived.KernelRfl
set_option linter.unusedVariables false
namespace Go.Proofs.YtgkpkajaepphjaaGreatDoor
open Go.Flat
theorem a2o (n:Nat) (c:b0k):o0n (n+1) c =
 tif ((decide (c.2.2.2.2.2.2<1))) (
 some (((0,0),(0,0)),12)) (
 a0b (r1q n c.2.2.2.1 (IntKind.wrap .u64 c.2.2.2.2.2.2)) fun r0 =>
 some r0):=by kernel_rfl
theorem a1z (n:Nat) (c:b0e):k0l (n+1) c =
 a0b (g0x n c.1 (1:Int) (4096:Int)) fun r0 =>
 tif (r0) (
 a0b (g0x n c.2.2.2.1 (1:Int) (65536:Int)) fun r1 =>
 tif (r1) (
 a0b (g0x n c.2.2.2.2 (1:Int) (8192:Int)) fun r2 =>
 tif (r2) (
 a0b (j0t n c.2.1.1 (1:Int) (1099511627776:Int)) fun r3 =>
 tif (r3) (
 a0b (g0x n c.2.2.1.1 (1:Int) (4096:Int)) fun r4 =>
 tif (r4) (
 a0b (j0t n c.2.1.2.1 (1:Int) (1099511627776:Int)) fun r5 =>
 tif (r5) (
 a0b (g0x n c.2.2.1.2.1 (1:Int) (4096:Int)) fun r6 =>
 tif (r6) (
 a0b (j0t n c.2.1.2.2 (1:Int) (1099511627776:Int)) fun r7 =>
 tif (r7) (
 a0b (g0x n c.2.2.1.2.2 (1:Int) (4096:Int)) fun r8 =>
 tif (r8) (
 tif ((decide (c.2.1.1=0))) (
 none) (
 tif ((decide ((Int.tmod c.2.1.2.1 c.2.1.1)=0))) (
 tif ((decide (c.2.1.1=0))) (
 none) (
 tif ((decide ((IntKind.wrap .i64 (Int.tdiv c.2.1.2.1 c.2.1.1))≤c.2.2.1.1))) (
 tif ((decide (c.2.1.2.1=0))) (
 none) (
 tif ((decide ((Int.tmod c.2.1.2.2 c.2.1.2.1)=0))) (
 tif ((decide (c.2.1.2.1=0))) (
 none) (
 tif ((decide ((IntKind.wrap .i64 (Int.tdiv c.2.1.2.2 c.2.1.2.1))≤c.2.2.1.2.1))) (
 tif ((!(decide ((IntKind.wrap .i64 (Int.tdiv c.2.1.2.2 c.2.1.2.1))≤c.2.2.1.2.1)))) (
 some (2:Int)) (
 a0b (m0v n c) fun r9 =>
 tif ((decide (c.2.2.2.2≤r9))) (
 some (2:Int)) (
 some (0:Int)))) (
 tif ((!(decide ((IntKind.wrap .i64 (Int.tdiv c.2.1.2.2 c.2.1.2.1))≤c.2.2.1.2.1)))) (
 some (2:Int)) (
 a0b (m0v n c) fun r10 =>
 tif ((decide (c.2.2.2.2≤r10))) (
 some (2:Int)) (
 some (0:Int)))))) (
 some (2:Int)))) (
 tif ((!(decide ((IntKind.wrap .i64 (Int.tdiv c.2.1.2.1 c.2.1.1))≤c.2.2.1.1)))) (
 some (2:Int)) (
 a0b (m0v n c) fun r11 =>
 tif ((decide (c.2.2.2.2≤r11))) (
 some (2:Int)) (
 some (0:Int)))))) (
 some (2:Int)))) (
 tif ((!r8)) (
 some (2:Int)) (
 a0b (m0v n c) fun r12 =>
 tif ((decide (c.2.2.2.2≤r12))) (
 some (2:Int)) (
 some (0:Int))))) (
 some (2:Int))) (
 some (2:Int))) (
 some (2:Int))) (
 some (2:Int))) (
 some (2:Int))) (
 some (2:Int))) (
 some (2:Int))) (
 some (2:Int)):=by kernel_rfl
theorem z1q (n:Nat) (t:Int):e1m (n+1) t =
 tif ((decide ((0:Int)≤t))) (
 some (decide (t<35184372088832))) (
 some false):=by kernel_rfl
theorem u1w (n:Nat) (s:a0z):y0o (n+1) s =
 a0b (n0r n s ([],(0,((0,(0,[])),(([],([],[])),(0,(0,((0,(0,(0,false))),((0,(0,(0,false))),((0,0),(0,(0,0)))))))))))) fun r0 =>
 some r0:=by kernel_rfl
theorem f1v (n:Nat) (c:b0e) (s:a0z):t0c (n+1) c s =
 a0b (r0p n c s) fun r0 =>
 oelim (r0.1) (
 some r0.2) fun r1 =>
 some r0.2:=by kernel_rfl
theorem d1y (n:Nat) (v:a0m):r0i (n+1) v =
 tif ((decide (v.1.2.1.1=0))) (
 none) (
 some (IntKind.wrap .i64 (v.2.1-(Int.tmod v.2.1 v.1.2.1.1)))):=by kernel_rfl
theorem d1x (n:Nat) (v:a0m) (i:Int):r0h (n+1) v i =
 a0b (f0x n v (fun y0=>g0p n y0.1 i v)) fun r1 =>
 tif ((decide (r1<i))) (
 a0b (f0y n v i) fun r2 =>
 some r2) (
 some false):=by kernel_rfl
theorem n1p (n:Nat) (l:(List (List UInt8×List UInt8))):g0v (n+1) l =
 tif ((decide ((((List.length l):Nat):Int)=0))) (
 some (8:Int)) (
 tif ((decide ((16:Int)<(((List.length l):Nat):Int)))) (
 some (8:Int)) (
 a0b (g0b n a0d (l,(256,(l,((((List.length l):Nat):Int),(0,())))))) fun r0 =>
 b0d (fun y1 =>
 some (0:Int)) (fun z2 =>
 some z2) r0)):=by kernel_rfl
theorem q0s (n f:Nat) (l:(List (List UInt8×List UInt8))) (left:Int) (s14:(List (List UInt8×List UInt8))) (s15:Int) (s16:Int):g0b n (f+1) (l,left,s14,s15,s16,()) =
 tif ((decide (s16<s15))) (
 a0b (at? s14 s16) fun r0 =>
 a0b (c1f n r0.1) fun r1 =>
 tif ((!r1)) (
 some (.inr (8:Int))) (
 tif ((decide ((128:Int)<(((List.length r0.2):Nat):Int)))) (
 some (.inr (8:Int))) (
 tif ((decide ((IntKind.wrap .i64 (left-(IntKind.wrap .i64 ((((List.length r0.1):Nat):Int)+(((List.length r0.2):Nat):Int)))))<0))) (
 some (.inr (8:Int))) (
 tif ((decide ((0:Int)<s16))) (
 a0b (at? l (IntKind.wrap .i64 (s16-1))) fun r2 =>
 tif ((!(Go.Op.bytesLess r2.1 r0.1))) (
 some (.inr (8:Int))) (
 g0b n f (l,((IntKind.wrap .i64 (left-(IntKind.wrap .i64 ((((List.length r0.1):Nat):Int)+(((List.length r0.2):Nat):Int))))),(s14,(s15,((IntKind.wrap .i64 (s16+1)),()))))))) (
 g0b n f (l,((IntKind.wrap .i64 (left-(IntKind.wrap .i64 ((((List.length r0.1):Nat):Int)+(((List.length r0.2):Nat):Int))))),(s14,(s15,((IntKind.wrap .i64 (s16+1)),())))))))))) (
 some (.inl ())):=by kernel_rfl
theorem n0s (n:Nat) (c:b0e) (s:a0z) (k:Int) (i:Int) (j:Int):d0g (n+1) c s k i j =
 a0b (r0p n c s) fun r0 =>
 oelim (r0.1) (
 tif ((!(decide (r0.2=0)))) (
 some ((0,((0,(0,(0,false))),((0,(0,(0,false))),((0,0),(0,(0,0)))))),r0.2)) (
 tif ((decide (k<0))) (
 some ((0,((0,(0,(0,false))),((0,(0,(0,false))),((0,0),(0,(0,0)))))),1)) (
 tif ((decide ((3:Int)≤k))) (
 some ((0,((0,(0,(0,false))),((0,(0,(0,false))),((0,0),(0,(0,0)))))),1)) (
 tif ((decide (i<0))) (
 some ((0,((0,(0,(0,false))),((0,(0,(0,false))),((0,0),(0,(0,0)))))),1)) (
 tif ((decide (j<i))) (
 some ((0,((0,(0,(0,false))),((0,(0,(0,false))),((0,0),(0,(0,0)))))),1)) (
 none)))))) fun r1 =>
 tif ((!(decide (r0.2=0)))) (
 some ((0,((0,(0,(0,false))),((0,(0,(0,false))),((0,0),(0,(0,0)))))),r0.2)) (
 tif ((decide (k<0))) (
 some ((0,((0,(0,(0,false))),((0,(0,(0,false))),((0,0),(0,(0,0)))))),1)) (
 tif ((decide ((3:Int)≤k))) (
 some ((0,((0,(0,(0,false))),((0,(0,(0,false))),((0,0),(0,(0,0)))))),1)) (
 tif ((decide (i<0))) (
 some ((0,((0,(0,(0,false))),((0,(0,(0,false))),((0,0),(0,(0,0)))))),1)) (
 tif ((decide (j<i))) (
 some ((0,((0,(0,(0,false))),((0,(0,(0,false))),((0,0),(0,(0,0)))))),1)) (
 a0b (r0j n r1 k i j) fun r2 =>
 some r2))))):=by kernel_rfl
theorem q1y (n:Nat) (inc:(Int×Int)) (ms:Int):b1o (n+1) inc ms =
 tif ((decide (ms=0))) (
 some (((0,0),(0,0)),12)) (
 a0b (u0x n inc (1000:Int)) fun r0 =>
 tif ((!(decide (r0.2=0)))) (
 some (((0,0),(0,0)),r0.2)) (
 a0b (n0f n ms) fun r1 =>
 a0b (t0g n r0.1 r1) fun r2 =>
 some r2)):=by kernel_rfl
theorem d2c (n:Nat) (s:a0m) (k:Int):s0k (n+1) s k =
 a0b (y1m n s k) fun r0 =>
 tif ((!(decide (r0=0)))) (
 some (0,(0,r0))) (
 tif ((decide (k=0))) (
 tif ((decide (k=0))) (
 a0b (f0s n s.2.1 s.1.2.1.1 s.1.2.2.1.1) fun r1 =>
 tif ((decide (s.1.2.1.1=0))) (
 none) (
 some (r1.1,((IntKind.wrap .i64 (Int.tdiv s.2.1 s.1.2.1.1)),r1.2)))) (
 tif ((decide (k=1))) (
 a0b (f0s n s.2.1 s.1.2.1.1 s.1.2.2.1.2.1) fun r2 =>
 tif ((decide (s.1.2.1.1=0))) (
 none) (
 some (r2.1,((IntKind.wrap .i64 (Int.tdiv s.2.1 s.1.2.1.1)),r2.2)))) (
 tif ((decide (k=2))) (
 a0b (f0s n s.2.1 s.1.2.1.1 s.1.2.2.1.2.2) fun r3 =>
 tif ((decide (s.1.2.1.1=0))) (
 none) (
 some (r3.1,((IntKind.wrap .i64 (Int.tdiv s.2.1 s.1.2.1.1)),r3.2)))) (
 none)))) (
 tif ((decide (k=1))) (
 tif ((decide (k=0))) (
 a0b (f0s n s.2.1 s.1.2.1.2.1 s.1.2.2.1.1) fun r4 =>
 tif ((decide (s.1.2.1.2.1=0))) (
 none) (
 some (r4.1,((IntKind.wrap .i64 (Int.tdiv s.2.1 s.1.2.1.2.1)),r4.2)))) (
 tif ((decide (k=1))) (
 a0b (f0s n s.2.1 s.1.2.1.2.1 s.1.2.2.1.2.1) fun r5 =>
 tif ((decide (s.1.2.1.2.1=0))) (
 none) (
 some (r5.1,((IntKind.wrap .i64 (Int.tdiv s.2.1 s.1.2.1.2.1)),r5.2)))) (
 tif ((decide (k=2))) (
 a0b (f0s n s.2.1 s.1.2.1.2.1 s.1.2.2.1.2.2) fun r6 =>
 tif ((decide (s.1.2.1.2.1=0))) (
 none) (
 some (r6.1,((IntKind.wrap .i64 (Int.tdiv s.2.1 s.1.2.1.2.1)),r6.2)))) (
 none)))) (
 tif ((decide (k=2))) (
 tif ((decide (k=0))) (
 a0b (f0s n s.2.1 s.1.2.1.2.2 s.1.2.2.1.1) fun r7 =>
 tif ((decide (s.1.2.1.2.2=0))) (
 none) (
 some (r7.1,((IntKind.wrap .i64 (Int.tdiv s.2.1 s.1.2.1.2.2)),r7.2)))) (
 tif ((decide (k=1))) (
 a0b (f0s n s.2.1 s.1.2.1.2.2 s.1.2.2.1.2.1) fun r8 =>
 tif ((decide (s.1.2.1.2.2=0))) (
 none) (
 some (r8.1,((IntKind.wrap .i64 (Int.tdiv s.2.1 s.1.2.1.2.2)),r8.2)))) (
 tif ((decide (k=2))) (
 a0b (f0s n s.2.1 s.1.2.1.2.2 s.1.2.2.1.2.2) fun r9 =>
 tif ((decide (s.1.2.1.2.2=0))) (
 none) (
 some (r9.1,((IntKind.wrap .i64 (Int.tdiv s.2.1 s.1.2.1.2.2)),r9.2)))) (
 none)))) (
 none)))):=by kernel_rfl
theorem f1f (n:Nat) (w:Int):p1q (n+1) w =
 a0b (r0f n w (1:Int) (1099511627776:Int)) fun r0 =>
 some r0:=by kernel_rfl
theorem q1e (n:Nat) (i:Int) (p1:a0m) (p2:(List (List UInt8×List UInt8))) (p3:a0m):h0a (n+1) i p1 p2 p3 =
 a0b (at? p1.2.2.2 i) fun r0 =>
 a0b (i0y n r0.1 p2) fun r1 =>
 tif (r1) (
 a0b (f0y n p3 i) fun r2 =>
 some r2) (
 some false):=by kernel_rfl
theorem b1h (n:Nat) (v:a0m) (i:Int):f0y (n+1) v i =
 a0b (at? v.2.2.2 i) fun r0 =>
 a0b (y0o n r0) fun r1 =>
 tif ((!r1)) (
 tif ((decide (v.2.2.1=((-1):Int)))) (
 some true) (
 a0b (x0f n v.1 r0.2.1 v.2.2.1) fun r2 =>
 some (!r2))) (
 some false):=by kernel_rfl
theorem j1m (n:Nat) (c:b0e) (s:a0z):r0p (n+1) c s =
 a0b (c1j n c s.2.2.2.1) fun r0 =>
 tif ((!(decide (r0=0)))) (
 some (none,2)) (
 a0b (g0v n s.1) fun r1 =>
 tif ((!(decide (r1=0)))) (
 some (none,2)) (
 a0b (f1y n s.2.2.1 c.1) fun r2 =>
 tif ((!(decide (r2=0)))) (
 some (none,2)) (
 tif ((decide (s.2.1=((-1):Int)))) (
 a0b (f1q n (c,s)) fun r3 =>
 tif (r3) (
 some ((some (c,s)),0)) (
 tif ((!(decide (s.2.1=((-1):Int))))) (
 a0b (e1q n (c,s)) fun r4 =>
 tif (r4) (
 some ((some (c,s)),0)) (
 some (none,2))) (
 some (none,2)))) (
 tif ((!(decide (s.2.1=((-1):Int))))) (
 a0b (e1q n (c,s)) fun r5 =>
 tif (r5) (
 some ((some (c,s)),0)) (
 some (none,2))) (
 some (none,2)))))):=by kernel_rfl
theorem v1b (n:Nat) (s:c0t):n0n (n+1) s (0:Int) =
 some (s.2.2.2.2.2.2,0):=by kernel_rfl
theorem v1a (n:Nat) (s:c0t):n0n (n+1) s (1:Int) =
 tif ((decide (s.1.2.1.2.1=0))) (
 none) (
 tif ((decide (s.1.2.1.1=0))) (
 none) (
 tif ((decide (s.1.2.1.1=0))) (
 none) (
 a0b (n0k n s.2.2.2.2.1.1 (IntKind.wrap .i64 ((IntKind.wrap .i64 (Int.tdiv s.2.2.1 s.1.2.1.2.1))*(IntKind.wrap .i64 (Int.tdiv s.1.2.1.2.1 s.1.2.1.1)))) (IntKind.wrap .i64 (Int.tdiv s.2.2.1 s.1.2.1.1))) fun r0 =>
 a0b (n0n n s (0:Int)) fun r1 =>
 tif ((!(decide (r0.2=0)))) (
 some ((0,((0,(0,(0,false))),((0,(0,(0,false))),((0,0),(0,(0,0)))))),(if r0.2<r1.2 then r1.2 else r0.2))) (
 tif ((!(decide (r1.2=0)))) (
 some ((0,((0,(0,(0,false))),((0,(0,(0,false))),((0,0),(0,(0,0)))))),(if r0.2<r1.2 then r1.2 else r0.2))) (
 a0b (i0z n r0.1 r1.1) fun r2 =>
 some r2))))):=by kernel_rfl
theorem u1z (n:Nat) (s:c0t):n0n (n+1) s (2:Int) =
 tif ((decide (s.1.2.1.2.2=0))) (
 none) (
 tif ((decide (s.1.2.1.2.1=0))) (
 none) (
 tif ((decide (s.1.2.1.2.1=0))) (
 none) (
 a0b (n0k n s.2.2.2.2.1.2.1 (IntKind.wrap .i64 ((IntKind.wrap .i64 (Int.tdiv s.2.2.1 s.1.2.1.2.2))*(IntKind.wrap .i64 (Int.tdiv s.1.2.1.2.2 s.1.2.1.2.1)))) (IntKind.wrap .i64 (Int.tdiv s.2.2.1 s.1.2.1.2.1))) fun r0 =>
 a0b (n0n n s (1:Int)) fun r1 =>
 tif ((!(decide (r0.2=0)))) (
 some ((0,((0,(0,(0,false))),((0,(0,(0,false))),((0,0),(0,(0,0)))))),(if r0.2<r1.2 then r1.2 else r0.2))) (
 tif ((!(decide (r1.2=0)))) (
 some ((0,((0,(0,(0,false))),((0,(0,(0,false))),((0,0),(0,(0,0)))))),(if r0.2<r1.2 then r1.2 else r0.2))) (
 a0b (i0z n r0.1 r1.1) fun r2 =>
 some r2))))):=by kernel_rfl
theorem z1l (n:Nat) (l:(List a0f)) (i:Int):d2n (n+1) l i =
 tif ((decide (i<0))) (
 some (0,((0,(0,(0,false))),((0,(0,(0,false))),((0,0),(0,(0,0))))))) (
 tif ((decide ((((List.length l):Nat):Int)=0))) (
 some (0,((0,(0,(0,false))),((0,(0,(0,false))),((0,0),(0,(0,0))))))) (
 a0b (p1r n i (((List.length l):Nat):Int)) fun r0 =>
 a0b (at? l r0) fun r1 =>
 tif ((decide (r1.1=i))) (
 some r1.2) (
 some (0,((0,(0,(0,false))),((0,(0,(0,false))),((0,0),(0,(0,0))))))))):=by kernel_rfl
theorem d1g (n:Nat) (c:b0e) (s:a0z) (i:Int):l0n (n+1) c s (0:Int) i =
 tif ((decide (s.2.1=((-1):Int)))) (
 some ((0,((0,(0,(0,false))),((0,(0,(0,false))),((0,0),(0,(0,0)))))),0)) (
 tif ((decide (c.2.1.1=0))) (
 none) (
 tif ((decide ((IntKind.wrap .i64 (Int.tdiv s.2.1 c.2.1.1))<i))) (
 some ((0,((0,(0,(0,false))),((0,(0,(0,false))),((0,0),(0,(0,0)))))),0)) (
 tif ((decide (c.2.1.1=0))) (
 none) (
 tif ((decide (i<(IntKind.wrap .i64 (Int.tdiv s.2.1 c.2.1.1))))) (
 a0b (b1s n s.2.2.2.1.1 i) fun r0 =>
 some (r0,0)) (
 some (s.2.2.2.2.2,0)))))):=by kernel_rfl
theorem d1f (n:Nat) (c:b0e) (s:a0z) (i:Int):l0n (n+1) c s (1:Int) i =
 tif ((decide (s.2.1=((-1):Int)))) (
 some ((0,((0,(0,(0,false))),((0,(0,(0,false))),((0,0),(0,(0,0)))))),0)) (
 tif ((decide (c.2.1.2.1=0))) (
 none) (
 tif ((decide ((IntKind.wrap .i64 (Int.tdiv s.2.1 c.2.1.2.1))<i))) (
 some ((0,((0,(0,(0,false))),((0,(0,(0,false))),((0,0),(0,(0,0)))))),0)) (
 tif ((decide (c.2.1.2.1=0))) (
 none) (
 tif ((decide (i<(IntKind.wrap .i64 (Int.tdiv s.2.1 c.2.1.2.1))))) (
 a0b (b1s n s.2.2.2.1.2.1 i) fun r0 =>
 some (r0,0)) (
 tif ((decide (c.2.1.1=0))) (
 none) (
 a0b (q0f n c (1:Int)) fun r1 =>
 a0b (r0t n s.2.2.2.1.1 (IntKind.wrap .i64 (i*r1)) (IntKind.wrap .i64 (Int.tdiv s.2.1 c.2.1.1))) fun r2 =>
 tif ((!(decide (r2.2=0)))) (
 some ((0,((0,(0,(0,false))),((0,(0,(0,false))),((0,0),(0,(0,0)))))),r2.2)) (
 a0b (l0n n c s (0:Int) (IntKind.wrap .i64 (Int.tdiv s.2.1 c.2.1.1))) fun r3 =>
 tif ((!(decide (r3.2=0)))) (
 some ((0,((0,(0,(0,false))),((0,(0,(0,false))),((0,0),(0,(0,0)))))),r3.2)) (
 a0b (l0c n r2.1 r3.1) fun r4 =>
 some r4)))))))):=by kernel_rfl
theorem v1w (n:Nat) (c:b0e) (s:a0z) (i:Int):l0n (n+1) c s (2:Int) i =
 tif ((decide (s.2.1=((-1):Int)))) (
 some ((0,((0,(0,(0,false))),((0,(0,(0,false))),((0,0),(0,(0,0)))))),0)) (
 tif ((decide (c.2.1.2.2=0))) (
 none) (
 tif ((decide ((IntKind.wrap .i64 (Int.tdiv s.2.1 c.2.1.2.2))<i))) (
 some ((0,((0,(0,(0,false))),((0,(0,(0,false))),((0,0),(0,(0,0)))))),0)) (
 tif ((decide (c.2.1.2.2=0))) (
 none) (
 tif ((decide (i<(IntKind.wrap .i64 (Int.tdiv s.2.1 c.2.1.2.2))))) (
 a0b (b1s n s.2.2.2.1.2.2 i) fun r0 =>
 some (r0,0)) (
 tif ((decide (c.2.1.2.1=0))) (
 none) (
 a0b (q0f n c (2:Int)) fun r1 =>
 a0b (r0t n s.2.2.2.1.2.1 (IntKind.wrap .i64 (i*r1)) (IntKind.wrap .i64 (Int.tdiv s.2.1 c.2.1.2.1))) fun r2 =>
 tif ((!(decide (r2.2=0)))) (
 some ((0,((0,(0,(0,false))),((0,(0,(0,false))),((0,0),(0,(0,0)))))),r2.2)) (
 a0b (l0n n c s (1:Int) (IntKind.wrap .i64 (Int.tdiv s.2.1 c.2.1.2.1))) fun r3 =>
 tif ((!(decide (r3.2=0)))) (
 some ((0,((0,(0,(0,false))),((0,(0,(0,false))),((0,0),(0,(0,0)))))),r3.2)) (
 a0b (l0c n r2.1 r3.1) fun r4 =>
 some r4)))))))):=by kernel_rfl
theorem n1q (n:Nat) (l:(List a0x)):o0e (n+1) l =
 a0b (k0s n a0d (l,((((List.length l):Nat):Int),(0,())))) fun r0 =>
 b0d (fun y1 =>
 some true) (fun z2 =>
 some z2) r0:=by kernel_rfl
theorem q0u (n f:Nat) (s5:(List a0x)) (s6:Int) (s7:Int):k0s n (f+1) (s5,s6,s7,()) =
 tif ((decide (s7<s6))) (
 a0b (at? s5 s7) fun r0 =>
 a0b (e0j n r0) fun r1 =>
 tif ((!(decide (r1=0)))) (
 some (.inr false)) (
 k0s n f (s5,(s6,((IntKind.wrap .i64 (s7+1)),()))))) (
 some (.inl ())):=by kernel_rfl
theorem t1c (n:Nat) (c:a0x) (seen:Int):v0v (n+1) c seen =
 a0b (n0f n c.2.1) fun r0 =>
 some (0,((0,(0,(0,false))),((0,(0,(0,false))),(r0,(1,(0,seen)))))):=by kernel_rfl
theorem w1g (n:Nat) (a:b0k) (b:b0k):l0c (n+1) a b =
 a0b (t0t n a) fun r0 =>
 tif ((!(decide (r0=0)))) (
 some ((0,((0,(0,(0,false))),((0,(0,(0,false))),((0,0),(0,(0,0)))))),2)) (
 a0b (t0t n b) fun r1 =>
 tif ((!(decide (r1=0)))) (
 some ((0,((0,(0,(0,false))),((0,(0,(0,false))),((0,0),(0,(0,0)))))),2)) (
 tif ((decide (a.1=0))) (
 some (b,0)) (
 tif ((decide (b.1=0))) (
 some (a,0)) (
 tif ((decide (b.2.1.1≤a.2.2.1.1))) (
 some ((0,((0,(0,(0,false))),((0,(0,(0,false))),((0,0),(0,(0,0)))))),9)) (
 a0b (x0i n a.2.2.1 b.2.1) fun r2 =>
 a0b (b2y n (a.2.2.2.1::(r2.1.2.2.2.1::(b.2.2.2.1::[])))) fun r3 =>
 some (((IntKind.wrap .i64 (a.1+b.1)),(a.2.1,(b.2.2.1,(r3.1,((IntKind.wrap .i64 ((IntKind.wrap .i64 (a.2.2.2.2.1+r2.1.2.2.2.2.1))+b.2.2.2.2.1)),((IntKind.wrap .i64 ((IntKind.wrap .i64 (a.2.2.2.2.2.1+r2.1.2.2.2.2.2.1))+b.2.2.2.2.2.1)),(IntKind.wrap .i64 ((IntKind.wrap .i64 (a.2.2.2.2.2.2+r2.1.2.2.2.2.2.2))+b.2.2.2.2.2.2)))))))),0)))))):=by kernel_rfl
theorem w1s (n:Nat) (a:(Int×Int)):i0b (n+1) a =
 some ((IntKind.wrap .i64 (andI .u64 (shrI .u64 a.2 (0:Int)) (255:Int))),((IntKind.wrap .i64 (andI .u64 (shrI .u64 a.2 (8:Int)) (255:Int))),((IntKind.wrap .i64 (andI .u64 (shrI .u64 a.2 (16:Int)) (255:Int))),((IntKind.wrap .i64 (andI .u64 (shrI .u64 a.2 (24:Int)) (255:Int))),((IntKind.wrap .i64 (andI .u64 (shrI .u64 a.2 (32:Int)) (255:Int))),((IntKind.wrap .i64 (andI .u64 (shrI .u64 a.2 (40:Int)) (255:Int))),((IntKind.wrap .i64 (andI .u64 (shrI .u64 a.2 (48:Int)) (255:Int))),((IntKind.wrap .i64 (andI .u64 (shrI .u64 a.2 (56:Int)) (255:Int))),((IntKind.wrap .i64 (andI .u64 (shrI .u64 a.1 (0:Int)) (255:Int))),((IntKind.wrap .i64 (andI .u64 (shrI .u64 a.1 (8:Int)) (255:Int))),((IntKind.wrap .i64 (andI .u64 (shrI .u64 a.1 (16:Int)) (255:Int))),((IntKind.wrap .i64 (andI .u64 (shrI .u64 a.1 (24:Int)) (255:Int))),((IntKind.wrap .i64 (andI .u64 (shrI .u64 a.1 (32:Int)) (255:Int))),((IntKind.wrap .i64 (andI .u64 (shrI .u64 a.1 (40:Int)) (255:Int))),((IntKind.wrap .i64 (andI .u64 (shrI .u64 a.1 (48:Int)) (255:Int))),(IntKind.wrap .i64 (andI .u64 (shrI .u64 a.1 (56:Int)) (255:Int)))))))))))))))))):=by kernel_rfl
theorem l2s (n:Nat) (l:(Int×(Int×(Int×(Int×(Int×(Int×(Int×(Int×(Int×(Int×(Int×(Int×(Int×(Int×(Int×Int)))))))))))))))):d1j (n+1) l =
 some ((orI .u64 (orI .u64 (orI .u64 (orI .u64 (orI .u64 (orI .u64 (orI .u64 (orI .u64 (0:Int) (shlI .u64 (IntKind.wrap .u64 l.2.2.2.2.2.2.2.2.1) (0:Int))) (shlI .u64 (IntKind.wrap .u64 l.2.2.2.2.2.2.2.2.2.1) (8:Int))) (shlI .u64 (IntKind.wrap .u64 l.2.2.2.2.2.2.2.2.2.2.1) (16:Int))) (shlI .u64 (IntKind.wrap .u64 l.2.2.2.2.2.2.2.2.2.2.2.1) (24:Int))) (shlI .u64 (IntKind.wrap .u64 l.2.2.2.2.2.2.2.2.2.2.2.2.1) (32:Int))) (shlI .u64 (IntKind.wrap .u64 l.2.2.2.2.2.2.2.2.2.2.2.2.2.1) (40:Int))) (shlI .u64 (IntKind.wrap .u64 l.2.2.2.2.2.2.2.2.2.2.2.2.2.2.1) (48:Int))) (shlI .u64 (IntKind.wrap .u64 l.2.2.2.2.2.2.2.2.2.2.2.2.2.2.2) (56:Int))),(orI .u64 (orI .u64 (orI .u64 (orI .u64 (orI .u64 (orI .u64 (orI .u64 (orI .u64 (0:Int) (shlI .u64 (IntKind.wrap .u64 l.1) (0:Int))) (shlI .u64 (IntKind.wrap .u64 l.2.1) (8:Int))) (shlI .u64 (IntKind.wrap .u64 l.2.2.1) (16:Int))) (shlI .u64 (IntKind.wrap .u64 l.2.2.2.1) (24:Int))) (shlI .u64 (IntKind.wrap .u64 l.2.2.2.2.1) (32:Int))) (shlI .u64 (IntKind.wrap .u64 l.2.2.2.2.2.1) (40:Int))) (shlI .u64 (IntKind.wrap .u64 l.2.2.2.2.2.2.1) (48:Int))) (shlI .u64 (IntKind.wrap .u64 l.2.2.2.2.2.2.2.1) (56:Int)))):=by kernel_rfl
theorem t1w (n:Nat) (c:b0k):q0x (n+1) c =
 a0b (u0t n c) fun r0 =>
 tif (r0) (
 some (0:Int)) (
 a0b (c1o n c) fun r1 =>
 tif ((!r1)) (
 some (2:Int)) (
 a0b (n0f n (18446744073709551615:Int)) fun r2 =>
 a0b (u0x n r2 (IntKind.wrap .u64 (IntKind.wrap .i64 (c.1-1)))) fun r3 =>
 tif ((!(decide (r3.2=0)))) (
 some (2:Int)) (
 a0b (n0g n r3.1 c.2.2.2.1) fun r4 =>
 tif (r4) (
 some (2:Int)) (
 a0b (i1x n c.2.2.2.2.2.1 (IntKind.wrap .i64 (c.1-1))) fun r5 =>
 tif ((!r5)) (
 some (2:Int)) (
 a0b (i1x n c.2.2.2.2.1 (IntKind.wrap .i64 ((IntKind.wrap .i64 (c.1-1))-c.2.2.2.2.2.1))) fun r6 =>
 tif ((!r6)) (
 some (2:Int)) (
 a0b (i1x n c.2.2.2.2.2.2 (IntKind.wrap .i64 (c.2.2.1.1-c.2.1.1))) fun r7 =>
 tif ((!r7)) (
 some (2:Int)) (
 some (0:Int)))))))):=by kernel_rfl
theorem y1r (n:Nat) (c:b0k):u0t (n+1) c =
 some ((decide (c.1=0))&&((decide (c.2.1.1=0))&&((decide (c.2.1.2.1=0))&&((decide (c.2.1.2.2.1=0))&&((c.2.1.2.2.2==false)&&((decide (c.2.2.1.1=0))&&((decide (c.2.2.1.2.1=0))&&((decide (c.2.2.1.2.2.1=0))&&((c.2.2.1.2.2.2==false)&&((decide (c.2.2.2.1.1=0))&&((decide (c.2.2.2.1.2=0))&&((decide (c.2.2.2.2.1=0))&&((decide (c.2.2.2.2.2.1=0))&&(decide (c.2.2.2.2.2.2=0))))))))))))))):=by kernel_rfl
theorem y1s (n:Nat) (a:b0k) (b:b0k):y1t (n+1) a b =
 a0b (s0i n a.2.2.1 b.2.1) fun r0 =>
 tif ((!(decide (r0.2=0)))) (
 some ((0,((0,(0,(0,false))),((0,(0,(0,false))),((0,0),(0,(0,0)))))),r0.2)) (
 a0b (p1o n (a.2.2.2.1::(r0.1.2.2.2.1::(b.2.2.2.1::[])))) fun r1 =>
 some (((IntKind.wrap .i64 (a.1+b.1)),(a.2.1,(b.2.2.1,(r1.1,((IntKind.wrap .i64 (r0.1.2.2.2.2.1+(IntKind.wrap .i64 (a.2.2.2.2.1+b.2.2.2.2.1)))),((IntKind.wrap .i64 (r0.1.2.2.2.2.2.1+(IntKind.wrap .i64 (a.2.2.2.2.2.1+b.2.2.2.2.2.1)))),(IntKind.wrap .i64 (r0.1.2.2.2.2.2.2+(IntKind.wrap .i64 (a.2.2.2.2.2.2+b.2.2.2.2.2.2)))))))))),r1.2)):=by kernel_rfl
theorem z1s (n:Nat) (s:a0m):e1o (n+1) s =
 a0b (y0n n s) fun r0 =>
 tif ((!(decide (r0.2=0)))) (
 some []) (
 a0b (k0d n a0d (r0.1,([],((((List.length r0.1.2.2.2):Nat):Int),(0,()))))) fun r1 =>
 b0d (fun y2 =>
 some y2.1) (fun z3 =>
 some z3) r1):=by kernel_rfl
theorem w0f (n f:Nat) (v:a0m) (out:(List Int)) (s17:Int) (s18:Int):k0d n (f+1) (v,out,s17,s18,()) =
 tif ((decide (s18<s17))) (
 a0b (f0y n v s18) fun r0 =>
 tif (r0) (
 tif ((decide ((((List.length out)+1)*8)≤140737488355328))) (
 k0d n f (v,((out++(s18::[])),(s17,((IntKind.wrap .i64 (s18+1)),()))))) (
 none)) (
 k0d n f (v,(out,(s17,((IntKind.wrap .i64 (s18+1)),())))))) (
 some (.inl (out,()))):=by kernel_rfl
theorem x1o (n:Nat) (ms:(List (Int×(List UInt8×List UInt8)))) (l:(List (List UInt8×List UInt8))):o0d (n+1) ms l =
 a0b (d0o n ms (fun y0=>x0p n y0.1 l)) fun r1 =>
 some (!r1):=by kernel_rfl
theorem h2e (n:Nat) (s:a0m) (tier:Int) (from_:Int) (to:Int):r1c (n+1) s tier from_ to =
 tif ((decide ((IntKind.wrap .i64 (tier-1))=0))) (
 a0b (g0h n from_ to s.1.2.1.1) fun r0 =>
 tif ((!(decide (r0.2.2=0)))) (
 some r0.2.2) (
 a0b (z0e n s (IntKind.wrap .i64 (tier-1))) fun r1 =>
 tif ((decide (r0.1<r1.1))) (
 some (11:Int)) (
 some (0:Int)))) (
 tif ((decide ((IntKind.wrap .i64 (tier-1))=1))) (
 a0b (g0h n from_ to s.1.2.1.2.1) fun r2 =>
 tif ((!(decide (r2.2.2=0)))) (
 some r2.2.2) (
 a0b (z0e n s (IntKind.wrap .i64 (tier-1))) fun r3 =>
 tif ((decide (r2.1<r3.1))) (
 some (11:Int)) (
 some (0:Int)))) (
 tif ((decide ((IntKind.wrap .i64 (tier-1))=2))) (
 a0b (g0h n from_ to s.1.2.1.2.2) fun r4 =>
 tif ((!(decide (r4.2.2=0)))) (
 some r4.2.2) (
 a0b (z0e n s (IntKind.wrap .i64 (tier-1))) fun r5 =>
 tif ((decide (r4.1<r5.1))) (
 some (11:Int)) (
 some (0:Int)))) (
 none))):=by kernel_rfl
theorem b2p (n:Nat) (m:(Int×(List UInt8×List UInt8))) (l:(List (List UInt8×List UInt8))):r1n (n+1) m l =
 a0b (g1p n l m.2.1) fun r0 =>
 tif ((decide (m.1=1))) (
 some (r0==m.2.2)) (
 tif ((decide (m.1=2))) (
 some (!(r0==m.2.2))) (
 tif ((decide (m.1=3))) (
 tif ((decide ((((List.length m.2.2):Nat):Int)≤(((List.length r0):Nat):Int)))) (
 tif (((decide ((0:Int)≤(((List.length m.2.2):Nat):Int)))&&(decide ((((List.length m.2.2):Nat):Int)≤(((List.length r0):Nat):Int))))) (
 some ((List.drop 0 (List.take (Int.toNat (((List.length m.2.2):Nat):Int)) r0))==m.2.2)) (
 none)) (
 some false)) (
 some false))):=by kernel_rfl
theorem k0y (n:Nat) (data:(List a0a)) (n_:Int) (cmp:((a0a×(a0a×Unit))→Option Int)):g0q (n+1) data n_ cmp =
 a0b (b0t n a0d (data,(n_,(cmp,(20,(0,(20,()))))))) fun r0 =>
 b0d (fun y1 =>
 a0b (b0z n y1.1 y1.2.2.2.2.1 y1.2.1 y1.2.2.1) fun r2 =>
 a0b (b0f n a0d (r2,(y1.2.1,(y1.2.2.1,(y1.2.2.2.1,()))))) fun r3 =>
 b0d (fun y4 =>
 some y4.1) (fun z5 =>
 some z5) r3) (fun z6 =>
 some z6) r0:=by kernel_rfl
theorem e0u (n f:Nat) (data:(List a0a)) (n_:Int) (cmp:((a0a×(a0a×Unit))→Option Int)) (blockSize:Int) (a:Int) (b:Int):b0t n (f+1) (data,n_,cmp,blockSize,a,b,()) =
 tif ((decide (b≤n_))) (
 a0b (b0z n data a b cmp) fun r0 =>
 b0t n f (r0,(n_,(cmp,(blockSize,(b,((IntKind.wrap .i64 (b+blockSize)),()))))))) (
 some (.inl (data,(n_,(cmp,(blockSize,(a,()))))))):=by kernel_rfl
theorem e0t (n f:Nat) (data:(List a0a)) (n_:Int) (cmp:((a0a×(a0a×Unit))→Option Int)) (blockSize:Int):b0f n (f+1) (data,n_,cmp,blockSize,()) =
 tif ((decide (blockSize<n_))) (
 a0b (c0o n a0d (data,(n_,(cmp,(blockSize,(0,((IntKind.wrap .i64 ((2:Int)*blockSize)),()))))))) fun r0 =>
 b0d (fun y1 =>
 tif ((decide ((IntKind.wrap .i64 (y1.2.2.2.2.1+y1.2.2.2.1))<y1.2.1))) (
 a0b (a0e n y1.1 y1.2.2.2.2.1 (IntKind.wrap .i64 (y1.2.2.2.2.1+y1.2.2.2.1)) y1.2.1 y1.2.2.1) fun r2 =>
 b0f n f (r2,(y1.2.1,(y1.2.2.1,((IntKind.wrap .i64 (y1.2.2.2.1*2)),()))))) (
 b0f n f (y1.1,(y1.2.1,(y1.2.2.1,((IntKind.wrap .i64 (y1.2.2.2.1*2)),())))))) (fun z3 =>
 some (.inr z3)) r0) (
 some (.inl (data,()))):=by kernel_rfl
theorem e0s (n f:Nat) (data:(List a0a)) (n_:Int) (cmp:((a0a×(a0a×Unit))→Option Int)) (blockSize:Int) (a:Int) (b:Int):c0o n (f+1) (data,n_,cmp,blockSize,a,b,()) =
 tif ((decide (b≤n_))) (
 a0b (a0e n data a (IntKind.wrap .i64 (a+blockSize)) b cmp) fun r0 =>
 c0o n f (r0,(n_,(cmp,(blockSize,(b,((IntKind.wrap .i64 (b+(IntKind.wrap .i64 ((2:Int)*blockSize)))),()))))))) (
 some (.inl (data,(n_,(cmp,(blockSize,(a,()))))))):=by kernel_rfl
theorem t1q (n:Nat) (vals:(List Int)):c1n (n+1) vals =
 a0b (j0v n a0d (0,(vals,((((List.length vals):Nat):Int),(0,()))))) fun r0 =>
 b0d (fun y1 =>
 some y1.1) (fun z2 =>
 some z2) r0:=by kernel_rfl
theorem l0r (n f:Nat) (zero:Int) (s6:(List Int)) (s7:Int) (s8:Int):j0v n (f+1) (zero,s6,s7,s8,()) =
 tif ((decide (s8<s7))) (
 a0b (at? s6 s8) fun r0 =>
 tif ((!(decide (r0=zero)))) (
 some (.inr r0)) (
 j0v n f (zero,(s6,(s7,((IntKind.wrap .i64 (s8+1)),())))))) (
 some (.inl (zero,()))):=by kernel_rfl
theorem u0s (n:Nat) (x:Int) (y:Int):g0k (n+1) x y =
 a0b (l0q n x) fun r0 =>
 a0b (l0q n y) fun r1 =>
 tif (r0) (
 tif (r1) (
 some (0:Int)) (
 some ((-1):Int))) (
 tif (r1) (
 some (1:Int)) (
 tif ((decide (x<y))) (
 some ((-1):Int)) (
 tif ((decide (y<x))) (
 some (1:Int)) (
 some (0:Int))))):=by kernel_rfl
theorem r0l (n:Nat) (s:(List (Int×(List UInt8×List UInt8)))) (f_:(((Int×(List UInt8×List UInt8))×Unit)→Option Bool)):l0x (n+1) s f_ =
 a0b (c0w n a0d (s,(f_,((((List.length s):Nat):Int),(0,()))))) fun r0 =>
 b0d (fun y1 =>
 some ((-1):Int)) (fun z2 =>
 some z2) r0:=by kernel_rfl
theorem h0m (n f:Nat) (s:(List (Int×(List UInt8×List UInt8)))) (f_:(((Int×(List UInt8×List UInt8))×Unit)→Option Bool)) (s7:Int) (s8:Int):c0w n (f+1) (s,f_,s7,s8,()) =
 tif ((decide (s8<s7))) (
 a0b (at? s s8) fun r0 =>
 a0b (f_ (r0,())) fun r1 =>
 tif (r1) (
 some (.inr s8)) (
 c0w n f (s,(f_,(s7,((IntKind.wrap .i64 (s8+1)),())))))) (
 some (.inl ())):=by kernel_rfl
theorem j1o (n:Nat) (c:b0e) (last:Int) (now:Int):x0f (n+1) c last now =
 a0b (k0l n c) fun r0 =>
 tif ((decide (r0=0))) (
 a0b (f1g n last now c.2.1.1 c.2.2.1.1) fun r1 =>
 tif (r1) (
 a0b (f1g n last now c.2.1.2.1 c.2.2.1.2.1) fun r2 =>
 tif (r2) (
 a0b (f1g n last now c.2.1.2.2 c.2.2.1.2.2) fun r3 =>
 tif (r3) (
 some r3) (
 some r3)) (
 some r2)) (
 some r1)) (
 some (decide (r0=0))):=by kernel_rfl
theorem h0y (n:Nat) (s:a0m) (l:(List (List UInt8×List UInt8))) (e:a0x):i0i (n+1) s l e =
 a0b (f0d n s) fun r0 =>
 tif ((!(decide (r0=0)))) (
 some (0,(false,r0))) (
 a0b (g0v n l) fun r1 =>
 tif ((!(decide (r1=0)))) (
 some (0,(false,r1))) (
 a0b (e0j n e) fun r2 =>
 tif ((!(decide (r2=0)))) (
 some (0,(false,r2))) (
 a0b (m0p n s) fun r3 =>
 a0b (j0c n s l) fun r4 =>
 tif ((decide (e.1<r3.1))) (
 some (0,(false,9))) (
 tif ((decide (r3.2≤e.1))) (
 some (0,(false,9))) (
 tif ((decide (r4.2=0))) (
 a0b (at? s.2.2.2 r4.1) fun r5 =>
 tif ((decide (e.1≤r5.2.1))) (
 some (0,(false,9))) (
 tif ((decide (r4.2=0))) (
 some (r4.1,(false,0))) (
 tif (e.2.2.2) (
 some (0,(false,3))) (
 a0b (e1n n s) fun r6 =>
 some (r6.1,((decide (r6.2=0)),r6.2)))))) (
 tif ((decide (r4.2=0))) (
 some (r4.1,(false,0))) (
 tif (e.2.2.2) (
 some (0,(false,3))) (
 a0b (e1n n s) fun r7 =>
 some (r7.1,((decide (r7.2=0)),r7.2)))))))))):=by kernel_rfl
theorem u1l (n:Nat) (now:Int) (w:Int) (n_:Int):f0s (n+1) now w n_ =
 a0b (f2x n now w) fun r0 =>
 tif ((!(decide (r0.2=0)))) (
 some (0,1)) (
 a0b (u1k n n_ (1:Int) (4096:Int)) fun r1 =>
 tif ((!r1)) (
 some (0,1)) (
 some ((if (0:Int)<(IntKind.wrap .i64 ((IntKind.wrap .i64 (r0.1+1))-n_)) then (IntKind.wrap .i64 ((IntKind.wrap .i64 (r0.1+1))-n_)) else (0:Int)),0))):=by kernel_rfl
theorem e1c (n:Nat) (a:(Int×Int)):h0g (n+1) a =
 tif ((decide (a.2=0))) (
 a0b (l0j n a.1) fun r0 =>
 some (IntKind.wrap .i64 ((64:Int)+r0))) (
 a0b (l0j n a.2) fun r1 =>
 some r1):=by kernel_rfl
theorem q1x (n:Nat) (a:(Int×Int)) (by_:Int):v0j (n+1) a by_ =
 tif ((decide ((64:Int)≤by_))) (
 tif ((decide ((IntKind.wrap .i64 (by_-64))<0))) (
 none) (
 some (0,(shrI .u64 a.1 (IntKind.wrap .i64 (by_-64)))))) (
 tif ((decide (by_<0))) (
 none) (
 tif ((decide (by_<0))) (
 none) (
 tif ((decide ((IntKind.wrap .i64 ((64:Int)-by_))<0))) (
 none) (
 some ((shrI .u64 a.1 by_),(orI .u64 (shrI .u64 a.2 by_) (shlI .u64 a.1 (IntKind.wrap .i64 ((64:Int)-by_))))))))):=by kernel_rfl
theorem q1w (n:Nat) (a:(Int×Int)) (b:(Int×Int)):k0i (n+1) a b =
 a0b (p1p n a b) fun r0 =>
 some r0.1:=by kernel_rfl
theorem a2j (n:Nat) (a:(Int×Int)) (by_:Int):z0c (n+1) a by_ =
 tif ((decide ((64:Int)≤by_))) (
 tif ((decide ((IntKind.wrap .i64 (by_-64))<0))) (
 none) (
 some ((shlI .u64 a.2 (IntKind.wrap .i64 (by_-64))),0))) (
 tif ((decide (by_<0))) (
 none) (
 tif ((decide ((IntKind.wrap .i64 ((64:Int)-by_))<0))) (
 none) (
 tif ((decide (by_<0))) (
 none) (
 some ((orI .u64 (shlI .u64 a.1 by_) (shrI .u64 a.2 (IntKind.wrap .i64 ((64:Int)-by_)))),(shlI .u64 a.2 by_)))))):=by kernel_rfl
theorem d1h (n:Nat) (c:b0e):j0m (n+1) c =
 tif ((decide (c.1<1))) (
 some (2:Int)) (
 tif ((decide ((4096:Int)<c.1))) (
 some (2:Int)) (
 tif ((decide (c.2.2.2.1<1))) (
 some (2:Int)) (
 tif ((decide ((65536:Int)<c.2.2.2.1))) (
 some (2:Int)) (
 tif ((decide (c.2.2.2.2<1))) (
 some (2:Int)) (
 tif ((decide ((8192:Int)<c.2.2.2.2))) (
 some (2:Int)) (
 tif ((decide (c.2.1.1<1))) (
 some (2:Int)) (
 tif ((decide ((1099511627776:Int)<c.2.1.1))) (
 some (2:Int)) (
 tif ((decide (c.2.2.1.1<1))) (
 some (2:Int)) (
 tif ((decide ((4096:Int)<c.2.2.1.1))) (
 some (2:Int)) (
 tif ((decide (c.2.1.2.1<1))) (
 some (2:Int)) (
 tif ((decide ((1099511627776:Int)<c.2.1.2.1))) (
 some (2:Int)) (
 tif ((decide (c.2.2.1.2.1<1))) (
 some (2:Int)) (
 tif ((decide ((4096:Int)<c.2.2.1.2.1))) (
 some (2:Int)) (
 tif ((decide (c.2.1.1=0))) (
 none) (
 tif ((!(decide ((Int.tmod c.2.1.2.1 c.2.1.1)=0)))) (
 some (2:Int)) (
 tif ((decide (c.2.1.1=0))) (
 none) (
 tif ((decide (c.2.2.1.1<(IntKind.wrap .i64 (Int.tdiv c.2.1.2.1 c.2.1.1))))) (
 some (2:Int)) (
 tif ((decide (c.2.1.2.2<1))) (
 some (2:Int)) (
 tif ((decide ((1099511627776:Int)<c.2.1.2.2))) (
 some (2:Int)) (
 tif ((decide (c.2.2.1.2.2<1))) (
 some (2:Int)) (
 tif ((decide ((4096:Int)<c.2.2.1.2.2))) (
 some (2:Int)) (
 tif ((decide (c.2.1.2.1=0))) (
 none) (
 tif ((!(decide ((Int.tmod c.2.1.2.2 c.2.1.2.1)=0)))) (
 some (2:Int)) (
 tif ((decide (c.2.1.2.1=0))) (
 none) (
 tif ((decide (c.2.2.1.2.1<(IntKind.wrap .i64 (Int.tdiv c.2.1.2.2 c.2.1.2.1))))) (
 some (2:Int)) (
 a0b (g1i n c) fun r0 =>
 tif ((decide (c.2.2.2.2≤r0))) (
 some (2:Int)) (
 some (0:Int)))))))))))))))))))))))))))):=by kernel_rfl
theorem a2w (n:Nat) (a:a0z) (b:a0z):z0j (n+1) a b =
 a0b (z0t n a.1 b.1) fun r0 =>
 tif (r0) (
 tif ((decide (a.2.1=b.2.1))) (
 a0b (d2y n a.2.2.1 b.2.2.1) fun r1 =>
 tif (r1) (
 a0b (d2w n a.2.2.2.1 b.2.2.2.1) fun r2 =>
 tif (r2) (
 some ((decide (a.2.2.2.2.1=b.2.2.2.2.1))&&((decide (a.2.2.2.2.2.1=b.2.2.2.2.2.1))&&((decide (a.2.2.2.2.2.2.1.1=b.2.2.2.2.2.2.1.1))&&((decide (a.2.2.2.2.2.2.1.2.1=b.2.2.2.2.2.2.1.2.1))&&((decide (a.2.2.2.2.2.2.1.2.2.1=b.2.2.2.2.2.2.1.2.2.1))&&((a.2.2.2.2.2.2.1.2.2.2==b.2.2.2.2.2.2.1.2.2.2)&&((decide (a.2.2.2.2.2.2.2.1.1=b.2.2.2.2.2.2.2.1.1))&&((decide (a.2.2.2.2.2.2.2.1.2.1=b.2.2.2.2.2.2.2.1.2.1))&&((decide (a.2.2.2.2.2.2.2.1.2.2.1=b.2.2.2.2.2.2.2.1.2.2.1))&&((a.2.2.2.2.2.2.2.1.2.2.2==b.2.2.2.2.2.2.2.1.2.2.2)&&((decide (a.2.2.2.2.2.2.2.2.1.1=b.2.2.2.2.2.2.2.2.1.1))&&((decide (a.2.2.2.2.2.2.2.2.1.2=b.2.2.2.2.2.2.2.2.1.2))&&((decide (a.2.2.2.2.2.2.2.2.2.1=b.2.2.2.2.2.2.2.2.2.1))&&((decide (a.2.2.2.2.2.2.2.2.2.2.1=b.2.2.2.2.2.2.2.2.2.2.1))&&(decide (a.2.2.2.2.2.2.2.2.2.2.2=b.2.2.2.2.2.2.2.2.2.2.2))))))))))))))))) (
 some false)) (
 some false)) (
 some false)) (
 some false):=by kernel_rfl
theorem w1a (n:Nat) (r:(Int×(Int×(List a0x)))) (room:Int):g1h (n+1) r room =
 tif ((decide (room<1))) (
 some (2:Int)) (
 tif ((decide ((4096:Int)<room))) (
 some (2:Int)) (
 tif ((decide (room<(((List.length r.2.2):Nat):Int)))) (
 some (2:Int)) (
 tif ((decide (r.1<0))) (
 some (2:Int)) (
 tif ((decide ((70368744177664:Int)<r.1))) (
 some (2:Int)) (
 a0b (i0v n a0d (room,(r,(r.2.2,((((List.length r.2.2):Nat):Int),(0,())))))) fun r0 =>
 b0d (fun y1 =>
 tif ((decide (y1.2.1.1=0))) (
 tif ((!(decide (y1.2.1.2.1=0)))) (
 some (2:Int)) (
 some (0:Int))) (
 tif ((decide (y1.2.1.2.1<0))) (
 some (2:Int)) (
 tif ((decide ((35184372088832:Int)≤y1.2.1.2.1))) (
 some (2:Int)) (
 tif ((!(decide ((((List.length y1.2.1.2.2):Nat):Int)=y1.1)))) (
 some (2:Int)) (
 a0b (at? y1.2.1.2.2 (0:Int)) fun r2 =>
 tif ((decide (r2.1≤y1.2.1.2.1))) (
 some (2:Int)) (
 some (0:Int))))))) (fun z3 =>
 some z3) r0))))):=by kernel_rfl
theorem t0r (n f:Nat) (room:Int) (r_:(Int×(Int×(List a0x)))) (s31:(List a0x)) (s32:Int) (s33:Int):i0v n (f+1) (room,r_,s31,s32,s33,()) =
 tif ((decide (s33<s32))) (
 a0b (at? s31 s33) fun r0 =>
 a0b (n0x n r0) fun r1 =>
 tif ((!(decide (r1=0)))) (
 some (.inr (2:Int))) (
 tif ((decide ((0:Int)<s33))) (
 a0b (at? r_.2.2 (IntKind.wrap .i64 (s33-1))) fun r2 =>
 tif ((decide (r0.1≤r2.1))) (
 some (.inr (2:Int))) (
 i0v n f (room,(r_,(s31,(s32,((IntKind.wrap .i64 (s33+1)),()))))))) (
 i0v n f (room,(r_,(s31,(s32,((IntKind.wrap .i64 (s33+1)),())))))))) (
 some (.inl (room,(r_,())))):=by kernel_rfl
theorem v1y (n:Nat) (c:b0e) (s:((List a0f)×((List a0f)×(List a0f)))):g1e (n+1) c s =
 a0b (j0m n c) fun r0 =>
 tif ((!(decide (r0=0)))) (
 some (2:Int)) (
 tif ((!(decide ((((List.length s.1):Nat):Int)=c.2.2.1.1)))) (
 some (2:Int)) (
 a0b (t0p n s.1 c.2.1.1) fun r1 =>
 tif ((!(decide (r1=0)))) (
 some (2:Int)) (
 tif ((!(decide ((((List.length s.2.1):Nat):Int)=c.2.2.1.2.1)))) (
 some (2:Int)) (
 a0b (t0p n s.2.1 c.2.1.2.1) fun r2 =>
 tif ((!(decide (r2=0)))) (
 some (2:Int)) (
 tif ((!(decide ((((List.length s.2.2):Nat):Int)=c.2.2.1.2.2)))) (
 some (2:Int)) (
 a0b (t0p n s.2.2 c.2.1.2.2) fun r3 =>
 tif ((!(decide (r3=0)))) (
 some (2:Int)) (
 some (0:Int)))))))):=by kernel_rfl
theorem h2o (n:Nat) (l:(List a0f)):r0u (n+1) l =
 a0b (q0c n a0d ([],(l,((((List.length l):Nat):Int),(0,()))))) fun r0 =>
 b0d (fun y1 =>
 some y1.1) (fun z2 =>
 some z2) r0:=by kernel_rfl
theorem z0n (n f:Nat) (out:(List a0f)) (s8:(List a0f)) (s9:Int) (s10:Int):q0c n (f+1) (out,s8,s9,s10,()) =
 tif ((decide (s10<s9))) (
 a0b (at? s8 s10) fun r0 =>
 tif (((decide (r0.1=0))&&((decide (r0.2.1=0))&&((decide (r0.2.2.1.1=0))&&((decide (r0.2.2.1.2.1=0))&&((decide (r0.2.2.1.2.2.1=0))&&((r0.2.2.1.2.2.2==false)&&((decide (r0.2.2.2.1.1=0))&&((decide (r0.2.2.2.1.2.1=0))&&((decide (r0.2.2.2.1.2.2.1=0))&&((r0.2.2.2.1.2.2.2==false)&&((decide (r0.2.2.2.2.1.1=0))&&((decide (r0.2.2.2.2.1.2=0))&&((decide (r0.2.2.2.2.2.1=0))&&((decide (r0.2.2.2.2.2.2.1=0))&&(decide (r0.2.2.2.2.2.2.2=0))))))))))))))))) (
 q0c n f (out,(s8,(s9,((IntKind.wrap .i64 (s10+1)),()))))) (
 a0b (v0l n a0d (out,(r0,((((List.length out):Nat):Int),(s8,(s9,(s10,()))))))) fun r1 =>
 b0d (fun y2 =>
 tif (((decide ((0:Int)≤y2.2.2.1))&&(decide (y2.2.2.1≤(((List.length y2.1):Nat):Int))))) (
 tif ((decide (((0+(List.length (List.take ((Int.toNat y2.2.2.1)-0) (List.drop 0 y2.1))))*120)≤140737488355328))) (
 tif ((decide ((((List.length ([]++(List.take ((Int.toNat y2.2.2.1)-0) (List.drop 0 y2.1))))+1)*120)≤140737488355328))) (
 tif ((decide ((0:Int)≤y2.2.2.1))) (
 tif ((decide ((Int.toNat y2.2.2.1)≤(List.length y2.1)))) (
 tif ((decide ((((List.length (([]++(List.take ((Int.toNat y2.2.2.1)-0) (List.drop 0 y2.1)))++(y2.2.1::[])))+(List.length (List.take ((List.length y2.1)-(Int.toNat y2.2.2.1)) (List.drop (Int.toNat y2.2.2.1) y2.1))))*120)≤140737488355328))) (
 q0c n f (((([]++(List.take ((Int.toNat y2.2.2.1)-0) (List.drop 0 y2.1)))++(y2.2.1::[]))++(List.take ((List.length y2.1)-(Int.toNat y2.2.2.1)) (List.drop (Int.toNat y2.2.2.1) y2.1))),(y2.2.2.2.1,(y2.2.2.2.2.1,((IntKind.wrap .i64 (y2.2.2.2.2.2.1+1)),()))))) (
 none)) (
 none)) (
 none)) (
 none)) (
 none)) (
 none)) (fun z3 =>
 some (.inr z3)) r1)) (
 some (.inl (out,()))):=by kernel_rfl
theorem z0m (n f:Nat) (out:(List a0f)) (s:a0f) (at_:Int) (s8:(List a0f)) (s9:Int) (s10:Int):v0l n (f+1) (out,s,at_,s8,s9,s10,()) =
 tif ((decide ((0:Int)<at_))) (
 a0b (at? out (IntKind.wrap .i64 (at_-1))) fun r0 =>
 a0b ((out)[(Int.toNat (IntKind.wrap .i64 (at_-1)))]?) fun r1 =>
 tif ((decide (s.1<r1.1))) (
 v0l n f (out,(s,((IntKind.wrap .i64 (at_-1)),(s8,(s9,(s10,()))))))) (
 some (.inl (out,(s,(at_,(s8,(s9,(s10,()))))))))) (
 some (.inl (out,(s,(at_,(s8,(s9,(s10,())))))))):=by kernel_rfl
theorem b2f (n:Nat) (r:(Int×(Int×(List a0x)))):r1j (n+1) r =
 tif ((decide ((((List.length r.2.2):Nat):Int)=0))) (
 some ((0,(0,(0,false))),3)) (
 a0b (at? r.2.2 (IntKind.wrap .i64 ((((List.length r.2.2):Nat):Int)-1))) fun r0 =>
 some (r0,0)):=by kernel_rfl
theorem b2c (n:Nat) (c:b0k) (w:Int) (i:Int):e1s (n+1) c w i =
 a0b (t0t n c) fun r0 =>
 tif ((!(decide (r0=0)))) (
 some false) (
 tif ((decide (c.1=0))) (
 some false) (
 a0b (d0m n c.2.1.1 w) fun r1 =>
 a0b (d0m n c.2.2.1.1 w) fun r2 =>
 tif ((decide (r1.2=0))) (
 tif ((decide (r2.2=0))) (
 tif ((decide (r1.1=i))) (
 some (decide (r2.1=i))) (
 some false)) (
 some false)) (
 some false))):=by kernel_rfl
theorem a2x (n:Nat) (c:b0e) (last:Int) (now:Int):r1g (n+1) c last now =
 a0b (j0m n c) fun r0 =>
 tif ((!(decide (r0=0)))) (
 some false) (
 a0b (z0q n last now c.2.1.1 c.2.2.1.1) fun r1 =>
 tif ((!r1)) (
 some false) (
 a0b (z0q n last now c.2.1.2.1 c.2.2.1.2.1) fun r2 =>
 tif ((!r2)) (
 some false) (
 a0b (z0q n last now c.2.1.2.2 c.2.2.1.2.2) fun r3 =>
 tif ((!r3)) (
 some false) (
 some true)))):=by kernel_rfl
theorem w1o (n:Nat) (a:(Int×Int)) (d:(Int×Int)):u0a (n+1) a d =
 tif (((decide (d.1=0))&&(decide (d.2=0)))) (
 some ((0,0),a)) (
 a0b (i0b n a) fun r0 =>
 tif ((decide (16=((((((((((((((((1+1)+1)+1)+1)+1)+1)+1)+1)+1)+1)+1)+1)+1)+1)+1) / 1)))) (
 a0b (g0u n a0d (d,((0,0),((0,0),((List.replicate 16 (0:Int)),((0,0),((r0.1::(r0.2.1::(r0.2.2.1::(r0.2.2.2.1::(r0.2.2.2.2.1::(r0.2.2.2.2.2.1::(r0.2.2.2.2.2.2.1::(r0.2.2.2.2.2.2.2.1::(r0.2.2.2.2.2.2.2.2.1::(r0.2.2.2.2.2.2.2.2.2.1::(r0.2.2.2.2.2.2.2.2.2.2.1::(r0.2.2.2.2.2.2.2.2.2.2.2.1::(r0.2.2.2.2.2.2.2.2.2.2.2.2.1::(r0.2.2.2.2.2.2.2.2.2.2.2.2.2.1::(r0.2.2.2.2.2.2.2.2.2.2.2.2.2.2.1::(r0.2.2.2.2.2.2.2.2.2.2.2.2.2.2.2::[])))))))))))))))),(127,())))))))) fun r1 =>
 b0d (fun y2 =>
 a0b ((y2.2.2.1)[0]?) fun r3 =>
 a0b ((y2.2.2.1)[1]?) fun r4 =>
 a0b ((y2.2.2.1)[2]?) fun r5 =>
 a0b ((y2.2.2.1)[3]?) fun r6 =>
 a0b ((y2.2.2.1)[4]?) fun r7 =>
 a0b ((y2.2.2.1)[5]?) fun r8 =>
 a0b ((y2.2.2.1)[6]?) fun r9 =>
 a0b ((y2.2.2.1)[7]?) fun r10 =>
 a0b ((y2.2.2.1)[8]?) fun r11 =>
 a0b ((y2.2.2.1)[9]?) fun r12 =>
 a0b ((y2.2.2.1)[10]?) fun r13 =>
 a0b ((y2.2.2.1)[11]?) fun r14 =>
 a0b ((y2.2.2.1)[12]?) fun r15 =>
 a0b ((y2.2.2.1)[13]?) fun r16 =>
 a0b ((y2.2.2.1)[14]?) fun r17 =>
 a0b ((y2.2.2.1)[15]?) fun r18 =>
 a0b (d1j n (r3,(r4,(r5,(r6,(r7,(r8,(r9,(r10,(r11,(r12,(r13,(r14,(r15,(r16,(r17,r18)))))))))))))))) fun r19 =>
 some (r19,y2.2.2.2.1)) (fun z20 =>
 some z20) r1) (
 none)):=by kernel_rfl
theorem t0z (n f:Nat) (d_:(Int×Int)) (s4:(Int×Int)) (s5:(Int×Int)) (out:(List Int)) (left:(Int×Int)) (x:(List Int)) (i:Int):g0u n (f+1) (d_,s4,s5,out,left,x,i,()) =
 tif ((decide ((0:Int)≤i))) (
 a0b (l0o n left left) fun r0 =>
 tif ((!(decide (r0.2=0)))) (
 a0b (g1q n d_ left) fun r1 =>
 a0b (g1q n left r1.1) fun r2 =>
 tif (((decide ((0:Int)≤(IntKind.wrap .i64 (Int.tdiv i (8:Int)))))&&((decide ((IntKind.wrap .i64 (Int.tdiv i (8:Int)))<16))&&(decide ((IntKind.wrap .i64 (Int.tdiv i (8:Int)))<(((List.length x):Nat):Int)))))) (
 a0b ((x)[(Int.toNat (IntKind.wrap .i64 (Int.tdiv i (8:Int))))]?) fun r3 =>
 tif ((decide ((Int.tmod i (8:Int))<0))) (
 none) (
 a0b (l0o n r2.1 (0,(IntKind.wrap .u64 (andI .i64 (shrI .i64 r3 (Int.tmod i (8:Int))) (1:Int))))) fun r4 =>
 tif (((decide ((0:Int)≤(IntKind.wrap .i64 (Int.tdiv i (8:Int)))))&&((decide ((IntKind.wrap .i64 (Int.tdiv i (8:Int)))<16))&&(decide ((IntKind.wrap .i64 (Int.tdiv i (8:Int)))<(((List.length out):Nat):Int)))))) (
 a0b ((out)[(Int.toNat (IntKind.wrap .i64 (Int.tdiv i (8:Int))))]?) fun r5 =>
 tif ((decide ((Int.tmod i (8:Int))<0))) (
 none) (
 tif (((decide ((0:Int)≤(IntKind.wrap .i64 (Int.tdiv i (8:Int)))))&&((decide ((IntKind.wrap .i64 (Int.tdiv i (8:Int)))<16))&&(decide ((IntKind.wrap .i64 (Int.tdiv i (8:Int)))<(((List.length out):Nat):Int)))))) (
 a0b ((out)[(Int.toNat (IntKind.wrap .i64 (Int.tdiv i (8:Int))))]?) fun r6 =>
 g0u n f (d_,(s4,(s5,((List.set out (Int.toNat (IntKind.wrap .i64 (Int.tdiv i (8:Int)))) (orI .i64 r5 (shlI .i64 (1:Int) (Int.tmod i (8:Int))))),(r4.1,(x,((IntKind.wrap .i64 (i-1)),())))))))) (
 none))) (
 none))) (
 none)) (
 tif (((decide ((0:Int)≤(IntKind.wrap .i64 (Int.tdiv i (8:Int)))))&&((decide ((IntKind.wrap .i64 (Int.tdiv i (8:Int)))<16))&&(decide ((IntKind.wrap .i64 (Int.tdiv i (8:Int)))<(((List.length x):Nat):Int)))))) (
 a0b ((x)[(Int.toNat (IntKind.wrap .i64 (Int.tdiv i (8:Int))))]?) fun r7 =>
 tif ((decide ((Int.tmod i (8:Int))<0))) (
 none) (
 a0b (l0o n r0.1 (0,(IntKind.wrap .u64 (andI .i64 (shrI .i64 r7 (Int.tmod i (8:Int))) (1:Int))))) fun r8 =>
 a0b (j0o n r8.1 d_) fun r9 =>
 tif ((!r9)) (
 a0b (g1q n r8.1 d_) fun r10 =>
 tif (((decide ((0:Int)≤(IntKind.wrap .i64 (Int.tdiv i (8:Int)))))&&((decide ((IntKind.wrap .i64 (Int.tdiv i (8:Int)))<16))&&(decide ((IntKind.wrap .i64 (Int.tdiv i (8:Int)))<(((List.length out):Nat):Int)))))) (
 a0b ((out)[(Int.toNat (IntKind.wrap .i64 (Int.tdiv i (8:Int))))]?) fun r11 =>
 tif ((decide ((Int.tmod i (8:Int))<0))) (
 none) (
 tif (((decide ((0:Int)≤(IntKind.wrap .i64 (Int.tdiv i (8:Int)))))&&((decide ((IntKind.wrap .i64 (Int.tdiv i (8:Int)))<16))&&(decide ((IntKind.wrap .i64 (Int.tdiv i (8:Int)))<(((List.length out):Nat):Int)))))) (
 a0b ((out)[(Int.toNat (IntKind.wrap .i64 (Int.tdiv i (8:Int))))]?) fun r12 =>
 g0u n f (d_,(s4,(s5,((List.set out (Int.toNat (IntKind.wrap .i64 (Int.tdiv i (8:Int)))) (orI .i64 r11 (shlI .i64 (1:Int) (Int.tmod i (8:Int))))),(r10.1,(x,((IntKind.wrap .i64 (i-1)),())))))))) (
 none))) (
 none)) (
 g0u n f (d_,(s4,(s5,(out,(r8.1,(x,((IntKind.wrap .i64 (i-1)),())))))))))) (
 none))) (
 some (.inl (s4,(s5,(out,(left,())))))):=by kernel_rfl
theorem b2s (n:Nat) (s:List UInt8):r1o (n+1) s =
 tif ((decide ((((List.length s):Nat):Int)<1))) (
 some false) (
 tif ((decide ((64:Int)<(((List.length s):Nat):Int)))) (
 some false) (
 a0b (at? s (0:Int)) fun r0 =>
 tif ((decide ((48:Int)≤(((UInt8.toNat r0):Nat):Int)))) (
 a0b (at? s (0:Int)) fun r1 =>
 tif ((decide ((((UInt8.toNat r1):Nat):Int)≤57))) (
 some false) (
 a0b (b0w n a0d (s,(0,()))) fun r2 =>
 b0d (fun y3 =>
 some true) (fun z4 =>
 some z4) r2)) (
 a0b (b0w n a0d (s,(0,()))) fun r5 =>
 b0d (fun y6 =>
 some true) (fun z7 =>
 some z7) r5))):=by kernel_rfl
theorem w0r (n f:Nat) (s:List UInt8) (i:Int):b0w n (f+1) (s,i,()) =
 tif ((decide (i<(((List.length s):Nat):Int)))) (
 a0b (at? s i) fun r0 =>
 tif ((decide ((97:Int)≤(((UInt8.toNat r0):Nat):Int)))) (
 tif ((decide ((((UInt8.toNat r0):Nat):Int)≤122))) (
 b0w n f (s,((IntKind.wrap .i64 (i+1)),()))) (
 tif ((decide ((65:Int)≤(((UInt8.toNat r0):Nat):Int)))) (
 tif ((decide ((((UInt8.toNat r0):Nat):Int)≤90))) (
 b0w n f (s,((IntKind.wrap .i64 (i+1)),()))) (
 tif ((decide ((48:Int)≤(((UInt8.toNat r0):Nat):Int)))) (
 tif ((decide ((((UInt8.toNat r0):Nat):Int)≤57))) (
 b0w n f (s,((IntKind.wrap .i64 (i+1)),()))) (
 tif ((!(decide ((((UInt8.toNat r0):Nat):Int)=95)))) (
 some (.inr false)) (
 b0w n f (s,((IntKind.wrap .i64 (i+1)),()))))) (
 tif ((!(decide ((((UInt8.toNat r0):Nat):Int)=95)))) (
 some (.inr false)) (
 b0w n f (s,((IntKind.wrap .i64 (i+1)),())))))) (
 tif ((decide ((48:Int)≤(((UInt8.toNat r0):Nat):Int)))) (
 tif ((decide ((((UInt8.toNat r0):Nat):Int)≤57))) (
 b0w n f (s,((IntKind.wrap .i64 (i+1)),()))) (
 tif ((!(decide ((((UInt8.toNat r0):Nat):Int)=95)))) (
 some (.inr false)) (
 b0w n f (s,((IntKind.wrap .i64 (i+1)),()))))) (
 tif ((!(decide ((((UInt8.toNat r0):Nat):Int)=95)))) (
 some (.inr false)) (
 b0w n f (s,((IntKind.wrap .i64 (i+1)),()))))))) (
 tif ((decide ((65:Int)≤(((UInt8.toNat r0):Nat):Int)))) (
 tif ((decide ((((UInt8.toNat r0):Nat):Int)≤90))) (
 b0w n f (s,((IntKind.wrap .i64 (i+1)),()))) (
 tif ((decide ((48:Int)≤(((UInt8.toNat r0):Nat):Int)))) (
 tif ((decide ((((UInt8.toNat r0):Nat):Int)≤57))) (
 b0w n f (s,((IntKind.wrap .i64 (i+1)),()))) (
 tif ((!(decide ((((UInt8.toNat r0):Nat):Int)=95)))) (
 some (.inr false)) (
 b0w n f (s,((IntKind.wrap .i64 (i+1)),()))))) (
 tif ((!(decide ((((UInt8.toNat r0):Nat):Int)=95)))) (
 some (.inr false)) (
 b0w n f (s,((IntKind.wrap .i64 (i+1)),())))))) (
 tif ((decide ((48:Int)≤(((UInt8.toNat r0):Nat):Int)))) (
 tif ((decide ((((UInt8.toNat r0):Nat):Int)≤57))) (
 b0w n f (s,((IntKind.wrap .i64 (i+1)),()))) (
 tif ((!(decide ((((UInt8.toNat r0):Nat):Int)=95)))) (
 some (.inr false)) (
 b0w n f (s,((IntKind.wrap .i64 (i+1)),()))))) (
 tif ((!(decide ((((UInt8.toNat r0):Nat):Int)=95)))) (
 some (.inr false)) (
 b0w n f (s,((IntKind.wrap .i64 (i+1)),()))))))) (
 some (.inl ())):=by kernel_rfl
theorem d1i (n:Nat) (w:Int):g1j (n+1) w =
 tif ((decide ((1:Int)≤w))) (
 some (decide (w≤1099511627776))) (
 some false):=by kernel_rfl
theorem b2b (n:Nat) (l:(List a0f)) (i:Int) (k:Int):r0t (n+1) l i k =
 tif ((decide (i<0))) (
 some ((0,((0,(0,(0,false))),((0,(0,(0,false))),((0,0),(0,(0,0)))))),1)) (
 tif ((decide (k<i))) (
 some ((0,((0,(0,(0,false))),((0,(0,(0,false))),((0,0),(0,(0,0)))))),1)) (
 a0b (r0u n l) fun r0 =>
 a0b (i0k n a0d (l,(i,(k,((0,((0,(0,(0,false))),((0,(0,(0,false))),((0,0),(0,(0,0)))))),([],(r0,((((List.length r0):Nat):Int),(0,()))))))))) fun r1 =>
 b0d (fun y2 =>
 a0b (b2l n y2.2.1) fun r3 =>
 some r3) (fun z4 =>
 some z4) r1)):=by kernel_rfl
theorem w0q (n f:Nat) (l:(List a0f)) (i:Int) (k:Int) (s6:b0k) (cells:(List b0k)) (s20:(List a0f)) (s21:Int) (s22:Int):i0k n (f+1) (l,i,k,s6,cells,s20,s21,s22,()) =
 tif ((decide (s22<s21))) (
 a0b (at? s20 s22) fun r0 =>
 tif ((decide (i≤r0.1))) (
 tif ((decide (r0.1<k))) (
 a0b (b1s n l r0.1) fun r1 =>
 tif (((decide (r1.1=r0.2.1))&&((decide (r1.2.1.1=r0.2.2.1.1))&&((decide (r1.2.1.2.1=r0.2.2.1.2.1))&&((decide (r1.2.1.2.2.1=r0.2.2.1.2.2.1))&&((r1.2.1.2.2.2==r0.2.2.1.2.2.2)&&((decide (r1.2.2.1.1=r0.2.2.2.1.1))&&((decide (r1.2.2.1.2.1=r0.2.2.2.1.2.1))&&((decide (r1.2.2.1.2.2.1=r0.2.2.2.1.2.2.1))&&((r1.2.2.1.2.2.2==r0.2.2.2.1.2.2.2)&&((decide (r1.2.2.2.1.1=r0.2.2.2.2.1.1))&&((decide (r1.2.2.2.1.2=r0.2.2.2.2.1.2))&&((decide (r1.2.2.2.2.1=r0.2.2.2.2.2.1))&&((decide (r1.2.2.2.2.2.1=r0.2.2.2.2.2.2.1))&&(decide (r1.2.2.2.2.2.2=r0.2.2.2.2.2.2.2)))))))))))))))) (
 tif ((decide ((((List.length cells)+1)*112)≤140737488355328))) (
 i0k n f (l,(i,(k,(s6,((cells++(r0.2::[])),(s20,(s21,((IntKind.wrap .i64 (s22+1)),()))))))))) (
 none)) (
 i0k n f (l,(i,(k,(s6,(cells,(s20,(s21,((IntKind.wrap .i64 (s22+1)),())))))))))) (
 i0k n f (l,(i,(k,(s6,(cells,(s20,(s21,((IntKind.wrap .i64 (s22+1)),())))))))))) (
 i0k n f (l,(i,(k,(s6,(cells,(s20,(s21,((IntKind.wrap .i64 (s22+1)),())))))))))) (
 some (.inl (s6,(cells,())))):=by kernel_rfl
theorem b2v (n:Nat) (inc:(Int×Int)) (ms:Int):r1q (n+1) inc ms =
 tif ((decide (ms=0))) (
 some (((0,0),(0,0)),12)) (
 a0b (n0z n inc (1000:Int)) fun r0 =>
 tif ((!(decide (r0.2=0)))) (
 some (((0,0),(0,0)),r0.2)) (
 a0b (b1t n r0.1 (0,ms)) fun r1 =>
 some r1)):=by kernel_rfl
theorem n1u (n:Nat) (n_:Int) (low:Int) (high:Int):g0x (n+1) n_ low high =
 tif ((decide (low≤n_))) (
 some (decide (n_≤high))) (
 some false):=by kernel_rfl
theorem e1h (n:Nat) (n_:Int) (low:Int) (high:Int):j0t (n+1) n_ low high =
 tif ((decide (low≤n_))) (
 some (decide (n_≤high))) (
 some false):=by kernel_rfl
theorem t1o (n:Nat) (c:b0e):m0v (n+1) c =
 a0b (m0w n c.1 (16:Int)) fun r0 =>
 a0b (m0w n c.2.2.1.1 (4:Int)) fun r1 =>
 a0b (m0w n c.2.2.1.2.1 (4:Int)) fun r2 =>
 a0b (m0w n c.2.2.1.2.2 (4:Int)) fun r3 =>
 some (IntKind.wrap .i64 ((IntKind.wrap .i64 ((IntKind.wrap .i64 ((IntKind.wrap .i64 ((1:Int)+r0))+r1))+r2))+r3)):=by kernel_rfl
theorem j1n (n:Nat) (a:a0z) (b:a0z):n0r (n+1) a b =
 a0b (i0y n a.1 b.1) fun r0 =>
 tif (r0) (
 tif ((decide (a.2.1=b.2.1))) (
 a0b (d2t n a.2.2.1 b.2.2.1) fun r1 =>
 tif (r1) (
 tif (((decide (a.2.2.2.2.1=b.2.2.2.2.1))&&((decide (a.2.2.2.2.2.1=b.2.2.2.2.2.1))&&((decide (a.2.2.2.2.2.2.1.1=b.2.2.2.2.2.2.1.1))&&((decide (a.2.2.2.2.2.2.1.2.1=b.2.2.2.2.2.2.1.2.1))&&((decide (a.2.2.2.2.2.2.1.2.2.1=b.2.2.2.2.2.2.1.2.2.1))&&((a.2.2.2.2.2.2.1.2.2.2==b.2.2.2.2.2.2.1.2.2.2)&&((decide (a.2.2.2.2.2.2.2.1.1=b.2.2.2.2.2.2.2.1.1))&&((decide (a.2.2.2.2.2.2.2.1.2.1=b.2.2.2.2.2.2.2.1.2.1))&&((decide (a.2.2.2.2.2.2.2.1.2.2.1=b.2.2.2.2.2.2.2.1.2.2.1))&&((a.2.2.2.2.2.2.2.1.2.2.2==b.2.2.2.2.2.2.2.1.2.2.2)&&((decide (a.2.2.2.2.2.2.2.2.1.1=b.2.2.2.2.2.2.2.2.1.1))&&((decide (a.2.2.2.2.2.2.2.2.1.2=b.2.2.2.2.2.2.2.2.1.2))&&((decide (a.2.2.2.2.2.2.2.2.2.1=b.2.2.2.2.2.2.2.2.2.1))&&((decide (a.2.2.2.2.2.2.2.2.2.2.1=b.2.2.2.2.2.2.2.2.2.2.1))&&(decide (a.2.2.2.2.2.2.2.2.2.2.2=b.2.2.2.2.2.2.2.2.2.2.2))))))))))))))))) (
 a0b (j0h n a.2.2.2.1.1 b.2.2.2.1.1) fun r2 =>
 tif (r2) (
 a0b (j0h n a.2.2.2.1.2.1 b.2.2.2.1.2.1) fun r3 =>
 tif (r3) (
 a0b (j0h n a.2.2.2.1.2.2 b.2.2.2.1.2.2) fun r4 =>
 some r4) (
 some false)) (
 some false)) (
 some false)) (
 some false)) (
 some false)) (
 some false):=by kernel_rfl
theorem y0m (n:Nat) (k:Int) (p1:Int) (p2:a0m):g0p (n+1) k p1 p2 =
 tif ((decide (k=p1))) (
 some true) (
 a0b (f0y n p2 k) fun r0 =>
 tif (r0) (
 a0b (at? p2.2.2.2 k) fun r1 =>
 a0b (at? p2.2.2.2 p1) fun r2 =>
 a0b (i0y n r1.1 r2.1) fun r3 =>
 some r3) (
 some false)):=by kernel_rfl
theorem s1v (n:Nat) (s:List UInt8):c1f (n+1) s =
 tif ((s==[])) (
 some false) (
 tif ((decide ((64:Int)<(((List.length s):Nat):Int)))) (
 some false) (
 a0b (at? s (0:Int)) fun r0 =>
 a0b (s0f n (((UInt8.toNat r0):Nat):Int)) fun r1 =>
 tif (r1) (
 some false) (
 a0b (h0s n (List.map (fun y2=>(((UInt8.toNat y2):Nat):Int)) s) (fun y3=>u0l n y3.1)) fun r4 =>
 some (!r4)))):=by kernel_rfl
theorem q1h (n:Nat) (s:c0t) (i:Int) (j:Int):r0j (n+1) s (0:Int) i j =
 tif ((decide (s.2.2.1=((-1):Int)))) (
 some ((0,((0,(0,(0,false))),((0,(0,(0,false))),((0,0),(0,(0,0)))))),0)) (
 tif ((decide (s.1.2.1.1=0))) (
 none) (
 a0b (n0k n s.2.2.2.2.1.1 i j) fun r0 =>
 tif ((!(decide (r0.2=0)))) (
 some r0) (
 tif ((decide ((IntKind.wrap .i64 (Int.tdiv s.2.2.1 s.1.2.1.1))<i))) (
 some r0) (
 tif ((decide (j≤(IntKind.wrap .i64 (Int.tdiv s.2.2.1 s.1.2.1.1))))) (
 some r0) (
 a0b (n0n n s (0:Int)) fun r1 =>
 tif ((!(decide (r1.2=0)))) (
 some ((0,((0,(0,(0,false))),((0,(0,(0,false))),((0,0),(0,(0,0)))))),r1.2)) (
 a0b (i0z n r0.1 r1.1) fun r2 =>
 some r2)))))):=by kernel_rfl
theorem q1g (n:Nat) (s:c0t) (i:Int) (j:Int):r0j (n+1) s (1:Int) i j =
 tif ((decide (s.2.2.1=((-1):Int)))) (
 some ((0,((0,(0,(0,false))),((0,(0,(0,false))),((0,0),(0,(0,0)))))),0)) (
 tif ((decide (s.1.2.1.2.1=0))) (
 none) (
 a0b (n0k n s.2.2.2.2.1.2.1 i j) fun r0 =>
 tif ((!(decide (r0.2=0)))) (
 some r0) (
 tif ((decide ((IntKind.wrap .i64 (Int.tdiv s.2.2.1 s.1.2.1.2.1))<i))) (
 some r0) (
 tif ((decide (j≤(IntKind.wrap .i64 (Int.tdiv s.2.2.1 s.1.2.1.2.1))))) (
 some r0) (
 a0b (n0n n s (1:Int)) fun r1 =>
 tif ((!(decide (r1.2=0)))) (
 some ((0,((0,(0,(0,false))),((0,(0,(0,false))),((0,0),(0,(0,0)))))),r1.2)) (
 a0b (i0z n r0.1 r1.1) fun r2 =>
 some r2)))))):=by kernel_rfl
theorem q1f (n:Nat) (s:c0t) (i:Int) (j:Int):r0j (n+1) s (2:Int) i j =
 tif ((decide (s.2.2.1=((-1):Int)))) (
 some ((0,((0,(0,(0,false))),((0,(0,(0,false))),((0,0),(0,(0,0)))))),0)) (
 tif ((decide (s.1.2.1.2.2=0))) (
 none) (
 a0b (n0k n s.2.2.2.2.1.2.2 i j) fun r0 =>
 tif ((!(decide (r0.2=0)))) (
 some r0) (
 tif ((decide ((IntKind.wrap .i64 (Int.tdiv s.2.2.1 s.1.2.1.2.2))<i))) (
 some r0) (
 tif ((decide (j≤(IntKind.wrap .i64 (Int.tdiv s.2.2.1 s.1.2.1.2.2))))) (
 some r0) (
 a0b (n0n n s (2:Int)) fun r1 =>
 tif ((!(decide (r1.2=0)))) (
 some ((0,((0,(0,(0,false))),((0,(0,(0,false))),((0,0),(0,(0,0)))))),r1.2)) (
 a0b (i0z n r0.1 r1.1) fun r2 =>
 some r2)))))):=by kernel_rfl
theorem f1z (n:Nat) (num:(Int×Int)) (den:(Int×Int)):t0g (n+1) num den =
 a0b (m0q n den) fun r0 =>
 tif (r0) (
 some (((0,0),(0,0)),1)) (
 a0b (g1a n num den) fun r1 =>
 a0b (r0r n num r1) fun r2 =>
 a0b (r0r n den r1) fun r3 =>
 some ((r2,r3),0)):=by kernel_rfl
theorem y1l (n:Nat) (s:a0m) (k:Int):y1m (n+1) s k =
 a0b (f0d n s) fun r0 =>
 tif ((!(decide (r0=0)))) (
 some r0) (
 tif ((decide (k<0))) (
 some (1:Int)) (
 tif ((decide ((3:Int)≤k))) (
 some (1:Int)) (
 some (0:Int)))):=by kernel_rfl
theorem j1j (n:Nat) (n_:Int) (low:Int) (high:Int):r0f (n+1) n_ low high =
 tif ((decide (low≤n_))) (
 some (decide (n_≤high))) (
 some false):=by kernel_rfl
theorem s1z (n:Nat) (c:b0e) (s:((List a0f)×((List a0f)×(List a0f)))):c1j (n+1) c s =
 a0b (i1p n c s) fun r0 =>
 oelim (r0.1) (
 some r0.2) fun r1 =>
 some r0.2:=by kernel_rfl
theorem v1n (n:Nat) (r:(Int×(Int×(List a0x)))) (room:Int):f1y (n+1) r room =
 tif ((decide (room<1))) (
 some (2:Int)) (
 tif ((decide ((4096:Int)<room))) (
 some (2:Int)) (
 tif ((decide (room<(((List.length r.2.2):Nat):Int)))) (
 some (2:Int)) (
 tif ((decide (r.1<0))) (
 some (2:Int)) (
 tif ((decide ((70368744177664:Int)<r.1))) (
 some (2:Int)) (
 a0b (b1n n r.2.2) fun r0 =>
 tif ((!r0)) (
 some (2:Int)) (
 a0b (o1q n r room) fun r1 =>
 tif ((!r1)) (
 some (2:Int)) (
 some (0:Int)))))))):=by kernel_rfl
theorem v1c (n:Nat) (s:c0t):f1q (n+1) s =
 tif ((decide ((((List.length s.2.2.2.1.2.2):Nat):Int)=0))) (
 tif (((decide (s.2.2.2.2.2.1=0))&&((decide (s.2.2.2.2.2.2.1=0))&&((decide (s.2.2.2.2.2.2.2.1.1=0))&&((decide (s.2.2.2.2.2.2.2.1.2.1=0))&&((decide (s.2.2.2.2.2.2.2.1.2.2.1=0))&&((s.2.2.2.2.2.2.2.1.2.2.2==false)&&((decide (s.2.2.2.2.2.2.2.2.1.1=0))&&((decide (s.2.2.2.2.2.2.2.2.1.2.1=0))&&((decide (s.2.2.2.2.2.2.2.2.1.2.2.1=0))&&((s.2.2.2.2.2.2.2.2.1.2.2.2==false)&&((decide (s.2.2.2.2.2.2.2.2.2.1.1=0))&&((decide (s.2.2.2.2.2.2.2.2.2.1.2=0))&&((decide (s.2.2.2.2.2.2.2.2.2.2.1=0))&&((decide (s.2.2.2.2.2.2.2.2.2.2.2.1=0))&&(decide (s.2.2.2.2.2.2.2.2.2.2.2.2=0))))))))))))))))) (
 a0b (e0v n s.2.2.2.2.1.1 (0:Int)) fun r0 =>
 tif ((!r0)) (
 a0b (e0v n s.2.2.2.2.1.2.1 (0:Int)) fun r1 =>
 tif ((!r1)) (
 a0b (e0v n s.2.2.2.2.1.2.2 (0:Int)) fun r2 =>
 some (!r2)) (
 some false)) (
 some false)) (
 some false)) (
 some false):=by kernel_rfl
theorem z1v (n:Nat) (s:c0t):e1q (n+1) s =
 a0b (q1t n s.2.2.2.1) fun r0 =>
 tif ((decide (r0.2=0))) (
 tif ((decide (r0.1.1=s.2.2.1))) (
 tif ((decide (s.2.2.2.2.2.2.2.2.1.1=s.2.2.1))) (
 a0b (y0j n s.2.2.2.2.2.2 s.1.2.1.1 s.2.2.2.2.2.1) fun r1 =>
 tif (r1) (
 tif ((decide (s.1.2.1.1=0))) (
 none) (
 a0b (e0v n s.2.2.2.2.1.1 (IntKind.wrap .i64 (Int.tdiv s.2.2.1 s.1.2.1.1))) fun r2 =>
 tif ((!r2)) (
 tif ((decide (s.1.2.1.2.1=0))) (
 none) (
 a0b (e0v n s.2.2.2.2.1.2.1 (IntKind.wrap .i64 (Int.tdiv s.2.2.1 s.1.2.1.2.1))) fun r3 =>
 tif ((!r3)) (
 tif ((decide (s.1.2.1.2.2=0))) (
 none) (
 a0b (e0v n s.2.2.2.2.1.2.2 (IntKind.wrap .i64 (Int.tdiv s.2.2.1 s.1.2.1.2.2))) fun r4 =>
 some (!r4))) (
 some false))) (
 some false))) (
 some false)) (
 some false)) (
 some false)) (
 some false):=by kernel_rfl
theorem u1s (n:Nat) (l:(List a0f)) (i:Int) (k:Int):n0k (n+1) l i k =
 tif ((decide (i<0))) (
 some ((0,((0,(0,(0,false))),((0,(0,(0,false))),((0,0),(0,(0,0)))))),1)) (
 tif ((decide (k<i))) (
 some ((0,((0,(0,(0,false))),((0,(0,(0,false))),((0,0),(0,(0,0)))))),1)) (
 a0b (q1b n l) fun r0 =>
 a0b (i0p n a0d (i,(k,((0,((0,(0,(0,false))),((0,(0,(0,false))),((0,0),(0,(0,0)))))),([],(r0,((((List.length r0):Nat):Int),(0,())))))))) fun r1 =>
 b0d (fun y2 =>
 a0b (t1x n y2.2.1) fun r3 =>
 some r3) (fun z4 =>
 some z4) r1)):=by kernel_rfl
theorem s0x (n f:Nat) (i:Int) (k:Int) (s6:b0k) (cells:(List b0k)) (s20:(List a0f)) (s21:Int) (s22:Int):i0p n (f+1) (i,k,s6,cells,s20,s21,s22,()) =
 tif ((decide (s22<s21))) (
 a0b (at? s20 s22) fun r0 =>
 tif ((decide (i≤r0.1))) (
 tif ((decide (r0.1<k))) (
 tif ((decide ((((List.length cells)+1)*112)≤140737488355328))) (
 i0p n f (i,(k,(s6,((cells++(r0.2::[])),(s20,(s21,((IntKind.wrap .i64 (s22+1)),())))))))) (
 none)) (
 i0p n f (i,(k,(s6,(cells,(s20,(s21,((IntKind.wrap .i64 (s22+1)),()))))))))) (
 i0p n f (i,(k,(s6,(cells,(s20,(s21,((IntKind.wrap .i64 (s22+1)),()))))))))) (
 some (.inl (s6,(cells,())))):=by kernel_rfl
theorem f2w (n:Nat) (i:Int) (n_:Int):p1r (n+1) i n_ =
 tif ((decide (i<0))) (
 some (0:Int)) (
 tif ((decide (n_<1))) (
 some (0:Int)) (
 tif ((decide (n_=0))) (
 none) (
 some (Int.tmod i n_)))):=by kernel_rfl
theorem h2m (n:Nat) (l:(List a0f)) (i:Int):b1s (n+1) l i =
 tif ((decide (i<0))) (
 some (0,((0,(0,(0,false))),((0,(0,(0,false))),((0,0),(0,(0,0))))))) (
 tif ((decide ((((List.length l):Nat):Int)=0))) (
 some (0,((0,(0,(0,false))),((0,(0,(0,false))),((0,0),(0,(0,0))))))) (
 a0b (e1t n i (((List.length l):Nat):Int)) fun r0 =>
 a0b (at? l r0) fun r1 =>
 tif ((!(decide (r1.1=i)))) (
 some (0,((0,(0,(0,false))),((0,(0,(0,false))),((0,0),(0,(0,0))))))) (
 some r1.2))):=by kernel_rfl
theorem z0p (n:Nat) (c:b0e) (tier:Int):q0f (n+1) c tier =
 a0b (j0m n c) fun r0 =>
 tif ((!(decide (r0=0)))) (
 some (0:Int)) (
 tif ((decide (tier<1))) (
 some (0:Int)) (
 tif ((decide ((2:Int)<tier))) (
 some (0:Int)) (
 tif ((decide (tier=0))) (
 tif ((decide ((IntKind.wrap .i64 (tier-1))=0))) (
 tif ((decide (c.2.1.1=0))) (
 none) (
 some (IntKind.wrap .i64 (Int.tdiv c.2.1.1 c.2.1.1)))) (
 tif ((decide ((IntKind.wrap .i64 (tier-1))=1))) (
 tif ((decide (c.2.1.2.1=0))) (
 none) (
 some (IntKind.wrap .i64 (Int.tdiv c.2.1.1 c.2.1.2.1)))) (
 tif ((decide ((IntKind.wrap .i64 (tier-1))=2))) (
 tif ((decide (c.2.1.2.2=0))) (
 none) (
 some (IntKind.wrap .i64 (Int.tdiv c.2.1.1 c.2.1.2.2)))) (
 none)))) (
 tif ((decide (tier=1))) (
 tif ((decide ((IntKind.wrap .i64 (tier-1))=0))) (
 tif ((decide (c.2.1.1=0))) (
 none) (
 some (IntKind.wrap .i64 (Int.tdiv c.2.1.2.1 c.2.1.1)))) (
 tif ((decide ((IntKind.wrap .i64 (tier-1))=1))) (
 tif ((decide (c.2.1.2.1=0))) (
 none) (
 some (IntKind.wrap .i64 (Int.tdiv c.2.1.2.1 c.2.1.2.1)))) (
 tif ((decide ((IntKind.wrap .i64 (tier-1))=2))) (
 tif ((decide (c.2.1.2.2=0))) (
 none) (
 some (IntKind.wrap .i64 (Int.tdiv c.2.1.2.1 c.2.1.2.2)))) (
 none)))) (
 tif ((decide (tier=2))) (
 tif ((decide ((IntKind.wrap .i64 (tier-1))=0))) (
 tif ((decide (c.2.1.1=0))) (
 none) (
 some (IntKind.wrap .i64 (Int.tdiv c.2.1.2.2 c.2.1.1)))) (
 tif ((decide ((IntKind.wrap .i64 (tier-1))=1))) (
 tif ((decide (c.2.1.2.1=0))) (
 none) (
 some (IntKind.wrap .i64 (Int.tdiv c.2.1.2.2 c.2.1.2.1)))) (
 tif ((decide ((IntKind.wrap .i64 (tier-1))=2))) (
 tif ((decide (c.2.1.2.2=0))) (
 none) (
 some (IntKind.wrap .i64 (Int.tdiv c.2.1.2.2 c.2.1.2.2)))) (
 none)))) (
 none)))))):=by kernel_rfl
theorem n1r (n:Nat) (e:a0x):e0j (n+1) e =
 tif ((decide (e.1<0))) (
 some (2:Int)) (
 tif ((decide ((35184372088832:Int)≤e.1))) (
 some (2:Int)) (
 tif ((decide (e.2.2.1<0))) (
 some (2:Int)) (
 tif ((decide (e.1<e.2.2.1))) (
 some (2:Int)) (
 tif (e.2.2.2) (
 tif ((!((decide (e.1=e.1))&&((decide (e.2.1=0))&&((decide (e.2.2.1=0))&&(e.2.2.2==true)))))) (
 some (2:Int)) (
 some (0:Int))) (
 some (0:Int)))))):=by kernel_rfl
theorem w1h (n:Nat) (c:b0k):t0t (n+1) c =
 tif (((decide (c.1=0))&&((decide (c.2.1.1=0))&&((decide (c.2.1.2.1=0))&&((decide (c.2.1.2.2.1=0))&&((c.2.1.2.2.2==false)&&((decide (c.2.2.1.1=0))&&((decide (c.2.2.1.2.1=0))&&((decide (c.2.2.1.2.2.1=0))&&((c.2.2.1.2.2.2==false)&&((decide (c.2.2.2.1.1=0))&&((decide (c.2.2.2.1.2=0))&&((decide (c.2.2.2.2.1=0))&&((decide (c.2.2.2.2.2.1=0))&&(decide (c.2.2.2.2.2.2=0)))))))))))))))) (
 some (0:Int)) (
 tif ((decide (c.1<1))) (
 some (2:Int)) (
 a0b (n0x n c.2.1) fun r0 =>
 tif ((!(decide (r0=0)))) (
 some (2:Int)) (
 a0b (n0x n c.2.2.1) fun r1 =>
 tif ((!(decide (r1=0)))) (
 some (2:Int)) (
 tif ((decide (c.2.2.1.1<c.2.1.1))) (
 some (2:Int)) (
 tif ((decide ((IntKind.wrap .i64 ((IntKind.wrap .i64 (c.2.2.1.1-c.2.1.1))+1))<c.1))) (
 some (2:Int)) (
 tif ((decide (c.1=1))) (
 tif ((!((decide (c.2.1.1=c.2.2.1.1))&&((decide (c.2.1.2.1=c.2.2.1.2.1))&&((decide (c.2.1.2.2.1=c.2.2.1.2.2.1))&&(c.2.1.2.2.2==c.2.2.1.2.2.2)))))) (
 some (2:Int)) (
 tif ((decide ((1:Int)<c.1))) (
 tif ((decide (c.2.1.1=c.2.2.1.1))) (
 some (2:Int)) (
 tif ((decide (c.2.2.2.2.1<0))) (
 some (2:Int)) (
 tif ((decide (c.2.2.2.2.2.1<0))) (
 some (2:Int)) (
 tif ((decide (c.2.2.2.2.2.2<0))) (
 some (2:Int)) (
 tif ((decide (c.1≤c.2.2.2.2.1))) (
 some (2:Int)) (
 tif ((decide (c.1≤c.2.2.2.2.2.1))) (
 some (2:Int)) (
 tif ((decide (c.1≤(IntKind.wrap .i64 (c.2.2.2.2.1+c.2.2.2.2.2.1))))) (
 some (2:Int)) (
 tif ((decide ((IntKind.wrap .i64 (c.2.2.1.1-c.2.1.1))<c.2.2.2.2.2.2))) (
 some (2:Int)) (
 a0b (n0z n (0,18446744073709551615) (IntKind.wrap .u64 (IntKind.wrap .i64 (c.1-1)))) fun r2 =>
 a0b (j0o n r2.1 c.2.2.2.1) fun r3 =>
 tif (r3) (
 some (2:Int)) (
 some (0:Int))))))))))) (
 tif ((decide (c.2.2.2.2.1<0))) (
 some (2:Int)) (
 tif ((decide (c.2.2.2.2.2.1<0))) (
 some (2:Int)) (
 tif ((decide (c.2.2.2.2.2.2<0))) (
 some (2:Int)) (
 tif ((decide (c.1≤c.2.2.2.2.1))) (
 some (2:Int)) (
 tif ((decide (c.1≤c.2.2.2.2.2.1))) (
 some (2:Int)) (
 tif ((decide (c.1≤(IntKind.wrap .i64 (c.2.2.2.2.1+c.2.2.2.2.2.1))))) (
 some (2:Int)) (
 tif ((decide ((IntKind.wrap .i64 (c.2.2.1.1-c.2.1.1))<c.2.2.2.2.2.2))) (
 some (2:Int)) (
 a0b (n0z n (0,18446744073709551615) (IntKind.wrap .u64 (IntKind.wrap .i64 (c.1-1)))) fun r4 =>
 a0b (j0o n r4.1 c.2.2.2.1) fun r5 =>
 tif (r5) (
 some (2:Int)) (
 some (0:Int)))))))))))) (
 tif ((decide ((1:Int)<c.1))) (
 tif ((decide (c.2.1.1=c.2.2.1.1))) (
 some (2:Int)) (
 tif ((decide (c.2.2.2.2.1<0))) (
 some (2:Int)) (
 tif ((decide (c.2.2.2.2.2.1<0))) (
 some (2:Int)) (
 tif ((decide (c.2.2.2.2.2.2<0))) (
 some (2:Int)) (
 tif ((decide (c.1≤c.2.2.2.2.1))) (
 some (2:Int)) (
 tif ((decide (c.1≤c.2.2.2.2.2.1))) (
 some (2:Int)) (
 tif ((decide (c.1≤(IntKind.wrap .i64 (c.2.2.2.2.1+c.2.2.2.2.2.1))))) (
 some (2:Int)) (
 tif ((decide ((IntKind.wrap .i64 (c.2.2.1.1-c.2.1.1))<c.2.2.2.2.2.2))) (
 some (2:Int)) (
 a0b (n0z n (0,18446744073709551615) (IntKind.wrap .u64 (IntKind.wrap .i64 (c.1-1)))) fun r6 =>
 a0b (j0o n r6.1 c.2.2.2.1) fun r7 =>
 tif (r7) (
 some (2:Int)) (
 some (0:Int))))))))))) (
 tif ((decide (c.2.2.2.2.1<0))) (
 some (2:Int)) (
 tif ((decide (c.2.2.2.2.2.1<0))) (
 some (2:Int)) (
 tif ((decide (c.2.2.2.2.2.2<0))) (
 some (2:Int)) (
 tif ((decide (c.1≤c.2.2.2.2.1))) (
 some (2:Int)) (
 tif ((decide (c.1≤c.2.2.2.2.2.1))) (
 some (2:Int)) (
 tif ((decide (c.1≤(IntKind.wrap .i64 (c.2.2.2.2.1+c.2.2.2.2.2.1))))) (
 some (2:Int)) (
 tif ((decide ((IntKind.wrap .i64 (c.2.2.1.1-c.2.1.1))<c.2.2.2.2.2.2))) (
 some (2:Int)) (
 a0b (n0z n (0,18446744073709551615) (IntKind.wrap .u64 (IntKind.wrap .i64 (c.1-1)))) fun r8 =>
 a0b (j0o n r8.1 c.2.2.2.1) fun r9 =>
 tif (r9) (
 some (2:Int)) (
 some (0:Int))))))))))))))))):=by kernel_rfl
theorem j1v (n:Nat) (p:a0x) (c:a0x):x0i (n+1) p c =
 a0b (n0x n p) fun r0 =>
 tif ((!(decide (r0=0)))) (
 some ((0,((0,(0,(0,false))),((0,(0,(0,false))),((0,0),(0,(0,0)))))),2)) (
 a0b (n0x n c) fun r1 =>
 tif ((!(decide (r1=0)))) (
 some ((0,((0,(0,(0,false))),((0,(0,(0,false))),((0,0),(0,(0,0)))))),2)) (
 tif ((decide (c.1≤p.1))) (
 some ((0,((0,(0,(0,false))),((0,(0,(0,false))),((0,0),(0,(0,0)))))),9)) (
 tif (c.2.2.2) (
 some ((0,((0,(0,(0,false))),((0,(0,(0,false))),((0,0),(0,(0,0)))))),0)) (
 tif ((decide (p.1<c.2.2.1))) (
 some ((0,((0,(0,(0,false))),((0,(0,(0,false))),((0,c.2.1),(1,(0,(IntKind.wrap .i64 (c.1-c.2.2.1)))))))),0)) (
 tif (p.2.2.2) (
 some ((0,((0,(0,(0,false))),((0,(0,(0,false))),((0,0),(0,(1,0)))))),0)) (
 tif ((decide (c.2.1<p.2.1))) (
 some ((0,((0,(0,(0,false))),((0,(0,(0,false))),((0,c.2.1),(1,(0,(IntKind.wrap .i64 (c.1-p.1)))))))),0)) (
 some ((0,((0,(0,(0,false))),((0,(0,(0,false))),((0,(IntKind.wrap .u64 (c.2.1-p.2.1))),(0,(0,(IntKind.wrap .i64 (c.1-p.1)))))))),0)))))))):=by kernel_rfl
theorem h2w (n:Nat) (l:(List (Int×Int))):b2y (n+1) l =
 a0b (v0q n a0d ((0,0),((0,0),(l,((((List.length l):Nat):Int),(0,())))))) fun r0 =>
 b0d (fun y1 =>
 some (y1.2.1,0)) (fun z2 =>
 some z2) r0:=by kernel_rfl
theorem z0v (n f:Nat) (s2:(Int×Int)) (a:(Int×Int)) (s9:(List (Int×Int))) (s10:Int) (s11:Int):v0q n (f+1) (s2,a,s9,s10,s11,()) =
 tif ((decide (s11<s10))) (
 a0b (at? s9 s11) fun r0 =>
 a0b (l0o n a r0) fun r1 =>
 tif ((!(decide (r1.2=0)))) (
 some (.inr ((0,0),r1.2))) (
 v0q n f (s2,(r1.1,(s9,(s10,((IntKind.wrap .i64 (s11+1)),()))))))) (
 some (.inl (s2,(a,())))):=by kernel_rfl
theorem t1u (n:Nat) (c:b0k):c1o (n+1) c =
 tif ((decide (c.1=1))) (
 tif (((decide (c.2.1.1=c.2.2.1.1))&&((decide (c.2.1.2.1=c.2.2.1.2.1))&&((decide (c.2.1.2.2.1=c.2.2.1.2.2.1))&&(c.2.1.2.2.2==c.2.2.1.2.2.2))))) (
 a0b (e0j n c.2.1) fun r0 =>
 some (decide (r0=0))) (
 some false)) (
 tif ((decide ((1:Int)<c.1))) (
 a0b (o0v n c.2.1 c.2.2.1) fun r1 =>
 tif (r1) (
 some (decide ((IntKind.wrap .i64 (c.1-1))≤(IntKind.wrap .i64 (c.2.2.1.1-c.2.1.1))))) (
 some false)) (
 some false)):=by kernel_rfl
theorem j2h (n:Nat) (n_:Int) (most:Int):i1x (n+1) n_ most =
 tif ((decide ((0:Int)≤n_))) (
 some (decide (n_≤most))) (
 some false):=by kernel_rfl
theorem k1b (n:Nat) (m:(Int×(List UInt8×List UInt8))) (p1:(List (List UInt8×List UInt8))):x0p (n+1) m p1 =
 a0b (c1c n m p1) fun r0 =>
 some (!r0):=by kernel_rfl
theorem s1g (n:Nat) (m:(Int×(List UInt8×List UInt8))) (l:(List (List UInt8×List UInt8))):c1c (n+1) m l =
 a0b (x0r n l m.2.1) fun r0 =>
 tif ((decide (m.1=1))) (
 some (r0==m.2.2)) (
 tif ((decide (m.1=2))) (
 some (!(r0==m.2.2))) (
 tif ((decide (m.1=3))) (
 a0b (strings_HasPrefix n r0 m.2.2) fun r1 =>
 some r1) (
 some false))):=by kernel_rfl
theorem a2p (n:Nat) (s:a0m) (k:Int):z0e (n+1) s k =
 a0b (q0a n s) fun r0 =>
 tif ((!(decide (r0=0)))) (
 some (0,(0,2))) (
 tif ((decide (k<0))) (
 some (0,(0,1))) (
 tif ((decide ((2:Int)<k))) (
 some (0,(0,1))) (
 tif ((decide (k=0))) (
 tif ((decide (k=0))) (
 a0b (e0r n s.2.1 s.1.2.1.1 s.1.2.2.1.1) fun r1 =>
 tif ((decide (k=0))) (
 a0b (d0m n s.2.1 s.1.2.1.1) fun r2 =>
 some (r1.1,(r2.1,0))) (
 tif ((decide (k=1))) (
 a0b (d0m n s.2.1 s.1.2.1.2.1) fun r3 =>
 some (r1.1,(r3.1,0))) (
 tif ((decide (k=2))) (
 a0b (d0m n s.2.1 s.1.2.1.2.2) fun r4 =>
 some (r1.1,(r4.1,0))) (
 none)))) (
 tif ((decide (k=1))) (
 a0b (e0r n s.2.1 s.1.2.1.1 s.1.2.2.1.2.1) fun r5 =>
 tif ((decide (k=0))) (
 a0b (d0m n s.2.1 s.1.2.1.1) fun r6 =>
 some (r5.1,(r6.1,0))) (
 tif ((decide (k=1))) (
 a0b (d0m n s.2.1 s.1.2.1.2.1) fun r7 =>
 some (r5.1,(r7.1,0))) (
 tif ((decide (k=2))) (
 a0b (d0m n s.2.1 s.1.2.1.2.2) fun r8 =>
 some (r5.1,(r8.1,0))) (
 none)))) (
 tif ((decide (k=2))) (
 a0b (e0r n s.2.1 s.1.2.1.1 s.1.2.2.1.2.2) fun r9 =>
 tif ((decide (k=0))) (
 a0b (d0m n s.2.1 s.1.2.1.1) fun r10 =>
 some (r9.1,(r10.1,0))) (
 tif ((decide (k=1))) (
 a0b (d0m n s.2.1 s.1.2.1.2.1) fun r11 =>
 some (r9.1,(r11.1,0))) (
 tif ((decide (k=2))) (
 a0b (d0m n s.2.1 s.1.2.1.2.2) fun r12 =>
 some (r9.1,(r12.1,0))) (
 none)))) (
 none)))) (
 tif ((decide (k=1))) (
 tif ((decide (k=0))) (
 a0b (e0r n s.2.1 s.1.2.1.2.1 s.1.2.2.1.1) fun r13 =>
 tif ((decide (k=0))) (
 a0b (d0m n s.2.1 s.1.2.1.1) fun r14 =>
 some (r13.1,(r14.1,0))) (
 tif ((decide (k=1))) (
 a0b (d0m n s.2.1 s.1.2.1.2.1) fun r15 =>
 some (r13.1,(r15.1,0))) (
 tif ((decide (k=2))) (
 a0b (d0m n s.2.1 s.1.2.1.2.2) fun r16 =>
 some (r13.1,(r16.1,0))) (
 none)))) (
 tif ((decide (k=1))) (
 a0b (e0r n s.2.1 s.1.2.1.2.1 s.1.2.2.1.2.1) fun r17 =>
 tif ((decide (k=0))) (
 a0b (d0m n s.2.1 s.1.2.1.1) fun r18 =>
 some (r17.1,(r18.1,0))) (
 tif ((decide (k=1))) (
 a0b (d0m n s.2.1 s.1.2.1.2.1) fun r19 =>
 some (r17.1,(r19.1,0))) (
 tif ((decide (k=2))) (
 a0b (d0m n s.2.1 s.1.2.1.2.2) fun r20 =>
 some (r17.1,(r20.1,0))) (
 none)))) (
 tif ((decide (k=2))) (
 a0b (e0r n s.2.1 s.1.2.1.2.1 s.1.2.2.1.2.2) fun r21 =>
 tif ((decide (k=0))) (
 a0b (d0m n s.2.1 s.1.2.1.1) fun r22 =>
 some (r21.1,(r22.1,0))) (
 tif ((decide (k=1))) (
 a0b (d0m n s.2.1 s.1.2.1.2.1) fun r23 =>
 some (r21.1,(r23.1,0))) (
 tif ((decide (k=2))) (
 a0b (d0m n s.2.1 s.1.2.1.2.2) fun r24 =>
 some (r21.1,(r24.1,0))) (
 none)))) (
 none)))) (
 tif ((decide (k=2))) (
 tif ((decide (k=0))) (
 a0b (e0r n s.2.1 s.1.2.1.2.2 s.1.2.2.1.1) fun r25 =>
 tif ((decide (k=0))) (
 a0b (d0m n s.2.1 s.1.2.1.1) fun r26 =>
 some (r25.1,(r26.1,0))) (
 tif ((decide (k=1))) (
 a0b (d0m n s.2.1 s.1.2.1.2.1) fun r27 =>
 some (r25.1,(r27.1,0))) (
 tif ((decide (k=2))) (
 a0b (d0m n s.2.1 s.1.2.1.2.2) fun r28 =>
 some (r25.1,(r28.1,0))) (
 none)))) (
 tif ((decide (k=1))) (
 a0b (e0r n s.2.1 s.1.2.1.2.2 s.1.2.2.1.2.1) fun r29 =>
 tif ((decide (k=0))) (
 a0b (d0m n s.2.1 s.1.2.1.1) fun r30 =>
 some (r29.1,(r30.1,0))) (
 tif ((decide (k=1))) (
 a0b (d0m n s.2.1 s.1.2.1.2.1) fun r31 =>
 some (r29.1,(r31.1,0))) (
 tif ((decide (k=2))) (
 a0b (d0m n s.2.1 s.1.2.1.2.2) fun r32 =>
 some (r29.1,(r32.1,0))) (
 none)))) (
 tif ((decide (k=2))) (
 a0b (e0r n s.2.1 s.1.2.1.2.2 s.1.2.2.1.2.2) fun r33 =>
 tif ((decide (k=0))) (
 a0b (d0m n s.2.1 s.1.2.1.1) fun r34 =>
 some (r33.1,(r34.1,0))) (
 tif ((decide (k=1))) (
 a0b (d0m n s.2.1 s.1.2.1.2.1) fun r35 =>
 some (r33.1,(r35.1,0))) (
 tif ((decide (k=2))) (
 a0b (d0m n s.2.1 s.1.2.1.2.2) fun r36 =>
 some (r33.1,(r36.1,0))) (
 none)))) (
 none)))) (
 none)))))):=by kernel_rfl
theorem w1l (n:Nat) (l:(List (List UInt8×List UInt8))) (name:List UInt8):g1p (n+1) l name =
 a0b (o0r n a0d (name,(l,((((List.length l):Nat):Int),(0,()))))) fun r0 =>
 b0d (fun y1 =>
 some []) (fun z2 =>
 some z2) r0:=by kernel_rfl
theorem t0w (n f:Nat) (name:List UInt8) (s7:(List (List UInt8×List UInt8))) (s8:Int) (s9:Int):o0r n (f+1) (name,s7,s8,s9,()) =
 tif ((decide (s9<s8))) (
 a0b (at? s7 s9) fun r0 =>
 tif ((r0.1==name)) (
 some (.inr r0.2)) (
 o0r n f (name,(s7,(s8,((IntKind.wrap .i64 (s9+1)),())))))) (
 some (.inl ())):=by kernel_rfl
theorem h0q (n:Nat) (data:(List a0a)) (a:Int) (b:Int) (cmp:((a0a×(a0a×Unit))→Option Int)):b0z (n+1) data a b cmp =
 a0b (b0o n a0d (data,(a,(b,(cmp,((IntKind.wrap .i64 (a+1)),())))))) fun r0 =>
 b0d (fun y1 =>
 some y1.1) (fun z2 =>
 some z2) r0:=by kernel_rfl
theorem d0c (n f:Nat) (data:(List a0a)) (a:Int) (b:Int) (cmp:((a0a×(a0a×Unit))→Option Int)) (i:Int):b0o n (f+1) (data,a,b,cmp,i,()) =
 tif ((decide (i<b))) (
 a0b (b0n n a0d (data,(a,(b,(cmp,(i,(i,()))))))) fun r0 =>
 b0d (fun y1 =>
 b0o n f (y1.1,(y1.2.1,(y1.2.2.1,(y1.2.2.2.1,((IntKind.wrap .i64 (y1.2.2.2.2.1+1)),())))))) (fun z2 =>
 some (.inr z2)) r0) (
 some (.inl (data,()))):=by kernel_rfl
theorem d0b (n f:Nat) (data:(List a0a)) (a:Int) (b:Int) (cmp:((a0a×(a0a×Unit))→Option Int)) (i:Int) (j:Int):b0n n (f+1) (data,a,b,cmp,i,j,()) =
 tif ((decide (a<j))) (
 a0b (at? data j) fun r0 =>
 a0b ((data)[(Int.toNat j)]?) fun r1 =>
 a0b (at? data (IntKind.wrap .i64 (j-1))) fun r2 =>
 a0b ((data)[(Int.toNat (IntKind.wrap .i64 (j-1)))]?) fun r3 =>
 a0b (cmp (r1,(r3,()))) fun r4 =>
 tif ((decide (r4<0))) (
 a0b (at? data (IntKind.wrap .i64 (j-1))) fun r5 =>
 a0b ((data)[(Int.toNat (IntKind.wrap .i64 (j-1)))]?) fun r6 =>
 a0b (at? data j) fun r7 =>
 a0b ((data)[(Int.toNat j)]?) fun r8 =>
 a0b (at? data j) fun r9 =>
 a0b ((data)[(Int.toNat j)]?) fun r10 =>
 a0b (at? (List.set data (Int.toNat j) r6) (IntKind.wrap .i64 (j-1))) fun r11 =>
 a0b (((List.set data (Int.toNat j) r6))[(Int.toNat (IntKind.wrap .i64 (j-1)))]?) fun r12 =>
 b0n n f ((List.set (List.set data (Int.toNat j) r6) (Int.toNat (IntKind.wrap .i64 (j-1))) r8),(a,(b,(cmp,(i,((IntKind.wrap .i64 (j-1)),()))))))) (
 some (.inl (data,(a,(b,(cmp,(i,())))))))) (
 some (.inl (data,(a,(b,(cmp,(i,()))))))):=by kernel_rfl
theorem k0a (n:Nat) (data:(List a0a)) (a:Int) (m:Int) (b:Int) (cmp:((a0a×(a0a×Unit))→Option Int)):a0e (n+1) data a m b cmp =
 tif ((decide ((IntKind.wrap .i64 (m-a))=1))) (
 a0b (b0m n a0d (data,(a,(cmp,(m,(b,())))))) fun r0 =>
 b0d (fun y1 =>
 a0b (c0h n a0d (y1.1,(y1.2.2.1,(y1.2.1,())))) fun r2 =>
 b0d (fun y3 =>
 some y3.1) (fun z4 =>
 some z4) r2) (fun z5 =>
 some z5) r0) (
 tif ((decide ((IntKind.wrap .i64 (b-m))=1))) (
 a0b (b0h n a0d (data,(m,(cmp,(a,(m,())))))) fun r6 =>
 b0d (fun y7 =>
 a0b (c0d n a0d (y7.1,(y7.2.2.1,(y7.2.1,())))) fun r8 =>
 b0d (fun y9 =>
 some y9.1) (fun z10 =>
 some z10) r8) (fun z11 =>
 some z11) r6) (
 tif ((decide ((IntKind.wrap .i64 (shrI .u64 (IntKind.wrap .u64 (IntKind.wrap .i64 (a+b))) (1:Int)))<m))) (
 a0b (b0a n a0d (data,(a,(m,(b,(cmp,((IntKind.wrap .i64 (shrI .u64 (IntKind.wrap .u64 (IntKind.wrap .i64 (a+b))) (1:Int))),((IntKind.wrap .i64 ((IntKind.wrap .i64 (shrI .u64 (IntKind.wrap .u64 (IntKind.wrap .i64 (a+b))) (1:Int)))+m)),((IntKind.wrap .i64 ((IntKind.wrap .i64 ((IntKind.wrap .i64 (shrI .u64 (IntKind.wrap .u64 (IntKind.wrap .i64 (a+b))) (1:Int)))+m))-b)),((IntKind.wrap .i64 (shrI .u64 (IntKind.wrap .u64 (IntKind.wrap .i64 (a+b))) (1:Int))),((IntKind.wrap .i64 ((IntKind.wrap .i64 ((IntKind.wrap .i64 (shrI .u64 (IntKind.wrap .u64 (IntKind.wrap .i64 (a+b))) (1:Int)))+m))-1)),()))))))))))) fun r12 =>
 b0d (fun y13 =>
 tif ((decide (y13.2.2.2.2.2.2.2.1<y13.2.2.1))) (
 tif ((decide (y13.2.2.1<(IntKind.wrap .i64 (y13.2.2.2.2.2.2.1-y13.2.2.2.2.2.2.2.1))))) (
 a0b (c0i n y13.1 y13.2.2.2.2.2.2.2.1 y13.2.2.1 (IntKind.wrap .i64 (y13.2.2.2.2.2.2.1-y13.2.2.2.2.2.2.2.1)) y13.2.2.2.2.1) fun r14 =>
 tif ((decide (y13.2.1<y13.2.2.2.2.2.2.2.1))) (
 tif ((decide (y13.2.2.2.2.2.2.2.1<y13.2.2.2.2.2.1))) (
 a0b (a0e n r14 y13.2.1 y13.2.2.2.2.2.2.2.1 y13.2.2.2.2.2.1 y13.2.2.2.2.1) fun r15 =>
 tif ((decide (y13.2.2.2.2.2.1<(IntKind.wrap .i64 (y13.2.2.2.2.2.2.1-y13.2.2.2.2.2.2.2.1))))) (
 tif ((decide ((IntKind.wrap .i64 (y13.2.2.2.2.2.2.1-y13.2.2.2.2.2.2.2.1))<y13.2.2.2.1))) (
 a0b (a0e n r15 y13.2.2.2.2.2.1 (IntKind.wrap .i64 (y13.2.2.2.2.2.2.1-y13.2.2.2.2.2.2.2.1)) y13.2.2.2.1 y13.2.2.2.2.1) fun r16 =>
 some r16) (
 some r15)) (
 some r15)) (
 tif ((decide (y13.2.2.2.2.2.1<(IntKind.wrap .i64 (y13.2.2.2.2.2.2.1-y13.2.2.2.2.2.2.2.1))))) (
 tif ((decide ((IntKind.wrap .i64 (y13.2.2.2.2.2.2.1-y13.2.2.2.2.2.2.2.1))<y13.2.2.2.1))) (
 a0b (a0e n r14 y13.2.2.2.2.2.1 (IntKind.wrap .i64 (y13.2.2.2.2.2.2.1-y13.2.2.2.2.2.2.2.1)) y13.2.2.2.1 y13.2.2.2.2.1) fun r17 =>
 some r17) (
 some r14)) (
 some r14))) (
 tif ((decide (y13.2.2.2.2.2.1<(IntKind.wrap .i64 (y13.2.2.2.2.2.2.1-y13.2.2.2.2.2.2.2.1))))) (
 tif ((decide ((IntKind.wrap .i64 (y13.2.2.2.2.2.2.1-y13.2.2.2.2.2.2.2.1))<y13.2.2.2.1))) (
 a0b (a0e n r14 y13.2.2.2.2.2.1 (IntKind.wrap .i64 (y13.2.2.2.2.2.2.1-y13.2.2.2.2.2.2.2.1)) y13.2.2.2.1 y13.2.2.2.2.1) fun r18 =>
 some r18) (
 some r14)) (
 some r14))) (
 tif ((decide (y13.2.1<y13.2.2.2.2.2.2.2.1))) (
 tif ((decide (y13.2.2.2.2.2.2.2.1<y13.2.2.2.2.2.1))) (
 a0b (a0e n y13.1 y13.2.1 y13.2.2.2.2.2.2.2.1 y13.2.2.2.2.2.1 y13.2.2.2.2.1) fun r19 =>
 tif ((decide (y13.2.2.2.2.2.1<(IntKind.wrap .i64 (y13.2.2.2.2.2.2.1-y13.2.2.2.2.2.2.2.1))))) (
 tif ((decide ((IntKind.wrap .i64 (y13.2.2.2.2.2.2.1-y13.2.2.2.2.2.2.2.1))<y13.2.2.2.1))) (
 a0b (a0e n r19 y13.2.2.2.2.2.1 (IntKind.wrap .i64 (y13.2.2.2.2.2.2.1-y13.2.2.2.2.2.2.2.1)) y13.2.2.2.1 y13.2.2.2.2.1) fun r20 =>
 some r20) (
 some r19)) (
 some r19)) (
 tif ((decide (y13.2.2.2.2.2.1<(IntKind.wrap .i64 (y13.2.2.2.2.2.2.1-y13.2.2.2.2.2.2.2.1))))) (
 tif ((decide ((IntKind.wrap .i64 (y13.2.2.2.2.2.2.1-y13.2.2.2.2.2.2.2.1))<y13.2.2.2.1))) (
 a0b (a0e n y13.1 y13.2.2.2.2.2.1 (IntKind.wrap .i64 (y13.2.2.2.2.2.2.1-y13.2.2.2.2.2.2.2.1)) y13.2.2.2.1 y13.2.2.2.2.1) fun r21 =>
 some r21) (
 some y13.1)) (
 some y13.1))) (
 tif ((decide (y13.2.2.2.2.2.1<(IntKind.wrap .i64 (y13.2.2.2.2.2.2.1-y13.2.2.2.2.2.2.2.1))))) (
 tif ((decide ((IntKind.wrap .i64 (y13.2.2.2.2.2.2.1-y13.2.2.2.2.2.2.2.1))<y13.2.2.2.1))) (
 a0b (a0e n y13.1 y13.2.2.2.2.2.1 (IntKind.wrap .i64 (y13.2.2.2.2.2.2.1-y13.2.2.2.2.2.2.2.1)) y13.2.2.2.1 y13.2.2.2.2.1) fun r22 =>
 some r22) (
 some y13.1)) (
 some y13.1)))) (
 tif ((decide (y13.2.1<y13.2.2.2.2.2.2.2.1))) (
 tif ((decide (y13.2.2.2.2.2.2.2.1<y13.2.2.2.2.2.1))) (
 a0b (a0e n y13.1 y13.2.1 y13.2.2.2.2.2.2.2.1 y13.2.2.2.2.2.1 y13.2.2.2.2.1) fun r23 =>
 tif ((decide (y13.2.2.2.2.2.1<(IntKind.wrap .i64 (y13.2.2.2.2.2.2.1-y13.2.2.2.2.2.2.2.1))))) (
 tif ((decide ((IntKind.wrap .i64 (y13.2.2.2.2.2.2.1-y13.2.2.2.2.2.2.2.1))<y13.2.2.2.1))) (
 a0b (a0e n r23 y13.2.2.2.2.2.1 (IntKind.wrap .i64 (y13.2.2.2.2.2.2.1-y13.2.2.2.2.2.2.2.1)) y13.2.2.2.1 y13.2.2.2.2.1) fun r24 =>
 some r24) (
 some r23)) (
 some r23)) (
 tif ((decide (y13.2.2.2.2.2.1<(IntKind.wrap .i64 (y13.2.2.2.2.2.2.1-y13.2.2.2.2.2.2.2.1))))) (
 tif ((decide ((IntKind.wrap .i64 (y13.2.2.2.2.2.2.1-y13.2.2.2.2.2.2.2.1))<y13.2.2.2.1))) (
 a0b (a0e n y13.1 y13.2.2.2.2.2.1 (IntKind.wrap .i64 (y13.2.2.2.2.2.2.1-y13.2.2.2.2.2.2.2.1)) y13.2.2.2.1 y13.2.2.2.2.1) fun r25 =>
 some r25) (
 some y13.1)) (
 some y13.1))) (
 tif ((decide (y13.2.2.2.2.2.1<(IntKind.wrap .i64 (y13.2.2.2.2.2.2.1-y13.2.2.2.2.2.2.2.1))))) (
 tif ((decide ((IntKind.wrap .i64 (y13.2.2.2.2.2.2.1-y13.2.2.2.2.2.2.2.1))<y13.2.2.2.1))) (
 a0b (a0e n y13.1 y13.2.2.2.2.2.1 (IntKind.wrap .i64 (y13.2.2.2.2.2.2.1-y13.2.2.2.2.2.2.2.1)) y13.2.2.2.1 y13.2.2.2.2.1) fun r26 =>
 some r26) (
 some y13.1)) (
 some y13.1)))) (fun z27 =>
 some z27) r12) (
 a0b (b0a n a0d (data,(a,(m,(b,(cmp,((IntKind.wrap .i64 (shrI .u64 (IntKind.wrap .u64 (IntKind.wrap .i64 (a+b))) (1:Int))),((IntKind.wrap .i64 ((IntKind.wrap .i64 (shrI .u64 (IntKind.wrap .u64 (IntKind.wrap .i64 (a+b))) (1:Int)))+m)),(a,(m,((IntKind.wrap .i64 ((IntKind.wrap .i64 ((IntKind.wrap .i64 (shrI .u64 (IntKind.wrap .u64 (IntKind.wrap .i64 (a+b))) (1:Int)))+m))-1)),()))))))))))) fun r28 =>
 b0d (fun y29 =>
 tif ((decide (y29.2.2.2.2.2.2.2.1<y29.2.2.1))) (
 tif ((decide (y29.2.2.1<(IntKind.wrap .i64 (y29.2.2.2.2.2.2.1-y29.2.2.2.2.2.2.2.1))))) (
 a0b (c0i n y29.1 y29.2.2.2.2.2.2.2.1 y29.2.2.1 (IntKind.wrap .i64 (y29.2.2.2.2.2.2.1-y29.2.2.2.2.2.2.2.1)) y29.2.2.2.2.1) fun r30 =>
 tif ((decide (y29.2.1<y29.2.2.2.2.2.2.2.1))) (
 tif ((decide (y29.2.2.2.2.2.2.2.1<y29.2.2.2.2.2.1))) (
 a0b (a0e n r30 y29.2.1 y29.2.2.2.2.2.2.2.1 y29.2.2.2.2.2.1 y29.2.2.2.2.1) fun r31 =>
 tif ((decide (y29.2.2.2.2.2.1<(IntKind.wrap .i64 (y29.2.2.2.2.2.2.1-y29.2.2.2.2.2.2.2.1))))) (
 tif ((decide ((IntKind.wrap .i64 (y29.2.2.2.2.2.2.1-y29.2.2.2.2.2.2.2.1))<y29.2.2.2.1))) (
 a0b (a0e n r31 y29.2.2.2.2.2.1 (IntKind.wrap .i64 (y29.2.2.2.2.2.2.1-y29.2.2.2.2.2.2.2.1)) y29.2.2.2.1 y29.2.2.2.2.1) fun r32 =>
 some r32) (
 some r31)) (
 some r31)) (
 tif ((decide (y29.2.2.2.2.2.1<(IntKind.wrap .i64 (y29.2.2.2.2.2.2.1-y29.2.2.2.2.2.2.2.1))))) (
 tif ((decide ((IntKind.wrap .i64 (y29.2.2.2.2.2.2.1-y29.2.2.2.2.2.2.2.1))<y29.2.2.2.1))) (
 a0b (a0e n r30 y29.2.2.2.2.2.1 (IntKind.wrap .i64 (y29.2.2.2.2.2.2.1-y29.2.2.2.2.2.2.2.1)) y29.2.2.2.1 y29.2.2.2.2.1) fun r33 =>
 some r33) (
 some r30)) (
 some r30))) (
 tif ((decide (y29.2.2.2.2.2.1<(IntKind.wrap .i64 (y29.2.2.2.2.2.2.1-y29.2.2.2.2.2.2.2.1))))) (
 tif ((decide ((IntKind.wrap .i64 (y29.2.2.2.2.2.2.1-y29.2.2.2.2.2.2.2.1))<y29.2.2.2.1))) (
 a0b (a0e n r30 y29.2.2.2.2.2.1 (IntKind.wrap .i64 (y29.2.2.2.2.2.2.1-y29.2.2.2.2.2.2.2.1)) y29.2.2.2.1 y29.2.2.2.2.1) fun r34 =>
 some r34) (
 some r30)) (
 some r30))) (
 tif ((decide (y29.2.1<y29.2.2.2.2.2.2.2.1))) (
 tif ((decide (y29.2.2.2.2.2.2.2.1<y29.2.2.2.2.2.1))) (
 a0b (a0e n y29.1 y29.2.1 y29.2.2.2.2.2.2.2.1 y29.2.2.2.2.2.1 y29.2.2.2.2.1) fun r35 =>
 tif ((decide (y29.2.2.2.2.2.1<(IntKind.wrap .i64 (y29.2.2.2.2.2.2.1-y29.2.2.2.2.2.2.2.1))))) (
 tif ((decide ((IntKind.wrap .i64 (y29.2.2.2.2.2.2.1-y29.2.2.2.2.2.2.2.1))<y29.2.2.2.1))) (
 a0b (a0e n r35 y29.2.2.2.2.2.1 (IntKind.wrap .i64 (y29.2.2.2.2.2.2.1-y29.2.2.2.2.2.2.2.1)) y29.2.2.2.1 y29.2.2.2.2.1) fun r36 =>
 some r36) (
 some r35)) (
 some r35)) (
 tif ((decide (y29.2.2.2.2.2.1<(IntKind.wrap .i64 (y29.2.2.2.2.2.2.1-y29.2.2.2.2.2.2.2.1))))) (
 tif ((decide ((IntKind.wrap .i64 (y29.2.2.2.2.2.2.1-y29.2.2.2.2.2.2.2.1))<y29.2.2.2.1))) (
 a0b (a0e n y29.1 y29.2.2.2.2.2.1 (IntKind.wrap .i64 (y29.2.2.2.2.2.2.1-y29.2.2.2.2.2.2.2.1)) y29.2.2.2.1 y29.2.2.2.2.1) fun r37 =>
 some r37) (
 some y29.1)) (
 some y29.1))) (
 tif ((decide (y29.2.2.2.2.2.1<(IntKind.wrap .i64 (y29.2.2.2.2.2.2.1-y29.2.2.2.2.2.2.2.1))))) (
 tif ((decide ((IntKind.wrap .i64 (y29.2.2.2.2.2.2.1-y29.2.2.2.2.2.2.2.1))<y29.2.2.2.1))) (
 a0b (a0e n y29.1 y29.2.2.2.2.2.1 (IntKind.wrap .i64 (y29.2.2.2.2.2.2.1-y29.2.2.2.2.2.2.2.1)) y29.2.2.2.1 y29.2.2.2.2.1) fun r38 =>
 some r38) (
 some y29.1)) (
 some y29.1)))) (
 tif ((decide (y29.2.1<y29.2.2.2.2.2.2.2.1))) (
 tif ((decide (y29.2.2.2.2.2.2.2.1<y29.2.2.2.2.2.1))) (
 a0b (a0e n y29.1 y29.2.1 y29.2.2.2.2.2.2.2.1 y29.2.2.2.2.2.1 y29.2.2.2.2.1) fun r39 =>
 tif ((decide (y29.2.2.2.2.2.1<(IntKind.wrap .i64 (y29.2.2.2.2.2.2.1-y29.2.2.2.2.2.2.2.1))))) (
 tif ((decide ((IntKind.wrap .i64 (y29.2.2.2.2.2.2.1-y29.2.2.2.2.2.2.2.1))<y29.2.2.2.1))) (
 a0b (a0e n r39 y29.2.2.2.2.2.1 (IntKind.wrap .i64 (y29.2.2.2.2.2.2.1-y29.2.2.2.2.2.2.2.1)) y29.2.2.2.1 y29.2.2.2.2.1) fun r40 =>
 some r40) (
 some r39)) (
 some r39)) (
 tif ((decide (y29.2.2.2.2.2.1<(IntKind.wrap .i64 (y29.2.2.2.2.2.2.1-y29.2.2.2.2.2.2.2.1))))) (
 tif ((decide ((IntKind.wrap .i64 (y29.2.2.2.2.2.2.1-y29.2.2.2.2.2.2.2.1))<y29.2.2.2.1))) (
 a0b (a0e n y29.1 y29.2.2.2.2.2.1 (IntKind.wrap .i64 (y29.2.2.2.2.2.2.1-y29.2.2.2.2.2.2.2.1)) y29.2.2.2.1 y29.2.2.2.2.1) fun r41 =>
 some r41) (
 some y29.1)) (
 some y29.1))) (
 tif ((decide (y29.2.2.2.2.2.1<(IntKind.wrap .i64 (y29.2.2.2.2.2.2.1-y29.2.2.2.2.2.2.2.1))))) (
 tif ((decide ((IntKind.wrap .i64 (y29.2.2.2.2.2.2.1-y29.2.2.2.2.2.2.2.1))<y29.2.2.2.1))) (
 a0b (a0e n y29.1 y29.2.2.2.2.2.1 (IntKind.wrap .i64 (y29.2.2.2.2.2.2.1-y29.2.2.2.2.2.2.2.1)) y29.2.2.2.1 y29.2.2.2.2.1) fun r42 =>
 some r42) (
 some y29.1)) (
 some y29.1)))) (fun z43 =>
 some z43) r28))):=by kernel_rfl
theorem e0g (n f:Nat) (data:(List a0a)) (a:Int) (cmp:((a0a×(a0a×Unit))→Option Int)) (i:Int) (j:Int):b0m n (f+1) (data,a,cmp,i,j,()) =
 tif ((decide (i<j))) (
 a0b (at? data (IntKind.wrap .i64 (shrI .u64 (IntKind.wrap .u64 (IntKind.wrap .i64 (i+j))) (1:Int)))) fun r0 =>
 a0b ((data)[(Int.toNat (IntKind.wrap .i64 (shrI .u64 (IntKind.wrap .u64 (IntKind.wrap .i64 (i+j))) (1:Int))))]?) fun r1 =>
 a0b (at? data a) fun r2 =>
 a0b ((data)[(Int.toNat a)]?) fun r3 =>
 a0b (cmp (r1,(r3,()))) fun r4 =>
 tif ((decide (r4<0))) (
 b0m n f (data,(a,(cmp,((IntKind.wrap .i64 ((IntKind.wrap .i64 (shrI .u64 (IntKind.wrap .u64 (IntKind.wrap .i64 (i+j))) (1:Int)))+1)),(j,())))))) (
 b0m n f (data,(a,(cmp,(i,((IntKind.wrap .i64 (shrI .u64 (IntKind.wrap .u64 (IntKind.wrap .i64 (i+j))) (1:Int))),()))))))) (
 some (.inl (data,(a,(i,()))))):=by kernel_rfl
theorem e0f (n f:Nat) (data:(List a0a)) (i:Int) (k:Int):c0h n (f+1) (data,i,k,()) =
 tif ((decide (k<(IntKind.wrap .i64 (i-1))))) (
 a0b (at? data (IntKind.wrap .i64 (k+1))) fun r0 =>
 a0b ((data)[(Int.toNat (IntKind.wrap .i64 (k+1)))]?) fun r1 =>
 a0b (at? data k) fun r2 =>
 a0b ((data)[(Int.toNat k)]?) fun r3 =>
 a0b (at? data k) fun r4 =>
 a0b ((data)[(Int.toNat k)]?) fun r5 =>
 a0b (at? (List.set data (Int.toNat k) r1) (IntKind.wrap .i64 (k+1))) fun r6 =>
 a0b (((List.set data (Int.toNat k) r1))[(Int.toNat (IntKind.wrap .i64 (k+1)))]?) fun r7 =>
 c0h n f ((List.set (List.set data (Int.toNat k) r1) (Int.toNat (IntKind.wrap .i64 (k+1))) r3),(i,((IntKind.wrap .i64 (k+1)),())))) (
 some (.inl (data,()))):=by kernel_rfl
theorem d0u (n f:Nat) (data:(List a0a)) (m:Int) (cmp:((a0a×(a0a×Unit))→Option Int)) (i_:Int) (j_:Int):b0h n (f+1) (data,m,cmp,i_,j_,()) =
 tif ((decide (i_<j_))) (
 a0b (at? data m) fun r0 =>
 a0b ((data)[(Int.toNat m)]?) fun r1 =>
 a0b (at? data (IntKind.wrap .i64 (shrI .u64 (IntKind.wrap .u64 (IntKind.wrap .i64 (i_+j_))) (1:Int)))) fun r2 =>
 a0b ((data)[(Int.toNat (IntKind.wrap .i64 (shrI .u64 (IntKind.wrap .u64 (IntKind.wrap .i64 (i_+j_))) (1:Int))))]?) fun r3 =>
 a0b (cmp (r1,(r3,()))) fun r4 =>
 tif ((!(decide (r4<0)))) (
 b0h n f (data,(m,(cmp,((IntKind.wrap .i64 ((IntKind.wrap .i64 (shrI .u64 (IntKind.wrap .u64 (IntKind.wrap .i64 (i_+j_))) (1:Int)))+1)),(j_,())))))) (
 b0h n f (data,(m,(cmp,(i_,((IntKind.wrap .i64 (shrI .u64 (IntKind.wrap .u64 (IntKind.wrap .i64 (i_+j_))) (1:Int))),()))))))) (
 some (.inl (data,(m,(i_,()))))):=by kernel_rfl
theorem d0t (n f:Nat) (data:(List a0a)) (i_:Int) (k_:Int):c0d n (f+1) (data,i_,k_,()) =
 tif ((decide (i_<k_))) (
 a0b (at? data (IntKind.wrap .i64 (k_-1))) fun r0 =>
 a0b ((data)[(Int.toNat (IntKind.wrap .i64 (k_-1)))]?) fun r1 =>
 a0b (at? data k_) fun r2 =>
 a0b ((data)[(Int.toNat k_)]?) fun r3 =>
 a0b (at? data k_) fun r4 =>
 a0b ((data)[(Int.toNat k_)]?) fun r5 =>
 a0b (at? (List.set data (Int.toNat k_) r1) (IntKind.wrap .i64 (k_-1))) fun r6 =>
 a0b (((List.set data (Int.toNat k_) r1))[(Int.toNat (IntKind.wrap .i64 (k_-1)))]?) fun r7 =>
 c0d n f ((List.set (List.set data (Int.toNat k_) r1) (Int.toNat (IntKind.wrap .i64 (k_-1))) r3),(i_,((IntKind.wrap .i64 (k_-1)),())))) (
 some (.inl (data,()))):=by kernel_rfl
theorem d0s (n f:Nat) (data:(List a0a)) (a:Int) (m:Int) (b:Int) (cmp:((a0a×(a0a×Unit))→Option Int)) (mid:Int) (n_:Int) (start:Int) (r:Int) (p:Int):b0a n (f+1) (data,a,m,b,cmp,mid,n_,start,r,p,()) =
 tif ((decide (start<r))) (
 a0b (at? data (IntKind.wrap .i64 (p-(IntKind.wrap .i64 (shrI .u64 (IntKind.wrap .u64 (IntKind.wrap .i64 (start+r))) (1:Int)))))) fun r0 =>
 a0b ((data)[(Int.toNat (IntKind.wrap .i64 (p-(IntKind.wrap .i64 (shrI .u64 (IntKind.wrap .u64 (IntKind.wrap .i64 (start+r))) (1:Int))))))]?) fun r1 =>
 a0b (at? data (IntKind.wrap .i64 (shrI .u64 (IntKind.wrap .u64 (IntKind.wrap .i64 (start+r))) (1:Int)))) fun r2 =>
 a0b ((data)[(Int.toNat (IntKind.wrap .i64 (shrI .u64 (IntKind.wrap .u64 (IntKind.wrap .i64 (start+r))) (1:Int))))]?) fun r3 =>
 a0b (cmp (r1,(r3,()))) fun r4 =>
 tif ((!(decide (r4<0)))) (
 b0a n f (data,(a,(m,(b,(cmp,(mid,(n_,((IntKind.wrap .i64 ((IntKind.wrap .i64 (shrI .u64 (IntKind.wrap .u64 (IntKind.wrap .i64 (start+r))) (1:Int)))+1)),(r,(p,()))))))))))) (
 b0a n f (data,(a,(m,(b,(cmp,(mid,(n_,(start,((IntKind.wrap .i64 (shrI .u64 (IntKind.wrap .u64 (IntKind.wrap .i64 (start+r))) (1:Int))),(p,())))))))))))) (
 some (.inl (data,(a,(m,(b,(cmp,(mid,(n_,(start,())))))))))):=by kernel_rfl
end Go.Proofs.YtgkpkajaepphjaaGreatDoor
