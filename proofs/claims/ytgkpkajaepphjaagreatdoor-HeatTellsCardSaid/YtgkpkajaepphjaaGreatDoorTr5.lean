/- Trees, printed by program. -/
import Derived.Test.YtgkpkajaepphjaaGreatDoorTr0
import Derived.KernelRfl
set_option linter.unusedVariables false
namespace Go.Proofs.YtgkpkajaepphjaaGreatDoor
open Go.Flat
theorem w1e (n:Nat) (c:a0v):m0m (n+1) c =
 tif ((decide (c.2.2.2.2.2.2<1))) (
 some (((0,0),(0,0)),12)) (
 a0a (m1q n c.2.2.2.1 (IntKind.wrap .u64 c.2.2.2.2.2.2)) fun r0 =>
 some r0):=by kernel_rfl
theorem y0w (n:Nat) (c:a0z):j0a (n+1) c =
 a0a (f0x n c.1 (1:Int) (4096:Int)) fun r0 =>
 tif (r0) (
 a0a (f0x n c.2.2.2.1 (1:Int) (65536:Int)) fun r1 =>
 tif (r1) (
 a0a (f0x n c.2.2.2.2 (1:Int) (8192:Int)) fun r2 =>
 tif (r2) (
 a0a (i0n n c.2.1.1 (1:Int) (1099511627776:Int)) fun r3 =>
 tif (r3) (
 a0a (f0x n c.2.2.1.1 (1:Int) (4096:Int)) fun r4 =>
 tif (r4) (
 a0a (i0n n c.2.1.2.1 (1:Int) (1099511627776:Int)) fun r5 =>
 tif (r5) (
 a0a (f0x n c.2.2.1.2.1 (1:Int) (4096:Int)) fun r6 =>
 tif (r6) (
 a0a (i0n n c.2.1.2.2 (1:Int) (1099511627776:Int)) fun r7 =>
 tif (r7) (
 a0a (f0x n c.2.2.1.2.2 (1:Int) (4096:Int)) fun r8 =>
 tif (r8) (
 tif ((decide (c.2.1.1=0))) (
 none) (
 tif ((decide ((Int.tmod c.2.1.2.1 c.2.1.1)=0))) (
 tif ((decide (c.2.1.1=0))) (
 none) (
 tif ((decide ((IntKind.wrap .i64 (Int.tdiv c.2.1.2.1 c.2.1.1))≤c.2.2.1.1))) (
 tif ((decide (c.2.1.2.1=0))) (
 none) (
 tif ((decide ((Int.tmod c.2.1.2.2 c.2.1.2.1)=0))) (
 tif ((decide (c.2.1.2.1=0))) (
 none) (
 tif ((decide ((IntKind.wrap .i64 (Int.tdiv c.2.1.2.2 c.2.1.2.1))≤c.2.2.1.2.1))) (
 tif ((!(decide ((IntKind.wrap .i64 (Int.tdiv c.2.1.2.2 c.2.1.2.1))≤c.2.2.1.2.1)))) (
 some (2:Int)) (
 a0a (k0x n c) fun r9 =>
 tif ((decide (c.2.2.2.2≤r9))) (
 some (2:Int)) (
 some (0:Int)))) (
 tif ((!(decide ((IntKind.wrap .i64 (Int.tdiv c.2.1.2.2 c.2.1.2.1))≤c.2.2.1.2.1)))) (
 some (2:Int)) (
 a0a (k0x n c) fun r10 =>
 tif ((decide (c.2.2.2.2≤r10))) (
 some (2:Int)) (
 some (0:Int)))))) (
 some (2:Int)))) (
 tif ((!(decide ((IntKind.wrap .i64 (Int.tdiv c.2.1.2.1 c.2.1.1))≤c.2.2.1.1)))) (
 some (2:Int)) (
 a0a (k0x n c) fun r11 =>
 tif ((decide (c.2.2.2.2≤r11))) (
 some (2:Int)) (
 some (0:Int)))))) (
 some (2:Int)))) (
 tif ((!r8)) (
 some (2:Int)) (
 a0a (k0x n c) fun r12 =>
 tif ((decide (c.2.2.2.2≤r12))) (
 some (2:Int)) (
 some (0:Int))))) (
 some (2:Int))) (
 some (2:Int))) (
 some (2:Int))) (
 some (2:Int))) (
 some (2:Int))) (
 some (2:Int))) (
 some (2:Int))) (
 some (2:Int)):=by kernel_rfl
theorem v1f (n:Nat) (t:Int):c1i (n+1) t =
 tif ((decide ((0:Int)≤t))) (
 some (decide (t<35184372088832))) (
 some false):=by kernel_rfl
theorem p1w (n:Nat) (s:a0x):w0l (n+1) s =
 a0a (l0k n s ([],(0,((0,(0,[])),(([],([],[])),(0,(0,((0,(0,(0,false))),((0,(0,(0,false))),((0,0),(0,(0,0)))))))))))) fun r0 =>
 some r0:=by kernel_rfl
theorem d1m (n:Nat) (c:a0z) (s:a0x):r0j (n+1) c s =
 a0a (g0x n c s) fun r0 =>
 n1h (r0.1) (
 some r0.2) fun r1 =>
 some r0.2:=by kernel_rfl
theorem b1p (n:Nat) (v:a0p):p0m (n+1) v =
 tif ((decide (v.1.2.1.1=0))) (
 none) (
 some (IntKind.wrap .i64 (v.2.1-(Int.tmod v.2.1 v.1.2.1.1)))):=by kernel_rfl
theorem b1o (n:Nat) (v:a0p) (i:Int):p0l (n+1) v i =
 a0a (f0c n v (fun y0=>f0p n y0.1 i v)) fun r1 =>
 tif ((decide (r1<i))) (
 a0a (g0n n v i) fun r2 =>
 some r2) (
 some false):=by kernel_rfl
theorem i1p (n:Nat) (l:(List (List UInt8×List UInt8))):q0k (n+1) l =
 tif ((decide ((((List.length l):Nat):Int)=0))) (
 some (8:Int)) (
 tif ((decide ((16:Int)<(((List.length l):Nat):Int)))) (
 some (8:Int)) (
 a0a (f0e n a0b (l,(256,(l,((((List.length l):Nat):Int),(0,())))))) fun r0 =>
 b0c (fun y1 =>
 some (0:Int)) (fun z2 =>
 some z2) r0)):=by kernel_rfl
theorem o0t (n f:Nat) (l:(List (List UInt8×List UInt8))) (left:Int) (s14:(List (List UInt8×List UInt8))) (s15:Int) (s16:Int):f0e n (f+1) (l,left,s14,s15,s16,()) =
 tif ((decide (s16<s15))) (
 a0a (at? s14 s16) fun r0 =>
 a0a (a1b n r0.1) fun r1 =>
 tif ((!r1)) (
 some (.inr (8:Int))) (
 tif ((decide ((128:Int)<(((List.length r0.2):Nat):Int)))) (
 some (.inr (8:Int))) (
 tif ((decide ((IntKind.wrap .i64 (left-(IntKind.wrap .i64 ((((List.length r0.1):Nat):Int)+(((List.length r0.2):Nat):Int)))))<0))) (
 some (.inr (8:Int))) (
 tif ((decide ((0:Int)<s16))) (
 a0a (at? l (IntKind.wrap .i64 (s16-1))) fun r2 =>
 tif ((!(Go.Op.bytesLess r2.1 r0.1))) (
 some (.inr (8:Int))) (
 f0e n f (l,((IntKind.wrap .i64 (left-(IntKind.wrap .i64 ((((List.length r0.1):Nat):Int)+(((List.length r0.2):Nat):Int))))),(s14,(s15,((IntKind.wrap .i64 (s16+1)),()))))))) (
 f0e n f (l,((IntKind.wrap .i64 (left-(IntKind.wrap .i64 ((((List.length r0.1):Nat):Int)+(((List.length r0.2):Nat):Int))))),(s14,(s15,((IntKind.wrap .i64 (s16+1)),())))))))))) (
 some (.inl ())):=by kernel_rfl
theorem l0l (n:Nat) (c:a0z) (s:a0x) (k:Int) (i:Int) (j:Int):d0x (n+1) c s k i j =
 a0a (g0x n c s) fun r0 =>
 n1h (r0.1) (
 tif ((!(decide (r0.2=0)))) (
 some ((0,((0,(0,(0,false))),((0,(0,(0,false))),((0,0),(0,(0,0)))))),r0.2)) (
 tif ((decide (k<0))) (
 some ((0,((0,(0,(0,false))),((0,(0,(0,false))),((0,0),(0,(0,0)))))),1)) (
 tif ((decide ((3:Int)≤k))) (
 some ((0,((0,(0,(0,false))),((0,(0,(0,false))),((0,0),(0,(0,0)))))),1)) (
 tif ((decide (i<0))) (
 some ((0,((0,(0,(0,false))),((0,(0,(0,false))),((0,0),(0,(0,0)))))),1)) (
 tif ((decide (j<i))) (
 some ((0,((0,(0,(0,false))),((0,(0,(0,false))),((0,0),(0,(0,0)))))),1)) (
 none)))))) fun r1 =>
 tif ((!(decide (r0.2=0)))) (
 some ((0,((0,(0,(0,false))),((0,(0,(0,false))),((0,0),(0,(0,0)))))),r0.2)) (
 tif ((decide (k<0))) (
 some ((0,((0,(0,(0,false))),((0,(0,(0,false))),((0,0),(0,(0,0)))))),1)) (
 tif ((decide ((3:Int)≤k))) (
 some ((0,((0,(0,(0,false))),((0,(0,(0,false))),((0,0),(0,(0,0)))))),1)) (
 tif ((decide (i<0))) (
 some ((0,((0,(0,(0,false))),((0,(0,(0,false))),((0,0),(0,(0,0)))))),1)) (
 tif ((decide (j<i))) (
 some ((0,((0,(0,(0,false))),((0,(0,(0,false))),((0,0),(0,(0,0)))))),1)) (
 a0a (p0n n r1 k i j) fun r2 =>
 some r2))))):=by kernel_rfl
theorem m1c (n:Nat) (inc:(Int×Int)) (ms:Int):z0m (n+1) inc ms =
 tif ((decide (ms=0))) (
 some (((0,0),(0,0)),12)) (
 a0a (k0q n inc (1000:Int)) fun r0 =>
 tif ((!(decide (r0.2=0)))) (
 some (((0,0),(0,0)),r0.2)) (
 a0a (e0o n ms) fun r1 =>
 a0a (r0o n r0.1 r1) fun r2 =>
 some r2)):=by kernel_rfl
theorem y1q (n:Nat) (s:a0p) (k:Int):y0u (n+1) s k =
 a0a (t1u n s k) fun r0 =>
 tif ((!(decide (r0=0)))) (
 some (0,(0,r0))) (
 tif ((decide (k=0))) (
 tif ((decide (k=0))) (
 a0a (e0x n s.2.1 s.1.2.1.1 s.1.2.2.1.1) fun r1 =>
 tif ((decide (s.1.2.1.1=0))) (
 none) (
 some (r1.1,((IntKind.wrap .i64 (Int.tdiv s.2.1 s.1.2.1.1)),r1.2)))) (
 tif ((decide (k=1))) (
 a0a (e0x n s.2.1 s.1.2.1.1 s.1.2.2.1.2.1) fun r2 =>
 tif ((decide (s.1.2.1.1=0))) (
 none) (
 some (r2.1,((IntKind.wrap .i64 (Int.tdiv s.2.1 s.1.2.1.1)),r2.2)))) (
 tif ((decide (k=2))) (
 a0a (e0x n s.2.1 s.1.2.1.1 s.1.2.2.1.2.2) fun r3 =>
 tif ((decide (s.1.2.1.1=0))) (
 none) (
 some (r3.1,((IntKind.wrap .i64 (Int.tdiv s.2.1 s.1.2.1.1)),r3.2)))) (
 none)))) (
 tif ((decide (k=1))) (
 tif ((decide (k=0))) (
 a0a (e0x n s.2.1 s.1.2.1.2.1 s.1.2.2.1.1) fun r4 =>
 tif ((decide (s.1.2.1.2.1=0))) (
 none) (
 some (r4.1,((IntKind.wrap .i64 (Int.tdiv s.2.1 s.1.2.1.2.1)),r4.2)))) (
 tif ((decide (k=1))) (
 a0a (e0x n s.2.1 s.1.2.1.2.1 s.1.2.2.1.2.1) fun r5 =>
 tif ((decide (s.1.2.1.2.1=0))) (
 none) (
 some (r5.1,((IntKind.wrap .i64 (Int.tdiv s.2.1 s.1.2.1.2.1)),r5.2)))) (
 tif ((decide (k=2))) (
 a0a (e0x n s.2.1 s.1.2.1.2.1 s.1.2.2.1.2.2) fun r6 =>
 tif ((decide (s.1.2.1.2.1=0))) (
 none) (
 some (r6.1,((IntKind.wrap .i64 (Int.tdiv s.2.1 s.1.2.1.2.1)),r6.2)))) (
 none)))) (
 tif ((decide (k=2))) (
 tif ((decide (k=0))) (
 a0a (e0x n s.2.1 s.1.2.1.2.2 s.1.2.2.1.1) fun r7 =>
 tif ((decide (s.1.2.1.2.2=0))) (
 none) (
 some (r7.1,((IntKind.wrap .i64 (Int.tdiv s.2.1 s.1.2.1.2.2)),r7.2)))) (
 tif ((decide (k=1))) (
 a0a (e0x n s.2.1 s.1.2.1.2.2 s.1.2.2.1.2.1) fun r8 =>
 tif ((decide (s.1.2.1.2.2=0))) (
 none) (
 some (r8.1,((IntKind.wrap .i64 (Int.tdiv s.2.1 s.1.2.1.2.2)),r8.2)))) (
 tif ((decide (k=2))) (
 a0a (e0x n s.2.1 s.1.2.1.2.2 s.1.2.2.1.2.2) fun r9 =>
 tif ((decide (s.1.2.1.2.2=0))) (
 none) (
 some (r9.1,((IntKind.wrap .i64 (Int.tdiv s.2.1 s.1.2.1.2.2)),r9.2)))) (
 none)))) (
 none)))):=by kernel_rfl
theorem c1y (n:Nat) (w:Int):k1w (n+1) w =
 a0a (p0h n w (1:Int) (1099511627776:Int)) fun r0 =>
 some r0:=by kernel_rfl
theorem l1h (n:Nat) (i:Int) (p1:a0p) (p2:(List (List UInt8×List UInt8))) (p3:a0p):f0z (n+1) i p1 p2 p3 =
 a0a (at? p1.2.2.2 i) fun r0 =>
 a0a (o0s n r0.1 p2) fun r1 =>
 tif (r1) (
 a0a (g0n n p3 i) fun r2 =>
 some r2) (
 some false):=by kernel_rfl
theorem z0g (n:Nat) (v:a0p) (i:Int):g0n (n+1) v i =
 a0a (at? v.2.2.2 i) fun r0 =>
 a0a (w0l n r0) fun r1 =>
 tif ((!r1)) (
 tif ((decide (v.2.2.1=((-1):Int)))) (
 some true) (
 a0a (v0h n v.1 r0.2.1 v.2.2.1) fun r2 =>
 some (!r2))) (
 some false):=by kernel_rfl
theorem g1b (n:Nat) (c:a0z) (s:a0x):g0x (n+1) c s =
 a0a (a1f n c s.2.2.2.1) fun r0 =>
 tif ((!(decide (r0=0)))) (
 some (none,2)) (
 a0a (q0k n s.1) fun r1 =>
 tif ((!(decide (r1=0)))) (
 some (none,2)) (
 a0a (d1p n s.2.2.1 c.1) fun r2 =>
 tif ((!(decide (r2=0)))) (
 some (none,2)) (
 tif ((decide (s.2.1=((-1):Int)))) (
 a0a (d1g n (c,s)) fun r3 =>
 tif (r3) (
 some ((some (c,s)),0)) (
 tif ((!(decide (s.2.1=((-1):Int))))) (
 a0a (c1k n (c,s)) fun r4 =>
 tif (r4) (
 some ((some (c,s)),0)) (
 some (none,2))) (
 some (none,2)))) (
 tif ((!(decide (s.2.1=((-1):Int))))) (
 a0a (c1k n (c,s)) fun r5 =>
 tif (r5) (
 some ((some (c,s)),0)) (
 some (none,2))) (
 some (none,2)))))):=by kernel_rfl
theorem q1a (n:Nat) (s:c0g):h0w (n+1) s (0:Int) =
 some (s.2.2.2.2.2.2,0):=by kernel_rfl
theorem p1z (n:Nat) (s:c0g):h0w (n+1) s (1:Int) =
 tif ((decide (s.1.2.1.2.1=0))) (
 none) (
 tif ((decide (s.1.2.1.1=0))) (
 none) (
 tif ((decide (s.1.2.1.1=0))) (
 none) (
 a0a (l0f n s.2.2.2.2.1.1 (IntKind.wrap .i64 ((IntKind.wrap .i64 (Int.tdiv s.2.2.1 s.1.2.1.2.1))*(IntKind.wrap .i64 (Int.tdiv s.1.2.1.2.1 s.1.2.1.1)))) (IntKind.wrap .i64 (Int.tdiv s.2.2.1 s.1.2.1.1))) fun r0 =>
 a0a (h0w n s (0:Int)) fun r1 =>
 tif ((!(decide (r0.2=0)))) (
 some ((0,((0,(0,(0,false))),((0,(0,(0,false))),((0,0),(0,(0,0)))))),(if r0.2<r1.2 then r1.2 else r0.2))) (
 tif ((!(decide (r1.2=0)))) (
 some ((0,((0,(0,(0,false))),((0,(0,(0,false))),((0,0),(0,(0,0)))))),(if r0.2<r1.2 then r1.2 else r0.2))) (
 a0a (h0q n r0.1 r1.1) fun r2 =>
 some r2))))):=by kernel_rfl
theorem p1y (n:Nat) (s:c0g):h0w (n+1) s (2:Int) =
 tif ((decide (s.1.2.1.2.2=0))) (
 none) (
 tif ((decide (s.1.2.1.2.1=0))) (
 none) (
 tif ((decide (s.1.2.1.2.1=0))) (
 none) (
 a0a (l0f n s.2.2.2.2.1.2.1 (IntKind.wrap .i64 ((IntKind.wrap .i64 (Int.tdiv s.2.2.1 s.1.2.1.2.2))*(IntKind.wrap .i64 (Int.tdiv s.1.2.1.2.2 s.1.2.1.2.1)))) (IntKind.wrap .i64 (Int.tdiv s.2.2.1 s.1.2.1.2.1))) fun r0 =>
 a0a (h0w n s (1:Int)) fun r1 =>
 tif ((!(decide (r0.2=0)))) (
 some ((0,((0,(0,(0,false))),((0,(0,(0,false))),((0,0),(0,(0,0)))))),(if r0.2<r1.2 then r1.2 else r0.2))) (
 tif ((!(decide (r1.2=0)))) (
 some ((0,((0,(0,(0,false))),((0,(0,(0,false))),((0,0),(0,(0,0)))))),(if r0.2<r1.2 then r1.2 else r0.2))) (
 a0a (h0q n r0.1 r1.1) fun r2 =>
 some r2))))):=by kernel_rfl
theorem u1x (n:Nat) (l:(List a0d)) (i:Int):m0i (n+1) l i =
 tif ((decide (i<0))) (
 some (0,((0,(0,(0,false))),((0,(0,(0,false))),((0,0),(0,(0,0))))))) (
 tif ((decide ((((List.length l):Nat):Int)=0))) (
 some (0,((0,(0,(0,false))),((0,(0,(0,false))),((0,0),(0,(0,0))))))) (
 a0a (k1x n i (((List.length l):Nat):Int)) fun r0 =>
 a0a (at? l r0) fun r1 =>
 tif ((decide (r1.1=i))) (
 some r1.2) (
 some (0,((0,(0,(0,false))),((0,(0,(0,false))),((0,0),(0,(0,0))))))))):=by kernel_rfl
theorem a1z (n:Nat) (c:a0z) (s:a0x) (i:Int):j0u (n+1) c s (0:Int) i =
 tif ((decide (s.2.1=((-1):Int)))) (
 some ((0,((0,(0,(0,false))),((0,(0,(0,false))),((0,0),(0,(0,0)))))),0)) (
 tif ((decide (c.2.1.1=0))) (
 none) (
 tif ((decide ((IntKind.wrap .i64 (Int.tdiv s.2.1 c.2.1.1))<i))) (
 some ((0,((0,(0,(0,false))),((0,(0,(0,false))),((0,0),(0,(0,0)))))),0)) (
 tif ((decide (c.2.1.1=0))) (
 none) (
 tif ((decide (i<(IntKind.wrap .i64 (Int.tdiv s.2.1 c.2.1.1))))) (
 a0a (z0p n s.2.2.2.1.1 i) fun r0 =>
 some (r0,0)) (
 some (s.2.2.2.2.2,0)))))):=by kernel_rfl
theorem a1y (n:Nat) (c:a0z) (s:a0x) (i:Int):j0u (n+1) c s (1:Int) i =
 tif ((decide (s.2.1=((-1):Int)))) (
 some ((0,((0,(0,(0,false))),((0,(0,(0,false))),((0,0),(0,(0,0)))))),0)) (
 tif ((decide (c.2.1.2.1=0))) (
 none) (
 tif ((decide ((IntKind.wrap .i64 (Int.tdiv s.2.1 c.2.1.2.1))<i))) (
 some ((0,((0,(0,(0,false))),((0,(0,(0,false))),((0,0),(0,(0,0)))))),0)) (
 tif ((decide (c.2.1.2.1=0))) (
 none) (
 tif ((decide (i<(IntKind.wrap .i64 (Int.tdiv s.2.1 c.2.1.2.1))))) (
 a0a (z0p n s.2.2.2.1.2.1 i) fun r0 =>
 some (r0,0)) (
 tif ((decide (c.2.1.1=0))) (
 none) (
 a0a (o0i n c (1:Int)) fun r1 =>
 a0a (p0z n s.2.2.2.1.1 (IntKind.wrap .i64 (i*r1)) (IntKind.wrap .i64 (Int.tdiv s.2.1 c.2.1.1))) fun r2 =>
 tif ((!(decide (r2.2=0)))) (
 some ((0,((0,(0,(0,false))),((0,(0,(0,false))),((0,0),(0,(0,0)))))),r2.2)) (
 a0a (j0u n c s (0:Int) (IntKind.wrap .i64 (Int.tdiv s.2.1 c.2.1.1))) fun r3 =>
 tif ((!(decide (r3.2=0)))) (
 some ((0,((0,(0,(0,false))),((0,(0,(0,false))),((0,0),(0,(0,0)))))),r3.2)) (
 a0a (j0o n r2.1 r3.1) fun r4 =>
 some r4)))))))):=by kernel_rfl
theorem a1x (n:Nat) (c:a0z) (s:a0x) (i:Int):j0u (n+1) c s (2:Int) i =
 tif ((decide (s.2.1=((-1):Int)))) (
 some ((0,((0,(0,(0,false))),((0,(0,(0,false))),((0,0),(0,(0,0)))))),0)) (
 tif ((decide (c.2.1.2.2=0))) (
 none) (
 tif ((decide ((IntKind.wrap .i64 (Int.tdiv s.2.1 c.2.1.2.2))<i))) (
 some ((0,((0,(0,(0,false))),((0,(0,(0,false))),((0,0),(0,(0,0)))))),0)) (
 tif ((decide (c.2.1.2.2=0))) (
 none) (
 tif ((decide (i<(IntKind.wrap .i64 (Int.tdiv s.2.1 c.2.1.2.2))))) (
 a0a (z0p n s.2.2.2.1.2.2 i) fun r0 =>
 some (r0,0)) (
 tif ((decide (c.2.1.2.1=0))) (
 none) (
 a0a (o0i n c (2:Int)) fun r1 =>
 a0a (p0z n s.2.2.2.1.2.1 (IntKind.wrap .i64 (i*r1)) (IntKind.wrap .i64 (Int.tdiv s.2.1 c.2.1.2.1))) fun r2 =>
 tif ((!(decide (r2.2=0)))) (
 some ((0,((0,(0,(0,false))),((0,(0,(0,false))),((0,0),(0,(0,0)))))),r2.2)) (
 a0a (j0u n c s (1:Int) (IntKind.wrap .i64 (Int.tdiv s.2.1 c.2.1.2.1))) fun r3 =>
 tif ((!(decide (r3.2=0)))) (
 some ((0,((0,(0,(0,false))),((0,(0,(0,false))),((0,0),(0,(0,0)))))),r3.2)) (
 a0a (j0o n r2.1 r3.1) fun r4 =>
 some r4)))))))):=by kernel_rfl
theorem i1v (n:Nat) (l:(List a0y)):m0a (n+1) l =
 a0a (j0h n a0b (l,((((List.length l):Nat):Int),(0,())))) fun r0 =>
 b0c (fun y1 =>
 some true) (fun z2 =>
 some z2) r0:=by kernel_rfl
theorem o0x (n f:Nat) (s5:(List a0y)) (s6:Int) (s7:Int):j0h n (f+1) (s5,s6,s7,()) =
 tif ((decide (s7<s6))) (
 a0a (at? s5 s7) fun r0 =>
 a0a (m0b n r0) fun r1 =>
 tif ((!(decide (r1=0)))) (
 some (.inr false)) (
 j0h n f (s5,(s6,((IntKind.wrap .i64 (s7+1)),()))))) (
 some (.inl ())):=by kernel_rfl
theorem o1i (n:Nat) (c:a0y) (seen:Int):u0b (n+1) c seen =
 a0a (e0o n c.2.1) fun r0 =>
 some (0,((0,(0,(0,false))),((0,(0,(0,false))),(r0,(1,(0,seen)))))):=by kernel_rfl
theorem r1o (n:Nat) (a:a0v) (b:a0v):j0o (n+1) a b =
 a0a (s0c n a) fun r0 =>
 tif ((!(decide (r0=0)))) (
 some ((0,((0,(0,(0,false))),((0,(0,(0,false))),((0,0),(0,(0,0)))))),2)) (
 a0a (s0c n b) fun r1 =>
 tif ((!(decide (r1=0)))) (
 some ((0,((0,(0,(0,false))),((0,(0,(0,false))),((0,0),(0,(0,0)))))),2)) (
 tif ((decide (a.1=0))) (
 some (b,0)) (
 tif ((decide (b.1=0))) (
 some (a,0)) (
 tif ((decide (b.2.1.1≤a.2.2.1.1))) (
 some ((0,((0,(0,(0,false))),((0,(0,(0,false))),((0,0),(0,(0,0)))))),9)) (
 a0a (v0n n a.2.2.1 b.2.1) fun r2 =>
 a0a (x1j n (a.2.2.2.1::(r2.1.2.2.2.1::(b.2.2.2.1::[])))) fun r3 =>
 some (((IntKind.wrap .i64 (a.1+b.1)),(a.2.1,(b.2.2.1,(r3.1,((IntKind.wrap .i64 ((IntKind.wrap .i64 (a.2.2.2.2.1+r2.1.2.2.2.2.1))+b.2.2.2.2.1)),((IntKind.wrap .i64 ((IntKind.wrap .i64 (a.2.2.2.2.2.1+r2.1.2.2.2.2.2.1))+b.2.2.2.2.2.1)),(IntKind.wrap .i64 ((IntKind.wrap .i64 (a.2.2.2.2.2.2+r2.1.2.2.2.2.2.2))+b.2.2.2.2.2.2)))))))),0)))))):=by kernel_rfl
theorem r1y (n:Nat) (a:(Int×Int)):g0q (n+1) a =
 some ((IntKind.wrap .i64 (andI .u64 (shrI .u64 a.2 (0:Int)) (255:Int))),((IntKind.wrap .i64 (andI .u64 (shrI .u64 a.2 (8:Int)) (255:Int))),((IntKind.wrap .i64 (andI .u64 (shrI .u64 a.2 (16:Int)) (255:Int))),((IntKind.wrap .i64 (andI .u64 (shrI .u64 a.2 (24:Int)) (255:Int))),((IntKind.wrap .i64 (andI .u64 (shrI .u64 a.2 (32:Int)) (255:Int))),((IntKind.wrap .i64 (andI .u64 (shrI .u64 a.2 (40:Int)) (255:Int))),((IntKind.wrap .i64 (andI .u64 (shrI .u64 a.2 (48:Int)) (255:Int))),((IntKind.wrap .i64 (andI .u64 (shrI .u64 a.2 (56:Int)) (255:Int))),((IntKind.wrap .i64 (andI .u64 (shrI .u64 a.1 (0:Int)) (255:Int))),((IntKind.wrap .i64 (andI .u64 (shrI .u64 a.1 (8:Int)) (255:Int))),((IntKind.wrap .i64 (andI .u64 (shrI .u64 a.1 (16:Int)) (255:Int))),((IntKind.wrap .i64 (andI .u64 (shrI .u64 a.1 (24:Int)) (255:Int))),((IntKind.wrap .i64 (andI .u64 (shrI .u64 a.1 (32:Int)) (255:Int))),((IntKind.wrap .i64 (andI .u64 (shrI .u64 a.1 (40:Int)) (255:Int))),((IntKind.wrap .i64 (andI .u64 (shrI .u64 a.1 (48:Int)) (255:Int))),(IntKind.wrap .i64 (andI .u64 (shrI .u64 a.1 (56:Int)) (255:Int)))))))))))))))))):=by kernel_rfl
theorem g2z (n:Nat) (l:(Int×(Int×(Int×(Int×(Int×(Int×(Int×(Int×(Int×(Int×(Int×(Int×(Int×(Int×(Int×Int)))))))))))))))):b1c (n+1) l =
 some ((orI .u64 (orI .u64 (orI .u64 (orI .u64 (orI .u64 (orI .u64 (orI .u64 (orI .u64 (0:Int) (shlI .u64 (IntKind.wrap .u64 l.2.2.2.2.2.2.2.2.1) (0:Int))) (shlI .u64 (IntKind.wrap .u64 l.2.2.2.2.2.2.2.2.2.1) (8:Int))) (shlI .u64 (IntKind.wrap .u64 l.2.2.2.2.2.2.2.2.2.2.1) (16:Int))) (shlI .u64 (IntKind.wrap .u64 l.2.2.2.2.2.2.2.2.2.2.2.1) (24:Int))) (shlI .u64 (IntKind.wrap .u64 l.2.2.2.2.2.2.2.2.2.2.2.2.1) (32:Int))) (shlI .u64 (IntKind.wrap .u64 l.2.2.2.2.2.2.2.2.2.2.2.2.2.1) (40:Int))) (shlI .u64 (IntKind.wrap .u64 l.2.2.2.2.2.2.2.2.2.2.2.2.2.2.1) (48:Int))) (shlI .u64 (IntKind.wrap .u64 l.2.2.2.2.2.2.2.2.2.2.2.2.2.2.2) (56:Int))),(orI .u64 (orI .u64 (orI .u64 (orI .u64 (orI .u64 (orI .u64 (orI .u64 (orI .u64 (0:Int) (shlI .u64 (IntKind.wrap .u64 l.1) (0:Int))) (shlI .u64 (IntKind.wrap .u64 l.2.1) (8:Int))) (shlI .u64 (IntKind.wrap .u64 l.2.2.1) (16:Int))) (shlI .u64 (IntKind.wrap .u64 l.2.2.2.1) (24:Int))) (shlI .u64 (IntKind.wrap .u64 l.2.2.2.2.1) (32:Int))) (shlI .u64 (IntKind.wrap .u64 l.2.2.2.2.2.1) (40:Int))) (shlI .u64 (IntKind.wrap .u64 l.2.2.2.2.2.2.1) (48:Int))) (shlI .u64 (IntKind.wrap .u64 l.2.2.2.2.2.2.2.1) (56:Int)))):=by kernel_rfl
theorem o1x (n:Nat) (c:a0v):p0a (n+1) c =
 a0a (s0v n c) fun r0 =>
 tif (r0) (
 some (0:Int)) (
 a0a (a1j n c) fun r1 =>
 tif ((!r1)) (
 some (2:Int)) (
 a0a (e0o n (18446744073709551615:Int)) fun r2 =>
 a0a (k0q n r2 (IntKind.wrap .u64 (IntKind.wrap .i64 (c.1-1)))) fun r3 =>
 tif ((!(decide (r3.2=0)))) (
 some (2:Int)) (
 a0a (b0z n r3.1 c.2.2.2.1) fun r4 =>
 tif (r4) (
 some (2:Int)) (
 a0a (f1m n c.2.2.2.2.2.1 (IntKind.wrap .i64 (c.1-1))) fun r5 =>
 tif ((!r5)) (
 some (2:Int)) (
 a0a (f1m n c.2.2.2.2.1 (IntKind.wrap .i64 ((IntKind.wrap .i64 (c.1-1))-c.2.2.2.2.2.1))) fun r6 =>
 tif ((!r6)) (
 some (2:Int)) (
 a0a (f1m n c.2.2.2.2.2.2 (IntKind.wrap .i64 (c.2.2.1.1-c.2.1.1))) fun r7 =>
 tif ((!r7)) (
 some (2:Int)) (
 some (0:Int)))))))):=by kernel_rfl
theorem u1a (n:Nat) (c:a0v):s0v (n+1) c =
 some ((decide (c.1=0))&&((decide (c.2.1.1=0))&&((decide (c.2.1.2.1=0))&&((decide (c.2.1.2.2.1=0))&&((c.2.1.2.2.2==false)&&((decide (c.2.2.1.1=0))&&((decide (c.2.2.1.2.1=0))&&((decide (c.2.2.1.2.2.1=0))&&((c.2.2.1.2.2.2==false)&&((decide (c.2.2.2.1.1=0))&&((decide (c.2.2.2.1.2=0))&&((decide (c.2.2.2.2.1=0))&&((decide (c.2.2.2.2.2.1=0))&&(decide (c.2.2.2.2.2.2=0))))))))))))))):=by kernel_rfl
theorem u1b (n:Nat) (a:a0v) (b:a0v):u1c (n+1) a b =
 a0a (k0l n a.2.2.1 b.2.1) fun r0 =>
 tif ((!(decide (r0.2=0)))) (
 some ((0,((0,(0,(0,false))),((0,(0,(0,false))),((0,0),(0,(0,0)))))),r0.2)) (
 a0a (p0g n (a.2.2.2.1::(r0.1.2.2.2.1::(b.2.2.2.1::[])))) fun r1 =>
 some (((IntKind.wrap .i64 (a.1+b.1)),(a.2.1,(b.2.2.1,(r1.1,((IntKind.wrap .i64 (r0.1.2.2.2.2.1+(IntKind.wrap .i64 (a.2.2.2.2.1+b.2.2.2.2.1)))),((IntKind.wrap .i64 (r0.1.2.2.2.2.2.1+(IntKind.wrap .i64 (a.2.2.2.2.2.1+b.2.2.2.2.2.1)))),(IntKind.wrap .i64 (r0.1.2.2.2.2.2.2+(IntKind.wrap .i64 (a.2.2.2.2.2.2+b.2.2.2.2.2.2)))))))))),r1.2)):=by kernel_rfl
theorem c2u (n:Nat) (s:a0p) (tier:Int) (from_:Int) (to:Int):m1f (n+1) s tier from_ to =
 tif ((decide ((IntKind.wrap .i64 (tier-1))=0))) (
 a0a (f0k n from_ to s.1.2.1.1) fun r0 =>
 tif ((!(decide (r0.2.2=0)))) (
 some r0.2.2) (
 a0a (x0e n s (IntKind.wrap .i64 (tier-1))) fun r1 =>
 tif ((decide (r0.1<r1.1))) (
 some (11:Int)) (
 some (0:Int)))) (
 tif ((decide ((IntKind.wrap .i64 (tier-1))=1))) (
 a0a (f0k n from_ to s.1.2.1.2.1) fun r2 =>
 tif ((!(decide (r2.2.2=0)))) (
 some r2.2.2) (
 a0a (x0e n s (IntKind.wrap .i64 (tier-1))) fun r3 =>
 tif ((decide (r2.1<r3.1))) (
 some (11:Int)) (
 some (0:Int)))) (
 tif ((decide ((IntKind.wrap .i64 (tier-1))=2))) (
 a0a (f0k n from_ to s.1.2.1.2.2) fun r4 =>
 tif ((!(decide (r4.2.2=0)))) (
 some r4.2.2) (
 a0a (x0e n s (IntKind.wrap .i64 (tier-1))) fun r5 =>
 tif ((decide (r4.1<r5.1))) (
 some (11:Int)) (
 some (0:Int)))) (
 none))):=by kernel_rfl
theorem g1d (n:Nat) (c:a0z) (last:Int) (now:Int):v0h (n+1) c last now =
 a0a (j0a n c) fun r0 =>
 tif ((decide (r0=0))) (
 a0a (c1z n last now c.2.1.1 c.2.2.1.1) fun r1 =>
 tif (r1) (
 a0a (c1z n last now c.2.1.2.1 c.2.2.1.2.1) fun r2 =>
 tif (r2) (
 a0a (c1z n last now c.2.1.2.2 c.2.2.1.2.2) fun r3 =>
 tif (r3) (
 some r3) (
 some r3)) (
 some r2)) (
 some r1)) (
 some (decide (r0=0))):=by kernel_rfl
theorem p1m (n:Nat) (now:Int) (w:Int) (n_:Int):e0x (n+1) now w n_ =
 a0a (b2p n now w) fun r0 =>
 tif ((!(decide (r0.2=0)))) (
 some (0,1)) (
 a0a (p1l n n_ (1:Int) (4096:Int)) fun r1 =>
 tif ((!r1)) (
 some (0,1)) (
 some ((if (0:Int)<(IntKind.wrap .i64 ((IntKind.wrap .i64 (r0.1+1))-n_)) then (IntKind.wrap .i64 ((IntKind.wrap .i64 (r0.1+1))-n_)) else (0:Int)),0))):=by kernel_rfl
theorem b1w (n:Nat) (a:(Int×Int)):g0e (n+1) a =
 tif ((decide (a.2=0))) (
 a0a (j0s n a.1) fun r0 =>
 some (IntKind.wrap .i64 ((64:Int)+r0))) (
 a0a (j0s n a.2) fun r1 =>
 some r1):=by kernel_rfl
theorem m1b (n:Nat) (a:(Int×Int)) (by_:Int):t0m (n+1) a by_ =
 tif ((decide ((64:Int)≤by_))) (
 tif ((decide ((IntKind.wrap .i64 (by_-64))<0))) (
 none) (
 some (0,(shrI .u64 a.1 (IntKind.wrap .i64 (by_-64)))))) (
 tif ((decide (by_<0))) (
 none) (
 tif ((decide (by_<0))) (
 none) (
 tif ((decide ((IntKind.wrap .i64 ((64:Int)-by_))<0))) (
 none) (
 some ((shrI .u64 a.1 by_),(orI .u64 (shrI .u64 a.2 by_) (shlI .u64 a.1 (IntKind.wrap .i64 ((64:Int)-by_))))))))):=by kernel_rfl
theorem m1a (n:Nat) (a:(Int×Int)) (b:(Int×Int)):i0x (n+1) a b =
 a0a (k1v n a b) fun r0 =>
 some r0.1:=by kernel_rfl
theorem v1w (n:Nat) (a:(Int×Int)) (by_:Int):w0z (n+1) a by_ =
 tif ((decide ((64:Int)≤by_))) (
 tif ((decide ((IntKind.wrap .i64 (by_-64))<0))) (
 none) (
 some ((shlI .u64 a.2 (IntKind.wrap .i64 (by_-64))),0))) (
 tif ((decide (by_<0))) (
 none) (
 tif ((decide ((IntKind.wrap .i64 ((64:Int)-by_))<0))) (
 none) (
 tif ((decide (by_<0))) (
 none) (
 some ((orI .u64 (shlI .u64 a.1 by_) (shrI .u64 a.2 (IntKind.wrap .i64 ((64:Int)-by_)))),(shlI .u64 a.2 by_)))))):=by kernel_rfl
theorem b1a (n:Nat) (c:a0z):i0h (n+1) c =
 tif ((decide (c.1<1))) (
 some (2:Int)) (
 tif ((decide ((4096:Int)<c.1))) (
 some (2:Int)) (
 tif ((decide (c.2.2.2.1<1))) (
 some (2:Int)) (
 tif ((decide ((65536:Int)<c.2.2.2.1))) (
 some (2:Int)) (
 tif ((decide (c.2.2.2.2<1))) (
 some (2:Int)) (
 tif ((decide ((8192:Int)<c.2.2.2.2))) (
 some (2:Int)) (
 tif ((decide (c.2.1.1<1))) (
 some (2:Int)) (
 tif ((decide ((1099511627776:Int)<c.2.1.1))) (
 some (2:Int)) (
 tif ((decide (c.2.2.1.1<1))) (
 some (2:Int)) (
 tif ((decide ((4096:Int)<c.2.2.1.1))) (
 some (2:Int)) (
 tif ((decide (c.2.1.2.1<1))) (
 some (2:Int)) (
 tif ((decide ((1099511627776:Int)<c.2.1.2.1))) (
 some (2:Int)) (
 tif ((decide (c.2.2.1.2.1<1))) (
 some (2:Int)) (
 tif ((decide ((4096:Int)<c.2.2.1.2.1))) (
 some (2:Int)) (
 tif ((decide (c.2.1.1=0))) (
 none) (
 tif ((!(decide ((Int.tmod c.2.1.2.1 c.2.1.1)=0)))) (
 some (2:Int)) (
 tif ((decide (c.2.1.1=0))) (
 none) (
 tif ((decide (c.2.2.1.1<(IntKind.wrap .i64 (Int.tdiv c.2.1.2.1 c.2.1.1))))) (
 some (2:Int)) (
 tif ((decide (c.2.1.2.2<1))) (
 some (2:Int)) (
 tif ((decide ((1099511627776:Int)<c.2.1.2.2))) (
 some (2:Int)) (
 tif ((decide (c.2.2.1.2.2<1))) (
 some (2:Int)) (
 tif ((decide ((4096:Int)<c.2.2.1.2.2))) (
 some (2:Int)) (
 tif ((decide (c.2.1.2.1=0))) (
 none) (
 tif ((!(decide ((Int.tmod c.2.1.2.2 c.2.1.2.1)=0)))) (
 some (2:Int)) (
 tif ((decide (c.2.1.2.1=0))) (
 none) (
 tif ((decide (c.2.2.1.2.1<(IntKind.wrap .i64 (Int.tdiv c.2.1.2.2 c.2.1.2.1))))) (
 some (2:Int)) (
 a0a (e1b n c) fun r0 =>
 tif ((decide (c.2.2.2.2≤r0))) (
 some (2:Int)) (
 some (0:Int)))))))))))))))))))))))))))):=by kernel_rfl
theorem w1k (n:Nat) (a:a0x) (b:a0x):x0i (n+1) a b =
 a0a (x0t n a.1 b.1) fun r0 =>
 tif (r0) (
 tif ((decide (a.2.1=b.2.1))) (
 a0a (z1s n a.2.2.1 b.2.2.1) fun r1 =>
 tif (r1) (
 a0a (z1q n a.2.2.2.1 b.2.2.2.1) fun r2 =>
 tif (r2) (
 some ((decide (a.2.2.2.2.1=b.2.2.2.2.1))&&((decide (a.2.2.2.2.2.1=b.2.2.2.2.2.1))&&((decide (a.2.2.2.2.2.2.1.1=b.2.2.2.2.2.2.1.1))&&((decide (a.2.2.2.2.2.2.1.2.1=b.2.2.2.2.2.2.1.2.1))&&((decide (a.2.2.2.2.2.2.1.2.2.1=b.2.2.2.2.2.2.1.2.2.1))&&((a.2.2.2.2.2.2.1.2.2.2==b.2.2.2.2.2.2.1.2.2.2)&&((decide (a.2.2.2.2.2.2.2.1.1=b.2.2.2.2.2.2.2.1.1))&&((decide (a.2.2.2.2.2.2.2.1.2.1=b.2.2.2.2.2.2.2.1.2.1))&&((decide (a.2.2.2.2.2.2.2.1.2.2.1=b.2.2.2.2.2.2.2.1.2.2.1))&&((a.2.2.2.2.2.2.2.1.2.2.2==b.2.2.2.2.2.2.2.1.2.2.2)&&((decide (a.2.2.2.2.2.2.2.2.1.1=b.2.2.2.2.2.2.2.2.1.1))&&((decide (a.2.2.2.2.2.2.2.2.1.2=b.2.2.2.2.2.2.2.2.1.2))&&((decide (a.2.2.2.2.2.2.2.2.2.1=b.2.2.2.2.2.2.2.2.2.1))&&((decide (a.2.2.2.2.2.2.2.2.2.2.1=b.2.2.2.2.2.2.2.2.2.2.1))&&(decide (a.2.2.2.2.2.2.2.2.2.2.2=b.2.2.2.2.2.2.2.2.2.2.2))))))))))))))))) (
 some false)) (
 some false)) (
 some false)) (
 some false):=by kernel_rfl
theorem r1i (n:Nat) (r:(Int×(Int×(List a0y)))) (room:Int):e1a (n+1) r room =
 tif ((decide (room<1))) (
 some (2:Int)) (
 tif ((decide ((4096:Int)<room))) (
 some (2:Int)) (
 tif ((decide (room<(((List.length r.2.2):Nat):Int)))) (
 some (2:Int)) (
 tif ((decide (r.1<0))) (
 some (2:Int)) (
 tif ((decide ((70368744177664:Int)<r.1))) (
 some (2:Int)) (
 a0a (h0m n a0b (room,(r,(r.2.2,((((List.length r.2.2):Nat):Int),(0,())))))) fun r0 =>
 b0c (fun y1 =>
 tif ((decide (y1.2.1.1=0))) (
 tif ((!(decide (y1.2.1.2.1=0)))) (
 some (2:Int)) (
 some (0:Int))) (
 tif ((decide (y1.2.1.2.1<0))) (
 some (2:Int)) (
 tif ((decide ((35184372088832:Int)≤y1.2.1.2.1))) (
 some (2:Int)) (
 tif ((!(decide ((((List.length y1.2.1.2.2):Nat):Int)=y1.1)))) (
 some (2:Int)) (
 a0a (at? y1.2.1.2.2 (0:Int)) fun r2 =>
 tif ((decide (r2.1≤y1.2.1.2.1))) (
 some (2:Int)) (
 some (0:Int))))))) (fun z3 =>
 some z3) r0))))):=by kernel_rfl
theorem s0a (n f:Nat) (room:Int) (r_:(Int×(Int×(List a0y)))) (s31:(List a0y)) (s32:Int) (s33:Int):h0m n (f+1) (room,r_,s31,s32,s33,()) =
 tif ((decide (s33<s32))) (
 a0a (at? s31 s33) fun r0 =>
 a0a (l0v n r0) fun r1 =>
 tif ((!(decide (r1=0)))) (
 some (.inr (2:Int))) (
 tif ((decide ((0:Int)<s33))) (
 a0a (at? r_.2.2 (IntKind.wrap .i64 (s33-1))) fun r2 =>
 tif ((decide (r0.1≤r2.1))) (
 some (.inr (2:Int))) (
 h0m n f (room,(r_,(s31,(s32,((IntKind.wrap .i64 (s33+1)),()))))))) (
 h0m n f (room,(r_,(s31,(s32,((IntKind.wrap .i64 (s33+1)),())))))))) (
 some (.inl (room,(r_,())))):=by kernel_rfl
theorem r1g (n:Nat) (c:a0z) (s:((List a0d)×((List a0d)×(List a0d)))):d1x (n+1) c s =
 a0a (i0h n c) fun r0 =>
 tif ((!(decide (r0=0)))) (
 some (2:Int)) (
 tif ((!(decide ((((List.length s.1):Nat):Int)=c.2.2.1.1)))) (
 some (2:Int)) (
 a0a (r0y n s.1 c.2.1.1) fun r1 =>
 tif ((!(decide (r1=0)))) (
 some (2:Int)) (
 tif ((!(decide ((((List.length s.2.1):Nat):Int)=c.2.2.1.2.1)))) (
 some (2:Int)) (
 a0a (r0y n s.2.1 c.2.1.2.1) fun r2 =>
 tif ((!(decide (r2=0)))) (
 some (2:Int)) (
 tif ((!(decide ((((List.length s.2.2):Nat):Int)=c.2.2.1.2.2)))) (
 some (2:Int)) (
 a0a (r0y n s.2.2 c.2.1.2.2) fun r3 =>
 tif ((!(decide (r3=0)))) (
 some (2:Int)) (
 some (0:Int)))))))):=by kernel_rfl
theorem d2e (n:Nat) (l:(List a0d)):q0a (n+1) l =
 a0a (o0f n a0b ([],(l,((((List.length l):Nat):Int),(0,()))))) fun r0 =>
 b0c (fun y1 =>
 some y1.1) (fun z2 =>
 some z2) r0:=by kernel_rfl
theorem x0m (n f:Nat) (out:(List a0d)) (s8:(List a0d)) (s9:Int) (s10:Int):o0f n (f+1) (out,s8,s9,s10,()) =
 tif ((decide (s10<s9))) (
 a0a (at? s8 s10) fun r0 =>
 tif (((decide (r0.1=0))&&((decide (r0.2.1=0))&&((decide (r0.2.2.1.1=0))&&((decide (r0.2.2.1.2.1=0))&&((decide (r0.2.2.1.2.2.1=0))&&((r0.2.2.1.2.2.2==false)&&((decide (r0.2.2.2.1.1=0))&&((decide (r0.2.2.2.1.2.1=0))&&((decide (r0.2.2.2.1.2.2.1=0))&&((r0.2.2.2.1.2.2.2==false)&&((decide (r0.2.2.2.2.1.1=0))&&((decide (r0.2.2.2.2.1.2=0))&&((decide (r0.2.2.2.2.2.1=0))&&((decide (r0.2.2.2.2.2.2.1=0))&&(decide (r0.2.2.2.2.2.2.2=0))))))))))))))))) (
 o0f n f (out,(s8,(s9,((IntKind.wrap .i64 (s10+1)),()))))) (
 a0a (t0o n a0b (out,(r0,((((List.length out):Nat):Int),(s8,(s9,(s10,()))))))) fun r1 =>
 b0c (fun y2 =>
 tif (((decide ((0:Int)≤y2.2.2.1))&&(decide (y2.2.2.1≤(((List.length y2.1):Nat):Int))))) (
 tif ((decide (((0+(List.length (List.take ((Int.toNat y2.2.2.1)-0) (List.drop 0 y2.1))))*120)≤140737488355328))) (
 tif ((decide ((((List.length ([]++(List.take ((Int.toNat y2.2.2.1)-0) (List.drop 0 y2.1))))+1)*120)≤140737488355328))) (
 tif ((decide ((0:Int)≤y2.2.2.1))) (
 tif ((decide ((Int.toNat y2.2.2.1)≤(List.length y2.1)))) (
 tif ((decide ((((List.length (([]++(List.take ((Int.toNat y2.2.2.1)-0) (List.drop 0 y2.1)))++(y2.2.1::[])))+(List.length (List.take ((List.length y2.1)-(Int.toNat y2.2.2.1)) (List.drop (Int.toNat y2.2.2.1) y2.1))))*120)≤140737488355328))) (
 o0f n f (((([]++(List.take ((Int.toNat y2.2.2.1)-0) (List.drop 0 y2.1)))++(y2.2.1::[]))++(List.take ((List.length y2.1)-(Int.toNat y2.2.2.1)) (List.drop (Int.toNat y2.2.2.1) y2.1))),(y2.2.2.2.1,(y2.2.2.2.2.1,((IntKind.wrap .i64 (y2.2.2.2.2.2.1+1)),()))))) (
 none)) (
 none)) (
 none)) (
 none)) (
 none)) (
 none)) (fun z3 =>
 some (.inr z3)) r1)) (
 some (.inl (out,()))):=by kernel_rfl
theorem x0l (n f:Nat) (out:(List a0d)) (s:a0d) (at_:Int) (s8:(List a0d)) (s9:Int) (s10:Int):t0o n (f+1) (out,s,at_,s8,s9,s10,()) =
 tif ((decide ((0:Int)<at_))) (
 a0a (at? out (IntKind.wrap .i64 (at_-1))) fun r0 =>
 a0a ((out)[(Int.toNat (IntKind.wrap .i64 (at_-1)))]?) fun r1 =>
 tif ((decide (s.1<r1.1))) (
 t0o n f (out,(s,((IntKind.wrap .i64 (at_-1)),(s8,(s9,(s10,()))))))) (
 some (.inl (out,(s,(at_,(s8,(s9,(s10,()))))))))) (
 some (.inl (out,(s,(at_,(s8,(s9,(s10,())))))))):=by kernel_rfl
theorem w1t (n:Nat) (r:(Int×(Int×(List a0y)))):m1k (n+1) r =
 tif ((decide ((((List.length r.2.2):Nat):Int)=0))) (
 some ((0,(0,(0,false))),3)) (
 a0a (at? r.2.2 (IntKind.wrap .i64 ((((List.length r.2.2):Nat):Int)-1))) fun r0 =>
 some (r0,0)):=by kernel_rfl
theorem w1q (n:Nat) (c:a0v) (w:Int) (i:Int):c1l (n+1) c w i =
 a0a (s0c n c) fun r0 =>
 tif ((!(decide (r0=0)))) (
 some false) (
 tif ((decide (c.1=0))) (
 some false) (
 a0a (c0z n c.2.1.1 w) fun r1 =>
 a0a (c0z n c.2.2.1.1 w) fun r2 =>
 tif ((decide (r1.2=0))) (
 tif ((decide (r2.2=0))) (
 tif ((decide (r1.1=i))) (
 some (decide (r2.1=i))) (
 some false)) (
 some false)) (
 some false))):=by kernel_rfl
theorem w1l (n:Nat) (c:a0z) (last:Int) (now:Int):m1i (n+1) c last now =
 a0a (i0h n c) fun r0 =>
 tif ((!(decide (r0=0)))) (
 some false) (
 a0a (x0p n last now c.2.1.1 c.2.2.1.1) fun r1 =>
 tif ((!r1)) (
 some false) (
 a0a (x0p n last now c.2.1.2.1 c.2.2.1.2.1) fun r2 =>
 tif ((!r2)) (
 some false) (
 a0a (x0p n last now c.2.1.2.2 c.2.2.1.2.2) fun r3 =>
 tif ((!r3)) (
 some false) (
 some true)))):=by kernel_rfl
theorem r1v (n:Nat) (a:(Int×Int)) (d:(Int×Int)):s0g (n+1) a d =
 tif (((decide (d.1=0))&&(decide (d.2=0)))) (
 some ((0,0),a)) (
 a0a (g0q n a) fun r0 =>
 tif ((decide (16=((((((((((((((((1+1)+1)+1)+1)+1)+1)+1)+1)+1)+1)+1)+1)+1)+1)+1) / 1)))) (
 a0a (f0u n a0b (d,((0,0),((0,0),((List.replicate 16 (0:Int)),((0,0),((r0.1::(r0.2.1::(r0.2.2.1::(r0.2.2.2.1::(r0.2.2.2.2.1::(r0.2.2.2.2.2.1::(r0.2.2.2.2.2.2.1::(r0.2.2.2.2.2.2.2.1::(r0.2.2.2.2.2.2.2.2.1::(r0.2.2.2.2.2.2.2.2.2.1::(r0.2.2.2.2.2.2.2.2.2.2.1::(r0.2.2.2.2.2.2.2.2.2.2.2.1::(r0.2.2.2.2.2.2.2.2.2.2.2.2.1::(r0.2.2.2.2.2.2.2.2.2.2.2.2.2.1::(r0.2.2.2.2.2.2.2.2.2.2.2.2.2.2.1::(r0.2.2.2.2.2.2.2.2.2.2.2.2.2.2.2::[])))))))))))))))),(127,())))))))) fun r1 =>
 b0c (fun y2 =>
 a0a ((y2.2.2.1)[0]?) fun r3 =>
 a0a ((y2.2.2.1)[1]?) fun r4 =>
 a0a ((y2.2.2.1)[2]?) fun r5 =>
 a0a ((y2.2.2.1)[3]?) fun r6 =>
 a0a ((y2.2.2.1)[4]?) fun r7 =>
 a0a ((y2.2.2.1)[5]?) fun r8 =>
 a0a ((y2.2.2.1)[6]?) fun r9 =>
 a0a ((y2.2.2.1)[7]?) fun r10 =>
 a0a ((y2.2.2.1)[8]?) fun r11 =>
 a0a ((y2.2.2.1)[9]?) fun r12 =>
 a0a ((y2.2.2.1)[10]?) fun r13 =>
 a0a ((y2.2.2.1)[11]?) fun r14 =>
 a0a ((y2.2.2.1)[12]?) fun r15 =>
 a0a ((y2.2.2.1)[13]?) fun r16 =>
 a0a ((y2.2.2.1)[14]?) fun r17 =>
 a0a ((y2.2.2.1)[15]?) fun r18 =>
 a0a (b1c n (r3,(r4,(r5,(r6,(r7,(r8,(r9,(r10,(r11,(r12,(r13,(r14,(r15,(r16,(r17,r18)))))))))))))))) fun r19 =>
 some (r19,y2.2.2.2.1)) (fun z20 =>
 some z20) r1) (
 none)):=by kernel_rfl
theorem s0f (n f:Nat) (d_:(Int×Int)) (s4:(Int×Int)) (s5:(Int×Int)) (out:(List Int)) (left:(Int×Int)) (x:(List Int)) (i:Int):f0u n (f+1) (d_,s4,s5,out,left,x,i,()) =
 tif ((decide ((0:Int)≤i))) (
 a0a (n0o n left left) fun r0 =>
 tif ((!(decide (r0.2=0)))) (
 a0a (v0o n d_ left) fun r1 =>
 a0a (v0o n left r1.1) fun r2 =>
 tif (((decide ((0:Int)≤(IntKind.wrap .i64 (Int.tdiv i (8:Int)))))&&((decide ((IntKind.wrap .i64 (Int.tdiv i (8:Int)))<16))&&(decide ((IntKind.wrap .i64 (Int.tdiv i (8:Int)))<(((List.length x):Nat):Int)))))) (
 a0a ((x)[(Int.toNat (IntKind.wrap .i64 (Int.tdiv i (8:Int))))]?) fun r3 =>
 tif ((decide ((Int.tmod i (8:Int))<0))) (
 none) (
 a0a (n0o n r2.1 (0,(IntKind.wrap .u64 (andI .i64 (shrI .i64 r3 (Int.tmod i (8:Int))) (1:Int))))) fun r4 =>
 tif (((decide ((0:Int)≤(IntKind.wrap .i64 (Int.tdiv i (8:Int)))))&&((decide ((IntKind.wrap .i64 (Int.tdiv i (8:Int)))<16))&&(decide ((IntKind.wrap .i64 (Int.tdiv i (8:Int)))<(((List.length out):Nat):Int)))))) (
 a0a ((out)[(Int.toNat (IntKind.wrap .i64 (Int.tdiv i (8:Int))))]?) fun r5 =>
 tif ((decide ((Int.tmod i (8:Int))<0))) (
 none) (
 tif (((decide ((0:Int)≤(IntKind.wrap .i64 (Int.tdiv i (8:Int)))))&&((decide ((IntKind.wrap .i64 (Int.tdiv i (8:Int)))<16))&&(decide ((IntKind.wrap .i64 (Int.tdiv i (8:Int)))<(((List.length out):Nat):Int)))))) (
 a0a ((out)[(Int.toNat (IntKind.wrap .i64 (Int.tdiv i (8:Int))))]?) fun r6 =>
 f0u n f (d_,(s4,(s5,((List.set out (Int.toNat (IntKind.wrap .i64 (Int.tdiv i (8:Int)))) (orI .i64 r5 (shlI .i64 (1:Int) (Int.tmod i (8:Int))))),(r4.1,(x,((IntKind.wrap .i64 (i-1)),())))))))) (
 none))) (
 none))) (
 none)) (
 tif (((decide ((0:Int)≤(IntKind.wrap .i64 (Int.tdiv i (8:Int)))))&&((decide ((IntKind.wrap .i64 (Int.tdiv i (8:Int)))<16))&&(decide ((IntKind.wrap .i64 (Int.tdiv i (8:Int)))<(((List.length x):Nat):Int)))))) (
 a0a ((x)[(Int.toNat (IntKind.wrap .i64 (Int.tdiv i (8:Int))))]?) fun r7 =>
 tif ((decide ((Int.tmod i (8:Int))<0))) (
 none) (
 a0a (n0o n r0.1 (0,(IntKind.wrap .u64 (andI .i64 (shrI .i64 r7 (Int.tmod i (8:Int))) (1:Int))))) fun r8 =>
 a0a (i0j n r8.1 d_) fun r9 =>
 tif ((!r9)) (
 a0a (v0o n r8.1 d_) fun r10 =>
 tif (((decide ((0:Int)≤(IntKind.wrap .i64 (Int.tdiv i (8:Int)))))&&((decide ((IntKind.wrap .i64 (Int.tdiv i (8:Int)))<16))&&(decide ((IntKind.wrap .i64 (Int.tdiv i (8:Int)))<(((List.length out):Nat):Int)))))) (
 a0a ((out)[(Int.toNat (IntKind.wrap .i64 (Int.tdiv i (8:Int))))]?) fun r11 =>
 tif ((decide ((Int.tmod i (8:Int))<0))) (
 none) (
 tif (((decide ((0:Int)≤(IntKind.wrap .i64 (Int.tdiv i (8:Int)))))&&((decide ((IntKind.wrap .i64 (Int.tdiv i (8:Int)))<16))&&(decide ((IntKind.wrap .i64 (Int.tdiv i (8:Int)))<(((List.length out):Nat):Int)))))) (
 a0a ((out)[(Int.toNat (IntKind.wrap .i64 (Int.tdiv i (8:Int))))]?) fun r12 =>
 f0u n f (d_,(s4,(s5,((List.set out (Int.toNat (IntKind.wrap .i64 (Int.tdiv i (8:Int)))) (orI .i64 r11 (shlI .i64 (1:Int) (Int.tmod i (8:Int))))),(r10.1,(x,((IntKind.wrap .i64 (i-1)),())))))))) (
 none))) (
 none)) (
 f0u n f (d_,(s4,(s5,(out,(r8.1,(x,((IntKind.wrap .i64 (i-1)),())))))))))) (
 none))) (
 some (.inl (s4,(s5,(out,(left,())))))):=by kernel_rfl
theorem x1d (n:Nat) (s:List UInt8):m1o (n+1) s =
 tif ((decide ((((List.length s):Nat):Int)<1))) (
 some false) (
 tif ((decide ((64:Int)<(((List.length s):Nat):Int)))) (
 some false) (
 a0a (at? s (0:Int)) fun r0 =>
 tif ((decide ((48:Int)≤(((UInt8.toNat r0):Nat):Int)))) (
 a0a (at? s (0:Int)) fun r1 =>
 tif ((decide ((((UInt8.toNat r1):Nat):Int)≤57))) (
 some false) (
 a0a (b0o n a0b (s,(0,()))) fun r2 =>
 b0c (fun y3 =>
 some true) (fun z4 =>
 some z4) r2)) (
 a0a (b0o n a0b (s,(0,()))) fun r5 =>
 b0c (fun y6 =>
 some true) (fun z7 =>
 some z7) r5))):=by kernel_rfl
theorem u0w (n f:Nat) (s:List UInt8) (i:Int):b0o n (f+1) (s,i,()) =
 tif ((decide (i<(((List.length s):Nat):Int)))) (
 a0a (at? s i) fun r0 =>
 tif ((decide ((97:Int)≤(((UInt8.toNat r0):Nat):Int)))) (
 tif ((decide ((((UInt8.toNat r0):Nat):Int)≤122))) (
 b0o n f (s,((IntKind.wrap .i64 (i+1)),()))) (
 tif ((decide ((65:Int)≤(((UInt8.toNat r0):Nat):Int)))) (
 tif ((decide ((((UInt8.toNat r0):Nat):Int)≤90))) (
 b0o n f (s,((IntKind.wrap .i64 (i+1)),()))) (
 tif ((decide ((48:Int)≤(((UInt8.toNat r0):Nat):Int)))) (
 tif ((decide ((((UInt8.toNat r0):Nat):Int)≤57))) (
 b0o n f (s,((IntKind.wrap .i64 (i+1)),()))) (
 tif ((!(decide ((((UInt8.toNat r0):Nat):Int)=95)))) (
 some (.inr false)) (
 b0o n f (s,((IntKind.wrap .i64 (i+1)),()))))) (
 tif ((!(decide ((((UInt8.toNat r0):Nat):Int)=95)))) (
 some (.inr false)) (
 b0o n f (s,((IntKind.wrap .i64 (i+1)),())))))) (
 tif ((decide ((48:Int)≤(((UInt8.toNat r0):Nat):Int)))) (
 tif ((decide ((((UInt8.toNat r0):Nat):Int)≤57))) (
 b0o n f (s,((IntKind.wrap .i64 (i+1)),()))) (
 tif ((!(decide ((((UInt8.toNat r0):Nat):Int)=95)))) (
 some (.inr false)) (
 b0o n f (s,((IntKind.wrap .i64 (i+1)),()))))) (
 tif ((!(decide ((((UInt8.toNat r0):Nat):Int)=95)))) (
 some (.inr false)) (
 b0o n f (s,((IntKind.wrap .i64 (i+1)),()))))))) (
 tif ((decide ((65:Int)≤(((UInt8.toNat r0):Nat):Int)))) (
 tif ((decide ((((UInt8.toNat r0):Nat):Int)≤90))) (
 b0o n f (s,((IntKind.wrap .i64 (i+1)),()))) (
 tif ((decide ((48:Int)≤(((UInt8.toNat r0):Nat):Int)))) (
 tif ((decide ((((UInt8.toNat r0):Nat):Int)≤57))) (
 b0o n f (s,((IntKind.wrap .i64 (i+1)),()))) (
 tif ((!(decide ((((UInt8.toNat r0):Nat):Int)=95)))) (
 some (.inr false)) (
 b0o n f (s,((IntKind.wrap .i64 (i+1)),()))))) (
 tif ((!(decide ((((UInt8.toNat r0):Nat):Int)=95)))) (
 some (.inr false)) (
 b0o n f (s,((IntKind.wrap .i64 (i+1)),())))))) (
 tif ((decide ((48:Int)≤(((UInt8.toNat r0):Nat):Int)))) (
 tif ((decide ((((UInt8.toNat r0):Nat):Int)≤57))) (
 b0o n f (s,((IntKind.wrap .i64 (i+1)),()))) (
 tif ((!(decide ((((UInt8.toNat r0):Nat):Int)=95)))) (
 some (.inr false)) (
 b0o n f (s,((IntKind.wrap .i64 (i+1)),()))))) (
 tif ((!(decide ((((UInt8.toNat r0):Nat):Int)=95)))) (
 some (.inr false)) (
 b0o n f (s,((IntKind.wrap .i64 (i+1)),()))))))) (
 some (.inl ())):=by kernel_rfl
theorem b1b (n:Nat) (w:Int):e1c (n+1) w =
 tif ((decide ((1:Int)≤w))) (
 some (decide (w≤1099511627776))) (
 some false):=by kernel_rfl
theorem w1p (n:Nat) (l:(List a0d)) (i:Int) (k:Int):p0z (n+1) l i k =
 tif ((decide (i<0))) (
 some ((0,((0,(0,(0,false))),((0,(0,(0,false))),((0,0),(0,(0,0)))))),1)) (
 tif ((decide (k<i))) (
 some ((0,((0,(0,(0,false))),((0,(0,(0,false))),((0,0),(0,(0,0)))))),1)) (
 a0a (q0a n l) fun r0 =>
 a0a (g0y n a0b (l,(i,(k,((0,((0,(0,(0,false))),((0,(0,(0,false))),((0,0),(0,(0,0)))))),([],(r0,((((List.length r0):Nat):Int),(0,()))))))))) fun r1 =>
 b0c (fun y2 =>
 a0a (z0q n y2.2.1) fun r3 =>
 some r3) (fun z4 =>
 some z4) r1)):=by kernel_rfl
theorem u0u (n f:Nat) (l:(List a0d)) (i:Int) (k:Int) (s6:a0v) (cells:(List a0v)) (s20:(List a0d)) (s21:Int) (s22:Int):g0y n (f+1) (l,i,k,s6,cells,s20,s21,s22,()) =
 tif ((decide (s22<s21))) (
 a0a (at? s20 s22) fun r0 =>
 tif ((decide (i≤r0.1))) (
 tif ((decide (r0.1<k))) (
 a0a (z0p n l r0.1) fun r1 =>
 tif (((decide (r1.1=r0.2.1))&&((decide (r1.2.1.1=r0.2.2.1.1))&&((decide (r1.2.1.2.1=r0.2.2.1.2.1))&&((decide (r1.2.1.2.2.1=r0.2.2.1.2.2.1))&&((r1.2.1.2.2.2==r0.2.2.1.2.2.2)&&((decide (r1.2.2.1.1=r0.2.2.2.1.1))&&((decide (r1.2.2.1.2.1=r0.2.2.2.1.2.1))&&((decide (r1.2.2.1.2.2.1=r0.2.2.2.1.2.2.1))&&((r1.2.2.1.2.2.2==r0.2.2.2.1.2.2.2)&&((decide (r1.2.2.2.1.1=r0.2.2.2.2.1.1))&&((decide (r1.2.2.2.1.2=r0.2.2.2.2.1.2))&&((decide (r1.2.2.2.2.1=r0.2.2.2.2.2.1))&&((decide (r1.2.2.2.2.2.1=r0.2.2.2.2.2.2.1))&&(decide (r1.2.2.2.2.2.2=r0.2.2.2.2.2.2.2)))))))))))))))) (
 tif ((decide ((((List.length cells)+1)*112)≤140737488355328))) (
 g0y n f (l,(i,(k,(s6,((cells++(r0.2::[])),(s20,(s21,((IntKind.wrap .i64 (s22+1)),()))))))))) (
 none)) (
 g0y n f (l,(i,(k,(s6,(cells,(s20,(s21,((IntKind.wrap .i64 (s22+1)),())))))))))) (
 g0y n f (l,(i,(k,(s6,(cells,(s20,(s21,((IntKind.wrap .i64 (s22+1)),())))))))))) (
 g0y n f (l,(i,(k,(s6,(cells,(s20,(s21,((IntKind.wrap .i64 (s22+1)),())))))))))) (
 some (.inl (s6,(cells,())))):=by kernel_rfl
theorem x1g (n:Nat) (inc:(Int×Int)) (ms:Int):m1q (n+1) inc ms =
 tif ((decide (ms=0))) (
 some (((0,0),(0,0)),12)) (
 a0a (g0p n inc (1000:Int)) fun r0 =>
 tif ((!(decide (r0.2=0)))) (
 some (((0,0),(0,0)),r0.2)) (
 a0a (z0r n r0.1 (0,ms)) fun r1 =>
 some r1)):=by kernel_rfl
theorem j1a (n:Nat) (n_:Int) (low:Int) (high:Int):f0x (n+1) n_ low high =
 tif ((decide (low≤n_))) (
 some (decide (n_≤high))) (
 some false):=by kernel_rfl
theorem c1f (n:Nat) (n_:Int) (low:Int) (high:Int):i0n (n+1) n_ low high =
 tif ((decide (low≤n_))) (
 some (decide (n_≤high))) (
 some false):=by kernel_rfl
theorem o1r (n:Nat) (c:a0z):k0x (n+1) c =
 a0a (k0y n c.1 (16:Int)) fun r0 =>
 a0a (k0y n c.2.2.1.1 (4:Int)) fun r1 =>
 a0a (k0y n c.2.2.1.2.1 (4:Int)) fun r2 =>
 a0a (k0y n c.2.2.1.2.2 (4:Int)) fun r3 =>
 some (IntKind.wrap .i64 ((IntKind.wrap .i64 ((IntKind.wrap .i64 ((IntKind.wrap .i64 ((1:Int)+r0))+r1))+r2))+r3)):=by kernel_rfl
theorem g1c (n:Nat) (a:a0x) (b:a0x):l0k (n+1) a b =
 a0a (o0s n a.1 b.1) fun r0 =>
 tif (r0) (
 tif ((decide (a.2.1=b.2.1))) (
 a0a (z1l n a.2.2.1 b.2.2.1) fun r1 =>
 tif (r1) (
 tif (((decide (a.2.2.2.2.1=b.2.2.2.2.1))&&((decide (a.2.2.2.2.2.1=b.2.2.2.2.2.1))&&((decide (a.2.2.2.2.2.2.1.1=b.2.2.2.2.2.2.1.1))&&((decide (a.2.2.2.2.2.2.1.2.1=b.2.2.2.2.2.2.1.2.1))&&((decide (a.2.2.2.2.2.2.1.2.2.1=b.2.2.2.2.2.2.1.2.2.1))&&((a.2.2.2.2.2.2.1.2.2.2==b.2.2.2.2.2.2.1.2.2.2)&&((decide (a.2.2.2.2.2.2.2.1.1=b.2.2.2.2.2.2.2.1.1))&&((decide (a.2.2.2.2.2.2.2.1.2.1=b.2.2.2.2.2.2.2.1.2.1))&&((decide (a.2.2.2.2.2.2.2.1.2.2.1=b.2.2.2.2.2.2.2.1.2.2.1))&&((a.2.2.2.2.2.2.2.1.2.2.2==b.2.2.2.2.2.2.2.1.2.2.2)&&((decide (a.2.2.2.2.2.2.2.2.1.1=b.2.2.2.2.2.2.2.2.1.1))&&((decide (a.2.2.2.2.2.2.2.2.1.2=b.2.2.2.2.2.2.2.2.1.2))&&((decide (a.2.2.2.2.2.2.2.2.2.1=b.2.2.2.2.2.2.2.2.2.1))&&((decide (a.2.2.2.2.2.2.2.2.2.2.1=b.2.2.2.2.2.2.2.2.2.2.1))&&(decide (a.2.2.2.2.2.2.2.2.2.2.2=b.2.2.2.2.2.2.2.2.2.2.2))))))))))))))))) (
 a0a (i0a n a.2.2.2.1.1 b.2.2.2.1.1) fun r2 =>
 tif (r2) (
 a0a (i0a n a.2.2.2.1.2.1 b.2.2.2.1.2.1) fun r3 =>
 tif (r3) (
 a0a (i0a n a.2.2.2.1.2.2 b.2.2.2.1.2.2) fun r4 =>
 some r4) (
 some false)) (
 some false)) (
 some false)) (
 some false)) (
 some false)) (
 some false):=by kernel_rfl
theorem w0k (n:Nat) (k:Int) (p1:Int) (p2:a0p):f0p (n+1) k p1 p2 =
 tif ((decide (k=p1))) (
 some true) (
 a0a (g0n n p2 k) fun r0 =>
 tif (r0) (
 a0a (at? p2.2.2.2 k) fun r1 =>
 a0a (at? p2.2.2.2 p1) fun r2 =>
 a0a (o0s n r1.1 r2.1) fun r3 =>
 some r3) (
 some false)):=by kernel_rfl
theorem o1a (n:Nat) (s:List UInt8):a1b (n+1) s =
 tif ((s==[])) (
 some false) (
 tif ((decide ((64:Int)<(((List.length s):Nat):Int)))) (
 some false) (
 a0a (at? s (0:Int)) fun r0 =>
 a0a (q0j n (((UInt8.toNat r0):Nat):Int)) fun r1 =>
 tif (r1) (
 some false) (
 a0a (g0j n (List.map (fun y2=>(((UInt8.toNat y2):Nat):Int)) s) (fun y3=>s0m n y3.1)) fun r4 =>
 some (!r4)))):=by kernel_rfl
theorem l1l (n:Nat) (s:c0g) (i:Int) (j:Int):p0n (n+1) s (0:Int) i j =
 tif ((decide (s.2.2.1=((-1):Int)))) (
 some ((0,((0,(0,(0,false))),((0,(0,(0,false))),((0,0),(0,(0,0)))))),0)) (
 tif ((decide (s.1.2.1.1=0))) (
 none) (
 a0a (l0f n s.2.2.2.2.1.1 i j) fun r0 =>
 tif ((!(decide (r0.2=0)))) (
 some r0) (
 tif ((decide ((IntKind.wrap .i64 (Int.tdiv s.2.2.1 s.1.2.1.1))<i))) (
 some r0) (
 tif ((decide (j≤(IntKind.wrap .i64 (Int.tdiv s.2.2.1 s.1.2.1.1))))) (
 some r0) (
 a0a (h0w n s (0:Int)) fun r1 =>
 tif ((!(decide (r1.2=0)))) (
 some ((0,((0,(0,(0,false))),((0,(0,(0,false))),((0,0),(0,(0,0)))))),r1.2)) (
 a0a (h0q n r0.1 r1.1) fun r2 =>
 some r2)))))):=by kernel_rfl
theorem l1k (n:Nat) (s:c0g) (i:Int) (j:Int):p0n (n+1) s (1:Int) i j =
 tif ((decide (s.2.2.1=((-1):Int)))) (
 some ((0,((0,(0,(0,false))),((0,(0,(0,false))),((0,0),(0,(0,0)))))),0)) (
 tif ((decide (s.1.2.1.2.1=0))) (
 none) (
 a0a (l0f n s.2.2.2.2.1.2.1 i j) fun r0 =>
 tif ((!(decide (r0.2=0)))) (
 some r0) (
 tif ((decide ((IntKind.wrap .i64 (Int.tdiv s.2.2.1 s.1.2.1.2.1))<i))) (
 some r0) (
 tif ((decide (j≤(IntKind.wrap .i64 (Int.tdiv s.2.2.1 s.1.2.1.2.1))))) (
 some r0) (
 a0a (h0w n s (1:Int)) fun r1 =>
 tif ((!(decide (r1.2=0)))) (
 some ((0,((0,(0,(0,false))),((0,(0,(0,false))),((0,0),(0,(0,0)))))),r1.2)) (
 a0a (h0q n r0.1 r1.1) fun r2 =>
 some r2)))))):=by kernel_rfl
theorem l1j (n:Nat) (s:c0g) (i:Int) (j:Int):p0n (n+1) s (2:Int) i j =
 tif ((decide (s.2.2.1=((-1):Int)))) (
 some ((0,((0,(0,(0,false))),((0,(0,(0,false))),((0,0),(0,(0,0)))))),0)) (
 tif ((decide (s.1.2.1.2.2=0))) (
 none) (
 a0a (l0f n s.2.2.2.2.1.2.2 i j) fun r0 =>
 tif ((!(decide (r0.2=0)))) (
 some r0) (
 tif ((decide ((IntKind.wrap .i64 (Int.tdiv s.2.2.1 s.1.2.1.2.2))<i))) (
 some r0) (
 tif ((decide (j≤(IntKind.wrap .i64 (Int.tdiv s.2.2.1 s.1.2.1.2.2))))) (
 some r0) (
 a0a (h0w n s (2:Int)) fun r1 =>
 tif ((!(decide (r1.2=0)))) (
 some ((0,((0,(0,(0,false))),((0,(0,(0,false))),((0,0),(0,(0,0)))))),r1.2)) (
 a0a (h0q n r0.1 r1.1) fun r2 =>
 some r2)))))):=by kernel_rfl
theorem d1q (n:Nat) (num:(Int×Int)) (den:(Int×Int)):r0o (n+1) num den =
 a0a (k0t n den) fun r0 =>
 tif (r0) (
 some (((0,0),(0,0)),1)) (
 a0a (d1r n num den) fun r1 =>
 a0a (p0t n num r1) fun r2 =>
 a0a (p0t n den r1) fun r3 =>
 some ((r2,r3),0)):=by kernel_rfl
theorem t1t (n:Nat) (s:a0p) (k:Int):t1u (n+1) s k =
 a0a (n0w n s) fun r0 =>
 tif ((!(decide (r0=0)))) (
 some r0) (
 tif ((decide (k<0))) (
 some (1:Int)) (
 tif ((decide ((3:Int)≤k))) (
 some (1:Int)) (
 some (0:Int)))):=by kernel_rfl
theorem f1y (n:Nat) (n_:Int) (low:Int) (high:Int):p0h (n+1) n_ low high =
 tif ((decide (low≤n_))) (
 some (decide (n_≤high))) (
 some false):=by kernel_rfl
theorem o1g (n:Nat) (c:a0z) (s:((List a0d)×((List a0d)×(List a0d)))):a1f (n+1) c s =
 a0a (f1d n c s) fun r0 =>
 n1h (r0.1) (
 some r0.2) fun r1 =>
 some r0.2:=by kernel_rfl
theorem q1r (n:Nat) (r:(Int×(Int×(List a0y)))) (room:Int):d1p (n+1) r room =
 tif ((decide (room<1))) (
 some (2:Int)) (
 tif ((decide ((4096:Int)<room))) (
 some (2:Int)) (
 tif ((decide (room<(((List.length r.2.2):Nat):Int)))) (
 some (2:Int)) (
 tif ((decide (r.1<0))) (
 some (2:Int)) (
 tif ((decide ((70368744177664:Int)<r.1))) (
 some (2:Int)) (
 a0a (z0l n r.2.2) fun r0 =>
 tif ((!r0)) (
 some (2:Int)) (
 a0a (j1v n r room) fun r1 =>
 tif ((!r1)) (
 some (2:Int)) (
 some (0:Int)))))))):=by kernel_rfl
theorem q1b (n:Nat) (s:c0g):d1g (n+1) s =
 tif ((decide ((((List.length s.2.2.2.1.2.2):Nat):Int)=0))) (
 tif (((decide (s.2.2.2.2.2.1=0))&&((decide (s.2.2.2.2.2.2.1=0))&&((decide (s.2.2.2.2.2.2.2.1.1=0))&&((decide (s.2.2.2.2.2.2.2.1.2.1=0))&&((decide (s.2.2.2.2.2.2.2.1.2.2.1=0))&&((s.2.2.2.2.2.2.2.1.2.2.2==false)&&((decide (s.2.2.2.2.2.2.2.2.1.1=0))&&((decide (s.2.2.2.2.2.2.2.2.1.2.1=0))&&((decide (s.2.2.2.2.2.2.2.2.1.2.2.1=0))&&((s.2.2.2.2.2.2.2.2.1.2.2.2==false)&&((decide (s.2.2.2.2.2.2.2.2.2.1.1=0))&&((decide (s.2.2.2.2.2.2.2.2.2.1.2=0))&&((decide (s.2.2.2.2.2.2.2.2.2.2.1=0))&&((decide (s.2.2.2.2.2.2.2.2.2.2.2.1=0))&&(decide (s.2.2.2.2.2.2.2.2.2.2.2.2=0))))))))))))))))) (
 a0a (d0w n s.2.2.2.2.1.1 (0:Int)) fun r0 =>
 tif ((!r0)) (
 a0a (d0w n s.2.2.2.2.1.2.1 (0:Int)) fun r1 =>
 tif ((!r1)) (
 a0a (d0w n s.2.2.2.2.1.2.2 (0:Int)) fun r2 =>
 some (!r2)) (
 some false)) (
 some false)) (
 some false)) (
 some false):=by kernel_rfl
theorem v1j (n:Nat) (s:c0g):c1k (n+1) s =
 a0a (l1x n s.2.2.2.1) fun r0 =>
 tif ((decide (r0.2=0))) (
 tif ((decide (r0.1.1=s.2.2.1))) (
 tif ((decide (s.2.2.2.2.2.2.2.2.1.1=s.2.2.1))) (
 a0a (w0g n s.2.2.2.2.2.2 s.1.2.1.1 s.2.2.2.2.2.1) fun r1 =>
 tif (r1) (
 tif ((decide (s.1.2.1.1=0))) (
 none) (
 a0a (d0w n s.2.2.2.2.1.1 (IntKind.wrap .i64 (Int.tdiv s.2.2.1 s.1.2.1.1))) fun r2 =>
 tif ((!r2)) (
 tif ((decide (s.1.2.1.2.1=0))) (
 none) (
 a0a (d0w n s.2.2.2.2.1.2.1 (IntKind.wrap .i64 (Int.tdiv s.2.2.1 s.1.2.1.2.1))) fun r3 =>
 tif ((!r3)) (
 tif ((decide (s.1.2.1.2.2=0))) (
 none) (
 a0a (d0w n s.2.2.2.2.1.2.2 (IntKind.wrap .i64 (Int.tdiv s.2.2.1 s.1.2.1.2.2))) fun r4 =>
 some (!r4))) (
 some false))) (
 some false))) (
 some false)) (
 some false)) (
 some false)) (
 some false):=by kernel_rfl
theorem p1s (n:Nat) (l:(List a0d)) (i:Int) (k:Int):l0f (n+1) l i k =
 tif ((decide (i<0))) (
 some ((0,((0,(0,(0,false))),((0,(0,(0,false))),((0,0),(0,(0,0)))))),1)) (
 tif ((decide (k<i))) (
 some ((0,((0,(0,(0,false))),((0,(0,(0,false))),((0,0),(0,(0,0)))))),1)) (
 a0a (l1f n l) fun r0 =>
 a0a (h0e n a0b (i,(k,((0,((0,(0,(0,false))),((0,(0,(0,false))),((0,0),(0,(0,0)))))),([],(r0,((((List.length r0):Nat):Int),(0,())))))))) fun r1 =>
 b0c (fun y2 =>
 a0a (m0z n y2.2.1) fun r3 =>
 some r3) (fun z4 =>
 some z4) r1)):=by kernel_rfl
theorem r0f (n f:Nat) (i:Int) (k:Int) (s6:a0v) (cells:(List a0v)) (s20:(List a0d)) (s21:Int) (s22:Int):h0e n (f+1) (i,k,s6,cells,s20,s21,s22,()) =
 tif ((decide (s22<s21))) (
 a0a (at? s20 s22) fun r0 =>
 tif ((decide (i≤r0.1))) (
 tif ((decide (r0.1<k))) (
 tif ((decide ((((List.length cells)+1)*112)≤140737488355328))) (
 h0e n f (i,(k,(s6,((cells++(r0.2::[])),(s20,(s21,((IntKind.wrap .i64 (s22+1)),())))))))) (
 none)) (
 h0e n f (i,(k,(s6,(cells,(s20,(s21,((IntKind.wrap .i64 (s22+1)),()))))))))) (
 h0e n f (i,(k,(s6,(cells,(s20,(s21,((IntKind.wrap .i64 (s22+1)),()))))))))) (
 some (.inl (s6,(cells,())))):=by kernel_rfl
theorem b2o (n:Nat) (i:Int) (n_:Int):k1x (n+1) i n_ =
 tif ((decide (i<0))) (
 some (0:Int)) (
 tif ((decide (n_<1))) (
 some (0:Int)) (
 tif ((decide (n_=0))) (
 none) (
 some (Int.tmod i n_)))):=by kernel_rfl
theorem d2d (n:Nat) (l:(List a0d)) (i:Int):z0p (n+1) l i =
 tif ((decide (i<0))) (
 some (0,((0,(0,(0,false))),((0,(0,(0,false))),((0,0),(0,(0,0))))))) (
 tif ((decide ((((List.length l):Nat):Int)=0))) (
 some (0,((0,(0,(0,false))),((0,(0,(0,false))),((0,0),(0,(0,0))))))) (
 a0a (c1m n i (((List.length l):Nat):Int)) fun r0 =>
 a0a (at? l r0) fun r1 =>
 tif ((!(decide (r1.1=i)))) (
 some (0,((0,(0,(0,false))),((0,(0,(0,false))),((0,0),(0,(0,0))))))) (
 some r1.2))):=by kernel_rfl
theorem x0o (n:Nat) (c:a0z) (tier:Int):o0i (n+1) c tier =
 a0a (i0h n c) fun r0 =>
 tif ((!(decide (r0=0)))) (
 some (0:Int)) (
 tif ((decide (tier<1))) (
 some (0:Int)) (
 tif ((decide ((2:Int)<tier))) (
 some (0:Int)) (
 tif ((decide (tier=0))) (
 tif ((decide ((IntKind.wrap .i64 (tier-1))=0))) (
 tif ((decide (c.2.1.1=0))) (
 none) (
 some (IntKind.wrap .i64 (Int.tdiv c.2.1.1 c.2.1.1)))) (
 tif ((decide ((IntKind.wrap .i64 (tier-1))=1))) (
 tif ((decide (c.2.1.2.1=0))) (
 none) (
 some (IntKind.wrap .i64 (Int.tdiv c.2.1.1 c.2.1.2.1)))) (
 tif ((decide ((IntKind.wrap .i64 (tier-1))=2))) (
 tif ((decide (c.2.1.2.2=0))) (
 none) (
 some (IntKind.wrap .i64 (Int.tdiv c.2.1.1 c.2.1.2.2)))) (
 none)))) (
 tif ((decide (tier=1))) (
 tif ((decide ((IntKind.wrap .i64 (tier-1))=0))) (
 tif ((decide (c.2.1.1=0))) (
 none) (
 some (IntKind.wrap .i64 (Int.tdiv c.2.1.2.1 c.2.1.1)))) (
 tif ((decide ((IntKind.wrap .i64 (tier-1))=1))) (
 tif ((decide (c.2.1.2.1=0))) (
 none) (
 some (IntKind.wrap .i64 (Int.tdiv c.2.1.2.1 c.2.1.2.1)))) (
 tif ((decide ((IntKind.wrap .i64 (tier-1))=2))) (
 tif ((decide (c.2.1.2.2=0))) (
 none) (
 some (IntKind.wrap .i64 (Int.tdiv c.2.1.2.1 c.2.1.2.2)))) (
 none)))) (
 tif ((decide (tier=2))) (
 tif ((decide ((IntKind.wrap .i64 (tier-1))=0))) (
 tif ((decide (c.2.1.1=0))) (
 none) (
 some (IntKind.wrap .i64 (Int.tdiv c.2.1.2.2 c.2.1.1)))) (
 tif ((decide ((IntKind.wrap .i64 (tier-1))=1))) (
 tif ((decide (c.2.1.2.1=0))) (
 none) (
 some (IntKind.wrap .i64 (Int.tdiv c.2.1.2.2 c.2.1.2.1)))) (
 tif ((decide ((IntKind.wrap .i64 (tier-1))=2))) (
 tif ((decide (c.2.1.2.2=0))) (
 none) (
 some (IntKind.wrap .i64 (Int.tdiv c.2.1.2.2 c.2.1.2.2)))) (
 none)))) (
 none)))))):=by kernel_rfl
theorem i1w (n:Nat) (e:a0y):m0b (n+1) e =
 tif ((decide (e.1<0))) (
 some (2:Int)) (
 tif ((decide ((35184372088832:Int)≤e.1))) (
 some (2:Int)) (
 tif ((decide (e.2.2.1<0))) (
 some (2:Int)) (
 tif ((decide (e.1<e.2.2.1))) (
 some (2:Int)) (
 tif (e.2.2.2) (
 tif ((!((decide (e.1=e.1))&&((decide (e.2.1=0))&&((decide (e.2.2.1=0))&&(e.2.2.2==true)))))) (
 some (2:Int)) (
 some (0:Int))) (
 some (0:Int)))))):=by kernel_rfl
theorem r1p (n:Nat) (c:a0v):s0c (n+1) c =
 tif (((decide (c.1=0))&&((decide (c.2.1.1=0))&&((decide (c.2.1.2.1=0))&&((decide (c.2.1.2.2.1=0))&&((c.2.1.2.2.2==false)&&((decide (c.2.2.1.1=0))&&((decide (c.2.2.1.2.1=0))&&((decide (c.2.2.1.2.2.1=0))&&((c.2.2.1.2.2.2==false)&&((decide (c.2.2.2.1.1=0))&&((decide (c.2.2.2.1.2=0))&&((decide (c.2.2.2.2.1=0))&&((decide (c.2.2.2.2.2.1=0))&&(decide (c.2.2.2.2.2.2=0)))))))))))))))) (
 some (0:Int)) (
 tif ((decide (c.1<1))) (
 some (2:Int)) (
 a0a (l0v n c.2.1) fun r0 =>
 tif ((!(decide (r0=0)))) (
 some (2:Int)) (
 a0a (l0v n c.2.2.1) fun r1 =>
 tif ((!(decide (r1=0)))) (
 some (2:Int)) (
 tif ((decide (c.2.2.1.1<c.2.1.1))) (
 some (2:Int)) (
 tif ((decide ((IntKind.wrap .i64 ((IntKind.wrap .i64 (c.2.2.1.1-c.2.1.1))+1))<c.1))) (
 some (2:Int)) (
 tif ((decide (c.1=1))) (
 tif ((!((decide (c.2.1.1=c.2.2.1.1))&&((decide (c.2.1.2.1=c.2.2.1.2.1))&&((decide (c.2.1.2.2.1=c.2.2.1.2.2.1))&&(c.2.1.2.2.2==c.2.2.1.2.2.2)))))) (
 some (2:Int)) (
 tif ((decide ((1:Int)<c.1))) (
 tif ((decide (c.2.1.1=c.2.2.1.1))) (
 some (2:Int)) (
 tif ((decide (c.2.2.2.2.1<0))) (
 some (2:Int)) (
 tif ((decide (c.2.2.2.2.2.1<0))) (
 some (2:Int)) (
 tif ((decide (c.2.2.2.2.2.2<0))) (
 some (2:Int)) (
 tif ((decide (c.1≤c.2.2.2.2.1))) (
 some (2:Int)) (
 tif ((decide (c.1≤c.2.2.2.2.2.1))) (
 some (2:Int)) (
 tif ((decide (c.1≤(IntKind.wrap .i64 (c.2.2.2.2.1+c.2.2.2.2.2.1))))) (
 some (2:Int)) (
 tif ((decide ((IntKind.wrap .i64 (c.2.2.1.1-c.2.1.1))<c.2.2.2.2.2.2))) (
 some (2:Int)) (
 a0a (g0p n (0,18446744073709551615) (IntKind.wrap .u64 (IntKind.wrap .i64 (c.1-1)))) fun r2 =>
 a0a (i0j n r2.1 c.2.2.2.1) fun r3 =>
 tif (r3) (
 some (2:Int)) (
 some (0:Int))))))))))) (
 tif ((decide (c.2.2.2.2.1<0))) (
 some (2:Int)) (
 tif ((decide (c.2.2.2.2.2.1<0))) (
 some (2:Int)) (
 tif ((decide (c.2.2.2.2.2.2<0))) (
 some (2:Int)) (
 tif ((decide (c.1≤c.2.2.2.2.1))) (
 some (2:Int)) (
 tif ((decide (c.1≤c.2.2.2.2.2.1))) (
 some (2:Int)) (
 tif ((decide (c.1≤(IntKind.wrap .i64 (c.2.2.2.2.1+c.2.2.2.2.2.1))))) (
 some (2:Int)) (
 tif ((decide ((IntKind.wrap .i64 (c.2.2.1.1-c.2.1.1))<c.2.2.2.2.2.2))) (
 some (2:Int)) (
 a0a (g0p n (0,18446744073709551615) (IntKind.wrap .u64 (IntKind.wrap .i64 (c.1-1)))) fun r4 =>
 a0a (i0j n r4.1 c.2.2.2.1) fun r5 =>
 tif (r5) (
 some (2:Int)) (
 some (0:Int)))))))))))) (
 tif ((decide ((1:Int)<c.1))) (
 tif ((decide (c.2.1.1=c.2.2.1.1))) (
 some (2:Int)) (
 tif ((decide (c.2.2.2.2.1<0))) (
 some (2:Int)) (
 tif ((decide (c.2.2.2.2.2.1<0))) (
 some (2:Int)) (
 tif ((decide (c.2.2.2.2.2.2<0))) (
 some (2:Int)) (
 tif ((decide (c.1≤c.2.2.2.2.1))) (
 some (2:Int)) (
 tif ((decide (c.1≤c.2.2.2.2.2.1))) (
 some (2:Int)) (
 tif ((decide (c.1≤(IntKind.wrap .i64 (c.2.2.2.2.1+c.2.2.2.2.2.1))))) (
 some (2:Int)) (
 tif ((decide ((IntKind.wrap .i64 (c.2.2.1.1-c.2.1.1))<c.2.2.2.2.2.2))) (
 some (2:Int)) (
 a0a (g0p n (0,18446744073709551615) (IntKind.wrap .u64 (IntKind.wrap .i64 (c.1-1)))) fun r6 =>
 a0a (i0j n r6.1 c.2.2.2.1) fun r7 =>
 tif (r7) (
 some (2:Int)) (
 some (0:Int))))))))))) (
 tif ((decide (c.2.2.2.2.1<0))) (
 some (2:Int)) (
 tif ((decide (c.2.2.2.2.2.1<0))) (
 some (2:Int)) (
 tif ((decide (c.2.2.2.2.2.2<0))) (
 some (2:Int)) (
 tif ((decide (c.1≤c.2.2.2.2.1))) (
 some (2:Int)) (
 tif ((decide (c.1≤c.2.2.2.2.2.1))) (
 some (2:Int)) (
 tif ((decide (c.1≤(IntKind.wrap .i64 (c.2.2.2.2.1+c.2.2.2.2.2.1))))) (
 some (2:Int)) (
 tif ((decide ((IntKind.wrap .i64 (c.2.2.1.1-c.2.1.1))<c.2.2.2.2.2.2))) (
 some (2:Int)) (
 a0a (g0p n (0,18446744073709551615) (IntKind.wrap .u64 (IntKind.wrap .i64 (c.1-1)))) fun r8 =>
 a0a (i0j n r8.1 c.2.2.2.1) fun r9 =>
 tif (r9) (
 some (2:Int)) (
 some (0:Int))))))))))))))))):=by kernel_rfl
theorem g1l (n:Nat) (p:a0y) (c:a0y):v0n (n+1) p c =
 a0a (l0v n p) fun r0 =>
 tif ((!(decide (r0=0)))) (
 some ((0,((0,(0,(0,false))),((0,(0,(0,false))),((0,0),(0,(0,0)))))),2)) (
 a0a (l0v n c) fun r1 =>
 tif ((!(decide (r1=0)))) (
 some ((0,((0,(0,(0,false))),((0,(0,(0,false))),((0,0),(0,(0,0)))))),2)) (
 tif ((decide (c.1≤p.1))) (
 some ((0,((0,(0,(0,false))),((0,(0,(0,false))),((0,0),(0,(0,0)))))),9)) (
 tif (c.2.2.2) (
 some ((0,((0,(0,(0,false))),((0,(0,(0,false))),((0,0),(0,(0,0)))))),0)) (
 tif ((decide (p.1<c.2.2.1))) (
 some ((0,((0,(0,(0,false))),((0,(0,(0,false))),((0,c.2.1),(1,(0,(IntKind.wrap .i64 (c.1-c.2.2.1)))))))),0)) (
 tif (p.2.2.2) (
 some ((0,((0,(0,(0,false))),((0,(0,(0,false))),((0,0),(0,(1,0)))))),0)) (
 tif ((decide (c.2.1<p.2.1))) (
 some ((0,((0,(0,(0,false))),((0,(0,(0,false))),((0,c.2.1),(1,(0,(IntKind.wrap .i64 (c.1-p.1)))))))),0)) (
 some ((0,((0,(0,(0,false))),((0,(0,(0,false))),((0,(IntKind.wrap .u64 (c.2.1-p.2.1))),(0,(0,(IntKind.wrap .i64 (c.1-p.1)))))))),0)))))))):=by kernel_rfl
theorem d2k (n:Nat) (l:(List (Int×Int))):x1j (n+1) l =
 a0a (t0s n a0b ((0,0),((0,0),(l,((((List.length l):Nat):Int),(0,())))))) fun r0 =>
 b0c (fun y1 =>
 some (y1.2.1,0)) (fun z2 =>
 some z2) r0:=by kernel_rfl
theorem x0w (n f:Nat) (s2:(Int×Int)) (a:(Int×Int)) (s9:(List (Int×Int))) (s10:Int) (s11:Int):t0s n (f+1) (s2,a,s9,s10,s11,()) =
 tif ((decide (s11<s10))) (
 a0a (at? s9 s11) fun r0 =>
 a0a (n0o n a r0) fun r1 =>
 tif ((!(decide (r1.2=0)))) (
 some (.inr ((0,0),r1.2))) (
 t0s n f (s2,(r1.1,(s9,(s10,((IntKind.wrap .i64 (s11+1)),()))))))) (
 some (.inl (s2,(a,())))):=by kernel_rfl
theorem o1u (n:Nat) (c:a0v):a1j (n+1) c =
 tif ((decide (c.1=1))) (
 tif (((decide (c.2.1.1=c.2.2.1.1))&&((decide (c.2.1.2.1=c.2.2.1.2.1))&&((decide (c.2.1.2.2.1=c.2.2.1.2.2.1))&&(c.2.1.2.2.2==c.2.2.1.2.2.2))))) (
 a0a (m0b n c.2.1) fun r0 =>
 some (decide (r0=0))) (
 some false)) (
 tif ((decide ((1:Int)<c.1))) (
 a0a (m0u n c.2.1 c.2.2.1) fun r1 =>
 tif (r1) (
 some (decide ((IntKind.wrap .i64 (c.1-1))≤(IntKind.wrap .i64 (c.2.2.1.1-c.2.1.1))))) (
 some false)) (
 some false)):=by kernel_rfl
theorem e2q (n:Nat) (n_:Int) (most:Int):f1m (n+1) n_ most =
 tif ((decide ((0:Int)≤n_))) (
 some (decide (n_≤most))) (
 some false):=by kernel_rfl
theorem w1f (n:Nat) (s:a0p) (k:Int):x0e (n+1) s k =
 a0a (r0v n s) fun r0 =>
 tif ((!(decide (r0=0)))) (
 some (0,(0,2))) (
 tif ((decide (k<0))) (
 some (0,(0,1))) (
 tif ((decide ((2:Int)<k))) (
 some (0,(0,1))) (
 tif ((decide (k=0))) (
 tif ((decide (k=0))) (
 a0a (d0u n s.2.1 s.1.2.1.1 s.1.2.2.1.1) fun r1 =>
 tif ((decide (k=0))) (
 a0a (c0z n s.2.1 s.1.2.1.1) fun r2 =>
 some (r1.1,(r2.1,0))) (
 tif ((decide (k=1))) (
 a0a (c0z n s.2.1 s.1.2.1.2.1) fun r3 =>
 some (r1.1,(r3.1,0))) (
 tif ((decide (k=2))) (
 a0a (c0z n s.2.1 s.1.2.1.2.2) fun r4 =>
 some (r1.1,(r4.1,0))) (
 none)))) (
 tif ((decide (k=1))) (
 a0a (d0u n s.2.1 s.1.2.1.1 s.1.2.2.1.2.1) fun r5 =>
 tif ((decide (k=0))) (
 a0a (c0z n s.2.1 s.1.2.1.1) fun r6 =>
 some (r5.1,(r6.1,0))) (
 tif ((decide (k=1))) (
 a0a (c0z n s.2.1 s.1.2.1.2.1) fun r7 =>
 some (r5.1,(r7.1,0))) (
 tif ((decide (k=2))) (
 a0a (c0z n s.2.1 s.1.2.1.2.2) fun r8 =>
 some (r5.1,(r8.1,0))) (
 none)))) (
 tif ((decide (k=2))) (
 a0a (d0u n s.2.1 s.1.2.1.1 s.1.2.2.1.2.2) fun r9 =>
 tif ((decide (k=0))) (
 a0a (c0z n s.2.1 s.1.2.1.1) fun r10 =>
 some (r9.1,(r10.1,0))) (
 tif ((decide (k=1))) (
 a0a (c0z n s.2.1 s.1.2.1.2.1) fun r11 =>
 some (r9.1,(r11.1,0))) (
 tif ((decide (k=2))) (
 a0a (c0z n s.2.1 s.1.2.1.2.2) fun r12 =>
 some (r9.1,(r12.1,0))) (
 none)))) (
 none)))) (
 tif ((decide (k=1))) (
 tif ((decide (k=0))) (
 a0a (d0u n s.2.1 s.1.2.1.2.1 s.1.2.2.1.1) fun r13 =>
 tif ((decide (k=0))) (
 a0a (c0z n s.2.1 s.1.2.1.1) fun r14 =>
 some (r13.1,(r14.1,0))) (
 tif ((decide (k=1))) (
 a0a (c0z n s.2.1 s.1.2.1.2.1) fun r15 =>
 some (r13.1,(r15.1,0))) (
 tif ((decide (k=2))) (
 a0a (c0z n s.2.1 s.1.2.1.2.2) fun r16 =>
 some (r13.1,(r16.1,0))) (
 none)))) (
 tif ((decide (k=1))) (
 a0a (d0u n s.2.1 s.1.2.1.2.1 s.1.2.2.1.2.1) fun r17 =>
 tif ((decide (k=0))) (
 a0a (c0z n s.2.1 s.1.2.1.1) fun r18 =>
 some (r17.1,(r18.1,0))) (
 tif ((decide (k=1))) (
 a0a (c0z n s.2.1 s.1.2.1.2.1) fun r19 =>
 some (r17.1,(r19.1,0))) (
 tif ((decide (k=2))) (
 a0a (c0z n s.2.1 s.1.2.1.2.2) fun r20 =>
 some (r17.1,(r20.1,0))) (
 none)))) (
 tif ((decide (k=2))) (
 a0a (d0u n s.2.1 s.1.2.1.2.1 s.1.2.2.1.2.2) fun r21 =>
 tif ((decide (k=0))) (
 a0a (c0z n s.2.1 s.1.2.1.1) fun r22 =>
 some (r21.1,(r22.1,0))) (
 tif ((decide (k=1))) (
 a0a (c0z n s.2.1 s.1.2.1.2.1) fun r23 =>
 some (r21.1,(r23.1,0))) (
 tif ((decide (k=2))) (
 a0a (c0z n s.2.1 s.1.2.1.2.2) fun r24 =>
 some (r21.1,(r24.1,0))) (
 none)))) (
 none)))) (
 tif ((decide (k=2))) (
 tif ((decide (k=0))) (
 a0a (d0u n s.2.1 s.1.2.1.2.2 s.1.2.2.1.1) fun r25 =>
 tif ((decide (k=0))) (
 a0a (c0z n s.2.1 s.1.2.1.1) fun r26 =>
 some (r25.1,(r26.1,0))) (
 tif ((decide (k=1))) (
 a0a (c0z n s.2.1 s.1.2.1.2.1) fun r27 =>
 some (r25.1,(r27.1,0))) (
 tif ((decide (k=2))) (
 a0a (c0z n s.2.1 s.1.2.1.2.2) fun r28 =>
 some (r25.1,(r28.1,0))) (
 none)))) (
 tif ((decide (k=1))) (
 a0a (d0u n s.2.1 s.1.2.1.2.2 s.1.2.2.1.2.1) fun r29 =>
 tif ((decide (k=0))) (
 a0a (c0z n s.2.1 s.1.2.1.1) fun r30 =>
 some (r29.1,(r30.1,0))) (
 tif ((decide (k=1))) (
 a0a (c0z n s.2.1 s.1.2.1.2.1) fun r31 =>
 some (r29.1,(r31.1,0))) (
 tif ((decide (k=2))) (
 a0a (c0z n s.2.1 s.1.2.1.2.2) fun r32 =>
 some (r29.1,(r32.1,0))) (
 none)))) (
 tif ((decide (k=2))) (
 a0a (d0u n s.2.1 s.1.2.1.2.2 s.1.2.2.1.2.2) fun r33 =>
 tif ((decide (k=0))) (
 a0a (c0z n s.2.1 s.1.2.1.1) fun r34 =>
 some (r33.1,(r34.1,0))) (
 tif ((decide (k=1))) (
 a0a (c0z n s.2.1 s.1.2.1.2.1) fun r35 =>
 some (r33.1,(r35.1,0))) (
 tif ((decide (k=2))) (
 a0a (c0z n s.2.1 s.1.2.1.2.2) fun r36 =>
 some (r33.1,(r36.1,0))) (
 none)))) (
 none)))) (
 none)))))):=by kernel_rfl
end Go.Proofs.YtgkpkajaepphjaaGreatDoor
