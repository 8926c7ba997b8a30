/- Trees, printed by program. -/
import Derived.Test.YtgkpkajaepphjaaGreatDoorTr0
import Derived.KernelRfl
set_option linter.unusedVariables false
namespace Go.Proofs.YtgkpkajaepphjaaGreatDoor
open Go.Flat
theorem y0o (n:Nat) (c:a0o):c0z (n+1) c =
 a0a (f0n n c.1 (1:Int) (4096:Int)) fun r0 =>
 tif (r0) (
 a0a (f0n n c.2.2.2.1 (1:Int) (65536:Int)) fun r1 =>
 tif (r1) (
 a0a (f0n n c.2.2.2.2 (1:Int) (8192:Int)) fun r2 =>
 tif (r2) (
 a0a (i0e n c.2.1.1 (1:Int) (1099511627776:Int)) fun r3 =>
 tif (r3) (
 a0a (f0n n c.2.2.1.1 (1:Int) (4096:Int)) fun r4 =>
 tif (r4) (
 a0a (i0e n c.2.1.2.1 (1:Int) (1099511627776:Int)) fun r5 =>
 tif (r5) (
 a0a (f0n n c.2.2.1.2.1 (1:Int) (4096:Int)) fun r6 =>
 tif (r6) (
 a0a (i0e n c.2.1.2.2 (1:Int) (1099511627776:Int)) fun r7 =>
 tif (r7) (
 a0a (f0n n c.2.2.1.2.2 (1:Int) (4096:Int)) fun r8 =>
 tif (r8) (
 tif ((decide (c.2.1.1=0))) (
 none) (
 tif ((decide ((Int.tmod c.2.1.2.1 c.2.1.1)=0))) (
 tif ((decide (c.2.1.1=0))) (
 none) (
 tif ((decide ((IntKind.wrap .i64 (Int.tdiv c.2.1.2.1 c.2.1.1))≤c.2.2.1.1))) (
 tif ((decide (c.2.1.2.1=0))) (
 none) (
 tif ((decide ((Int.tmod c.2.1.2.2 c.2.1.2.1)=0))) (
 tif ((decide (c.2.1.2.1=0))) (
 none) (
 tif ((decide ((IntKind.wrap .i64 (Int.tdiv c.2.1.2.2 c.2.1.2.1))≤c.2.2.1.2.1))) (
 tif ((!(decide ((IntKind.wrap .i64 (Int.tdiv c.2.1.2.2 c.2.1.2.1))≤c.2.2.1.2.1)))) (
 some (2:Int)) (
 a0a (i0y n c) fun r9 =>
 tif ((decide (c.2.2.2.2≤r9))) (
 some (2:Int)) (
 some (0:Int)))) (
 tif ((!(decide ((IntKind.wrap .i64 (Int.tdiv c.2.1.2.2 c.2.1.2.1))≤c.2.2.1.2.1)))) (
 some (2:Int)) (
 a0a (i0y n c) fun r10 =>
 tif ((decide (c.2.2.2.2≤r10))) (
 some (2:Int)) (
 some (0:Int)))))) (
 some (2:Int)))) (
 tif ((!(decide ((IntKind.wrap .i64 (Int.tdiv c.2.1.2.1 c.2.1.1))≤c.2.2.1.1)))) (
 some (2:Int)) (
 a0a (i0y n c) fun r11 =>
 tif ((decide (c.2.2.2.2≤r11))) (
 some (2:Int)) (
 some (0:Int)))))) (
 some (2:Int)))) (
 tif ((!r8)) (
 some (2:Int)) (
 a0a (i0y n c) fun r12 =>
 tif ((decide (c.2.2.2.2≤r12))) (
 some (2:Int)) (
 some (0:Int))))) (
 some (2:Int))) (
 some (2:Int))) (
 some (2:Int))) (
 some (2:Int))) (
 some (2:Int))) (
 some (2:Int))) (
 some (2:Int))) (
 some (2:Int)):=by kernel_rfl
theorem w1e (n:Nat) (t:Int):w0k (n+1) t =
 tif ((decide ((0:Int)≤t))) (
 some (decide (t<35184372088832))) (
 some false):=by kernel_rfl
theorem q1q (n:Nat) (s:a0t):w0l (n+1) s =
 a0a (l0q n s ([],(0,((0,(0,[])),(([],([],[])),(0,(0,((0,(0,(0,false))),((0,(0,(0,false))),((0,0),(0,(0,0)))))))))))) fun r0 =>
 some r0:=by kernel_rfl
theorem e1t (n:Nat) (c:a0o) (s:a0t):r0h (n+1) c s =
 a0a (f0h n c s) fun r0 =>
 s0e (r0.1) (
 some r0.2) fun r1 =>
 some r0.2:=by kernel_rfl
theorem c1f (n:Nat) (v:a0l):k0k (n+1) v =
 tif ((decide (v.1.2.1.1=0))) (
 none) (
 some (IntKind.wrap .i64 (v.2.1-(Int.tmod v.2.1 v.1.2.1.1)))):=by kernel_rfl
theorem c1e (n:Nat) (v:a0l) (i:Int):p0m (n+1) v i =
 a0a (d0q n v (fun y0=>f0f n y0.1 i v)) fun r1 =>
 tif ((decide (r1<i))) (
 a0a (d0r n v i) fun r2 =>
 some r2) (
 some false):=by kernel_rfl
theorem i1s (n:Nat) (l:(List (List UInt8×List UInt8))):i0v (n+1) l =
 tif ((decide ((((List.length l):Nat):Int)=0))) (
 some (8:Int)) (
 tif ((decide ((16:Int)<(((List.length l):Nat):Int)))) (
 some (8:Int)) (
 a0a (e0s n a0b (l,(256,(l,((((List.length l):Nat):Int),(0,())))))) fun r0 =>
 b0i (fun y1 =>
 some (0:Int)) (fun z2 =>
 some z2) r0)):=by kernel_rfl
theorem o0r (n f:Nat) (l:(List (List UInt8×List UInt8))) (left:Int) (s14:(List (List UInt8×List UInt8))) (s15:Int) (s16:Int):e0s n (f+1) (l,left,s14,s15,s16,()) =
 tif ((decide (s16<s15))) (
 a0a (at? s14 s16) fun r0 =>
 a0a (a1q n r0.1) fun r1 =>
 tif ((!r1)) (
 some (.inr (8:Int))) (
 tif ((decide ((128:Int)<(((List.length r0.2):Nat):Int)))) (
 some (.inr (8:Int))) (
 tif ((decide ((IntKind.wrap .i64 (left-(IntKind.wrap .i64 ((((List.length r0.1):Nat):Int)+(((List.length r0.2):Nat):Int)))))<0))) (
 some (.inr (8:Int))) (
 tif ((decide ((0:Int)<s16))) (
 a0a (at? l (IntKind.wrap .i64 (s16-1))) fun r2 =>
 tif ((!(Go.Op.bytesLess r2.1 r0.1))) (
 some (.inr (8:Int))) (
 e0s n f (l,((IntKind.wrap .i64 (left-(IntKind.wrap .i64 ((((List.length r0.1):Nat):Int)+(((List.length r0.2):Nat):Int))))),(s14,(s15,((IntKind.wrap .i64 (s16+1)),()))))))) (
 e0s n f (l,((IntKind.wrap .i64 (left-(IntKind.wrap .i64 ((((List.length r0.1):Nat):Int)+(((List.length r0.2):Nat):Int))))),(s14,(s15,((IntKind.wrap .i64 (s16+1)),())))))))))) (
 some (.inl ())):=by kernel_rfl
theorem l0r (n:Nat) (c:a0o) (s:a0t) (k:Int) (i:Int) (j:Int):d0m (n+1) c s k i j =
 a0a (f0h n c s) fun r0 =>
 s0e (r0.1) (
 tif ((!(decide (r0.2=0)))) (
 some ((0,((0,(0,(0,false))),((0,(0,(0,false))),((0,0),(0,(0,0)))))),r0.2)) (
 tif ((decide (k<0))) (
 some ((0,((0,(0,(0,false))),((0,(0,(0,false))),((0,0),(0,(0,0)))))),1)) (
 tif ((decide ((3:Int)≤k))) (
 some ((0,((0,(0,(0,false))),((0,(0,(0,false))),((0,0),(0,(0,0)))))),1)) (
 tif ((decide (i<0))) (
 some ((0,((0,(0,(0,false))),((0,(0,(0,false))),((0,0),(0,(0,0)))))),1)) (
 tif ((decide (j<i))) (
 some ((0,((0,(0,(0,false))),((0,(0,(0,false))),((0,0),(0,(0,0)))))),1)) (
 none)))))) fun r1 =>
 tif ((!(decide (r0.2=0)))) (
 some ((0,((0,(0,(0,false))),((0,(0,(0,false))),((0,0),(0,(0,0)))))),r0.2)) (
 tif ((decide (k<0))) (
 some ((0,((0,(0,(0,false))),((0,(0,(0,false))),((0,0),(0,(0,0)))))),1)) (
 tif ((decide ((3:Int)≤k))) (
 some ((0,((0,(0,(0,false))),((0,(0,(0,false))),((0,0),(0,(0,0)))))),1)) (
 tif ((decide (i<0))) (
 some ((0,((0,(0,(0,false))),((0,(0,(0,false))),((0,0),(0,(0,0)))))),1)) (
 tif ((decide (j<i))) (
 some ((0,((0,(0,(0,false))),((0,(0,(0,false))),((0,0),(0,(0,0)))))),1)) (
 a0a (p0o n r1 k i j) fun r2 =>
 some r2))))):=by kernel_rfl
theorem m1w (n:Nat) (inc:(Int×Int)) (ms:Int):z0w (n+1) inc ms =
 tif ((decide (ms=0))) (
 some (((0,0),(0,0)),12)) (
 a0a (s0t n inc (1000:Int)) fun r0 =>
 tif ((!(decide (r0.2=0)))) (
 some (((0,0),(0,0)),r0.2)) (
 a0a (v0c n ms) fun r1 =>
 a0a (r0n n r0.1 r1) fun r2 =>
 some r2)):=by kernel_rfl
theorem z1l (n:Nat) (s:a0l) (k:Int):y0l (n+1) s k =
 a0a (u1o n s k) fun r0 =>
 tif ((!(decide (r0=0)))) (
 some (0,(0,r0))) (
 tif ((decide (k=0))) (
 tif ((decide (k=0))) (
 a0a (d0a n s.2.1 s.1.2.1.1 s.1.2.2.1.1) fun r1 =>
 tif ((decide (s.1.2.1.1=0))) (
 none) (
 some (r1.1,((IntKind.wrap .i64 (Int.tdiv s.2.1 s.1.2.1.1)),r1.2)))) (
 tif ((decide (k=1))) (
 a0a (d0a n s.2.1 s.1.2.1.1 s.1.2.2.1.2.1) fun r2 =>
 tif ((decide (s.1.2.1.1=0))) (
 none) (
 some (r2.1,((IntKind.wrap .i64 (Int.tdiv s.2.1 s.1.2.1.1)),r2.2)))) (
 tif ((decide (k=2))) (
 a0a (d0a n s.2.1 s.1.2.1.1 s.1.2.2.1.2.2) fun r3 =>
 tif ((decide (s.1.2.1.1=0))) (
 none) (
 some (r3.1,((IntKind.wrap .i64 (Int.tdiv s.2.1 s.1.2.1.1)),r3.2)))) (
 none)))) (
 tif ((decide (k=1))) (
 tif ((decide (k=0))) (
 a0a (d0a n s.2.1 s.1.2.1.2.1 s.1.2.2.1.1) fun r4 =>
 tif ((decide (s.1.2.1.2.1=0))) (
 none) (
 some (r4.1,((IntKind.wrap .i64 (Int.tdiv s.2.1 s.1.2.1.2.1)),r4.2)))) (
 tif ((decide (k=1))) (
 a0a (d0a n s.2.1 s.1.2.1.2.1 s.1.2.2.1.2.1) fun r5 =>
 tif ((decide (s.1.2.1.2.1=0))) (
 none) (
 some (r5.1,((IntKind.wrap .i64 (Int.tdiv s.2.1 s.1.2.1.2.1)),r5.2)))) (
 tif ((decide (k=2))) (
 a0a (d0a n s.2.1 s.1.2.1.2.1 s.1.2.2.1.2.2) fun r6 =>
 tif ((decide (s.1.2.1.2.1=0))) (
 none) (
 some (r6.1,((IntKind.wrap .i64 (Int.tdiv s.2.1 s.1.2.1.2.1)),r6.2)))) (
 none)))) (
 tif ((decide (k=2))) (
 tif ((decide (k=0))) (
 a0a (d0a n s.2.1 s.1.2.1.2.2 s.1.2.2.1.1) fun r7 =>
 tif ((decide (s.1.2.1.2.2=0))) (
 none) (
 some (r7.1,((IntKind.wrap .i64 (Int.tdiv s.2.1 s.1.2.1.2.2)),r7.2)))) (
 tif ((decide (k=1))) (
 a0a (d0a n s.2.1 s.1.2.1.2.2 s.1.2.2.1.2.1) fun r8 =>
 tif ((decide (s.1.2.1.2.2=0))) (
 none) (
 some (r8.1,((IntKind.wrap .i64 (Int.tdiv s.2.1 s.1.2.1.2.2)),r8.2)))) (
 tif ((decide (k=2))) (
 a0a (d0a n s.2.1 s.1.2.1.2.2 s.1.2.2.1.2.2) fun r9 =>
 tif ((decide (s.1.2.1.2.2=0))) (
 none) (
 some (r9.1,((IntKind.wrap .i64 (Int.tdiv s.2.1 s.1.2.1.2.2)),r9.2)))) (
 none)))) (
 none)))):=by kernel_rfl
theorem d1t (n:Nat) (w:Int):l1j (n+1) w =
 a0a (p0i n w (1:Int) (1099511627776:Int)) fun r0 =>
 some r0:=by kernel_rfl
theorem l1x (n:Nat) (i:Int) (p1:a0l) (p2:(List (List UInt8×List UInt8))) (p3:a0l):f0s (n+1) i p1 p2 p3 =
 a0a (at? p1.2.2.2 i) fun r0 =>
 a0a (o0q n r0.1 p2) fun r1 =>
 tif (r1) (
 a0a (d0r n p3 i) fun r2 =>
 some r2) (
 some false):=by kernel_rfl
theorem z0k (n:Nat) (v:a0l) (i:Int):d0r (n+1) v i =
 a0a (at? v.2.2.2 i) fun r0 =>
 a0a (w0l n r0) fun r1 =>
 tif ((!r1)) (
 tif ((decide (v.2.2.1=((-1):Int)))) (
 some true) (
 a0a (p0s n v.1 r0.2.1 v.2.2.1) fun r2 =>
 some (!r2))) (
 some false):=by kernel_rfl
theorem i1e (n:Nat) (c:a0o) (s:a0t):f0h (n+1) c s =
 a0a (a1t n c s.2.2.2.1) fun r0 =>
 tif ((!(decide (r0=0)))) (
 some (none,2)) (
 a0a (i0v n s.1) fun r1 =>
 tif ((!(decide (r1=0)))) (
 some (none,2)) (
 a0a (x0d n s.2.2.1 c.1) fun r2 =>
 tif ((!(decide (r2=0)))) (
 some (none,2)) (
 tif ((decide (s.2.1=((-1):Int)))) (
 a0a (e1n n (c,s)) fun r3 =>
 tif (r3) (
 some ((some (c,s)),0)) (
 tif ((!(decide (s.2.1=((-1):Int))))) (
 a0a (d1a n (c,s)) fun r4 =>
 tif (r4) (
 some ((some (c,s)),0)) (
 some (none,2))) (
 some (none,2)))) (
 tif ((!(decide (s.2.1=((-1):Int))))) (
 a0a (d1a n (c,s)) fun r5 =>
 tif (r5) (
 some ((some (c,s)),0)) (
 some (none,2))) (
 some (none,2)))))):=by kernel_rfl
theorem q1v (n:Nat) (s:b0e):h0o (n+1) s (0:Int) =
 some (s.2.2.2.2.2.2,0):=by kernel_rfl
theorem q1t (n:Nat) (s:b0e):h0o (n+1) s (1:Int) =
 tif ((decide (s.1.2.1.2.1=0))) (
 none) (
 tif ((decide (s.1.2.1.1=0))) (
 none) (
 tif ((decide (s.1.2.1.1=0))) (
 none) (
 a0a (h0g n s.2.2.2.2.1.1 (IntKind.wrap .i64 ((IntKind.wrap .i64 (Int.tdiv s.2.2.1 s.1.2.1.2.1))*(IntKind.wrap .i64 (Int.tdiv s.1.2.1.2.1 s.1.2.1.1)))) (IntKind.wrap .i64 (Int.tdiv s.2.2.1 s.1.2.1.1))) fun r0 =>
 a0a (h0o n s (0:Int)) fun r1 =>
 tif ((!(decide (r0.2=0)))) (
 some ((0,((0,(0,(0,false))),((0,(0,(0,false))),((0,0),(0,(0,0)))))),(if r0.2<r1.2 then r1.2 else r0.2))) (
 tif ((!(decide (r1.2=0)))) (
 some ((0,((0,(0,(0,false))),((0,(0,(0,false))),((0,0),(0,(0,0)))))),(if r0.2<r1.2 then r1.2 else r0.2))) (
 a0a (g0a n r0.1 r1.1) fun r2 =>
 some r2))))):=by kernel_rfl
theorem q1s (n:Nat) (s:b0e):h0o (n+1) s (2:Int) =
 tif ((decide (s.1.2.1.2.2=0))) (
 none) (
 tif ((decide (s.1.2.1.2.1=0))) (
 none) (
 tif ((decide (s.1.2.1.2.1=0))) (
 none) (
 a0a (h0g n s.2.2.2.2.1.2.1 (IntKind.wrap .i64 ((IntKind.wrap .i64 (Int.tdiv s.2.2.1 s.1.2.1.2.2))*(IntKind.wrap .i64 (Int.tdiv s.1.2.1.2.2 s.1.2.1.2.1)))) (IntKind.wrap .i64 (Int.tdiv s.2.2.1 s.1.2.1.2.1))) fun r0 =>
 a0a (h0o n s (1:Int)) fun r1 =>
 tif ((!(decide (r0.2=0)))) (
 some ((0,((0,(0,(0,false))),((0,(0,(0,false))),((0,0),(0,(0,0)))))),(if r0.2<r1.2 then r1.2 else r0.2))) (
 tif ((!(decide (r1.2=0)))) (
 some ((0,((0,(0,(0,false))),((0,(0,(0,false))),((0,0),(0,(0,0)))))),(if r0.2<r1.2 then r1.2 else r0.2))) (
 a0a (g0a n r0.1 r1.1) fun r2 =>
 some r2))))):=by kernel_rfl
theorem v1w (n:Nat) (l:(List a0c)) (i:Int):m0i (n+1) l i =
 tif ((decide (i<0))) (
 some (0,((0,(0,(0,false))),((0,(0,(0,false))),((0,0),(0,(0,0))))))) (
 tif ((decide ((((List.length l):Nat):Int)=0))) (
 some (0,((0,(0,(0,false))),((0,(0,(0,false))),((0,0),(0,(0,0))))))) (
 a0a (d1v n i (((List.length l):Nat):Int)) fun r0 =>
 a0a (at? l r0) fun r1 =>
 tif ((decide (r1.1=i))) (
 some r1.2) (
 some (0,((0,(0,(0,false))),((0,(0,(0,false))),((0,0),(0,(0,0))))))))):=by kernel_rfl
theorem b1q (n:Nat) (c:a0o) (s:a0t) (i:Int):z0z (n+1) c s (0:Int) i =
 tif ((decide (s.2.1=((-1):Int)))) (
 some ((0,((0,(0,(0,false))),((0,(0,(0,false))),((0,0),(0,(0,0)))))),0)) (
 tif ((decide (c.2.1.1=0))) (
 none) (
 tif ((decide ((IntKind.wrap .i64 (Int.tdiv s.2.1 c.2.1.1))<i))) (
 some ((0,((0,(0,(0,false))),((0,(0,(0,false))),((0,0),(0,(0,0)))))),0)) (
 tif ((decide (c.2.1.1=0))) (
 none) (
 tif ((decide (i<(IntKind.wrap .i64 (Int.tdiv s.2.1 c.2.1.1))))) (
 a0a (f1j n s.2.2.2.1.1 i) fun r0 =>
 some (r0,0)) (
 some (s.2.2.2.2.2,0)))))):=by kernel_rfl
theorem b1p (n:Nat) (c:a0o) (s:a0t) (i:Int):z0z (n+1) c s (1:Int) i =
 tif ((decide (s.2.1=((-1):Int)))) (
 some ((0,((0,(0,(0,false))),((0,(0,(0,false))),((0,0),(0,(0,0)))))),0)) (
 tif ((decide (c.2.1.2.1=0))) (
 none) (
 tif ((decide ((IntKind.wrap .i64 (Int.tdiv s.2.1 c.2.1.2.1))<i))) (
 some ((0,((0,(0,(0,false))),((0,(0,(0,false))),((0,0),(0,(0,0)))))),0)) (
 tif ((decide (c.2.1.2.1=0))) (
 none) (
 tif ((decide (i<(IntKind.wrap .i64 (Int.tdiv s.2.1 c.2.1.2.1))))) (
 a0a (f1j n s.2.2.2.1.2.1 i) fun r0 =>
 some (r0,0)) (
 tif ((decide (c.2.1.1=0))) (
 none) (
 a0a (a1a n c (1:Int)) fun r1 =>
 a0a (n1d n s.2.2.2.1.1 (IntKind.wrap .i64 (i*r1)) (IntKind.wrap .i64 (Int.tdiv s.2.1 c.2.1.1))) fun r2 =>
 tif ((!(decide (r2.2=0)))) (
 some ((0,((0,(0,(0,false))),((0,(0,(0,false))),((0,0),(0,(0,0)))))),r2.2)) (
 a0a (z0z n c s (0:Int) (IntKind.wrap .i64 (Int.tdiv s.2.1 c.2.1.1))) fun r3 =>
 tif ((!(decide (r3.2=0)))) (
 some ((0,((0,(0,(0,false))),((0,(0,(0,false))),((0,0),(0,(0,0)))))),r3.2)) (
 a0a (x0l n r2.1 r3.1) fun r4 =>
 some r4)))))))):=by kernel_rfl
theorem i1v (n:Nat) (l:(List a0q)):m0b (n+1) l =
 a0a (j0g n a0b (l,((((List.length l):Nat):Int),(0,())))) fun r0 =>
 b0i (fun y1 =>
 some true) (fun z2 =>
 some z2) r0:=by kernel_rfl
theorem o0w (n f:Nat) (s5:(List a0q)) (s6:Int) (s7:Int):j0g n (f+1) (s5,s6,s7,()) =
 tif ((decide (s7<s6))) (
 a0a (at? s5 s7) fun r0 =>
 a0a (d0u n r0) fun r1 =>
 tif ((!(decide (r1=0)))) (
 some (.inr false)) (
 j0g n f (s5,(s6,((IntKind.wrap .i64 (s7+1)),()))))) (
 some (.inl ())):=by kernel_rfl
theorem o1t (n:Nat) (c:a0q) (seen:Int):t0s (n+1) c seen =
 a0a (v0c n c.2.1) fun r0 =>
 some (0,((0,(0,(0,false))),((0,(0,(0,false))),(r0,(1,(0,seen)))))):=by kernel_rfl
theorem s1h (n:Nat) (a:b0a) (b:b0a):x0l (n+1) a b =
 a0a (r0u n a) fun r0 =>
 tif ((!(decide (r0=0)))) (
 some ((0,((0,(0,(0,false))),((0,(0,(0,false))),((0,0),(0,(0,0)))))),2)) (
 a0a (r0u n b) fun r1 =>
 tif ((!(decide (r1=0)))) (
 some ((0,((0,(0,(0,false))),((0,(0,(0,false))),((0,0),(0,(0,0)))))),2)) (
 tif ((decide (a.1=0))) (
 some (b,0)) (
 tif ((decide (b.1=0))) (
 some (a,0)) (
 tif ((decide (b.2.1.1≤a.2.2.1.1))) (
 some ((0,((0,(0,(0,false))),((0,(0,(0,false))),((0,0),(0,(0,0)))))),9)) (
 a0a (v0o n a.2.2.1 b.2.1) fun r2 =>
 a0a (y1d n (a.2.2.2.1::(r2.1.2.2.2.1::(b.2.2.2.1::[])))) fun r3 =>
 some (((IntKind.wrap .i64 (a.1+b.1)),(a.2.1,(b.2.2.1,(r3.1,((IntKind.wrap .i64 ((IntKind.wrap .i64 (a.2.2.2.2.1+r2.1.2.2.2.2.1))+b.2.2.2.2.1)),((IntKind.wrap .i64 ((IntKind.wrap .i64 (a.2.2.2.2.2.1+r2.1.2.2.2.2.2.1))+b.2.2.2.2.2.1)),(IntKind.wrap .i64 ((IntKind.wrap .i64 (a.2.2.2.2.2.2+r2.1.2.2.2.2.2.2))+b.2.2.2.2.2.2)))))))),0)))))):=by kernel_rfl
theorem s1r (n:Nat) (a:(Int×Int)):g0i (n+1) a =
 some ((IntKind.wrap .i64 (andI .u64 (shrI .u64 a.2 (0:Int)) (255:Int))),((IntKind.wrap .i64 (andI .u64 (shrI .u64 a.2 (8:Int)) (255:Int))),((IntKind.wrap .i64 (andI .u64 (shrI .u64 a.2 (16:Int)) (255:Int))),((IntKind.wrap .i64 (andI .u64 (shrI .u64 a.2 (24:Int)) (255:Int))),((IntKind.wrap .i64 (andI .u64 (shrI .u64 a.2 (32:Int)) (255:Int))),((IntKind.wrap .i64 (andI .u64 (shrI .u64 a.2 (40:Int)) (255:Int))),((IntKind.wrap .i64 (andI .u64 (shrI .u64 a.2 (48:Int)) (255:Int))),((IntKind.wrap .i64 (andI .u64 (shrI .u64 a.2 (56:Int)) (255:Int))),((IntKind.wrap .i64 (andI .u64 (shrI .u64 a.1 (0:Int)) (255:Int))),((IntKind.wrap .i64 (andI .u64 (shrI .u64 a.1 (8:Int)) (255:Int))),((IntKind.wrap .i64 (andI .u64 (shrI .u64 a.1 (16:Int)) (255:Int))),((IntKind.wrap .i64 (andI .u64 (shrI .u64 a.1 (24:Int)) (255:Int))),((IntKind.wrap .i64 (andI .u64 (shrI .u64 a.1 (32:Int)) (255:Int))),((IntKind.wrap .i64 (andI .u64 (shrI .u64 a.1 (40:Int)) (255:Int))),((IntKind.wrap .i64 (andI .u64 (shrI .u64 a.1 (48:Int)) (255:Int))),(IntKind.wrap .i64 (andI .u64 (shrI .u64 a.1 (56:Int)) (255:Int)))))))))))))))))):=by kernel_rfl
theorem j2z (n:Nat) (l:(Int×(Int×(Int×(Int×(Int×(Int×(Int×(Int×(Int×(Int×(Int×(Int×(Int×(Int×(Int×Int)))))))))))))))):b1s (n+1) l =
 some ((orI .u64 (orI .u64 (orI .u64 (orI .u64 (orI .u64 (orI .u64 (orI .u64 (orI .u64 (0:Int) (shlI .u64 (IntKind.wrap .u64 l.2.2.2.2.2.2.2.2.1) (0:Int))) (shlI .u64 (IntKind.wrap .u64 l.2.2.2.2.2.2.2.2.2.1) (8:Int))) (shlI .u64 (IntKind.wrap .u64 l.2.2.2.2.2.2.2.2.2.2.1) (16:Int))) (shlI .u64 (IntKind.wrap .u64 l.2.2.2.2.2.2.2.2.2.2.2.1) (24:Int))) (shlI .u64 (IntKind.wrap .u64 l.2.2.2.2.2.2.2.2.2.2.2.2.1) (32:Int))) (shlI .u64 (IntKind.wrap .u64 l.2.2.2.2.2.2.2.2.2.2.2.2.2.1) (40:Int))) (shlI .u64 (IntKind.wrap .u64 l.2.2.2.2.2.2.2.2.2.2.2.2.2.2.1) (48:Int))) (shlI .u64 (IntKind.wrap .u64 l.2.2.2.2.2.2.2.2.2.2.2.2.2.2.2) (56:Int))),(orI .u64 (orI .u64 (orI .u64 (orI .u64 (orI .u64 (orI .u64 (orI .u64 (orI .u64 (0:Int) (shlI .u64 (IntKind.wrap .u64 l.1) (0:Int))) (shlI .u64 (IntKind.wrap .u64 l.2.1) (8:Int))) (shlI .u64 (IntKind.wrap .u64 l.2.2.1) (16:Int))) (shlI .u64 (IntKind.wrap .u64 l.2.2.2.1) (24:Int))) (shlI .u64 (IntKind.wrap .u64 l.2.2.2.2.1) (32:Int))) (shlI .u64 (IntKind.wrap .u64 l.2.2.2.2.2.1) (40:Int))) (shlI .u64 (IntKind.wrap .u64 l.2.2.2.2.2.2.1) (48:Int))) (shlI .u64 (IntKind.wrap .u64 l.2.2.2.2.2.2.2.1) (56:Int)))):=by kernel_rfl
theorem p1n (n:Nat) (c:b0a):p0b (n+1) c =
 a0a (s0n n c) fun r0 =>
 tif (r0) (
 some (0:Int)) (
 a0a (b1c n c) fun r1 =>
 tif ((!r1)) (
 some (2:Int)) (
 a0a (v0c n (18446744073709551615:Int)) fun r2 =>
 a0a (s0t n r2 (IntKind.wrap .u64 (IntKind.wrap .i64 (c.1-1)))) fun r3 =>
 tif ((!(decide (r3.2=0)))) (
 some (2:Int)) (
 a0a (l0e n r3.1 c.2.2.2.1) fun r4 =>
 tif (r4) (
 some (2:Int)) (
 a0a (g1y n c.2.2.2.2.2.1 (IntKind.wrap .i64 (c.1-1))) fun r5 =>
 tif ((!r5)) (
 some (2:Int)) (
 a0a (g1y n c.2.2.2.2.1 (IntKind.wrap .i64 ((IntKind.wrap .i64 (c.1-1))-c.2.2.2.2.2.1))) fun r6 =>
 tif ((!r6)) (
 some (2:Int)) (
 a0a (g1y n c.2.2.2.2.2.2 (IntKind.wrap .i64 (c.2.2.1.1-c.2.1.1))) fun r7 =>
 tif ((!r7)) (
 some (2:Int)) (
 some (0:Int)))))))):=by kernel_rfl
theorem u1u (n:Nat) (c:b0a):s0n (n+1) c =
 some ((decide (c.1=0))&&((decide (c.2.1.1=0))&&((decide (c.2.1.2.1=0))&&((decide (c.2.1.2.2.1=0))&&((c.2.1.2.2.2==false)&&((decide (c.2.2.1.1=0))&&((decide (c.2.2.1.2.1=0))&&((decide (c.2.2.1.2.2.1=0))&&((c.2.2.1.2.2.2==false)&&((decide (c.2.2.2.1.1=0))&&((decide (c.2.2.2.1.2=0))&&((decide (c.2.2.2.2.1=0))&&((decide (c.2.2.2.2.2.1=0))&&(decide (c.2.2.2.2.2.2=0))))))))))))))):=by kernel_rfl
theorem u1v (n:Nat) (a:b0a) (b:b0a):u1w (n+1) a b =
 a0a (k0p n a.2.2.1 b.2.1) fun r0 =>
 tif ((!(decide (r0.2=0)))) (
 some ((0,((0,(0,(0,false))),((0,(0,(0,false))),((0,0),(0,(0,0)))))),r0.2)) (
 a0a (c1u n (a.2.2.2.1::(r0.1.2.2.2.1::(b.2.2.2.1::[])))) fun r1 =>
 some (((IntKind.wrap .i64 (a.1+b.1)),(a.2.1,(b.2.2.1,(r1.1,((IntKind.wrap .i64 (r0.1.2.2.2.2.1+(IntKind.wrap .i64 (a.2.2.2.2.1+b.2.2.2.2.1)))),((IntKind.wrap .i64 (r0.1.2.2.2.2.2.1+(IntKind.wrap .i64 (a.2.2.2.2.2.1+b.2.2.2.2.2.1)))),(IntKind.wrap .i64 (r0.1.2.2.2.2.2.2+(IntKind.wrap .i64 (a.2.2.2.2.2.2+b.2.2.2.2.2.2)))))))))),r1.2)):=by kernel_rfl
theorem w1i (n:Nat) (s:a0l):c1z (n+1) s =
 a0a (p0n n s) fun r0 =>
 tif ((!(decide (r0.2=0)))) (
 some []) (
 a0a (i0n n a0b (r0.1,([],((((List.length r0.1.2.2.2):Nat):Int),(0,()))))) fun r1 =>
 b0i (fun y2 =>
 some y2.1) (fun z3 =>
 some z3) r1):=by kernel_rfl
theorem u0j (n f:Nat) (v:a0l) (out:(List Int)) (s17:Int) (s18:Int):i0n n (f+1) (v,out,s17,s18,()) =
 tif ((decide (s18<s17))) (
 a0a (d0r n v s18) fun r0 =>
 tif (r0) (
 tif ((decide ((((List.length out)+1)*8)≤140737488355328))) (
 i0n n f (v,((out++(s18::[])),(s17,((IntKind.wrap .i64 (s18+1)),()))))) (
 none)) (
 i0n n f (v,(out,(s17,((IntKind.wrap .i64 (s18+1)),())))))) (
 some (.inl (out,()))):=by kernel_rfl
theorem u0c (n:Nat) (s:(List Int)) (del:((Int×Unit)→Option Bool)):i0r (n+1) s del =
 a0a (q0p n s del) fun r0 =>
 tif ((decide (r0=((-1):Int)))) (
 some s) (
 a0a (c0q n a0b (s,(del,(r0,((IntKind.wrap .i64 (r0+1)),()))))) fun r1 =>
 b0i (fun y2 =>
 tif ((decide ((0:Int)≤y2.2.1))) (
 tif ((decide ((Int.toNat y2.2.1)≤(List.length y2.1)))) (
 tif ((decide (((Int.toNat y2.2.1)+((List.length y2.1)-(Int.toNat y2.2.1)))≤(List.length y2.1)))) (
 tif (((decide ((0:Int)≤y2.2.1))&&(decide (y2.2.1≤(((List.length (Go.Flat.putRow y2.1 (Int.toNat y2.2.1) (List.replicate ((List.length y2.1)-(Int.toNat y2.2.1)) (0:Int)))):Nat):Int))))) (
 some (List.take ((Int.toNat y2.2.1)-0) (Go.Flat.putRow y2.1 (Int.toNat y2.2.1) (List.replicate ((List.length y2.1)-(Int.toNat y2.2.1)) (0:Int))))) (
 none)) (
 none)) (
 none)) (
 none)) (fun z3 =>
 some z3) r1):=by kernel_rfl
theorem h0u (n f:Nat) (s:(List Int)) (del:((Int×Unit)→Option Bool)) (i:Int) (j:Int):c0q n (f+1) (s,del,i,j,()) =
 tif ((decide (j<(((List.length s):Nat):Int)))) (
 a0a (at? s j) fun r0 =>
 a0a ((s)[(Int.toNat j)]?) fun r1 =>
 a0a (del (r1,())) fun r2 =>
 tif ((!r2)) (
 a0a (at? s i) fun r3 =>
 a0a ((s)[(Int.toNat i)]?) fun r4 =>
 c0q n f ((List.set s (Int.toNat i) r1),(del,((IntKind.wrap .i64 (i+1)),((IntKind.wrap .i64 (j+1)),()))))) (
 c0q n f (s,(del,(i,((IntKind.wrap .i64 (j+1)),())))))) (
 some (.inl (s,(i,())))):=by kernel_rfl
theorem i1b (n:Nat) (i:Int) (p1:a0l):l0l (n+1) i p1 =
 a0a (at? p1.2.2.2 i) fun r0 =>
 a0a (p0s n p1.1 r0.2.1 p1.2.1) fun r1 =>
 some (!r1):=by kernel_rfl
theorem i1g (n:Nat) (c:a0o) (last:Int) (now:Int):p0s (n+1) c last now =
 a0a (c0z n c) fun r0 =>
 tif ((decide (r0=0))) (
 a0a (d1w n last now c.2.1.1 c.2.2.1.1) fun r1 =>
 tif (r1) (
 a0a (d1w n last now c.2.1.2.1 c.2.2.1.2.1) fun r2 =>
 tif (r2) (
 a0a (d1w n last now c.2.1.2.2 c.2.2.1.2.2) fun r3 =>
 tif (r3) (
 some r3) (
 some r3)) (
 some r2)) (
 some r1)) (
 some (decide (r0=0))):=by kernel_rfl
theorem u1p (n:Nat) (c:a0o):g1u (n+1) c =
 a0a (c0z n c) fun r0 =>
 tif ((!(decide (r0=0)))) (
 some (0:Int)) (
 a0a (b1b n c) fun r1 =>
 some (IntKind.wrap .i64 ((IntKind.wrap .i64 ((1:Int)+r1))+c.2.2.2.2))):=by kernel_rfl
theorem p1g (n:Nat) (c:a0o):b1a (n+1) c =
 a0a (c0z n c) fun r0 =>
 tif ((!(decide (r0=0)))) (
 some (0:Int)) (
 a0a (i0y n c) fun r1 =>
 some r1):=by kernel_rfl
theorem i1h (n:Nat) (s:a0l) (l:(List (List UInt8×List UInt8))) (e:a0q):v0k (n+1) s l e =
 a0a (f0g n s) fun r0 =>
 tif ((!(decide (r0=0)))) (
 some (0,(false,r0))) (
 a0a (i0v n l) fun r1 =>
 tif ((!(decide (r1=0)))) (
 some (0,(false,r1))) (
 a0a (d0u n e) fun r2 =>
 tif ((!(decide (r2=0)))) (
 some (0,(false,r2))) (
 a0a (z0t n s) fun r3 =>
 a0a (m0k n s l) fun r4 =>
 tif ((decide (e.1<r3.1))) (
 some (0,(false,9))) (
 tif ((decide (r3.2≤e.1))) (
 some (0,(false,9))) (
 tif ((decide (r4.2=0))) (
 a0a (at? s.2.2.2 r4.1) fun r5 =>
 tif ((decide (e.1≤r5.2.1))) (
 some (0,(false,9))) (
 tif ((decide (r4.2=0))) (
 some (r4.1,(false,0))) (
 tif (e.2.2.2) (
 some (0,(false,3))) (
 a0a (c1y n s) fun r6 =>
 some (r6.1,((decide (r6.2=0)),r6.2)))))) (
 tif ((decide (r4.2=0))) (
 some (r4.1,(false,0))) (
 tif (e.2.2.2) (
 some (0,(false,3))) (
 a0a (c1y n s) fun r7 =>
 some (r7.1,((decide (r7.2=0)),r7.2)))))))))):=by kernel_rfl
theorem h1w (n:Nat) (s:a0l) (i:Int) (fresh:Bool) (l:(List (List UInt8×List UInt8))):d1p (n+1) s i fresh l =
 tif (fresh) (
 a0a (t0h n s.1 l) fun r0 =>
 some r0) (
 a0a (at? s.2.2.2 i) fun r1 =>
 some (r1,0)):=by kernel_rfl
theorem m1k (n:Nat) (c:a0o) (s:a0t) (e:a0q):z0s (n+1) c s e =
 a0a (f0h n c s) fun r0 =>
 s0e (r0.1) (
 tif ((!(decide (r0.2=0)))) (
 some (([],(0,((0,(0,[])),(([],([],[])),(0,(0,((0,(0,(0,false))),((0,(0,(0,false))),((0,0),(0,(0,0))))))))))),2)) (
 a0a (d0u n e) fun r1 =>
 tif ((!(decide (r1=0)))) (
 some (([],(0,((0,(0,[])),(([],([],[])),(0,(0,((0,(0,(0,false))),((0,(0,(0,false))),((0,0),(0,(0,0))))))))))),2)) (
 tif ((decide (e.1≤s.2.1))) (
 some (([],(0,((0,(0,[])),(([],([],[])),(0,(0,((0,(0,(0,false))),((0,(0,(0,false))),((0,0),(0,(0,0))))))))))),9)) (
 tif ((decide (c.2.1.1=0))) (
 none) (
 none))))) fun r2 =>
 tif ((!(decide (r0.2=0)))) (
 some (([],(0,((0,(0,[])),(([],([],[])),(0,(0,((0,(0,(0,false))),((0,(0,(0,false))),((0,0),(0,(0,0))))))))))),2)) (
 a0a (d0u n e) fun r3 =>
 tif ((!(decide (r3=0)))) (
 some (([],(0,((0,(0,[])),(([],([],[])),(0,(0,((0,(0,(0,false))),((0,(0,(0,false))),((0,0),(0,(0,0))))))))))),2)) (
 tif ((decide (e.1≤s.2.1))) (
 some (([],(0,((0,(0,[])),(([],([],[])),(0,(0,((0,(0,(0,false))),((0,(0,(0,false))),((0,0),(0,(0,0))))))))))),9)) (
 tif ((decide (c.2.1.1=0))) (
 none) (
 a0a (l1y n r2 (IntKind.wrap .i64 (Int.tdiv e.1 c.2.1.1))) fun r4 =>
 tif ((!(decide (r4.1=0)))) (
 some (([],(0,((0,(0,[])),(([],([],[])),(0,(0,((0,(0,(0,false))),((0,(0,(0,false))),((0,0),(0,(0,0))))))))))),r4.1)) (
 a0a (i2x n r4.2 (IntKind.wrap .i64 (Int.tdiv e.1 c.2.1.1)) e) fun r5 =>
 tif ((!(decide (r5.1=0)))) (
 some (([],(0,((0,(0,[])),(([],([],[])),(0,(0,((0,(0,(0,false))),((0,(0,(0,false))),((0,0),(0,(0,0))))))))))),r5.1)) (
 some (r5.2.2,0))))))):=by kernel_rfl
theorem w0w (n:Nat) (s:(List a0t)):l0o (n+1) s =
 tif ((decide ((List.length s)=0))) (
 both (
 some []) (
 tif ((decide (((0+(List.length s))*264)≤140737488355328))) (
 some ([]++s)) (
 none))) (
 tif ((decide (((0+(List.length s))*264)≤140737488355328))) (
 some ([]++s)) (
 none)):=by kernel_rfl
theorem q1c (n:Nat) (now:Int) (w:Int) (n_:Int):d0a (n+1) now w n_ =
 a0a (d2j n now w) fun r0 =>
 tif ((!(decide (r0.2=0)))) (
 some (0,1)) (
 a0a (q1b n n_ (1:Int) (4096:Int)) fun r1 =>
 tif ((!r1)) (
 some (0,1)) (
 some ((if (0:Int)<(IntKind.wrap .i64 ((IntKind.wrap .i64 (r0.1+1))-n_)) then (IntKind.wrap .i64 ((IntKind.wrap .i64 (r0.1+1))-n_)) else (0:Int)),0))):=by kernel_rfl
theorem e1i (n:Nat) (c:a0o) (x:a0t) (oldest:Int):f0q (n+1) c x (0:Int) oldest =
 a0a (e0d n c x.2.1 (0:Int)) fun r0 =>
 a0a (e0i n x.2.2.2.1.1) fun r1 =>
 a0a (c0j n a0b (oldest,(r0.1,(r0.2,(r1,((((List.length r1):Nat):Int),(0,()))))))) fun r2 =>
 b0i (fun y3 =>
 some y3.1) (fun z4 =>
 some z4) r2:=by kernel_rfl
theorem e1h (n:Nat) (c:a0o) (x:a0t) (oldest:Int):f0q (n+1) c x (1:Int) oldest =
 a0a (e0d n c x.2.1 (1:Int)) fun r0 =>
 a0a (e0i n x.2.2.2.1.2.1) fun r1 =>
 a0a (c0j n a0b (oldest,(r0.1,(r0.2,(r1,((((List.length r1):Nat):Int),(0,()))))))) fun r2 =>
 b0i (fun y3 =>
 some y3.1) (fun z4 =>
 some z4) r2:=by kernel_rfl
theorem e1g (n:Nat) (c:a0o) (x:a0t) (oldest:Int):f0q (n+1) c x (2:Int) oldest =
 a0a (e0d n c x.2.1 (2:Int)) fun r0 =>
 a0a (e0i n x.2.2.2.1.2.2) fun r1 =>
 a0a (c0j n a0b (oldest,(r0.1,(r0.2,(r1,((((List.length r1):Nat):Int),(0,()))))))) fun r2 =>
 b0i (fun y3 =>
 some y3.1) (fun z4 =>
 some z4) r2:=by kernel_rfl
theorem q0o (n f:Nat) (oldest:Int) (from_:Int) (to:Int) (out:(List a0c)) (s28:Int) (s29:Int):c0j n (f+1) (oldest,from_,to,out,s28,s29,()) =
 tif ((decide (s29<s28))) (
 a0a (at? out s29) fun r0 =>
 a0a ((out)[(Int.toNat s29)]?) fun r1 =>
 tif ((decide (r1.1<oldest))) (
 tif ((decide (r1.1<from_))) (
 a0a (at? out s29) fun r2 =>
 a0a ((out)[(Int.toNat s29)]?) fun r3 =>
 c0j n f (oldest,(from_,(to,((List.set out (Int.toNat s29) (0,(0,((0,(0,(0,false))),((0,(0,(0,false))),((0,0),(0,(0,0)))))))),(s28,((IntKind.wrap .i64 (s29+1)),()))))))) (
 tif ((decide (to≤r1.1))) (
 a0a (at? out s29) fun r4 =>
 a0a ((out)[(Int.toNat s29)]?) fun r5 =>
 c0j n f (oldest,(from_,(to,((List.set out (Int.toNat s29) (0,(0,((0,(0,(0,false))),((0,(0,(0,false))),((0,0),(0,(0,0)))))))),(s28,((IntKind.wrap .i64 (s29+1)),()))))))) (
 c0j n f (oldest,(from_,(to,(out,(s28,((IntKind.wrap .i64 (s29+1)),()))))))))) (
 c0j n f (oldest,(from_,(to,(out,(s28,((IntKind.wrap .i64 (s29+1)),())))))))) (
 some (.inl (out,()))):=by kernel_rfl
theorem c1m (n:Nat) (a:(Int×Int)):f0y (n+1) a =
 tif ((decide (a.2=0))) (
 a0a (j0t n a.1) fun r0 =>
 some (IntKind.wrap .i64 ((64:Int)+r0))) (
 a0a (j0t n a.2) fun r1 =>
 some r1):=by kernel_rfl
theorem m1v (n:Nat) (a:(Int×Int)) (by_:Int):t0j (n+1) a by_ =
 tif ((decide ((64:Int)≤by_))) (
 tif ((decide ((IntKind.wrap .i64 (by_-64))<0))) (
 none) (
 some (0,(shrI .u64 a.1 (IntKind.wrap .i64 (by_-64)))))) (
 tif ((decide (by_<0))) (
 none) (
 tif ((decide (by_<0))) (
 none) (
 tif ((decide ((IntKind.wrap .i64 ((64:Int)-by_))<0))) (
 none) (
 some ((shrI .u64 a.1 by_),(orI .u64 (shrI .u64 a.2 by_) (shlI .u64 a.1 (IntKind.wrap .i64 ((64:Int)-by_))))))))):=by kernel_rfl
theorem m1u (n:Nat) (a:(Int×Int)) (b:(Int×Int)):i0u (n+1) a b =
 a0a (l1i n a b) fun r0 =>
 some r0.1:=by kernel_rfl
theorem x1g (n:Nat) (a:(Int×Int)) (by_:Int):x0e (n+1) a by_ =
 tif ((decide ((64:Int)≤by_))) (
 tif ((decide ((IntKind.wrap .i64 (by_-64))<0))) (
 none) (
 some ((shlI .u64 a.2 (IntKind.wrap .i64 (by_-64))),0))) (
 tif ((decide (by_<0))) (
 none) (
 tif ((decide ((IntKind.wrap .i64 ((64:Int)-by_))<0))) (
 none) (
 tif ((decide (by_<0))) (
 none) (
 some ((orI .u64 (shlI .u64 a.1 by_) (shrI .u64 a.2 (IntKind.wrap .i64 ((64:Int)-by_)))),(shlI .u64 a.2 by_)))))):=by kernel_rfl
theorem b1r (n:Nat) (c:a0o):h0y (n+1) c =
 tif ((decide (c.1<1))) (
 some (2:Int)) (
 tif ((decide ((4096:Int)<c.1))) (
 some (2:Int)) (
 tif ((decide (c.2.2.2.1<1))) (
 some (2:Int)) (
 tif ((decide ((65536:Int)<c.2.2.2.1))) (
 some (2:Int)) (
 tif ((decide (c.2.2.2.2<1))) (
 some (2:Int)) (
 tif ((decide ((8192:Int)<c.2.2.2.2))) (
 some (2:Int)) (
 tif ((decide (c.2.1.1<1))) (
 some (2:Int)) (
 tif ((decide ((1099511627776:Int)<c.2.1.1))) (
 some (2:Int)) (
 tif ((decide (c.2.2.1.1<1))) (
 some (2:Int)) (
 tif ((decide ((4096:Int)<c.2.2.1.1))) (
 some (2:Int)) (
 tif ((decide (c.2.1.2.1<1))) (
 some (2:Int)) (
 tif ((decide ((1099511627776:Int)<c.2.1.2.1))) (
 some (2:Int)) (
 tif ((decide (c.2.2.1.2.1<1))) (
 some (2:Int)) (
 tif ((decide ((4096:Int)<c.2.2.1.2.1))) (
 some (2:Int)) (
 tif ((decide (c.2.1.1=0))) (
 none) (
 tif ((!(decide ((Int.tmod c.2.1.2.1 c.2.1.1)=0)))) (
 some (2:Int)) (
 tif ((decide (c.2.1.1=0))) (
 none) (
 tif ((decide (c.2.2.1.1<(IntKind.wrap .i64 (Int.tdiv c.2.1.2.1 c.2.1.1))))) (
 some (2:Int)) (
 tif ((decide (c.2.1.2.2<1))) (
 some (2:Int)) (
 tif ((decide ((1099511627776:Int)<c.2.1.2.2))) (
 some (2:Int)) (
 tif ((decide (c.2.2.1.2.2<1))) (
 some (2:Int)) (
 tif ((decide ((4096:Int)<c.2.2.1.2.2))) (
 some (2:Int)) (
 tif ((decide (c.2.1.2.1=0))) (
 none) (
 tif ((!(decide ((Int.tmod c.2.1.2.2 c.2.1.2.1)=0)))) (
 some (2:Int)) (
 tif ((decide (c.2.1.2.1=0))) (
 none) (
 tif ((decide (c.2.2.1.2.1<(IntKind.wrap .i64 (Int.tdiv c.2.1.2.2 c.2.1.2.1))))) (
 some (2:Int)) (
 a0a (f1m n c) fun r0 =>
 tif ((decide (c.2.2.2.2≤r0))) (
 some (2:Int)) (
 some (0:Int)))))))))))))))))))))))))))):=by kernel_rfl
theorem x1j (n:Nat) (a:a0t) (b:a0t):x0f (n+1) a b =
 a0a (d1e n a.1 b.1) fun r0 =>
 tif (r0) (
 tif ((decide (a.2.1=b.2.1))) (
 a0a (a2x n a.2.2.1 b.2.2.1) fun r1 =>
 tif (r1) (
 a0a (a2v n a.2.2.2.1 b.2.2.2.1) fun r2 =>
 tif (r2) (
 some ((decide (a.2.2.2.2.1=b.2.2.2.2.1))&&((decide (a.2.2.2.2.2.1=b.2.2.2.2.2.1))&&((decide (a.2.2.2.2.2.2.1.1=b.2.2.2.2.2.2.1.1))&&((decide (a.2.2.2.2.2.2.1.2.1=b.2.2.2.2.2.2.1.2.1))&&((decide (a.2.2.2.2.2.2.1.2.2.1=b.2.2.2.2.2.2.1.2.2.1))&&((a.2.2.2.2.2.2.1.2.2.2==b.2.2.2.2.2.2.1.2.2.2)&&((decide (a.2.2.2.2.2.2.2.1.1=b.2.2.2.2.2.2.2.1.1))&&((decide (a.2.2.2.2.2.2.2.1.2.1=b.2.2.2.2.2.2.2.1.2.1))&&((decide (a.2.2.2.2.2.2.2.1.2.2.1=b.2.2.2.2.2.2.2.1.2.2.1))&&((a.2.2.2.2.2.2.2.1.2.2.2==b.2.2.2.2.2.2.2.1.2.2.2)&&((decide (a.2.2.2.2.2.2.2.2.1.1=b.2.2.2.2.2.2.2.2.1.1))&&((decide (a.2.2.2.2.2.2.2.2.1.2=b.2.2.2.2.2.2.2.2.1.2))&&((decide (a.2.2.2.2.2.2.2.2.2.1=b.2.2.2.2.2.2.2.2.2.1))&&((decide (a.2.2.2.2.2.2.2.2.2.2.1=b.2.2.2.2.2.2.2.2.2.2.1))&&(decide (a.2.2.2.2.2.2.2.2.2.2.2=b.2.2.2.2.2.2.2.2.2.2.2))))))))))))))))) (
 some false)) (
 some false)) (
 some false)) (
 some false):=by kernel_rfl
theorem r1z (n:Nat) (r:(Int×(Int×(List a0q)))) (room:Int):f1l (n+1) r room =
 tif ((decide (room<1))) (
 some (2:Int)) (
 tif ((decide ((4096:Int)<room))) (
 some (2:Int)) (
 tif ((decide (room<(((List.length r.2.2):Nat):Int)))) (
 some (2:Int)) (
 tif ((decide (r.1<0))) (
 some (2:Int)) (
 tif ((decide ((70368744177664:Int)<r.1))) (
 some (2:Int)) (
 a0a (h0b n a0b (room,(r,(r.2.2,((((List.length r.2.2):Nat):Int),(0,())))))) fun r0 =>
 b0i (fun y1 =>
 tif ((decide (y1.2.1.1=0))) (
 tif ((!(decide (y1.2.1.2.1=0)))) (
 some (2:Int)) (
 some (0:Int))) (
 tif ((decide (y1.2.1.2.1<0))) (
 some (2:Int)) (
 tif ((decide ((35184372088832:Int)≤y1.2.1.2.1))) (
 some (2:Int)) (
 tif ((!(decide ((((List.length y1.2.1.2.2):Nat):Int)=y1.1)))) (
 some (2:Int)) (
 a0a (at? y1.2.1.2.2 (0:Int)) fun r2 =>
 tif ((decide (r2.1≤y1.2.1.2.1))) (
 some (2:Int)) (
 some (0:Int))))))) (fun z3 =>
 some z3) r0))))):=by kernel_rfl
theorem r0r (n f:Nat) (room:Int) (r_:(Int×(Int×(List a0q)))) (s31:(List a0q)) (s32:Int) (s33:Int):h0b n (f+1) (room,r_,s31,s32,s33,()) =
 tif ((decide (s33<s32))) (
 a0a (at? s31 s33) fun r0 =>
 a0a (l0w n r0) fun r1 =>
 tif ((!(decide (r1=0)))) (
 some (.inr (2:Int))) (
 tif ((decide ((0:Int)<s33))) (
 a0a (at? r_.2.2 (IntKind.wrap .i64 (s33-1))) fun r2 =>
 tif ((decide (r0.1≤r2.1))) (
 some (.inr (2:Int))) (
 h0b n f (room,(r_,(s31,(s32,((IntKind.wrap .i64 (s33+1)),()))))))) (
 h0b n f (room,(r_,(s31,(s32,((IntKind.wrap .i64 (s33+1)),())))))))) (
 some (.inl (room,(r_,())))):=by kernel_rfl
theorem r1x (n:Nat) (c:a0o) (s:((List a0c)×((List a0c)×(List a0c)))):f1h (n+1) c s =
 a0a (h0y n c) fun r0 =>
 tif ((!(decide (r0=0)))) (
 some (2:Int)) (
 tif ((!(decide ((((List.length s.1):Nat):Int)=c.2.2.1.1)))) (
 some (2:Int)) (
 a0a (r0p n s.1 c.2.1.1) fun r1 =>
 tif ((!(decide (r1=0)))) (
 some (2:Int)) (
 tif ((!(decide ((((List.length s.2.1):Nat):Int)=c.2.2.1.2.1)))) (
 some (2:Int)) (
 a0a (r0p n s.2.1 c.2.1.2.1) fun r2 =>
 tif ((!(decide (r2=0)))) (
 some (2:Int)) (
 tif ((!(decide ((((List.length s.2.2):Nat):Int)=c.2.2.1.2.2)))) (
 some (2:Int)) (
 a0a (r0p n s.2.2 c.2.1.2.2) fun r3 =>
 tif ((!(decide (r3=0)))) (
 some (2:Int)) (
 some (0:Int)))))))):=by kernel_rfl
theorem f2b (n:Nat) (l:(List a0c)):p0y (n+1) l =
 a0a (o0c n a0b ([],(l,((((List.length l):Nat):Int),(0,()))))) fun r0 =>
 b0i (fun y1 =>
 some y1.1) (fun z2 =>
 some z2) r0:=by kernel_rfl
theorem x0i (n f:Nat) (out:(List a0c)) (s8:(List a0c)) (s9:Int) (s10:Int):o0c n (f+1) (out,s8,s9,s10,()) =
 tif ((decide (s10<s9))) (
 a0a (at? s8 s10) fun r0 =>
 tif (((decide (r0.1=0))&&((decide (r0.2.1=0))&&((decide (r0.2.2.1.1=0))&&((decide (r0.2.2.1.2.1=0))&&((decide (r0.2.2.1.2.2.1=0))&&((r0.2.2.1.2.2.2==false)&&((decide (r0.2.2.2.1.1=0))&&((decide (r0.2.2.2.1.2.1=0))&&((decide (r0.2.2.2.1.2.2.1=0))&&((r0.2.2.2.1.2.2.2==false)&&((decide (r0.2.2.2.2.1.1=0))&&((decide (r0.2.2.2.2.1.2=0))&&((decide (r0.2.2.2.2.2.1=0))&&((decide (r0.2.2.2.2.2.2.1=0))&&(decide (r0.2.2.2.2.2.2.2=0))))))))))))))))) (
 o0c n f (out,(s8,(s9,((IntKind.wrap .i64 (s10+1)),()))))) (
 a0a (t0k n a0b (out,(r0,((((List.length out):Nat):Int),(s8,(s9,(s10,()))))))) fun r1 =>
 b0i (fun y2 =>
 tif (((decide ((0:Int)≤y2.2.2.1))&&(decide (y2.2.2.1≤(((List.length y2.1):Nat):Int))))) (
 tif ((decide (((0+(List.length (List.take ((Int.toNat y2.2.2.1)-0) (List.drop 0 y2.1))))*120)≤140737488355328))) (
 tif ((decide ((((List.length ([]++(List.take ((Int.toNat y2.2.2.1)-0) (List.drop 0 y2.1))))+1)*120)≤140737488355328))) (
 tif ((decide ((0:Int)≤y2.2.2.1))) (
 tif ((decide ((Int.toNat y2.2.2.1)≤(List.length y2.1)))) (
 tif ((decide ((((List.length (([]++(List.take ((Int.toNat y2.2.2.1)-0) (List.drop 0 y2.1)))++(y2.2.1::[])))+(List.length (List.take ((List.length y2.1)-(Int.toNat y2.2.2.1)) (List.drop (Int.toNat y2.2.2.1) y2.1))))*120)≤140737488355328))) (
 o0c n f (((([]++(List.take ((Int.toNat y2.2.2.1)-0) (List.drop 0 y2.1)))++(y2.2.1::[]))++(List.take ((List.length y2.1)-(Int.toNat y2.2.2.1)) (List.drop (Int.toNat y2.2.2.1) y2.1))),(y2.2.2.2.1,(y2.2.2.2.2.1,((IntKind.wrap .i64 (y2.2.2.2.2.2.1+1)),()))))) (
 none)) (
 none)) (
 none)) (
 none)) (
 none)) (
 none)) (fun z3 =>
 some (.inr z3)) r1)) (
 some (.inl (out,()))):=by kernel_rfl
theorem x0h (n f:Nat) (out:(List a0c)) (s:a0c) (at_:Int) (s8:(List a0c)) (s9:Int) (s10:Int):t0k n (f+1) (out,s,at_,s8,s9,s10,()) =
 tif ((decide ((0:Int)<at_))) (
 a0a (at? out (IntKind.wrap .i64 (at_-1))) fun r0 =>
 a0a ((out)[(Int.toNat (IntKind.wrap .i64 (at_-1)))]?) fun r1 =>
 tif ((decide (s.1<r1.1))) (
 t0k n f (out,(s,((IntKind.wrap .i64 (at_-1)),(s8,(s9,(s10,()))))))) (
 some (.inl (out,(s,(at_,(s8,(s9,(s10,()))))))))) (
 some (.inl (out,(s,(at_,(s8,(s9,(s10,())))))))):=by kernel_rfl
theorem x1t (n:Nat) (r:(Int×(Int×(List a0q)))):n1e (n+1) r =
 tif ((decide ((((List.length r.2.2):Nat):Int)=0))) (
 some ((0,(0,(0,false))),3)) (
 a0a (at? r.2.2 (IntKind.wrap .i64 ((((List.length r.2.2):Nat):Int)-1))) fun r0 =>
 some (r0,0)):=by kernel_rfl
theorem x1q (n:Nat) (c:b0a) (w:Int) (i:Int):d1c (n+1) c w i =
 a0a (r0u n c) fun r0 =>
 tif ((!(decide (r0=0)))) (
 some false) (
 tif ((decide (c.1=0))) (
 some false) (
 a0a (k1e n c.2.1.1 w) fun r1 =>
 a0a (k1e n c.2.2.1.1 w) fun r2 =>
 tif ((decide (r1.2=0))) (
 tif ((decide (r2.2=0))) (
 tif ((decide (r1.1=i))) (
 some (decide (r2.1=i))) (
 some false)) (
 some false)) (
 some false))):=by kernel_rfl
theorem x1k (n:Nat) (c:a0o) (last:Int) (now:Int):m1z (n+1) c last now =
 a0a (h0y n c) fun r0 =>
 tif ((!(decide (r0=0)))) (
 some false) (
 a0a (x0k n last now c.2.1.1 c.2.2.1.1) fun r1 =>
 tif ((!r1)) (
 some false) (
 a0a (x0k n last now c.2.1.2.1 c.2.2.1.2.1) fun r2 =>
 tif ((!r2)) (
 some false) (
 a0a (x0k n last now c.2.1.2.2 c.2.2.1.2.2) fun r3 =>
 tif ((!r3)) (
 some false) (
 some true)))):=by kernel_rfl
theorem s1n (n:Nat) (a:(Int×Int)) (d:(Int×Int)):s1o (n+1) a d =
 tif (((decide (d.1=0))&&(decide (d.2=0)))) (
 some ((0,0),a)) (
 a0a (g0i n a) fun r0 =>
 tif ((decide (16=((((((((((((((((1+1)+1)+1)+1)+1)+1)+1)+1)+1)+1)+1)+1)+1)+1)+1) / 1)))) (
 a0a (f0l n a0b (d,((0,0),((0,0),((List.replicate 16 (0:Int)),((0,0),((r0.1::(r0.2.1::(r0.2.2.1::(r0.2.2.2.1::(r0.2.2.2.2.1::(r0.2.2.2.2.2.1::(r0.2.2.2.2.2.2.1::(r0.2.2.2.2.2.2.2.1::(r0.2.2.2.2.2.2.2.2.1::(r0.2.2.2.2.2.2.2.2.2.1::(r0.2.2.2.2.2.2.2.2.2.2.1::(r0.2.2.2.2.2.2.2.2.2.2.2.1::(r0.2.2.2.2.2.2.2.2.2.2.2.2.1::(r0.2.2.2.2.2.2.2.2.2.2.2.2.2.1::(r0.2.2.2.2.2.2.2.2.2.2.2.2.2.2.1::(r0.2.2.2.2.2.2.2.2.2.2.2.2.2.2.2::[])))))))))))))))),(127,())))))))) fun r1 =>
 b0i (fun y2 =>
 a0a ((y2.2.2.1)[0]?) fun r3 =>
 a0a ((y2.2.2.1)[1]?) fun r4 =>
 a0a ((y2.2.2.1)[2]?) fun r5 =>
 a0a ((y2.2.2.1)[3]?) fun r6 =>
 a0a ((y2.2.2.1)[4]?) fun r7 =>
 a0a ((y2.2.2.1)[5]?) fun r8 =>
 a0a ((y2.2.2.1)[6]?) fun r9 =>
 a0a ((y2.2.2.1)[7]?) fun r10 =>
 a0a ((y2.2.2.1)[8]?) fun r11 =>
 a0a ((y2.2.2.1)[9]?) fun r12 =>
 a0a ((y2.2.2.1)[10]?) fun r13 =>
 a0a ((y2.2.2.1)[11]?) fun r14 =>
 a0a ((y2.2.2.1)[12]?) fun r15 =>
 a0a ((y2.2.2.1)[13]?) fun r16 =>
 a0a ((y2.2.2.1)[14]?) fun r17 =>
 a0a ((y2.2.2.1)[15]?) fun r18 =>
 a0a (b1s n (r3,(r4,(r5,(r6,(r7,(r8,(r9,(r10,(r11,(r12,(r13,(r14,(r15,(r16,(r17,r18)))))))))))))))) fun r19 =>
 some (r19,y2.2.2.2.1)) (fun z20 =>
 some z20) r1) (
 none)):=by kernel_rfl
theorem r0y (n f:Nat) (d_:(Int×Int)) (s4:(Int×Int)) (s5:(Int×Int)) (out:(List Int)) (left:(Int×Int)) (x:(List Int)) (i:Int):f0l n (f+1) (d_,s4,s5,out,left,x,i,()) =
 tif ((decide ((0:Int)≤i))) (
 a0a (n0m n left left) fun r0 =>
 tif ((!(decide (r0.2=0)))) (
 a0a (f1p n d_ left) fun r1 =>
 a0a (f1p n left r1.1) fun r2 =>
 tif (((decide ((0:Int)≤(IntKind.wrap .i64 (Int.tdiv i (8:Int)))))&&((decide ((IntKind.wrap .i64 (Int.tdiv i (8:Int)))<16))&&(decide ((IntKind.wrap .i64 (Int.tdiv i (8:Int)))<(((List.length x):Nat):Int)))))) (
 a0a ((x)[(Int.toNat (IntKind.wrap .i64 (Int.tdiv i (8:Int))))]?) fun r3 =>
 tif ((decide ((Int.tmod i (8:Int))<0))) (
 none) (
 a0a (n0m n r2.1 (0,(IntKind.wrap .u64 (andI .i64 (shrI .i64 r3 (Int.tmod i (8:Int))) (1:Int))))) fun r4 =>
 tif (((decide ((0:Int)≤(IntKind.wrap .i64 (Int.tdiv i (8:Int)))))&&((decide ((IntKind.wrap .i64 (Int.tdiv i (8:Int)))<16))&&(decide ((IntKind.wrap .i64 (Int.tdiv i (8:Int)))<(((List.length out):Nat):Int)))))) (
 a0a ((out)[(Int.toNat (IntKind.wrap .i64 (Int.tdiv i (8:Int))))]?) fun r5 =>
 tif ((decide ((Int.tmod i (8:Int))<0))) (
 none) (
 tif (((decide ((0:Int)≤(IntKind.wrap .i64 (Int.tdiv i (8:Int)))))&&((decide ((IntKind.wrap .i64 (Int.tdiv i (8:Int)))<16))&&(decide ((IntKind.wrap .i64 (Int.tdiv i (8:Int)))<(((List.length out):Nat):Int)))))) (
 a0a ((out)[(Int.toNat (IntKind.wrap .i64 (Int.tdiv i (8:Int))))]?) fun r6 =>
 f0l n f (d_,(s4,(s5,((List.set out (Int.toNat (IntKind.wrap .i64 (Int.tdiv i (8:Int)))) (orI .i64 r5 (shlI .i64 (1:Int) (Int.tmod i (8:Int))))),(r4.1,(x,((IntKind.wrap .i64 (i-1)),())))))))) (
 none))) (
 none))) (
 none)) (
 tif (((decide ((0:Int)≤(IntKind.wrap .i64 (Int.tdiv i (8:Int)))))&&((decide ((IntKind.wrap .i64 (Int.tdiv i (8:Int)))<16))&&(decide ((IntKind.wrap .i64 (Int.tdiv i (8:Int)))<(((List.length x):Nat):Int)))))) (
 a0a ((x)[(Int.toNat (IntKind.wrap .i64 (Int.tdiv i (8:Int))))]?) fun r7 =>
 tif ((decide ((Int.tmod i (8:Int))<0))) (
 none) (
 a0a (n0m n r0.1 (0,(IntKind.wrap .u64 (andI .i64 (shrI .i64 r7 (Int.tmod i (8:Int))) (1:Int))))) fun r8 =>
 a0a (k0m n r8.1 d_) fun r9 =>
 tif ((!r9)) (
 a0a (f1p n r8.1 d_) fun r10 =>
 tif (((decide ((0:Int)≤(IntKind.wrap .i64 (Int.tdiv i (8:Int)))))&&((decide ((IntKind.wrap .i64 (Int.tdiv i (8:Int)))<16))&&(decide ((IntKind.wrap .i64 (Int.tdiv i (8:Int)))<(((List.length out):Nat):Int)))))) (
 a0a ((out)[(Int.toNat (IntKind.wrap .i64 (Int.tdiv i (8:Int))))]?) fun r11 =>
 tif ((decide ((Int.tmod i (8:Int))<0))) (
 none) (
 tif (((decide ((0:Int)≤(IntKind.wrap .i64 (Int.tdiv i (8:Int)))))&&((decide ((IntKind.wrap .i64 (Int.tdiv i (8:Int)))<16))&&(decide ((IntKind.wrap .i64 (Int.tdiv i (8:Int)))<(((List.length out):Nat):Int)))))) (
 a0a ((out)[(Int.toNat (IntKind.wrap .i64 (Int.tdiv i (8:Int))))]?) fun r12 =>
 f0l n f (d_,(s4,(s5,((List.set out (Int.toNat (IntKind.wrap .i64 (Int.tdiv i (8:Int)))) (orI .i64 r11 (shlI .i64 (1:Int) (Int.tmod i (8:Int))))),(r10.1,(x,((IntKind.wrap .i64 (i-1)),())))))))) (
 none))) (
 none)) (
 f0l n f (d_,(s4,(s5,(out,(r8.1,(x,((IntKind.wrap .i64 (i-1)),())))))))))) (
 none))) (
 some (.inl (s4,(s5,(out,(left,())))))):=by kernel_rfl
theorem x1z (n:Nat) (s:List UInt8):n1j (n+1) s =
 tif ((decide ((((List.length s):Nat):Int)<1))) (
 some false) (
 tif ((decide ((64:Int)<(((List.length s):Nat):Int)))) (
 some false) (
 a0a (at? s (0:Int)) fun r0 =>
 tif ((decide ((48:Int)≤(((UInt8.toNat r0):Nat):Int)))) (
 a0a (at? s (0:Int)) fun r1 =>
 tif ((decide ((((UInt8.toNat r1):Nat):Int)≤57))) (
 some false) (
 a0a (b0n n a0b (s,(0,()))) fun r2 =>
 b0i (fun y3 =>
 some true) (fun z4 =>
 some z4) r2)) (
 a0a (b0n n a0b (s,(0,()))) fun r5 =>
 b0i (fun y6 =>
 some true) (fun z7 =>
 some z7) r5))):=by kernel_rfl
theorem u0v (n f:Nat) (s:List UInt8) (i:Int):b0n n (f+1) (s,i,()) =
 tif ((decide (i<(((List.length s):Nat):Int)))) (
 a0a (at? s i) fun r0 =>
 tif ((decide ((97:Int)≤(((UInt8.toNat r0):Nat):Int)))) (
 tif ((decide ((((UInt8.toNat r0):Nat):Int)≤122))) (
 b0n n f (s,((IntKind.wrap .i64 (i+1)),()))) (
 tif ((decide ((65:Int)≤(((UInt8.toNat r0):Nat):Int)))) (
 tif ((decide ((((UInt8.toNat r0):Nat):Int)≤90))) (
 b0n n f (s,((IntKind.wrap .i64 (i+1)),()))) (
 tif ((decide ((48:Int)≤(((UInt8.toNat r0):Nat):Int)))) (
 tif ((decide ((((UInt8.toNat r0):Nat):Int)≤57))) (
 b0n n f (s,((IntKind.wrap .i64 (i+1)),()))) (
 tif ((!(decide ((((UInt8.toNat r0):Nat):Int)=95)))) (
 some (.inr false)) (
 b0n n f (s,((IntKind.wrap .i64 (i+1)),()))))) (
 tif ((!(decide ((((UInt8.toNat r0):Nat):Int)=95)))) (
 some (.inr false)) (
 b0n n f (s,((IntKind.wrap .i64 (i+1)),())))))) (
 tif ((decide ((48:Int)≤(((UInt8.toNat r0):Nat):Int)))) (
 tif ((decide ((((UInt8.toNat r0):Nat):Int)≤57))) (
 b0n n f (s,((IntKind.wrap .i64 (i+1)),()))) (
 tif ((!(decide ((((UInt8.toNat r0):Nat):Int)=95)))) (
 some (.inr false)) (
 b0n n f (s,((IntKind.wrap .i64 (i+1)),()))))) (
 tif ((!(decide ((((UInt8.toNat r0):Nat):Int)=95)))) (
 some (.inr false)) (
 b0n n f (s,((IntKind.wrap .i64 (i+1)),()))))))) (
 tif ((decide ((65:Int)≤(((UInt8.toNat r0):Nat):Int)))) (
 tif ((decide ((((UInt8.toNat r0):Nat):Int)≤90))) (
 b0n n f (s,((IntKind.wrap .i64 (i+1)),()))) (
 tif ((decide ((48:Int)≤(((UInt8.toNat r0):Nat):Int)))) (
 tif ((decide ((((UInt8.toNat r0):Nat):Int)≤57))) (
 b0n n f (s,((IntKind.wrap .i64 (i+1)),()))) (
 tif ((!(decide ((((UInt8.toNat r0):Nat):Int)=95)))) (
 some (.inr false)) (
 b0n n f (s,((IntKind.wrap .i64 (i+1)),()))))) (
 tif ((!(decide ((((UInt8.toNat r0):Nat):Int)=95)))) (
 some (.inr false)) (
 b0n n f (s,((IntKind.wrap .i64 (i+1)),())))))) (
 tif ((decide ((48:Int)≤(((UInt8.toNat r0):Nat):Int)))) (
 tif ((decide ((((UInt8.toNat r0):Nat):Int)≤57))) (
 b0n n f (s,((IntKind.wrap .i64 (i+1)),()))) (
 tif ((!(decide ((((UInt8.toNat r0):Nat):Int)=95)))) (
 some (.inr false)) (
 b0n n f (s,((IntKind.wrap .i64 (i+1)),()))))) (
 tif ((!(decide ((((UInt8.toNat r0):Nat):Int)=95)))) (
 some (.inr false)) (
 b0n n f (s,((IntKind.wrap .i64 (i+1)),()))))))) (
 some (.inl ())):=by kernel_rfl
theorem s1e (n:Nat) (w:Int):s1f (n+1) w =
 tif ((decide ((1:Int)≤w))) (
 some (decide (w≤1099511627776))) (
 some false):=by kernel_rfl
theorem x1p (n:Nat) (l:(List a0c)) (i:Int) (k:Int):n1d (n+1) l i k =
 tif ((decide (i<0))) (
 some ((0,((0,(0,(0,false))),((0,(0,(0,false))),((0,0),(0,(0,0)))))),1)) (
 tif ((decide (k<i))) (
 some ((0,((0,(0,(0,false))),((0,(0,(0,false))),((0,0),(0,(0,0)))))),1)) (
 a0a (p0y n l) fun r0 =>
 a0a (g0q n a0b (l,(i,(k,((0,((0,(0,(0,false))),((0,(0,(0,false))),((0,0),(0,(0,0)))))),([],(r0,((((List.length r0):Nat):Int),(0,()))))))))) fun r1 =>
 b0i (fun y2 =>
 a0a (x1x n y2.2.1) fun r3 =>
 some r3) (fun z4 =>
 some z4) r1)):=by kernel_rfl
theorem u0u (n f:Nat) (l:(List a0c)) (i:Int) (k:Int) (s6:b0a) (cells:(List b0a)) (s20:(List a0c)) (s21:Int) (s22:Int):g0q n (f+1) (l,i,k,s6,cells,s20,s21,s22,()) =
 tif ((decide (s22<s21))) (
 a0a (at? s20 s22) fun r0 =>
 tif ((decide (i≤r0.1))) (
 tif ((decide (r0.1<k))) (
 a0a (f1j n l r0.1) fun r1 =>
 tif (((decide (r1.1=r0.2.1))&&((decide (r1.2.1.1=r0.2.2.1.1))&&((decide (r1.2.1.2.1=r0.2.2.1.2.1))&&((decide (r1.2.1.2.2.1=r0.2.2.1.2.2.1))&&((r1.2.1.2.2.2==r0.2.2.1.2.2.2)&&((decide (r1.2.2.1.1=r0.2.2.2.1.1))&&((decide (r1.2.2.1.2.1=r0.2.2.2.1.2.1))&&((decide (r1.2.2.1.2.2.1=r0.2.2.2.1.2.2.1))&&((r1.2.2.1.2.2.2==r0.2.2.2.1.2.2.2)&&((decide (r1.2.2.2.1.1=r0.2.2.2.2.1.1))&&((decide (r1.2.2.2.1.2=r0.2.2.2.2.1.2))&&((decide (r1.2.2.2.2.1=r0.2.2.2.2.2.1))&&((decide (r1.2.2.2.2.2.1=r0.2.2.2.2.2.2.1))&&(decide (r1.2.2.2.2.2.2=r0.2.2.2.2.2.2.2)))))))))))))))) (
 tif ((decide ((((List.length cells)+1)*112)≤140737488355328))) (
 g0q n f (l,(i,(k,(s6,((cells++(r0.2::[])),(s20,(s21,((IntKind.wrap .i64 (s22+1)),()))))))))) (
 none)) (
 g0q n f (l,(i,(k,(s6,(cells,(s20,(s21,((IntKind.wrap .i64 (s22+1)),())))))))))) (
 g0q n f (l,(i,(k,(s6,(cells,(s20,(s21,((IntKind.wrap .i64 (s22+1)),())))))))))) (
 g0q n f (l,(i,(k,(s6,(cells,(s20,(s21,((IntKind.wrap .i64 (s22+1)),())))))))))) (
 some (.inl (s6,(cells,())))):=by kernel_rfl
theorem j1a (n:Nat) (n_:Int) (low:Int) (high:Int):f0n (n+1) n_ low high =
 tif ((decide (low≤n_))) (
 some (decide (n_≤high))) (
 some false):=by kernel_rfl
theorem c1t (n:Nat) (n_:Int) (low:Int) (high:Int):i0e (n+1) n_ low high =
 tif ((decide (low≤n_))) (
 some (decide (n_≤high))) (
 some false):=by kernel_rfl
theorem p1e (n:Nat) (c:a0o):i0y (n+1) c =
 a0a (i0z n c.1 (16:Int)) fun r0 =>
 a0a (i0z n c.2.2.1.1 (4:Int)) fun r1 =>
 a0a (i0z n c.2.2.1.2.1 (4:Int)) fun r2 =>
 a0a (i0z n c.2.2.1.2.2 (4:Int)) fun r3 =>
 some (IntKind.wrap .i64 ((IntKind.wrap .i64 ((IntKind.wrap .i64 ((IntKind.wrap .i64 ((1:Int)+r0))+r1))+r2))+r3)):=by kernel_rfl
theorem i1f (n:Nat) (a:a0t) (b:a0t):l0q (n+1) a b =
 a0a (o0q n a.1 b.1) fun r0 =>
 tif (r0) (
 tif ((decide (a.2.1=b.2.1))) (
 a0a (a2t n a.2.2.1 b.2.2.1) fun r1 =>
 tif (r1) (
 tif (((decide (a.2.2.2.2.1=b.2.2.2.2.1))&&((decide (a.2.2.2.2.2.1=b.2.2.2.2.2.1))&&((decide (a.2.2.2.2.2.2.1.1=b.2.2.2.2.2.2.1.1))&&((decide (a.2.2.2.2.2.2.1.2.1=b.2.2.2.2.2.2.1.2.1))&&((decide (a.2.2.2.2.2.2.1.2.2.1=b.2.2.2.2.2.2.1.2.2.1))&&((a.2.2.2.2.2.2.1.2.2.2==b.2.2.2.2.2.2.1.2.2.2)&&((decide (a.2.2.2.2.2.2.2.1.1=b.2.2.2.2.2.2.2.1.1))&&((decide (a.2.2.2.2.2.2.2.1.2.1=b.2.2.2.2.2.2.2.1.2.1))&&((decide (a.2.2.2.2.2.2.2.1.2.2.1=b.2.2.2.2.2.2.2.1.2.2.1))&&((a.2.2.2.2.2.2.2.1.2.2.2==b.2.2.2.2.2.2.2.1.2.2.2)&&((decide (a.2.2.2.2.2.2.2.2.1.1=b.2.2.2.2.2.2.2.2.1.1))&&((decide (a.2.2.2.2.2.2.2.2.1.2=b.2.2.2.2.2.2.2.2.1.2))&&((decide (a.2.2.2.2.2.2.2.2.2.1=b.2.2.2.2.2.2.2.2.2.1))&&((decide (a.2.2.2.2.2.2.2.2.2.2.1=b.2.2.2.2.2.2.2.2.2.2.1))&&(decide (a.2.2.2.2.2.2.2.2.2.2.2=b.2.2.2.2.2.2.2.2.2.2.2))))))))))))))))) (
 a0a (h0s n a.2.2.2.1.1 b.2.2.2.1.1) fun r2 =>
 tif (r2) (
 a0a (h0s n a.2.2.2.1.2.1 b.2.2.2.1.2.1) fun r3 =>
 tif (r3) (
 a0a (h0s n a.2.2.2.1.2.2 b.2.2.2.1.2.2) fun r4 =>
 some r4) (
 some false)) (
 some false)) (
 some false)) (
 some false)) (
 some false)) (
 some false):=by kernel_rfl
theorem w0j (n:Nat) (k:Int) (p1:Int) (p2:a0l):f0f (n+1) k p1 p2 =
 tif ((decide (k=p1))) (
 some true) (
 a0a (d0r n p2 k) fun r0 =>
 tif (r0) (
 a0a (at? p2.2.2.2 k) fun r1 =>
 a0a (at? p2.2.2.2 p1) fun r2 =>
 a0a (o0q n r1.1 r2.1) fun r3 =>
 some r3) (
 some false)):=by kernel_rfl
theorem o1f (n:Nat) (s:List UInt8):a1q (n+1) s =
 tif ((s==[])) (
 some false) (
 tif ((decide ((64:Int)<(((List.length s):Nat):Int)))) (
 some false) (
 a0a (at? s (0:Int)) fun r0 =>
 a0a (q0f n (((UInt8.toNat r0):Nat):Int)) fun r1 =>
 tif (r1) (
 some false) (
 a0a (g0d n (List.map (fun y2=>(((UInt8.toNat y2):Nat):Int)) s) (fun y3=>s0f n y3.1)) fun r4 =>
 some (!r4)))):=by kernel_rfl
theorem m1b (n:Nat) (s:b0e) (i:Int) (j:Int):p0o (n+1) s (0:Int) i j =
 tif ((decide (s.2.2.1=((-1):Int)))) (
 some ((0,((0,(0,(0,false))),((0,(0,(0,false))),((0,0),(0,(0,0)))))),0)) (
 tif ((decide (s.1.2.1.1=0))) (
 none) (
 a0a (h0g n s.2.2.2.2.1.1 i j) fun r0 =>
 tif ((!(decide (r0.2=0)))) (
 some r0) (
 tif ((decide ((IntKind.wrap .i64 (Int.tdiv s.2.2.1 s.1.2.1.1))<i))) (
 some r0) (
 tif ((decide (j≤(IntKind.wrap .i64 (Int.tdiv s.2.2.1 s.1.2.1.1))))) (
 some r0) (
 a0a (h0o n s (0:Int)) fun r1 =>
 tif ((!(decide (r1.2=0)))) (
 some ((0,((0,(0,(0,false))),((0,(0,(0,false))),((0,0),(0,(0,0)))))),r1.2)) (
 a0a (g0a n r0.1 r1.1) fun r2 =>
 some r2)))))):=by kernel_rfl
theorem m1a (n:Nat) (s:b0e) (i:Int) (j:Int):p0o (n+1) s (1:Int) i j =
 tif ((decide (s.2.2.1=((-1):Int)))) (
 some ((0,((0,(0,(0,false))),((0,(0,(0,false))),((0,0),(0,(0,0)))))),0)) (
 tif ((decide (s.1.2.1.2.1=0))) (
 none) (
 a0a (h0g n s.2.2.2.2.1.2.1 i j) fun r0 =>
 tif ((!(decide (r0.2=0)))) (
 some r0) (
 tif ((decide ((IntKind.wrap .i64 (Int.tdiv s.2.2.1 s.1.2.1.2.1))<i))) (
 some r0) (
 tif ((decide (j≤(IntKind.wrap .i64 (Int.tdiv s.2.2.1 s.1.2.1.2.1))))) (
 some r0) (
 a0a (h0o n s (1:Int)) fun r1 =>
 tif ((!(decide (r1.2=0)))) (
 some ((0,((0,(0,(0,false))),((0,(0,(0,false))),((0,0),(0,(0,0)))))),r1.2)) (
 a0a (g0a n r0.1 r1.1) fun r2 =>
 some r2)))))):=by kernel_rfl
theorem l1z (n:Nat) (s:b0e) (i:Int) (j:Int):p0o (n+1) s (2:Int) i j =
 tif ((decide (s.2.2.1=((-1):Int)))) (
 some ((0,((0,(0,(0,false))),((0,(0,(0,false))),((0,0),(0,(0,0)))))),0)) (
 tif ((decide (s.1.2.1.2.2=0))) (
 none) (
 a0a (h0g n s.2.2.2.2.1.2.2 i j) fun r0 =>
 tif ((!(decide (r0.2=0)))) (
 some r0) (
 tif ((decide ((IntKind.wrap .i64 (Int.tdiv s.2.2.1 s.1.2.1.2.2))<i))) (
 some r0) (
 tif ((decide (j≤(IntKind.wrap .i64 (Int.tdiv s.2.2.1 s.1.2.1.2.2))))) (
 some r0) (
 a0a (h0o n s (2:Int)) fun r1 =>
 tif ((!(decide (r1.2=0)))) (
 some ((0,((0,(0,(0,false))),((0,(0,(0,false))),((0,0),(0,(0,0)))))),r1.2)) (
 a0a (g0a n r0.1 r1.1) fun r2 =>
 some r2)))))):=by kernel_rfl
theorem e1w (n:Nat) (num:(Int×Int)) (den:(Int×Int)):r0n (n+1) num den =
 a0a (k0x n den) fun r0 =>
 tif (r0) (
 some (((0,0),(0,0)),1)) (
 a0a (e1x n num den) fun r1 =>
 a0a (p0w n num r1) fun r2 =>
 a0a (p0w n den r1) fun r3 =>
 some ((r2,r3),0)):=by kernel_rfl
theorem u1n (n:Nat) (s:a0l) (k:Int):u1o (n+1) s k =
 a0a (f0g n s) fun r0 =>
 tif ((!(decide (r0=0)))) (
 some r0) (
 tif ((decide (k<0))) (
 some (1:Int)) (
 tif ((decide ((3:Int)≤k))) (
 some (1:Int)) (
 some (0:Int)))):=by kernel_rfl
theorem h1y (n:Nat) (n_:Int) (low:Int) (high:Int):p0i (n+1) n_ low high =
 tif ((decide (low≤n_))) (
 some (decide (n_≤high))) (
 some false):=by kernel_rfl
theorem o1m (n:Nat) (c:a0o) (s:((List a0c)×((List a0c)×(List a0c)))):a1t (n+1) c s =
 a0a (y0g n c s) fun r0 =>
 s0e (r0.1) (
 some r0.2) fun r1 =>
 some r0.2:=by kernel_rfl
theorem r1n (n:Nat) (r:(Int×(Int×(List a0q)))) (room:Int):x0d (n+1) r room =
 tif ((decide (room<1))) (
 some (2:Int)) (
 tif ((decide ((4096:Int)<room))) (
 some (2:Int)) (
 tif ((decide (room<(((List.length r.2.2):Nat):Int)))) (
 some (2:Int)) (
 tif ((decide (r.1<0))) (
 some (2:Int)) (
 tif ((decide ((70368744177664:Int)<r.1))) (
 some (2:Int)) (
 a0a (z0v n r.2.2) fun r0 =>
 tif ((!r0)) (
 some (2:Int)) (
 a0a (k1b n r room) fun r1 =>
 tif ((!r1)) (
 some (2:Int)) (
 some (0:Int)))))))):=by kernel_rfl
theorem q1w (n:Nat) (s:b0e):e1n (n+1) s =
 tif ((decide ((((List.length s.2.2.2.1.2.2):Nat):Int)=0))) (
 tif (((decide (s.2.2.2.2.2.1=0))&&((decide (s.2.2.2.2.2.2.1=0))&&((decide (s.2.2.2.2.2.2.2.1.1=0))&&((decide (s.2.2.2.2.2.2.2.1.2.1=0))&&((decide (s.2.2.2.2.2.2.2.1.2.2.1=0))&&((s.2.2.2.2.2.2.2.1.2.2.2==false)&&((decide (s.2.2.2.2.2.2.2.2.1.1=0))&&((decide (s.2.2.2.2.2.2.2.2.1.2.1=0))&&((decide (s.2.2.2.2.2.2.2.2.1.2.2.1=0))&&((s.2.2.2.2.2.2.2.2.1.2.2.2==false)&&((decide (s.2.2.2.2.2.2.2.2.2.1.1=0))&&((decide (s.2.2.2.2.2.2.2.2.2.1.2=0))&&((decide (s.2.2.2.2.2.2.2.2.2.2.1=0))&&((decide (s.2.2.2.2.2.2.2.2.2.2.2.1=0))&&(decide (s.2.2.2.2.2.2.2.2.2.2.2.2=0))))))))))))))))) (
 a0a (d0l n s.2.2.2.2.1.1 (0:Int)) fun r0 =>
 tif ((!r0)) (
 a0a (d0l n s.2.2.2.2.1.2.1 (0:Int)) fun r1 =>
 tif ((!r1)) (
 a0a (d0l n s.2.2.2.2.1.2.2 (0:Int)) fun r2 =>
 some (!r2)) (
 some false)) (
 some false)) (
 some false)) (
 some false):=by kernel_rfl
theorem w1n (n:Nat) (s:b0e):d1a (n+1) s =
 a0a (d1b n s.2.2.2.1) fun r0 =>
 tif ((decide (r0.2=0))) (
 tif ((decide (r0.1.1=s.2.2.1))) (
 tif ((decide (s.2.2.2.2.2.2.2.2.1.1=s.2.2.1))) (
 a0a (l0k n s.2.2.2.2.2.2 s.1.2.1.1 s.2.2.2.2.2.1) fun r1 =>
 tif (r1) (
 tif ((decide (s.1.2.1.1=0))) (
 none) (
 a0a (d0l n s.2.2.2.2.1.1 (IntKind.wrap .i64 (Int.tdiv s.2.2.1 s.1.2.1.1))) fun r2 =>
 tif ((!r2)) (
 tif ((decide (s.1.2.1.2.1=0))) (
 none) (
 a0a (d0l n s.2.2.2.2.1.2.1 (IntKind.wrap .i64 (Int.tdiv s.2.2.1 s.1.2.1.2.1))) fun r3 =>
 tif ((!r3)) (
 tif ((decide (s.1.2.1.2.2=0))) (
 none) (
 a0a (d0l n s.2.2.2.2.1.2.2 (IntKind.wrap .i64 (Int.tdiv s.2.2.1 s.1.2.1.2.2))) fun r4 =>
 some (!r4))) (
 some false))) (
 some false))) (
 some false)) (
 some false)) (
 some false)) (
 some false):=by kernel_rfl
theorem q1k (n:Nat) (l:(List a0c)) (i:Int) (k:Int):h0g (n+1) l i k =
 tif ((decide (i<0))) (
 some ((0,((0,(0,(0,false))),((0,(0,(0,false))),((0,0),(0,(0,0)))))),1)) (
 tif ((decide (k<i))) (
 some ((0,((0,(0,(0,false))),((0,(0,(0,false))),((0,0),(0,(0,0)))))),1)) (
 a0a (l1r n l) fun r0 =>
 a0a (g0w n a0b (i,(k,((0,((0,(0,(0,false))),((0,(0,(0,false))),((0,0),(0,(0,0)))))),([],(r0,((((List.length r0):Nat):Int),(0,())))))))) fun r1 =>
 b0i (fun y2 =>
 a0a (y0r n y2.2.1) fun r3 =>
 some r3) (fun z4 =>
 some z4) r1)):=by kernel_rfl
theorem r0d (n f:Nat) (i:Int) (k:Int) (s6:b0a) (cells:(List b0a)) (s20:(List a0c)) (s21:Int) (s22:Int):g0w n (f+1) (i,k,s6,cells,s20,s21,s22,()) =
 tif ((decide (s22<s21))) (
 a0a (at? s20 s22) fun r0 =>
 tif ((decide (i≤r0.1))) (
 tif ((decide (r0.1<k))) (
 tif ((decide ((((List.length cells)+1)*112)≤140737488355328))) (
 g0w n f (i,(k,(s6,((cells++(r0.2::[])),(s20,(s21,((IntKind.wrap .i64 (s22+1)),())))))))) (
 none)) (
 g0w n f (i,(k,(s6,(cells,(s20,(s21,((IntKind.wrap .i64 (s22+1)),()))))))))) (
 g0w n f (i,(k,(s6,(cells,(s20,(s21,((IntKind.wrap .i64 (s22+1)),()))))))))) (
 some (.inl (s6,(cells,())))):=by kernel_rfl
theorem d2i (n:Nat) (i:Int) (n_:Int):d1v (n+1) i n_ =
 tif ((decide (i<0))) (
 some (0:Int)) (
 tif ((decide (n_<1))) (
 some (0:Int)) (
 tif ((decide (n_=0))) (
 none) (
 some (Int.tmod i n_)))):=by kernel_rfl
theorem f2a (n:Nat) (l:(List a0c)) (i:Int):f1j (n+1) l i =
 tif ((decide (i<0))) (
 some (0,((0,(0,(0,false))),((0,(0,(0,false))),((0,0),(0,(0,0))))))) (
 tif ((decide ((((List.length l):Nat):Int)=0))) (
 some (0,((0,(0,(0,false))),((0,(0,(0,false))),((0,0),(0,(0,0))))))) (
 a0a (d1d n i (((List.length l):Nat):Int)) fun r0 =>
 a0a (at? l r0) fun r1 =>
 tif ((!(decide (r1.1=i)))) (
 some (0,((0,(0,(0,false))),((0,(0,(0,false))),((0,0),(0,(0,0))))))) (
 some r1.2))):=by kernel_rfl
theorem n1g (n:Nat) (c:a0o) (tier:Int):a1a (n+1) c tier =
 a0a (h0y n c) fun r0 =>
 tif ((!(decide (r0=0)))) (
 some (0:Int)) (
 tif ((decide (tier<1))) (
 some (0:Int)) (
 tif ((decide ((2:Int)<tier))) (
 some (0:Int)) (
 tif ((decide (tier=0))) (
 tif ((decide ((IntKind.wrap .i64 (tier-1))=0))) (
 tif ((decide (c.2.1.1=0))) (
 none) (
 some (IntKind.wrap .i64 (Int.tdiv c.2.1.1 c.2.1.1)))) (
 tif ((decide ((IntKind.wrap .i64 (tier-1))=1))) (
 tif ((decide (c.2.1.2.1=0))) (
 none) (
 some (IntKind.wrap .i64 (Int.tdiv c.2.1.1 c.2.1.2.1)))) (
 tif ((decide ((IntKind.wrap .i64 (tier-1))=2))) (
 tif ((decide (c.2.1.2.2=0))) (
 none) (
 some (IntKind.wrap .i64 (Int.tdiv c.2.1.1 c.2.1.2.2)))) (
 none)))) (
 tif ((decide (tier=1))) (
 tif ((decide ((IntKind.wrap .i64 (tier-1))=0))) (
 tif ((decide (c.2.1.1=0))) (
 none) (
 some (IntKind.wrap .i64 (Int.tdiv c.2.1.2.1 c.2.1.1)))) (
 tif ((decide ((IntKind.wrap .i64 (tier-1))=1))) (
 tif ((decide (c.2.1.2.1=0))) (
 none) (
 some (IntKind.wrap .i64 (Int.tdiv c.2.1.2.1 c.2.1.2.1)))) (
 tif ((decide ((IntKind.wrap .i64 (tier-1))=2))) (
 tif ((decide (c.2.1.2.2=0))) (
 none) (
 some (IntKind.wrap .i64 (Int.tdiv c.2.1.2.1 c.2.1.2.2)))) (
 none)))) (
 tif ((decide (tier=2))) (
 tif ((decide ((IntKind.wrap .i64 (tier-1))=0))) (
 tif ((decide (c.2.1.1=0))) (
 none) (
 some (IntKind.wrap .i64 (Int.tdiv c.2.1.2.2 c.2.1.1)))) (
 tif ((decide ((IntKind.wrap .i64 (tier-1))=1))) (
 tif ((decide (c.2.1.2.1=0))) (
 none) (
 some (IntKind.wrap .i64 (Int.tdiv c.2.1.2.2 c.2.1.2.1)))) (
 tif ((decide ((IntKind.wrap .i64 (tier-1))=2))) (
 tif ((decide (c.2.1.2.2=0))) (
 none) (
 some (IntKind.wrap .i64 (Int.tdiv c.2.1.2.2 c.2.1.2.2)))) (
 none)))) (
 none)))))):=by kernel_rfl
theorem i1w (n:Nat) (e:a0q):d0u (n+1) e =
 tif ((decide (e.1<0))) (
 some (2:Int)) (
 tif ((decide ((35184372088832:Int)≤e.1))) (
 some (2:Int)) (
 tif ((decide (e.2.2.1<0))) (
 some (2:Int)) (
 tif ((decide (e.1<e.2.2.1))) (
 some (2:Int)) (
 tif (e.2.2.2) (
 tif ((!((decide (e.1=e.1))&&((decide (e.2.1=0))&&((decide (e.2.2.1=0))&&(e.2.2.2==true)))))) (
 some (2:Int)) (
 some (0:Int))) (
 some (0:Int)))))):=by kernel_rfl
theorem s1i (n:Nat) (c:b0a):r0u (n+1) c =
 tif (((decide (c.1=0))&&((decide (c.2.1.1=0))&&((decide (c.2.1.2.1=0))&&((decide (c.2.1.2.2.1=0))&&((c.2.1.2.2.2==false)&&((decide (c.2.2.1.1=0))&&((decide (c.2.2.1.2.1=0))&&((decide (c.2.2.1.2.2.1=0))&&((c.2.2.1.2.2.2==false)&&((decide (c.2.2.2.1.1=0))&&((decide (c.2.2.2.1.2=0))&&((decide (c.2.2.2.2.1=0))&&((decide (c.2.2.2.2.2.1=0))&&(decide (c.2.2.2.2.2.2=0)))))))))))))))) (
 some (0:Int)) (
 tif ((decide (c.1<1))) (
 some (2:Int)) (
 a0a (l0w n c.2.1) fun r0 =>
 tif ((!(decide (r0=0)))) (
 some (2:Int)) (
 a0a (l0w n c.2.2.1) fun r1 =>
 tif ((!(decide (r1=0)))) (
 some (2:Int)) (
 tif ((decide (c.2.2.1.1<c.2.1.1))) (
 some (2:Int)) (
 tif ((decide ((IntKind.wrap .i64 ((IntKind.wrap .i64 (c.2.2.1.1-c.2.1.1))+1))<c.1))) (
 some (2:Int)) (
 tif ((decide (c.1=1))) (
 tif ((!((decide (c.2.1.1=c.2.2.1.1))&&((decide (c.2.1.2.1=c.2.2.1.2.1))&&((decide (c.2.1.2.2.1=c.2.2.1.2.2.1))&&(c.2.1.2.2.2==c.2.2.1.2.2.2)))))) (
 some (2:Int)) (
 tif ((decide ((1:Int)<c.1))) (
 tif ((decide (c.2.1.1=c.2.2.1.1))) (
 some (2:Int)) (
 tif ((decide (c.2.2.2.2.1<0))) (
 some (2:Int)) (
 tif ((decide (c.2.2.2.2.2.1<0))) (
 some (2:Int)) (
 tif ((decide (c.2.2.2.2.2.2<0))) (
 some (2:Int)) (
 tif ((decide (c.1≤c.2.2.2.2.1))) (
 some (2:Int)) (
 tif ((decide (c.1≤c.2.2.2.2.2.1))) (
 some (2:Int)) (
 tif ((decide (c.1≤(IntKind.wrap .i64 (c.2.2.2.2.1+c.2.2.2.2.2.1))))) (
 some (2:Int)) (
 tif ((decide ((IntKind.wrap .i64 (c.2.2.1.1-c.2.1.1))<c.2.2.2.2.2.2))) (
 some (2:Int)) (
 a0a (o0g n (0,18446744073709551615) (IntKind.wrap .u64 (IntKind.wrap .i64 (c.1-1)))) fun r2 =>
 a0a (k0m n r2.1 c.2.2.2.1) fun r3 =>
 tif (r3) (
 some (2:Int)) (
 some (0:Int))))))))))) (
 tif ((decide (c.2.2.2.2.1<0))) (
 some (2:Int)) (
 tif ((decide (c.2.2.2.2.2.1<0))) (
 some (2:Int)) (
 tif ((decide (c.2.2.2.2.2.2<0))) (
 some (2:Int)) (
 tif ((decide (c.1≤c.2.2.2.2.1))) (
 some (2:Int)) (
 tif ((decide (c.1≤c.2.2.2.2.2.1))) (
 some (2:Int)) (
 tif ((decide (c.1≤(IntKind.wrap .i64 (c.2.2.2.2.1+c.2.2.2.2.2.1))))) (
 some (2:Int)) (
 tif ((decide ((IntKind.wrap .i64 (c.2.2.1.1-c.2.1.1))<c.2.2.2.2.2.2))) (
 some (2:Int)) (
 a0a (o0g n (0,18446744073709551615) (IntKind.wrap .u64 (IntKind.wrap .i64 (c.1-1)))) fun r4 =>
 a0a (k0m n r4.1 c.2.2.2.1) fun r5 =>
 tif (r5) (
 some (2:Int)) (
 some (0:Int)))))))))))) (
 tif ((decide ((1:Int)<c.1))) (
 tif ((decide (c.2.1.1=c.2.2.1.1))) (
 some (2:Int)) (
 tif ((decide (c.2.2.2.2.1<0))) (
 some (2:Int)) (
 tif ((decide (c.2.2.2.2.2.1<0))) (
 some (2:Int)) (
 tif ((decide (c.2.2.2.2.2.2<0))) (
 some (2:Int)) (
 tif ((decide (c.1≤c.2.2.2.2.1))) (
 some (2:Int)) (
 tif ((decide (c.1≤c.2.2.2.2.2.1))) (
 some (2:Int)) (
 tif ((decide (c.1≤(IntKind.wrap .i64 (c.2.2.2.2.1+c.2.2.2.2.2.1))))) (
 some (2:Int)) (
 tif ((decide ((IntKind.wrap .i64 (c.2.2.1.1-c.2.1.1))<c.2.2.2.2.2.2))) (
 some (2:Int)) (
 a0a (o0g n (0,18446744073709551615) (IntKind.wrap .u64 (IntKind.wrap .i64 (c.1-1)))) fun r6 =>
 a0a (k0m n r6.1 c.2.2.2.1) fun r7 =>
 tif (r7) (
 some (2:Int)) (
 some (0:Int))))))))))) (
 tif ((decide (c.2.2.2.2.1<0))) (
 some (2:Int)) (
 tif ((decide (c.2.2.2.2.2.1<0))) (
 some (2:Int)) (
 tif ((decide (c.2.2.2.2.2.2<0))) (
 some (2:Int)) (
 tif ((decide (c.1≤c.2.2.2.2.1))) (
 some (2:Int)) (
 tif ((decide (c.1≤c.2.2.2.2.2.1))) (
 some (2:Int)) (
 tif ((decide (c.1≤(IntKind.wrap .i64 (c.2.2.2.2.1+c.2.2.2.2.2.1))))) (
 some (2:Int)) (
 tif ((decide ((IntKind.wrap .i64 (c.2.2.1.1-c.2.1.1))<c.2.2.2.2.2.2))) (
 some (2:Int)) (
 a0a (o0g n (0,18446744073709551615) (IntKind.wrap .u64 (IntKind.wrap .i64 (c.1-1)))) fun r8 =>
 a0a (k0m n r8.1 c.2.2.2.1) fun r9 =>
 tif (r9) (
 some (2:Int)) (
 some (0:Int))))))))))))))))):=by kernel_rfl
theorem i1l (n:Nat) (p:a0q) (c:a0q):v0o (n+1) p c =
 a0a (l0w n p) fun r0 =>
 tif ((!(decide (r0=0)))) (
 some ((0,((0,(0,(0,false))),((0,(0,(0,false))),((0,0),(0,(0,0)))))),2)) (
 a0a (l0w n c) fun r1 =>
 tif ((!(decide (r1=0)))) (
 some ((0,((0,(0,(0,false))),((0,(0,(0,false))),((0,0),(0,(0,0)))))),2)) (
 tif ((decide (c.1≤p.1))) (
 some ((0,((0,(0,(0,false))),((0,(0,(0,false))),((0,0),(0,(0,0)))))),9)) (
 tif (c.2.2.2) (
 some ((0,((0,(0,(0,false))),((0,(0,(0,false))),((0,0),(0,(0,0)))))),0)) (
 tif ((decide (p.1<c.2.2.1))) (
 some ((0,((0,(0,(0,false))),((0,(0,(0,false))),((0,c.2.1),(1,(0,(IntKind.wrap .i64 (c.1-c.2.2.1)))))))),0)) (
 tif (p.2.2.2) (
 some ((0,((0,(0,(0,false))),((0,(0,(0,false))),((0,0),(0,(1,0)))))),0)) (
 tif ((decide (c.2.1<p.2.1))) (
 some ((0,((0,(0,(0,false))),((0,(0,(0,false))),((0,c.2.1),(1,(0,(IntKind.wrap .i64 (c.1-p.1)))))))),0)) (
 some ((0,((0,(0,(0,false))),((0,(0,(0,false))),((0,(IntKind.wrap .u64 (c.2.1-p.2.1))),(0,(0,(IntKind.wrap .i64 (c.1-p.1)))))))),0)))))))):=by kernel_rfl
theorem f2g (n:Nat) (l:(List (Int×Int))):y1d (n+1) l =
 a0a (t0m n a0b ((0,0),((0,0),(l,((((List.length l):Nat):Int),(0,())))))) fun r0 =>
 b0i (fun y1 =>
 some (y1.2.1,0)) (fun z2 =>
 some z2) r0:=by kernel_rfl
theorem x0n (n f:Nat) (s2:(Int×Int)) (a:(Int×Int)) (s9:(List (Int×Int))) (s10:Int) (s11:Int):t0m n (f+1) (s2,a,s9,s10,s11,()) =
 tif ((decide (s11<s10))) (
 a0a (at? s9 s11) fun r0 =>
 a0a (n0m n a r0) fun r1 =>
 tif ((!(decide (r1.2=0)))) (
 some (.inr ((0,0),r1.2))) (
 t0m n f (s2,(r1.1,(s9,(s10,((IntKind.wrap .i64 (s11+1)),()))))))) (
 some (.inl (s2,(a,())))):=by kernel_rfl
theorem p1j (n:Nat) (c:b0a):b1c (n+1) c =
 tif ((decide (c.1=1))) (
 tif (((decide (c.2.1.1=c.2.2.1.1))&&((decide (c.2.1.2.1=c.2.2.1.2.1))&&((decide (c.2.1.2.2.1=c.2.2.1.2.2.1))&&(c.2.1.2.2.2==c.2.2.1.2.2.2))))) (
 a0a (d0u n c.2.1) fun r0 =>
 some (decide (r0=0))) (
 some false)) (
 tif ((decide ((1:Int)<c.1))) (
 a0a (j0q n c.2.1 c.2.2.1) fun r1 =>
 tif (r1) (
 some (decide ((IntKind.wrap .i64 (c.1-1))≤(IntKind.wrap .i64 (c.2.2.1.1-c.2.1.1))))) (
 some false)) (
 some false)):=by kernel_rfl
theorem h2c (n:Nat) (n_:Int) (most:Int):g1y (n+1) n_ most =
 tif ((decide ((0:Int)≤n_))) (
 some (decide (n_≤most))) (
 some false):=by kernel_rfl
end Go.Proofs.YtgkpkajaepphjaaGreatDoor
