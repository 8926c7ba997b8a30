/- Trees, printed by program. -/
import Derived.Test.YtgkpkajaepphjaaGreatDoorTr0
import Derived.KernelRfl
set_option linter.unusedVariables false
namespace Go.Proofs.YtgkpkajaepphjaaGreatDoor
open Go.Flat
theorem g2j (n:Nat) (s:a0p) (a:TAsk):g2k (n+1) s a =
 a0a (r0v n s) fun r0 =>
 tif ((!(decide (r0=0)))) (
 some ((0,((0,((0,(0,(0,false))),((0,(0,(0,false))),((0,0),(0,(0,0)))))),(((0,0),(0,0)),0))),2)) (
 a0a (x0u n a.1) fun r1 =>
 tif ((!(decide (r1=0)))) (
 some ((0,((0,((0,(0,(0,false))),((0,(0,(0,false))),((0,0),(0,(0,0)))))),(((0,0),(0,0)),0))),r1)) (
 a0a (m1g n s a.2.1 a.2.2.1 a.2.2.2) fun r2 =>
 tif ((!(decide (r2.2=0)))) (
 some ((0,((0,((0,(0,(0,false))),((0,(0,(0,false))),((0,0),(0,(0,0)))))),(((0,0),(0,0)),0))),r2.2)) (
 a0a (p0x n s a.1) fun r3 =>
 tif ((decide (r3.2=0))) (
 tif ((decide ((IntKind.wrap .i64 (r2.1-1))=0))) (
 a0a (f0k n a.2.2.1 a.2.2.2 s.1.2.1.1) fun r4 =>
 a0a (at? s.2.2.2 r3.1) fun r5 =>
 a0a (f0s n s.1 r5 (IntKind.wrap .i64 (r2.1-1)) r4.1 r4.2.1) fun r6 =>
 tif ((!(decide (r6.2=0)))) (
 some ((0,((0,((0,(0,(0,false))),((0,(0,(0,false))),((0,0),(0,(0,0)))))),(((0,0),(0,0)),0))),r6.2)) (
 a0a (m0m n r6.1) fun r7 =>
 some ((r2.1,(r6.1,r7)),0))) (
 tif ((decide ((IntKind.wrap .i64 (r2.1-1))=1))) (
 a0a (f0k n a.2.2.1 a.2.2.2 s.1.2.1.2.1) fun r8 =>
 a0a (at? s.2.2.2 r3.1) fun r9 =>
 a0a (f0s n s.1 r9 (IntKind.wrap .i64 (r2.1-1)) r8.1 r8.2.1) fun r10 =>
 tif ((!(decide (r10.2=0)))) (
 some ((0,((0,((0,(0,(0,false))),((0,(0,(0,false))),((0,0),(0,(0,0)))))),(((0,0),(0,0)),0))),r10.2)) (
 a0a (m0m n r10.1) fun r11 =>
 some ((r2.1,(r10.1,r11)),0))) (
 tif ((decide ((IntKind.wrap .i64 (r2.1-1))=2))) (
 a0a (f0k n a.2.2.1 a.2.2.2 s.1.2.1.2.2) fun r12 =>
 a0a (at? s.2.2.2 r3.1) fun r13 =>
 a0a (f0s n s.1 r13 (IntKind.wrap .i64 (r2.1-1)) r12.1 r12.2.1) fun r14 =>
 tif ((!(decide (r14.2=0)))) (
 some ((0,((0,((0,(0,(0,false))),((0,(0,(0,false))),((0,0),(0,(0,0)))))),(((0,0),(0,0)),0))),r14.2)) (
 a0a (m0m n r14.1) fun r15 =>
 some ((r2.1,(r14.1,r15)),0))) (
 none)))) (
 a0a (m0m n (0,((0,(0,(0,false))),((0,(0,(0,false))),((0,0),(0,(0,0))))))) fun r16 =>
 some ((r2.1,((0,((0,(0,(0,false))),((0,(0,(0,false))),((0,0),(0,(0,0)))))),r16)),0))))):=by kernel_rfl
theorem v1g (n:Nat) (s:a0p):c1j (n+1) s =
 a0a (j0a n s.1) fun r0 =>
 tif ((!(decide (r0=0)))) (
 some (((0,((0,(0,0)),((0,(0,0)),(0,0)))),(0,(0,[]))),2)) (
 tif ((!(decide ((((List.length s.2.2.2):Nat):Int)=s.1.2.2.2.1)))) (
 some (((0,((0,(0,0)),((0,(0,0)),(0,0)))),(0,(0,[]))),2)) (
 some (s,0))):=by kernel_rfl
theorem z0h (n:Nat) (v:a0p):n0g (n+1) v =
 a0a (c1i n v.2.1) fun r0 =>
 tif (r0) (
 tif ((decide (v.2.2.1=((-1):Int)))) (
 some (decide (v.2.2.1≤v.2.1))) (
 a0a (c1i n v.2.2.1) fun r1 =>
 tif (r1) (
 some (decide (v.2.2.1≤v.2.1))) (
 some false))) (
 some false):=by kernel_rfl
theorem z0f (n:Nat) (v:a0p) (is:((Int×Unit)→Option Bool)):f0c (n+1) v is =
 a0a (c0p n a0b (is,((((List.length v.2.2.2):Nat):Int),(0,())))) fun r0 =>
 b0c (fun y1 =>
 some ((-1):Int)) (fun z2 =>
 some z2) r0:=by kernel_rfl
theorem k0a (n f:Nat) (is:((Int×Unit)→Option Bool)) (s9:Int) (s10:Int):c0p n (f+1) (is,s9,s10,()) =
 tif ((decide (s10<s9))) (
 a0a (is (s10,())) fun r0 =>
 tif (r0) (
 some (.inr s10)) (
 c0p n f (is,(s9,((IntKind.wrap .i64 (s10+1)),()))))) (
 some (.inl ())):=by kernel_rfl
theorem g1a (n:Nat) (i:Int) (p1:a0p):e0p (n+1) i p1 =
 a0a (n0f n p1 i) fun r0 =>
 some (!r0):=by kernel_rfl
theorem z0e (n:Nat) (v:a0p) (i:Int):n0f (n+1) v i =
 a0a (at? v.2.2.2 i) fun r0 =>
 a0a (w0l n r0) fun r1 =>
 tif (r1) (
 some true) (
 a0a (r0j n v.1 r0) fun r2 =>
 tif ((decide (r2=0))) (
 tif ((decide ((0:Int)≤r0.2.1))) (
 a0a (p0m n v) fun r3 =>
 tif ((decide (r0.2.1<(IntKind.wrap .i64 (r3+v.1.2.1.1))))) (
 a0a (p0l n v i) fun r4 =>
 some (!r4)) (
 some false)) (
 some false)) (
 some false)):=by kernel_rfl
theorem s1b (n:Nat) (s:a0p) (l:(List (List UInt8×List UInt8))):e1e (n+1) s l =
 a0a (n0w n s) fun r0 =>
 tif ((!(decide (r0=0)))) (
 some r0) (
 a0a (q0k n l) fun r1 =>
 some r1):=by kernel_rfl
theorem x1m (n:Nat) (s:a0p) (a:TAsk) (k:Int):m1s (n+1) s a k =
 a0a (k0i n s a.1) fun r0 =>
 tif ((!(decide (r0.2=0)))) (
 some ((0,((0,(0,(0,false))),((0,(0,(0,false))),((0,0),(0,(0,0)))))),0)) (
 tif ((decide (k=0))) (
 a0a (e0g n a.2.2.1 a.2.2.2 s.1.2.1.1) fun r1 =>
 tif ((!(decide (r1.2.2=0)))) (
 some ((0,((0,(0,(0,false))),((0,(0,(0,false))),((0,0),(0,(0,0)))))),r1.2.2)) (
 a0a (at? s.2.2.2 r0.1) fun r2 =>
 a0a (d0x n s.1 r2 k r1.1 r1.2.1) fun r3 =>
 some r3)) (
 tif ((decide (k=1))) (
 a0a (e0g n a.2.2.1 a.2.2.2 s.1.2.1.2.1) fun r4 =>
 tif ((!(decide (r4.2.2=0)))) (
 some ((0,((0,(0,(0,false))),((0,(0,(0,false))),((0,0),(0,(0,0)))))),r4.2.2)) (
 a0a (at? s.2.2.2 r0.1) fun r5 =>
 a0a (d0x n s.1 r5 k r4.1 r4.2.1) fun r6 =>
 some r6)) (
 tif ((decide (k=2))) (
 a0a (e0g n a.2.2.1 a.2.2.2 s.1.2.1.2.2) fun r7 =>
 tif ((!(decide (r7.2.2=0)))) (
 some ((0,((0,(0,(0,false))),((0,(0,(0,false))),((0,0),(0,(0,0)))))),r7.2.2)) (
 a0a (at? s.2.2.2 r0.1) fun r8 =>
 a0a (d0x n s.1 r8 k r7.1 r7.2.1) fun r9 =>
 some r9)) (
 none)))):=by kernel_rfl
theorem m1w (n:Nat) (c:a0v):z0t (n+1) c =
 tif ((decide (c.2.2.2.2.2.2<1))) (
 some (((0,0),(0,0)),12)) (
 a0a (z0m n c.2.2.2.1 (IntKind.wrap .u64 c.2.2.2.2.2.2)) fun r0 =>
 some r0):=by kernel_rfl
theorem b2m (n:Nat) (n_:Int):e0o (n+1) n_ =
 some (0,n_):=by kernel_rfl
theorem x0z (n:Nat) (s:a0p) (from_:Int) (to:Int):l0x (n+1) s from_ to =
 a0a (c0w n a0b (from_,(to,(s,(10,(1,())))))) fun r0 =>
 b0c (fun y1 =>
 some (0,y1.1)) (fun z2 =>
 some z2) r0:=by kernel_rfl
theorem j0p (n f:Nat) (from_:Int) (to:Int) (s_:a0p) (why:Int) (tier:Int):c0w n (f+1) (from_,to,s_,why,tier,()) =
 tif ((decide (tier≤3))) (
 a0a (y0b n s_ tier from_ to) fun r0 =>
 tif ((decide (r0=0))) (
 some (.inr (tier,0))) (
 tif ((decide (r0=10))) (
 c0w n f (from_,(to,(s_,(why,((IntKind.wrap .i64 (tier+1)),())))))) (
 tif ((decide (r0=11))) (
 c0w n f (from_,(to,(s_,(r0,((IntKind.wrap .i64 (tier+1)),())))))) (
 some (.inr (0,r0)))))) (
 some (.inl (why,()))):=by kernel_rfl
theorem r1z (n:Nat) (s:a0p) (tier:Int) (from_:Int) (to:Int):y0b (n+1) s tier from_ to =
 tif ((decide ((IntKind.wrap .i64 (tier-1))=0))) (
 a0a (e0g n from_ to s.1.2.1.1) fun r0 =>
 tif ((!(decide (r0.2.2=0)))) (
 some r0.2.2) (
 a0a (y0u n s (IntKind.wrap .i64 (tier-1))) fun r1 =>
 tif ((decide (r1.2.2=0))) (
 tif ((decide (r0.1<r1.1))) (
 some (11:Int)) (
 some r1.2.2)) (
 some r1.2.2))) (
 tif ((decide ((IntKind.wrap .i64 (tier-1))=1))) (
 a0a (e0g n from_ to s.1.2.1.2.1) fun r2 =>
 tif ((!(decide (r2.2.2=0)))) (
 some r2.2.2) (
 a0a (y0u n s (IntKind.wrap .i64 (tier-1))) fun r3 =>
 tif ((decide (r3.2.2=0))) (
 tif ((decide (r2.1<r3.1))) (
 some (11:Int)) (
 some r3.2.2)) (
 some r3.2.2))) (
 tif ((decide ((IntKind.wrap .i64 (tier-1))=2))) (
 a0a (e0g n from_ to s.1.2.1.2.2) fun r4 =>
 tif ((!(decide (r4.2.2=0)))) (
 some r4.2.2) (
 a0a (y0u n s (IntKind.wrap .i64 (tier-1))) fun r5 =>
 tif ((decide (r5.2.2=0))) (
 tif ((decide (r4.1<r5.1))) (
 some (11:Int)) (
 some r5.2.2)) (
 some r5.2.2))) (
 none))):=by kernel_rfl
theorem b2n (n:Nat) (a:Int) (b:Int) (w:Int):e0g (n+1) a b w =
 a0a (k1w n w) fun r0 =>
 tif ((!r0)) (
 some (0,(0,1))) (
 tif ((decide (a<0))) (
 some (0,(0,1))) (
 tif ((decide ((35184372088832:Int)<b))) (
 some (0,(0,1))) (
 tif ((decide (b≤a))) (
 some (0,(0,1))) (
 tif ((decide (w=0))) (
 none) (
 tif ((!(decide ((Int.tmod a w)=0)))) (
 some (0,(0,10))) (
 tif ((decide (w=0))) (
 none) (
 tif ((!(decide ((Int.tmod b w)=0)))) (
 some (0,(0,10))) (
 tif ((decide (w=0))) (
 none) (
 tif ((decide (w=0))) (
 none) (
 some ((IntKind.wrap .i64 (Int.tdiv a w)),((IntKind.wrap .i64 (Int.tdiv b w)),0)))))))))))):=by kernel_rfl
theorem v1h (n:Nat) (s:a0p) (l:(List (List UInt8×List UInt8))):k0i (n+1) s l =
 a0a (c1j n s) fun r0 =>
 tif ((!(decide (r0.2=0)))) (
 some (0,r0.2)) (
 a0a (f0c n r0.1 (fun y1=>f0z n y1.1 s l r0.1)) fun r2 =>
 tif ((decide (r2<0))) (
 some (0,3)) (
 some (r2,0))):=by kernel_rfl
theorem b1v (n:Nat) (c:a0z) (s:a0x) (i:Int):c0k (n+1) c s (0:Int) i =
 a0a (g0x n c s) fun r0 =>
 n1h (r0.1) (
 tif ((!(decide (r0.2=0)))) (
 some ((0,((0,(0,(0,false))),((0,(0,(0,false))),((0,0),(0,(0,0)))))),r0.2)) (
 tif ((decide (i<0))) (
 some ((0,((0,(0,(0,false))),((0,(0,(0,false))),((0,0),(0,(0,0)))))),1)) (
 tif ((decide (s.2.1=((-1):Int)))) (
 some ((0,((0,(0,(0,false))),((0,(0,(0,false))),((0,0),(0,(0,0)))))),0)) (
 tif ((decide (c.2.1.1=0))) (
 none) (
 tif ((decide ((IntKind.wrap .i64 (Int.tdiv s.2.1 c.2.1.1))<i))) (
 some ((0,((0,(0,(0,false))),((0,(0,(0,false))),((0,0),(0,(0,0)))))),0)) (
 tif ((decide (c.2.1.1=0))) (
 none) (
 tif ((decide (i=(IntKind.wrap .i64 (Int.tdiv s.2.1 c.2.1.1))))) (
 none) (
 a0a (m0i n s.2.2.2.1.1 i) fun r1 =>
 some (r1,0))))))))) fun r2 =>
 tif ((!(decide (r0.2=0)))) (
 some ((0,((0,(0,(0,false))),((0,(0,(0,false))),((0,0),(0,(0,0)))))),r0.2)) (
 tif ((decide (i<0))) (
 some ((0,((0,(0,(0,false))),((0,(0,(0,false))),((0,0),(0,(0,0)))))),1)) (
 tif ((decide (s.2.1=((-1):Int)))) (
 some ((0,((0,(0,(0,false))),((0,(0,(0,false))),((0,0),(0,(0,0)))))),0)) (
 tif ((decide (c.2.1.1=0))) (
 none) (
 tif ((decide ((IntKind.wrap .i64 (Int.tdiv s.2.1 c.2.1.1))<i))) (
 some ((0,((0,(0,(0,false))),((0,(0,(0,false))),((0,0),(0,(0,0)))))),0)) (
 tif ((decide (c.2.1.1=0))) (
 none) (
 tif ((decide (i=(IntKind.wrap .i64 (Int.tdiv s.2.1 c.2.1.1))))) (
 a0a (h0w n r2 (0:Int)) fun r3 =>
 some r3) (
 a0a (m0i n s.2.2.2.1.1 i) fun r4 =>
 some (r4,0)))))))):=by kernel_rfl
theorem b1u (n:Nat) (c:a0z) (s:a0x) (i:Int):c0k (n+1) c s (1:Int) i =
 a0a (g0x n c s) fun r0 =>
 n1h (r0.1) (
 tif ((!(decide (r0.2=0)))) (
 some ((0,((0,(0,(0,false))),((0,(0,(0,false))),((0,0),(0,(0,0)))))),r0.2)) (
 tif ((decide (i<0))) (
 some ((0,((0,(0,(0,false))),((0,(0,(0,false))),((0,0),(0,(0,0)))))),1)) (
 tif ((decide (s.2.1=((-1):Int)))) (
 some ((0,((0,(0,(0,false))),((0,(0,(0,false))),((0,0),(0,(0,0)))))),0)) (
 tif ((decide (c.2.1.2.1=0))) (
 none) (
 tif ((decide ((IntKind.wrap .i64 (Int.tdiv s.2.1 c.2.1.2.1))<i))) (
 some ((0,((0,(0,(0,false))),((0,(0,(0,false))),((0,0),(0,(0,0)))))),0)) (
 tif ((decide (c.2.1.2.1=0))) (
 none) (
 tif ((decide (i=(IntKind.wrap .i64 (Int.tdiv s.2.1 c.2.1.2.1))))) (
 none) (
 a0a (m0i n s.2.2.2.1.2.1 i) fun r1 =>
 some (r1,0))))))))) fun r2 =>
 tif ((!(decide (r0.2=0)))) (
 some ((0,((0,(0,(0,false))),((0,(0,(0,false))),((0,0),(0,(0,0)))))),r0.2)) (
 tif ((decide (i<0))) (
 some ((0,((0,(0,(0,false))),((0,(0,(0,false))),((0,0),(0,(0,0)))))),1)) (
 tif ((decide (s.2.1=((-1):Int)))) (
 some ((0,((0,(0,(0,false))),((0,(0,(0,false))),((0,0),(0,(0,0)))))),0)) (
 tif ((decide (c.2.1.2.1=0))) (
 none) (
 tif ((decide ((IntKind.wrap .i64 (Int.tdiv s.2.1 c.2.1.2.1))<i))) (
 some ((0,((0,(0,(0,false))),((0,(0,(0,false))),((0,0),(0,(0,0)))))),0)) (
 tif ((decide (c.2.1.2.1=0))) (
 none) (
 tif ((decide (i=(IntKind.wrap .i64 (Int.tdiv s.2.1 c.2.1.2.1))))) (
 a0a (h0w n r2 (1:Int)) fun r3 =>
 some r3) (
 a0a (m0i n s.2.2.2.1.2.1 i) fun r4 =>
 some (r4,0)))))))):=by kernel_rfl
theorem b1t (n:Nat) (c:a0z) (s:a0x) (i:Int):c0k (n+1) c s (2:Int) i =
 a0a (g0x n c s) fun r0 =>
 n1h (r0.1) (
 tif ((!(decide (r0.2=0)))) (
 some ((0,((0,(0,(0,false))),((0,(0,(0,false))),((0,0),(0,(0,0)))))),r0.2)) (
 tif ((decide (i<0))) (
 some ((0,((0,(0,(0,false))),((0,(0,(0,false))),((0,0),(0,(0,0)))))),1)) (
 tif ((decide (s.2.1=((-1):Int)))) (
 some ((0,((0,(0,(0,false))),((0,(0,(0,false))),((0,0),(0,(0,0)))))),0)) (
 tif ((decide (c.2.1.2.2=0))) (
 none) (
 tif ((decide ((IntKind.wrap .i64 (Int.tdiv s.2.1 c.2.1.2.2))<i))) (
 some ((0,((0,(0,(0,false))),((0,(0,(0,false))),((0,0),(0,(0,0)))))),0)) (
 tif ((decide (c.2.1.2.2=0))) (
 none) (
 tif ((decide (i=(IntKind.wrap .i64 (Int.tdiv s.2.1 c.2.1.2.2))))) (
 none) (
 a0a (m0i n s.2.2.2.1.2.2 i) fun r1 =>
 some (r1,0))))))))) fun r2 =>
 tif ((!(decide (r0.2=0)))) (
 some ((0,((0,(0,(0,false))),((0,(0,(0,false))),((0,0),(0,(0,0)))))),r0.2)) (
 tif ((decide (i<0))) (
 some ((0,((0,(0,(0,false))),((0,(0,(0,false))),((0,0),(0,(0,0)))))),1)) (
 tif ((decide (s.2.1=((-1):Int)))) (
 some ((0,((0,(0,(0,false))),((0,(0,(0,false))),((0,0),(0,(0,0)))))),0)) (
 tif ((decide (c.2.1.2.2=0))) (
 none) (
 tif ((decide ((IntKind.wrap .i64 (Int.tdiv s.2.1 c.2.1.2.2))<i))) (
 some ((0,((0,(0,(0,false))),((0,(0,(0,false))),((0,0),(0,(0,0)))))),0)) (
 tif ((decide (c.2.1.2.2=0))) (
 none) (
 tif ((decide (i=(IntKind.wrap .i64 (Int.tdiv s.2.1 c.2.1.2.2))))) (
 a0a (h0w n r2 (2:Int)) fun r3 =>
 some r3) (
 a0a (m0i n s.2.2.2.1.2.2 i) fun r4 =>
 some (r4,0)))))))):=by kernel_rfl
theorem w1j (n:Nat) (s:a0p) (l:(List (List UInt8×List UInt8))):p0x (n+1) s l =
 a0a (r0r n s) fun r0 =>
 tif ((!r0)) (
 some (0,2)) (
 a0a (e0f n a0b (l,(s,(s.2.2.2,((((List.length s.2.2.2):Nat):Int),(0,())))))) fun r1 =>
 b0c (fun y2 =>
 some (0,3)) (fun z3 =>
 some z3) r1):=by kernel_rfl
theorem u0s (n f:Nat) (l:(List (List UInt8×List UInt8))) (s_:a0p) (s12:(List a0x)) (s13:Int) (s14:Int):e0f n (f+1) (l,s_,s12,s13,s14,()) =
 tif ((decide (s14<s13))) (
 a0a (at? s12 s14) fun r0 =>
 a0a (r0t n s_ s14) fun r1 =>
 tif (r1) (
 a0a (x0t n r0.1 l) fun r2 =>
 tif (r2) (
 some (.inr (s14,0))) (
 e0f n f (l,(s_,(s12,(s13,((IntKind.wrap .i64 (s14+1)),()))))))) (
 e0f n f (l,(s_,(s12,(s13,((IntKind.wrap .i64 (s14+1)),()))))))) (
 some (.inl ())):=by kernel_rfl
theorem v0l (n:Nat) (c:a0z) (s:a0x) (k:Int) (i:Int):t0n (n+1) c s k i =
 a0a (l0u n c s) fun r0 =>
 tif ((!(decide (r0=0)))) (
 some ((0,((0,(0,(0,false))),((0,(0,(0,false))),((0,0),(0,(0,0)))))),2)) (
 tif ((decide (k<0))) (
 some ((0,((0,(0,(0,false))),((0,(0,(0,false))),((0,0),(0,(0,0)))))),1)) (
 tif ((decide ((2:Int)<k))) (
 some ((0,((0,(0,(0,false))),((0,(0,(0,false))),((0,0),(0,(0,0)))))),1)) (
 tif ((decide (i<0))) (
 some ((0,((0,(0,(0,false))),((0,(0,(0,false))),((0,0),(0,(0,0)))))),1)) (
 a0a (j0u n c s k i) fun r1 =>
 some r1)))):=by kernel_rfl
theorem c1e (n:Nat) (p:a0y) (c:a0y):k0l (n+1) p c =
 a0a (m0a n (p::(c::[]))) fun r0 =>
 tif ((!r0)) (
 some ((0,((0,(0,(0,false))),((0,(0,(0,false))),((0,0),(0,(0,0)))))),2)) (
 tif ((decide (c.1≤p.1))) (
 some ((0,((0,(0,(0,false))),((0,(0,(0,false))),((0,0),(0,(0,0)))))),9)) (
 tif (c.2.2.2) (
 some ((0,((0,(0,(0,false))),((0,(0,(0,false))),((0,0),(0,(0,0)))))),0)) (
 tif ((decide (p.1<c.2.2.1))) (
 a0a (u0b n c (IntKind.wrap .i64 (c.1-c.2.2.1))) fun r1 =>
 some (r1,0)) (
 tif (p.2.2.2) (
 some ((0,((0,(0,(0,false))),((0,(0,(0,false))),((0,0),(0,(1,0)))))),0)) (
 tif ((decide (c.2.1<p.2.1))) (
 a0a (u0b n c (IntKind.wrap .i64 (c.1-p.1))) fun r2 =>
 some (r2,0)) (
 a0a (e0o n (IntKind.wrap .u64 (c.2.1-p.2.1))) fun r3 =>
 some ((0,((0,(0,(0,false))),((0,(0,(0,false))),(r3,(0,(0,(IntKind.wrap .i64 (c.1-p.1)))))))),0))))))):=by kernel_rfl
theorem u1s (n:Nat) (a:(Int×Int)) (b:(Int×Int)):t0a (n+1) a b =
 tif (((decide ((0:Int)≤a.2))&&((decide ((0:Int)≤b.2))&&true))) (
 tif (((decide ((0:Int)≤a.1))&&((decide ((0:Int)≤b.1))&&((decide ((0:Int)≤(((a.2+b.2)+0) / (18446744073709551616:Int))))&&(decide ((((a.2+b.2)+0) / (18446744073709551616:Int))≤1)))))) (
 a0a (r0c n ((((a.1+b.1)+(((a.2+b.2)+0) / (18446744073709551616:Int))) % (18446744073709551616:Int)),(((a.2+b.2)+0) % (18446744073709551616:Int))) (((a.1+b.1)+(((a.2+b.2)+0) / (18446744073709551616:Int))) / (18446744073709551616:Int))) fun r0 =>
 some r0) (
 none)) (
 none):=by kernel_rfl
theorem d2f (n:Nat) (l:(List a0v)):z0q (n+1) l =
 a0a (o0k n a0b ((0,((0,(0,(0,false))),((0,(0,(0,false))),((0,0),(0,(0,0)))))),((0,((0,(0,(0,false))),((0,(0,(0,false))),((0,0),(0,(0,0)))))),(l,((((List.length l):Nat):Int),(0,())))))) fun r0 =>
 b0c (fun y1 =>
 some (y1.2.1,0)) (fun z2 =>
 some z2) r0:=by kernel_rfl
theorem x0q (n f:Nat) (s2:a0v) (c:a0v) (s9:(List a0v)) (s10:Int) (s11:Int):o0k n (f+1) (s2,c,s9,s10,s11,()) =
 tif ((decide (s11<s10))) (
 a0a (at? s9 s11) fun r0 =>
 a0a (j0o n c r0) fun r1 =>
 tif ((!(decide (r1.2=0)))) (
 some (.inr ((0,((0,(0,(0,false))),((0,(0,(0,false))),((0,0),(0,(0,0)))))),r1.2))) (
 o0k n f (s2,(r1.1,(s9,(s10,((IntKind.wrap .i64 (s11+1)),()))))))) (
 some (.inl (s2,(c,())))):=by kernel_rfl
theorem d2l (n:Nat) (a:(Int×Int)) (b:(Int×Int)):v0o (n+1) a b =
 a0a (i0j n a b) fun r0 =>
 tif (r0) (
 some ((0,0),1)) (
 a0a (g0q n a) fun r1 =>
 a0a (g0q n b) fun r2 =>
 tif ((decide (16=((((((((((((((((1+1)+1)+1)+1)+1)+1)+1)+1)+1)+1)+1)+1)+1)+1)+1) / 1)))) (
 tif ((decide (16=((((((((((((((((1+1)+1)+1)+1)+1)+1)+1)+1)+1)+1)+1)+1)+1)+1)+1) / 1)))) (
 a0a (k0v n a0b ((0,0),((r1.1::(r1.2.1::(r1.2.2.1::(r1.2.2.2.1::(r1.2.2.2.2.1::(r1.2.2.2.2.2.1::(r1.2.2.2.2.2.2.1::(r1.2.2.2.2.2.2.2.1::(r1.2.2.2.2.2.2.2.2.1::(r1.2.2.2.2.2.2.2.2.2.1::(r1.2.2.2.2.2.2.2.2.2.2.1::(r1.2.2.2.2.2.2.2.2.2.2.2.1::(r1.2.2.2.2.2.2.2.2.2.2.2.2.1::(r1.2.2.2.2.2.2.2.2.2.2.2.2.2.1::(r1.2.2.2.2.2.2.2.2.2.2.2.2.2.2.1::(r1.2.2.2.2.2.2.2.2.2.2.2.2.2.2.2::[])))))))))))))))),((r2.1::(r2.2.1::(r2.2.2.1::(r2.2.2.2.1::(r2.2.2.2.2.1::(r2.2.2.2.2.2.1::(r2.2.2.2.2.2.2.1::(r2.2.2.2.2.2.2.2.1::(r2.2.2.2.2.2.2.2.2.1::(r2.2.2.2.2.2.2.2.2.2.1::(r2.2.2.2.2.2.2.2.2.2.2.1::(r2.2.2.2.2.2.2.2.2.2.2.2.1::(r2.2.2.2.2.2.2.2.2.2.2.2.2.1::(r2.2.2.2.2.2.2.2.2.2.2.2.2.2.1::(r2.2.2.2.2.2.2.2.2.2.2.2.2.2.2.1::(r2.2.2.2.2.2.2.2.2.2.2.2.2.2.2.2::[])))))))))))))))),(0,(0,())))))) fun r3 =>
 b0c (fun y4 =>
 a0a ((y4.2.1)[0]?) fun r5 =>
 a0a ((y4.2.1)[1]?) fun r6 =>
 a0a ((y4.2.1)[2]?) fun r7 =>
 a0a ((y4.2.1)[3]?) fun r8 =>
 a0a ((y4.2.1)[4]?) fun r9 =>
 a0a ((y4.2.1)[5]?) fun r10 =>
 a0a ((y4.2.1)[6]?) fun r11 =>
 a0a ((y4.2.1)[7]?) fun r12 =>
 a0a ((y4.2.1)[8]?) fun r13 =>
 a0a ((y4.2.1)[9]?) fun r14 =>
 a0a ((y4.2.1)[10]?) fun r15 =>
 a0a ((y4.2.1)[11]?) fun r16 =>
 a0a ((y4.2.1)[12]?) fun r17 =>
 a0a ((y4.2.1)[13]?) fun r18 =>
 a0a ((y4.2.1)[14]?) fun r19 =>
 a0a ((y4.2.1)[15]?) fun r20 =>
 a0a (b1c n (r5,(r6,(r7,(r8,(r9,(r10,(r11,(r12,(r13,(r14,(r15,(r16,(r17,(r18,(r19,r20)))))))))))))))) fun r21 =>
 some (r21,0)) (fun z22 =>
 some z22) r3) (
 none)) (
 none)):=by kernel_rfl
theorem x0x (n f:Nat) (s4:(Int×Int)) (x:(List Int)) (y:(List Int)) (owed:Int) (s19:Int):k0v n (f+1) (s4,x,y,owed,s19,()) =
 tif ((decide (s19<16))) (
 tif (((decide ((0:Int)≤s19))&&((decide (s19<16))&&(decide (s19<(((List.length x):Nat):Int)))))) (
 a0a ((x)[(Int.toNat s19)]?) fun r0 =>
 tif (((decide ((0:Int)≤s19))&&((decide (s19<16))&&(decide (s19<(((List.length y):Nat):Int)))))) (
 a0a ((y)[(Int.toNat s19)]?) fun r1 =>
 tif ((decide ((IntKind.wrap .i64 ((IntKind.wrap .i64 (r0-r1))-owed))<0))) (
 tif (((decide ((0:Int)≤s19))&&((decide (s19<16))&&(decide (s19<(((List.length x):Nat):Int)))))) (
 a0a ((x)[(Int.toNat s19)]?) fun r2 =>
 k0v n f (s4,((List.set x (Int.toNat s19) (IntKind.wrap .i64 ((IntKind.wrap .i64 ((IntKind.wrap .i64 (r0-r1))-owed))+256))),(y,(1,((IntKind.wrap .i64 (s19+1)),())))))) (
 none)) (
 tif (((decide ((0:Int)≤s19))&&((decide (s19<16))&&(decide (s19<(((List.length x):Nat):Int)))))) (
 a0a ((x)[(Int.toNat s19)]?) fun r3 =>
 k0v n f (s4,((List.set x (Int.toNat s19) (IntKind.wrap .i64 ((IntKind.wrap .i64 (r0-r1))-owed))),(y,(0,((IntKind.wrap .i64 (s19+1)),())))))) (
 none))) (
 none)) (
 none)) (
 some (.inl (s4,(x,())))):=by kernel_rfl
theorem x1k (n:Nat) (a:(Int×Int)) (b:(Int×Int)):i0j (n+1) a b =
 a0a (g0q n a) fun r0 =>
 a0a (g0q n b) fun r1 =>
 tif ((!(decide (r0.2.2.2.2.2.2.2.2.2.2.2.2.2.2.2=r1.2.2.2.2.2.2.2.2.2.2.2.2.2.2.2)))) (
 some (decide (r0.2.2.2.2.2.2.2.2.2.2.2.2.2.2.2<r1.2.2.2.2.2.2.2.2.2.2.2.2.2.2.2))) (
 tif ((!(decide (r0.2.2.2.2.2.2.2.2.2.2.2.2.2.2.1=r1.2.2.2.2.2.2.2.2.2.2.2.2.2.2.1)))) (
 some (decide (r0.2.2.2.2.2.2.2.2.2.2.2.2.2.2.1<r1.2.2.2.2.2.2.2.2.2.2.2.2.2.2.1))) (
 tif ((!(decide (r0.2.2.2.2.2.2.2.2.2.2.2.2.2.1=r1.2.2.2.2.2.2.2.2.2.2.2.2.2.1)))) (
 some (decide (r0.2.2.2.2.2.2.2.2.2.2.2.2.2.1<r1.2.2.2.2.2.2.2.2.2.2.2.2.2.1))) (
 tif ((!(decide (r0.2.2.2.2.2.2.2.2.2.2.2.2.1=r1.2.2.2.2.2.2.2.2.2.2.2.2.1)))) (
 some (decide (r0.2.2.2.2.2.2.2.2.2.2.2.2.1<r1.2.2.2.2.2.2.2.2.2.2.2.2.1))) (
 tif ((!(decide (r0.2.2.2.2.2.2.2.2.2.2.2.1=r1.2.2.2.2.2.2.2.2.2.2.2.1)))) (
 some (decide (r0.2.2.2.2.2.2.2.2.2.2.2.1<r1.2.2.2.2.2.2.2.2.2.2.2.1))) (
 tif ((!(decide (r0.2.2.2.2.2.2.2.2.2.2.1=r1.2.2.2.2.2.2.2.2.2.2.1)))) (
 some (decide (r0.2.2.2.2.2.2.2.2.2.2.1<r1.2.2.2.2.2.2.2.2.2.2.1))) (
 tif ((!(decide (r0.2.2.2.2.2.2.2.2.2.1=r1.2.2.2.2.2.2.2.2.2.1)))) (
 some (decide (r0.2.2.2.2.2.2.2.2.2.1<r1.2.2.2.2.2.2.2.2.2.1))) (
 tif ((!(decide (r0.2.2.2.2.2.2.2.2.1=r1.2.2.2.2.2.2.2.2.1)))) (
 some (decide (r0.2.2.2.2.2.2.2.2.1<r1.2.2.2.2.2.2.2.2.1))) (
 tif ((!(decide (r0.2.2.2.2.2.2.2.1=r1.2.2.2.2.2.2.2.1)))) (
 some (decide (r0.2.2.2.2.2.2.2.1<r1.2.2.2.2.2.2.2.1))) (
 tif ((!(decide (r0.2.2.2.2.2.2.1=r1.2.2.2.2.2.2.1)))) (
 some (decide (r0.2.2.2.2.2.2.1<r1.2.2.2.2.2.2.1))) (
 tif ((!(decide (r0.2.2.2.2.2.1=r1.2.2.2.2.2.1)))) (
 some (decide (r0.2.2.2.2.2.1<r1.2.2.2.2.2.1))) (
 tif ((!(decide (r0.2.2.2.2.1=r1.2.2.2.2.1)))) (
 some (decide (r0.2.2.2.2.1<r1.2.2.2.2.1))) (
 tif ((!(decide (r0.2.2.2.1=r1.2.2.2.1)))) (
 some (decide (r0.2.2.2.1<r1.2.2.2.1))) (
 tif ((!(decide (r0.2.2.1=r1.2.2.1)))) (
 some (decide (r0.2.2.1<r1.2.2.1))) (
 tif ((!(decide (r0.2.1=r1.2.1)))) (
 some (decide (r0.2.1<r1.2.1))) (
 tif ((!(decide (r0.1=r1.1)))) (
 some (decide (r0.1<r1.1))) (
 some false)))))))))))))))):=by kernel_rfl
theorem o1c (n:Nat) (x:(Int×Int)) (times:((Int×Int)×((Int×Int)×((Int×Int)×((Int×Int)×((Int×Int)×((Int×Int)×((Int×Int)×((Int×Int)×c0o))))))))):a1d (n+1) x times =
 a0a (k0q n x (9:Int)) fun r0 =>
 a0a (b0j n a0b (times,(r0.1,(0,())))) fun r1 =>
 b0c (fun y2 =>
 some y2.1) (fun z3 =>
 some z3) r1:=by kernel_rfl
theorem q0x (n f:Nat) (times:((Int×Int)×((Int×Int)×((Int×Int)×((Int×Int)×((Int×Int)×((Int×Int)×((Int×Int)×((Int×Int)×c0o))))))))) (all:(Int×Int)) (k:Int):b0j n (f+1) (times,all,k,()) =
 tif ((decide (k<9))) (
 tif ((decide ((IntKind.wrap .i64 (k+1))=0))) (
 a0a (b0z n all times.1) fun r0 =>
 tif ((!r0)) (
 b0j n f (times,(all,((IntKind.wrap .i64 (k+1)),())))) (
 some (.inl (k,())))) (
 tif ((decide ((IntKind.wrap .i64 (k+1))=1))) (
 a0a (b0z n all times.2.1) fun r1 =>
 tif ((!r1)) (
 b0j n f (times,(all,((IntKind.wrap .i64 (k+1)),())))) (
 some (.inl (k,())))) (
 tif ((decide ((IntKind.wrap .i64 (k+1))=2))) (
 a0a (b0z n all times.2.2.1) fun r2 =>
 tif ((!r2)) (
 b0j n f (times,(all,((IntKind.wrap .i64 (k+1)),())))) (
 some (.inl (k,())))) (
 tif ((decide ((IntKind.wrap .i64 (k+1))=3))) (
 a0a (b0z n all times.2.2.2.1) fun r3 =>
 tif ((!r3)) (
 b0j n f (times,(all,((IntKind.wrap .i64 (k+1)),())))) (
 some (.inl (k,())))) (
 tif ((decide ((IntKind.wrap .i64 (k+1))=4))) (
 a0a (b0z n all times.2.2.2.2.1) fun r4 =>
 tif ((!r4)) (
 b0j n f (times,(all,((IntKind.wrap .i64 (k+1)),())))) (
 some (.inl (k,())))) (
 tif ((decide ((IntKind.wrap .i64 (k+1))=5))) (
 a0a (b0z n all times.2.2.2.2.2.1) fun r5 =>
 tif ((!r5)) (
 b0j n f (times,(all,((IntKind.wrap .i64 (k+1)),())))) (
 some (.inl (k,())))) (
 tif ((decide ((IntKind.wrap .i64 (k+1))=6))) (
 a0a (b0z n all times.2.2.2.2.2.2.1) fun r6 =>
 tif ((!r6)) (
 b0j n f (times,(all,((IntKind.wrap .i64 (k+1)),())))) (
 some (.inl (k,())))) (
 tif ((decide ((IntKind.wrap .i64 (k+1))=7))) (
 a0a (b0z n all times.2.2.2.2.2.2.2.1) fun r7 =>
 tif ((!r7)) (
 b0j n f (times,(all,((IntKind.wrap .i64 (k+1)),())))) (
 some (.inl (k,())))) (
 tif ((decide ((IntKind.wrap .i64 (k+1))=8))) (
 a0a (b0z n all times.2.2.2.2.2.2.2.2.1) fun r8 =>
 tif ((!r8)) (
 b0j n f (times,(all,((IntKind.wrap .i64 (k+1)),())))) (
 some (.inl (k,())))) (
 tif ((decide ((IntKind.wrap .i64 (k+1))=9))) (
 a0a (b0z n all times.2.2.2.2.2.2.2.2.2) fun r9 =>
 tif ((!r9)) (
 b0j n f (times,(all,((IntKind.wrap .i64 (k+1)),())))) (
 some (.inl (k,())))) (
 none))))))))))) (
 some (.inl (k,()))):=by kernel_rfl
theorem r1x (n:Nat) (a:(Int×Int)) (n_:Int):g0p (n+1) a n_ =
 a0a (d0h n a0b (n_,(a,((0,0),((0,0),(false,())))))) fun r0 =>
 b0c (fun y1 =>
 some (y1.2.1,0)) (fun z2 =>
 some z2) r0:=by kernel_rfl
theorem i0i (n f:Nat) (n_:Int) (a_:(Int×Int)) (s4:(Int×Int)) (out:(Int×Int)) (over:Bool):d0h n (f+1) (n_,a_,s4,out,over,()) =
 tif ((decide ((0:Int)<n_))) (
 tif ((decide ((Int.tmod n_ (2:Int))=1))) (
 tif (over) (
 some (.inr ((0,0),1))) (
 a0a (n0o n out a_) fun r0 =>
 tif ((!(decide (r0.2=0)))) (
 some (.inr ((0,0),r0.2))) (
 a0a (n0o n a_ a_) fun r1 =>
 tif (over) (
 d0h n f ((IntKind.wrap .u64 (Int.tdiv n_ (2:Int))),(r1.1,(s4,(r0.1,(true,())))))) (
 d0h n f ((IntKind.wrap .u64 (Int.tdiv n_ (2:Int))),(r1.1,(s4,(r0.1,((!(decide (r1.2=0))),()))))))))) (
 a0a (n0o n a_ a_) fun r2 =>
 tif (over) (
 d0h n f ((IntKind.wrap .u64 (Int.tdiv n_ (2:Int))),(r2.1,(s4,(out,(true,())))))) (
 d0h n f ((IntKind.wrap .u64 (Int.tdiv n_ (2:Int))),(r2.1,(s4,(out,((!(decide (r2.2=0))),())))))))) (
 some (.inl (s4,(out,())))):=by kernel_rfl
theorem o1w (n:Nat) (a:a0v) (b:a0v):h0q (n+1) a b =
 a0a (p0a n a) fun r0 =>
 tif ((!(decide (r0=0)))) (
 some ((0,((0,(0,(0,false))),((0,(0,(0,false))),((0,0),(0,(0,0)))))),2)) (
 a0a (p0a n b) fun r1 =>
 tif ((!(decide (r1=0)))) (
 some ((0,((0,(0,(0,false))),((0,(0,(0,false))),((0,0),(0,(0,0)))))),2)) (
 a0a (s0v n a) fun r2 =>
 tif (r2) (
 some (b,0)) (
 a0a (s0v n b) fun r3 =>
 tif (r3) (
 some (a,0)) (
 a0a (u1c n a b) fun r4 =>
 some r4)))):=by kernel_rfl
theorem y0j (n:Nat) (x:Int) (y:Int):i0k (n+1) x y =
 some ((IntKind.wrap .u64 ((IntKind.wrap .u64 ((IntKind.wrap .u64 ((shrI .u64 x (32:Int))*(shrI .u64 y (32:Int))))+(shrI .u64 (IntKind.wrap .u64 ((IntKind.wrap .u64 ((shrI .u64 x (32:Int))*(andI .u64 y (4294967295:Int))))+(shrI .u64 (IntKind.wrap .u64 ((andI .u64 x (4294967295:Int))*(andI .u64 y (4294967295:Int)))) (32:Int)))) (32:Int))))+(shrI .u64 (IntKind.wrap .u64 ((andI .u64 (IntKind.wrap .u64 ((IntKind.wrap .u64 ((shrI .u64 x (32:Int))*(andI .u64 y (4294967295:Int))))+(shrI .u64 (IntKind.wrap .u64 ((andI .u64 x (4294967295:Int))*(andI .u64 y (4294967295:Int)))) (32:Int)))) (4294967295:Int))+(IntKind.wrap .u64 ((andI .u64 x (4294967295:Int))*(shrI .u64 y (32:Int)))))) (32:Int)))),(IntKind.wrap .u64 (x*y))):=by kernel_rfl
theorem p1h (n:Nat) (a:(Int×Int)) (over:Int):r0c (n+1) a over =
 tif ((!(decide (over=0)))) (
 some ((0,0),1)) (
 some (a,0)):=by kernel_rfl
theorem w1d (n:Nat) (s:a0p) (tier:Int) (from_:Int) (to:Int):m1g (n+1) s tier from_ to =
 a0a (r0v n s) fun r0 =>
 tif ((!(decide (r0=0)))) (
 some (0,2)) (
 tif ((decide (tier<0))) (
 some (0,1)) (
 tif ((decide ((3:Int)<tier))) (
 some (0,1)) (
 tif ((decide ((0:Int)<tier))) (
 a0a (m1f n s tier from_ to) fun r1 =>
 tif ((!(decide (r1=0)))) (
 some (0,r1)) (
 some (tier,0))) (
 a0a (j0n n a0b (from_,(to,(s,(false,(1,())))))) fun r2 =>
 b0c (fun y3 =>
 tif (y3.1) (
 some (0,11)) (
 some (0,10))) (fun z4 =>
 some z4) r2)))):=by kernel_rfl
theorem r0q (n f:Nat) (from_:Int) (to:Int) (s_:a0p) (expired:Bool) (k:Int):j0n n (f+1) (from_,to,s_,expired,k,()) =
 tif ((decide (k≤3))) (
 a0a (m1f n s_ k from_ to) fun r0 =>
 tif ((decide (r0=0))) (
 some (.inr (k,0))) (
 tif ((decide (r0=1))) (
 some (.inr (0,r0))) (
 tif (expired) (
 j0n n f (from_,(to,(s_,(true,((IntKind.wrap .i64 (k+1)),())))))) (
 j0n n f (from_,(to,(s_,((decide (r0=11)),((IntKind.wrap .i64 (k+1)),()))))))))) (
 some (.inl (expired,()))):=by kernel_rfl
theorem z0i (n:Nat) (s1:(List (List UInt8×List UInt8))) (s2:(List (List UInt8×List UInt8))):n0j (n+1) s1 s2 =
 tif ((!(decide ((((List.length s1):Nat):Int)=(((List.length s2):Nat):Int))))) (
 some false) (
 a0a (g0a n a0b (s1,(s2,((((List.length s1):Nat):Int),(0,()))))) fun r0 =>
 b0c (fun y1 =>
 some true) (fun z2 =>
 some z2) r0):=by kernel_rfl
theorem k0c (n f:Nat) (s1:(List (List UInt8×List UInt8))) (s2:(List (List UInt8×List UInt8))) (s12:Int) (s13:Int):g0a n (f+1) (s1,s2,s12,s13,()) =
 tif ((decide (s13<s12))) (
 a0a (at? s1 s13) fun r0 =>
 a0a (at? s2 s13) fun r1 =>
 tif ((!((r0.1==r1.1)&&(r0.2==r1.2)))) (
 some (.inr false)) (
 g0a n f (s1,(s2,(s12,((IntKind.wrap .i64 (s13+1)),())))))) (
 some (.inl ())):=by kernel_rfl
theorem d2m (n:Nat) (a:(Int×Int)) (b:(Int×Int)):n0o (n+1) a b =
 a0a (g0q n a) fun r0 =>
 a0a (g0q n b) fun r1 =>
 tif ((decide ((0:Int)<(IntKind.wrap .i64 (Int.tdiv (IntKind.wrap .i64 ((IntKind.wrap .i64 (r0.2.2.2.2.2.2.2.2.2.2.2.2.2.2.2+r1.2.2.2.2.2.2.2.2.2.2.2.2.2.2.2))+(IntKind.wrap .i64 (Int.tdiv (IntKind.wrap .i64 ((IntKind.wrap .i64 (r0.2.2.2.2.2.2.2.2.2.2.2.2.2.2.1+r1.2.2.2.2.2.2.2.2.2.2.2.2.2.2.1))+(IntKind.wrap .i64 (Int.tdiv (IntKind.wrap .i64 ((IntKind.wrap .i64 (r0.2.2.2.2.2.2.2.2.2.2.2.2.2.1+r1.2.2.2.2.2.2.2.2.2.2.2.2.2.1))+(IntKind.wrap .i64 (Int.tdiv (IntKind.wrap .i64 ((IntKind.wrap .i64 (r0.2.2.2.2.2.2.2.2.2.2.2.2.1+r1.2.2.2.2.2.2.2.2.2.2.2.2.1))+(IntKind.wrap .i64 (Int.tdiv (IntKind.wrap .i64 ((IntKind.wrap .i64 (r0.2.2.2.2.2.2.2.2.2.2.2.1+r1.2.2.2.2.2.2.2.2.2.2.2.1))+(IntKind.wrap .i64 (Int.tdiv (IntKind.wrap .i64 ((IntKind.wrap .i64 (r0.2.2.2.2.2.2.2.2.2.2.1+r1.2.2.2.2.2.2.2.2.2.2.1))+(IntKind.wrap .i64 (Int.tdiv (IntKind.wrap .i64 ((IntKind.wrap .i64 (r0.2.2.2.2.2.2.2.2.2.1+r1.2.2.2.2.2.2.2.2.2.1))+(IntKind.wrap .i64 (Int.tdiv (IntKind.wrap .i64 ((IntKind.wrap .i64 (r0.2.2.2.2.2.2.2.2.1+r1.2.2.2.2.2.2.2.2.1))+(IntKind.wrap .i64 (Int.tdiv (IntKind.wrap .i64 ((IntKind.wrap .i64 (r0.2.2.2.2.2.2.2.1+r1.2.2.2.2.2.2.2.1))+(IntKind.wrap .i64 (Int.tdiv (IntKind.wrap .i64 ((IntKind.wrap .i64 (r0.2.2.2.2.2.2.1+r1.2.2.2.2.2.2.1))+(IntKind.wrap .i64 (Int.tdiv (IntKind.wrap .i64 ((IntKind.wrap .i64 (r0.2.2.2.2.2.1+r1.2.2.2.2.2.1))+(IntKind.wrap .i64 (Int.tdiv (IntKind.wrap .i64 ((IntKind.wrap .i64 (r0.2.2.2.2.1+r1.2.2.2.2.1))+(IntKind.wrap .i64 (Int.tdiv (IntKind.wrap .i64 ((IntKind.wrap .i64 (r0.2.2.2.1+r1.2.2.2.1))+(IntKind.wrap .i64 (Int.tdiv (IntKind.wrap .i64 ((IntKind.wrap .i64 (r0.2.2.1+r1.2.2.1))+(IntKind.wrap .i64 (Int.tdiv (IntKind.wrap .i64 ((IntKind.wrap .i64 (r0.2.1+r1.2.1))+(IntKind.wrap .i64 (Int.tdiv (IntKind.wrap .i64 ((IntKind.wrap .i64 (r0.1+r1.1))+0)) (256:Int))))) (256:Int))))) (256:Int))))) (256:Int))))) (256:Int))))) (256:Int))))) (256:Int))))) (256:Int))))) (256:Int))))) (256:Int))))) (256:Int))))) (256:Int))))) (256:Int))))) (256:Int))))) (256:Int))))) (256:Int)))))) (
 some ((0,0),1)) (
 a0a (b1c n ((Int.tmod (IntKind.wrap .i64 ((IntKind.wrap .i64 (r0.1+r1.1))+0)) (256:Int)),((Int.tmod (IntKind.wrap .i64 ((IntKind.wrap .i64 (r0.2.1+r1.2.1))+(IntKind.wrap .i64 (Int.tdiv (IntKind.wrap .i64 ((IntKind.wrap .i64 (r0.1+r1.1))+0)) (256:Int))))) (256:Int)),((Int.tmod (IntKind.wrap .i64 ((IntKind.wrap .i64 (r0.2.2.1+r1.2.2.1))+(IntKind.wrap .i64 (Int.tdiv (IntKind.wrap .i64 ((IntKind.wrap .i64 (r0.2.1+r1.2.1))+(IntKind.wrap .i64 (Int.tdiv (IntKind.wrap .i64 ((IntKind.wrap .i64 (r0.1+r1.1))+0)) (256:Int))))) (256:Int))))) (256:Int)),((Int.tmod (IntKind.wrap .i64 ((IntKind.wrap .i64 (r0.2.2.2.1+r1.2.2.2.1))+(IntKind.wrap .i64 (Int.tdiv (IntKind.wrap .i64 ((IntKind.wrap .i64 (r0.2.2.1+r1.2.2.1))+(IntKind.wrap .i64 (Int.tdiv (IntKind.wrap .i64 ((IntKind.wrap .i64 (r0.2.1+r1.2.1))+(IntKind.wrap .i64 (Int.tdiv (IntKind.wrap .i64 ((IntKind.wrap .i64 (r0.1+r1.1))+0)) (256:Int))))) (256:Int))))) (256:Int))))) (256:Int)),((Int.tmod (IntKind.wrap .i64 ((IntKind.wrap .i64 (r0.2.2.2.2.1+r1.2.2.2.2.1))+(IntKind.wrap .i64 (Int.tdiv (IntKind.wrap .i64 ((IntKind.wrap .i64 (r0.2.2.2.1+r1.2.2.2.1))+(IntKind.wrap .i64 (Int.tdiv (IntKind.wrap .i64 ((IntKind.wrap .i64 (r0.2.2.1+r1.2.2.1))+(IntKind.wrap .i64 (Int.tdiv (IntKind.wrap .i64 ((IntKind.wrap .i64 (r0.2.1+r1.2.1))+(IntKind.wrap .i64 (Int.tdiv (IntKind.wrap .i64 ((IntKind.wrap .i64 (r0.1+r1.1))+0)) (256:Int))))) (256:Int))))) (256:Int))))) (256:Int))))) (256:Int)),((Int.tmod (IntKind.wrap .i64 ((IntKind.wrap .i64 (r0.2.2.2.2.2.1+r1.2.2.2.2.2.1))+(IntKind.wrap .i64 (Int.tdiv (IntKind.wrap .i64 ((IntKind.wrap .i64 (r0.2.2.2.2.1+r1.2.2.2.2.1))+(IntKind.wrap .i64 (Int.tdiv (IntKind.wrap .i64 ((IntKind.wrap .i64 (r0.2.2.2.1+r1.2.2.2.1))+(IntKind.wrap .i64 (Int.tdiv (IntKind.wrap .i64 ((IntKind.wrap .i64 (r0.2.2.1+r1.2.2.1))+(IntKind.wrap .i64 (Int.tdiv (IntKind.wrap .i64 ((IntKind.wrap .i64 (r0.2.1+r1.2.1))+(IntKind.wrap .i64 (Int.tdiv (IntKind.wrap .i64 ((IntKind.wrap .i64 (r0.1+r1.1))+0)) (256:Int))))) (256:Int))))) (256:Int))))) (256:Int))))) (256:Int))))) (256:Int)),((Int.tmod (IntKind.wrap .i64 ((IntKind.wrap .i64 (r0.2.2.2.2.2.2.1+r1.2.2.2.2.2.2.1))+(IntKind.wrap .i64 (Int.tdiv (IntKind.wrap .i64 ((IntKind.wrap .i64 (r0.2.2.2.2.2.1+r1.2.2.2.2.2.1))+(IntKind.wrap .i64 (Int.tdiv (IntKind.wrap .i64 ((IntKind.wrap .i64 (r0.2.2.2.2.1+r1.2.2.2.2.1))+(IntKind.wrap .i64 (Int.tdiv (IntKind.wrap .i64 ((IntKind.wrap .i64 (r0.2.2.2.1+r1.2.2.2.1))+(IntKind.wrap .i64 (Int.tdiv (IntKind.wrap .i64 ((IntKind.wrap .i64 (r0.2.2.1+r1.2.2.1))+(IntKind.wrap .i64 (Int.tdiv (IntKind.wrap .i64 ((IntKind.wrap .i64 (r0.2.1+r1.2.1))+(IntKind.wrap .i64 (Int.tdiv (IntKind.wrap .i64 ((IntKind.wrap .i64 (r0.1+r1.1))+0)) (256:Int))))) (256:Int))))) (256:Int))))) (256:Int))))) (256:Int))))) (256:Int))))) (256:Int)),((Int.tmod (IntKind.wrap .i64 ((IntKind.wrap .i64 (r0.2.2.2.2.2.2.2.1+r1.2.2.2.2.2.2.2.1))+(IntKind.wrap .i64 (Int.tdiv (IntKind.wrap .i64 ((IntKind.wrap .i64 (r0.2.2.2.2.2.2.1+r1.2.2.2.2.2.2.1))+(IntKind.wrap .i64 (Int.tdiv (IntKind.wrap .i64 ((IntKind.wrap .i64 (r0.2.2.2.2.2.1+r1.2.2.2.2.2.1))+(IntKind.wrap .i64 (Int.tdiv (IntKind.wrap .i64 ((IntKind.wrap .i64 (r0.2.2.2.2.1+r1.2.2.2.2.1))+(IntKind.wrap .i64 (Int.tdiv (IntKind.wrap .i64 ((IntKind.wrap .i64 (r0.2.2.2.1+r1.2.2.2.1))+(IntKind.wrap .i64 (Int.tdiv (IntKind.wrap .i64 ((IntKind.wrap .i64 (r0.2.2.1+r1.2.2.1))+(IntKind.wrap .i64 (Int.tdiv (IntKind.wrap .i64 ((IntKind.wrap .i64 (r0.2.1+r1.2.1))+(IntKind.wrap .i64 (Int.tdiv (IntKind.wrap .i64 ((IntKind.wrap .i64 (r0.1+r1.1))+0)) (256:Int))))) (256:Int))))) (256:Int))))) (256:Int))))) (256:Int))))) (256:Int))))) (256:Int))))) (256:Int)),((Int.tmod (IntKind.wrap .i64 ((IntKind.wrap .i64 (r0.2.2.2.2.2.2.2.2.1+r1.2.2.2.2.2.2.2.2.1))+(IntKind.wrap .i64 (Int.tdiv (IntKind.wrap .i64 ((IntKind.wrap .i64 (r0.2.2.2.2.2.2.2.1+r1.2.2.2.2.2.2.2.1))+(IntKind.wrap .i64 (Int.tdiv (IntKind.wrap .i64 ((IntKind.wrap .i64 (r0.2.2.2.2.2.2.1+r1.2.2.2.2.2.2.1))+(IntKind.wrap .i64 (Int.tdiv (IntKind.wrap .i64 ((IntKind.wrap .i64 (r0.2.2.2.2.2.1+r1.2.2.2.2.2.1))+(IntKind.wrap .i64 (Int.tdiv (IntKind.wrap .i64 ((IntKind.wrap .i64 (r0.2.2.2.2.1+r1.2.2.2.2.1))+(IntKind.wrap .i64 (Int.tdiv (IntKind.wrap .i64 ((IntKind.wrap .i64 (r0.2.2.2.1+r1.2.2.2.1))+(IntKind.wrap .i64 (Int.tdiv (IntKind.wrap .i64 ((IntKind.wrap .i64 (r0.2.2.1+r1.2.2.1))+(IntKind.wrap .i64 (Int.tdiv (IntKind.wrap .i64 ((IntKind.wrap .i64 (r0.2.1+r1.2.1))+(IntKind.wrap .i64 (Int.tdiv (IntKind.wrap .i64 ((IntKind.wrap .i64 (r0.1+r1.1))+0)) (256:Int))))) (256:Int))))) (256:Int))))) (256:Int))))) (256:Int))))) (256:Int))))) (256:Int))))) (256:Int))))) (256:Int)),((Int.tmod (IntKind.wrap .i64 ((IntKind.wrap .i64 (r0.2.2.2.2.2.2.2.2.2.1+r1.2.2.2.2.2.2.2.2.2.1))+(IntKind.wrap .i64 (Int.tdiv (IntKind.wrap .i64 ((IntKind.wrap .i64 (r0.2.2.2.2.2.2.2.2.1+r1.2.2.2.2.2.2.2.2.1))+(IntKind.wrap .i64 (Int.tdiv (IntKind.wrap .i64 ((IntKind.wrap .i64 (r0.2.2.2.2.2.2.2.1+r1.2.2.2.2.2.2.2.1))+(IntKind.wrap .i64 (Int.tdiv (IntKind.wrap .i64 ((IntKind.wrap .i64 (r0.2.2.2.2.2.2.1+r1.2.2.2.2.2.2.1))+(IntKind.wrap .i64 (Int.tdiv (IntKind.wrap .i64 ((IntKind.wrap .i64 (r0.2.2.2.2.2.1+r1.2.2.2.2.2.1))+(IntKind.wrap .i64 (Int.tdiv (IntKind.wrap .i64 ((IntKind.wrap .i64 (r0.2.2.2.2.1+r1.2.2.2.2.1))+(IntKind.wrap .i64 (Int.tdiv (IntKind.wrap .i64 ((IntKind.wrap .i64 (r0.2.2.2.1+r1.2.2.2.1))+(IntKind.wrap .i64 (Int.tdiv (IntKind.wrap .i64 ((IntKind.wrap .i64 (r0.2.2.1+r1.2.2.1))+(IntKind.wrap .i64 (Int.tdiv (IntKind.wrap .i64 ((IntKind.wrap .i64 (r0.2.1+r1.2.1))+(IntKind.wrap .i64 (Int.tdiv (IntKind.wrap .i64 ((IntKind.wrap .i64 (r0.1+r1.1))+0)) (256:Int))))) (256:Int))))) (256:Int))))) (256:Int))))) (256:Int))))) (256:Int))))) (256:Int))))) (256:Int))))) (256:Int))))) (256:Int)),((Int.tmod (IntKind.wrap .i64 ((IntKind.wrap .i64 (r0.2.2.2.2.2.2.2.2.2.2.1+r1.2.2.2.2.2.2.2.2.2.2.1))+(IntKind.wrap .i64 (Int.tdiv (IntKind.wrap .i64 ((IntKind.wrap .i64 (r0.2.2.2.2.2.2.2.2.2.1+r1.2.2.2.2.2.2.2.2.2.1))+(IntKind.wrap .i64 (Int.tdiv (IntKind.wrap .i64 ((IntKind.wrap .i64 (r0.2.2.2.2.2.2.2.2.1+r1.2.2.2.2.2.2.2.2.1))+(IntKind.wrap .i64 (Int.tdiv (IntKind.wrap .i64 ((IntKind.wrap .i64 (r0.2.2.2.2.2.2.2.1+r1.2.2.2.2.2.2.2.1))+(IntKind.wrap .i64 (Int.tdiv (IntKind.wrap .i64 ((IntKind.wrap .i64 (r0.2.2.2.2.2.2.1+r1.2.2.2.2.2.2.1))+(IntKind.wrap .i64 (Int.tdiv (IntKind.wrap .i64 ((IntKind.wrap .i64 (r0.2.2.2.2.2.1+r1.2.2.2.2.2.1))+(IntKind.wrap .i64 (Int.tdiv (IntKind.wrap .i64 ((IntKind.wrap .i64 (r0.2.2.2.2.1+r1.2.2.2.2.1))+(IntKind.wrap .i64 (Int.tdiv (IntKind.wrap .i64 ((IntKind.wrap .i64 (r0.2.2.2.1+r1.2.2.2.1))+(IntKind.wrap .i64 (Int.tdiv (IntKind.wrap .i64 ((IntKind.wrap .i64 (r0.2.2.1+r1.2.2.1))+(IntKind.wrap .i64 (Int.tdiv (IntKind.wrap .i64 ((IntKind.wrap .i64 (r0.2.1+r1.2.1))+(IntKind.wrap .i64 (Int.tdiv (IntKind.wrap .i64 ((IntKind.wrap .i64 (r0.1+r1.1))+0)) (256:Int))))) (256:Int))))) (256:Int))))) (256:Int))))) (256:Int))))) (256:Int))))) (256:Int))))) (256:Int))))) (256:Int))))) (256:Int))))) (256:Int)),((Int.tmod (IntKind.wrap .i64 ((IntKind.wrap .i64 (r0.2.2.2.2.2.2.2.2.2.2.2.1+r1.2.2.2.2.2.2.2.2.2.2.2.1))+(IntKind.wrap .i64 (Int.tdiv (IntKind.wrap .i64 ((IntKind.wrap .i64 (r0.2.2.2.2.2.2.2.2.2.2.1+r1.2.2.2.2.2.2.2.2.2.2.1))+(IntKind.wrap .i64 (Int.tdiv (IntKind.wrap .i64 ((IntKind.wrap .i64 (r0.2.2.2.2.2.2.2.2.2.1+r1.2.2.2.2.2.2.2.2.2.1))+(IntKind.wrap .i64 (Int.tdiv (IntKind.wrap .i64 ((IntKind.wrap .i64 (r0.2.2.2.2.2.2.2.2.1+r1.2.2.2.2.2.2.2.2.1))+(IntKind.wrap .i64 (Int.tdiv (IntKind.wrap .i64 ((IntKind.wrap .i64 (r0.2.2.2.2.2.2.2.1+r1.2.2.2.2.2.2.2.1))+(IntKind.wrap .i64 (Int.tdiv (IntKind.wrap .i64 ((IntKind.wrap .i64 (r0.2.2.2.2.2.2.1+r1.2.2.2.2.2.2.1))+(IntKind.wrap .i64 (Int.tdiv (IntKind.wrap .i64 ((IntKind.wrap .i64 (r0.2.2.2.2.2.1+r1.2.2.2.2.2.1))+(IntKind.wrap .i64 (Int.tdiv (IntKind.wrap .i64 ((IntKind.wrap .i64 (r0.2.2.2.2.1+r1.2.2.2.2.1))+(IntKind.wrap .i64 (Int.tdiv (IntKind.wrap .i64 ((IntKind.wrap .i64 (r0.2.2.2.1+r1.2.2.2.1))+(IntKind.wrap .i64 (Int.tdiv (IntKind.wrap .i64 ((IntKind.wrap .i64 (r0.2.2.1+r1.2.2.1))+(IntKind.wrap .i64 (Int.tdiv (IntKind.wrap .i64 ((IntKind.wrap .i64 (r0.2.1+r1.2.1))+(IntKind.wrap .i64 (Int.tdiv (IntKind.wrap .i64 ((IntKind.wrap .i64 (r0.1+r1.1))+0)) (256:Int))))) (256:Int))))) (256:Int))))) (256:Int))))) (256:Int))))) (256:Int))))) (256:Int))))) (256:Int))))) (256:Int))))) (256:Int))))) (256:Int))))) (256:Int)),((Int.tmod (IntKind.wrap .i64 ((IntKind.wrap .i64 (r0.2.2.2.2.2.2.2.2.2.2.2.2.1+r1.2.2.2.2.2.2.2.2.2.2.2.2.1))+(IntKind.wrap .i64 (Int.tdiv (IntKind.wrap .i64 ((IntKind.wrap .i64 (r0.2.2.2.2.2.2.2.2.2.2.2.1+r1.2.2.2.2.2.2.2.2.2.2.2.1))+(IntKind.wrap .i64 (Int.tdiv (IntKind.wrap .i64 ((IntKind.wrap .i64 (r0.2.2.2.2.2.2.2.2.2.2.1+r1.2.2.2.2.2.2.2.2.2.2.1))+(IntKind.wrap .i64 (Int.tdiv (IntKind.wrap .i64 ((IntKind.wrap .i64 (r0.2.2.2.2.2.2.2.2.2.1+r1.2.2.2.2.2.2.2.2.2.1))+(IntKind.wrap .i64 (Int.tdiv (IntKind.wrap .i64 ((IntKind.wrap .i64 (r0.2.2.2.2.2.2.2.2.1+r1.2.2.2.2.2.2.2.2.1))+(IntKind.wrap .i64 (Int.tdiv (IntKind.wrap .i64 ((IntKind.wrap .i64 (r0.2.2.2.2.2.2.2.1+r1.2.2.2.2.2.2.2.1))+(IntKind.wrap .i64 (Int.tdiv (IntKind.wrap .i64 ((IntKind.wrap .i64 (r0.2.2.2.2.2.2.1+r1.2.2.2.2.2.2.1))+(IntKind.wrap .i64 (Int.tdiv (IntKind.wrap .i64 ((IntKind.wrap .i64 (r0.2.2.2.2.2.1+r1.2.2.2.2.2.1))+(IntKind.wrap .i64 (Int.tdiv (IntKind.wrap .i64 ((IntKind.wrap .i64 (r0.2.2.2.2.1+r1.2.2.2.2.1))+(IntKind.wrap .i64 (Int.tdiv (IntKind.wrap .i64 ((IntKind.wrap .i64 (r0.2.2.2.1+r1.2.2.2.1))+(IntKind.wrap .i64 (Int.tdiv (IntKind.wrap .i64 ((IntKind.wrap .i64 (r0.2.2.1+r1.2.2.1))+(IntKind.wrap .i64 (Int.tdiv (IntKind.wrap .i64 ((IntKind.wrap .i64 (r0.2.1+r1.2.1))+(IntKind.wrap .i64 (Int.tdiv (IntKind.wrap .i64 ((IntKind.wrap .i64 (r0.1+r1.1))+0)) (256:Int))))) (256:Int))))) (256:Int))))) (256:Int))))) (256:Int))))) (256:Int))))) (256:Int))))) (256:Int))))) (256:Int))))) (256:Int))))) (256:Int))))) (256:Int))))) (256:Int)),((Int.tmod (IntKind.wrap .i64 ((IntKind.wrap .i64 (r0.2.2.2.2.2.2.2.2.2.2.2.2.2.1+r1.2.2.2.2.2.2.2.2.2.2.2.2.2.1))+(IntKind.wrap .i64 (Int.tdiv (IntKind.wrap .i64 ((IntKind.wrap .i64 (r0.2.2.2.2.2.2.2.2.2.2.2.2.1+r1.2.2.2.2.2.2.2.2.2.2.2.2.1))+(IntKind.wrap .i64 (Int.tdiv (IntKind.wrap .i64 ((IntKind.wrap .i64 (r0.2.2.2.2.2.2.2.2.2.2.2.1+r1.2.2.2.2.2.2.2.2.2.2.2.1))+(IntKind.wrap .i64 (Int.tdiv (IntKind.wrap .i64 ((IntKind.wrap .i64 (r0.2.2.2.2.2.2.2.2.2.2.1+r1.2.2.2.2.2.2.2.2.2.2.1))+(IntKind.wrap .i64 (Int.tdiv (IntKind.wrap .i64 ((IntKind.wrap .i64 (r0.2.2.2.2.2.2.2.2.2.1+r1.2.2.2.2.2.2.2.2.2.1))+(IntKind.wrap .i64 (Int.tdiv (IntKind.wrap .i64 ((IntKind.wrap .i64 (r0.2.2.2.2.2.2.2.2.1+r1.2.2.2.2.2.2.2.2.1))+(IntKind.wrap .i64 (Int.tdiv (IntKind.wrap .i64 ((IntKind.wrap .i64 (r0.2.2.2.2.2.2.2.1+r1.2.2.2.2.2.2.2.1))+(IntKind.wrap .i64 (Int.tdiv (IntKind.wrap .i64 ((IntKind.wrap .i64 (r0.2.2.2.2.2.2.1+r1.2.2.2.2.2.2.1))+(IntKind.wrap .i64 (Int.tdiv (IntKind.wrap .i64 ((IntKind.wrap .i64 (r0.2.2.2.2.2.1+r1.2.2.2.2.2.1))+(IntKind.wrap .i64 (Int.tdiv (IntKind.wrap .i64 ((IntKind.wrap .i64 (r0.2.2.2.2.1+r1.2.2.2.2.1))+(IntKind.wrap .i64 (Int.tdiv (IntKind.wrap .i64 ((IntKind.wrap .i64 (r0.2.2.2.1+r1.2.2.2.1))+(IntKind.wrap .i64 (Int.tdiv (IntKind.wrap .i64 ((IntKind.wrap .i64 (r0.2.2.1+r1.2.2.1))+(IntKind.wrap .i64 (Int.tdiv (IntKind.wrap .i64 ((IntKind.wrap .i64 (r0.2.1+r1.2.1))+(IntKind.wrap .i64 (Int.tdiv (IntKind.wrap .i64 ((IntKind.wrap .i64 (r0.1+r1.1))+0)) (256:Int))))) (256:Int))))) (256:Int))))) (256:Int))))) (256:Int))))) (256:Int))))) (256:Int))))) (256:Int))))) (256:Int))))) (256:Int))))) (256:Int))))) (256:Int))))) (256:Int))))) (256:Int)),((Int.tmod (IntKind.wrap .i64 ((IntKind.wrap .i64 (r0.2.2.2.2.2.2.2.2.2.2.2.2.2.2.1+r1.2.2.2.2.2.2.2.2.2.2.2.2.2.2.1))+(IntKind.wrap .i64 (Int.tdiv (IntKind.wrap .i64 ((IntKind.wrap .i64 (r0.2.2.2.2.2.2.2.2.2.2.2.2.2.1+r1.2.2.2.2.2.2.2.2.2.2.2.2.2.1))+(IntKind.wrap .i64 (Int.tdiv (IntKind.wrap .i64 ((IntKind.wrap .i64 (r0.2.2.2.2.2.2.2.2.2.2.2.2.1+r1.2.2.2.2.2.2.2.2.2.2.2.2.1))+(IntKind.wrap .i64 (Int.tdiv (IntKind.wrap .i64 ((IntKind.wrap .i64 (r0.2.2.2.2.2.2.2.2.2.2.2.1+r1.2.2.2.2.2.2.2.2.2.2.2.1))+(IntKind.wrap .i64 (Int.tdiv (IntKind.wrap .i64 ((IntKind.wrap .i64 (r0.2.2.2.2.2.2.2.2.2.2.1+r1.2.2.2.2.2.2.2.2.2.2.1))+(IntKind.wrap .i64 (Int.tdiv (IntKind.wrap .i64 ((IntKind.wrap .i64 (r0.2.2.2.2.2.2.2.2.2.1+r1.2.2.2.2.2.2.2.2.2.1))+(IntKind.wrap .i64 (Int.tdiv (IntKind.wrap .i64 ((IntKind.wrap .i64 (r0.2.2.2.2.2.2.2.2.1+r1.2.2.2.2.2.2.2.2.1))+(IntKind.wrap .i64 (Int.tdiv (IntKind.wrap .i64 ((IntKind.wrap .i64 (r0.2.2.2.2.2.2.2.1+r1.2.2.2.2.2.2.2.1))+(IntKind.wrap .i64 (Int.tdiv (IntKind.wrap .i64 ((IntKind.wrap .i64 (r0.2.2.2.2.2.2.1+r1.2.2.2.2.2.2.1))+(IntKind.wrap .i64 (Int.tdiv (IntKind.wrap .i64 ((IntKind.wrap .i64 (r0.2.2.2.2.2.1+r1.2.2.2.2.2.1))+(IntKind.wrap .i64 (Int.tdiv (IntKind.wrap .i64 ((IntKind.wrap .i64 (r0.2.2.2.2.1+r1.2.2.2.2.1))+(IntKind.wrap .i64 (Int.tdiv (IntKind.wrap .i64 ((IntKind.wrap .i64 (r0.2.2.2.1+r1.2.2.2.1))+(IntKind.wrap .i64 (Int.tdiv (IntKind.wrap .i64 ((IntKind.wrap .i64 (r0.2.2.1+r1.2.2.1))+(IntKind.wrap .i64 (Int.tdiv (IntKind.wrap .i64 ((IntKind.wrap .i64 (r0.2.1+r1.2.1))+(IntKind.wrap .i64 (Int.tdiv (IntKind.wrap .i64 ((IntKind.wrap .i64 (r0.1+r1.1))+0)) (256:Int))))) (256:Int))))) (256:Int))))) (256:Int))))) (256:Int))))) (256:Int))))) (256:Int))))) (256:Int))))) (256:Int))))) (256:Int))))) (256:Int))))) (256:Int))))) (256:Int))))) (256:Int))))) (256:Int)),(Int.tmod (IntKind.wrap .i64 ((IntKind.wrap .i64 (r0.2.2.2.2.2.2.2.2.2.2.2.2.2.2.2+r1.2.2.2.2.2.2.2.2.2.2.2.2.2.2.2))+(IntKind.wrap .i64 (Int.tdiv (IntKind.wrap .i64 ((IntKind.wrap .i64 (r0.2.2.2.2.2.2.2.2.2.2.2.2.2.2.1+r1.2.2.2.2.2.2.2.2.2.2.2.2.2.2.1))+(IntKind.wrap .i64 (Int.tdiv (IntKind.wrap .i64 ((IntKind.wrap .i64 (r0.2.2.2.2.2.2.2.2.2.2.2.2.2.1+r1.2.2.2.2.2.2.2.2.2.2.2.2.2.1))+(IntKind.wrap .i64 (Int.tdiv (IntKind.wrap .i64 ((IntKind.wrap .i64 (r0.2.2.2.2.2.2.2.2.2.2.2.2.1+r1.2.2.2.2.2.2.2.2.2.2.2.2.1))+(IntKind.wrap .i64 (Int.tdiv (IntKind.wrap .i64 ((IntKind.wrap .i64 (r0.2.2.2.2.2.2.2.2.2.2.2.1+r1.2.2.2.2.2.2.2.2.2.2.2.1))+(IntKind.wrap .i64 (Int.tdiv (IntKind.wrap .i64 ((IntKind.wrap .i64 (r0.2.2.2.2.2.2.2.2.2.2.1+r1.2.2.2.2.2.2.2.2.2.2.1))+(IntKind.wrap .i64 (Int.tdiv (IntKind.wrap .i64 ((IntKind.wrap .i64 (r0.2.2.2.2.2.2.2.2.2.1+r1.2.2.2.2.2.2.2.2.2.1))+(IntKind.wrap .i64 (Int.tdiv (IntKind.wrap .i64 ((IntKind.wrap .i64 (r0.2.2.2.2.2.2.2.2.1+r1.2.2.2.2.2.2.2.2.1))+(IntKind.wrap .i64 (Int.tdiv (IntKind.wrap .i64 ((IntKind.wrap .i64 (r0.2.2.2.2.2.2.2.1+r1.2.2.2.2.2.2.2.1))+(IntKind.wrap .i64 (Int.tdiv (IntKind.wrap .i64 ((IntKind.wrap .i64 (r0.2.2.2.2.2.2.1+r1.2.2.2.2.2.2.1))+(IntKind.wrap .i64 (Int.tdiv (IntKind.wrap .i64 ((IntKind.wrap .i64 (r0.2.2.2.2.2.1+r1.2.2.2.2.2.1))+(IntKind.wrap .i64 (Int.tdiv (IntKind.wrap .i64 ((IntKind.wrap .i64 (r0.2.2.2.2.1+r1.2.2.2.2.1))+(IntKind.wrap .i64 (Int.tdiv (IntKind.wrap .i64 ((IntKind.wrap .i64 (r0.2.2.2.1+r1.2.2.2.1))+(IntKind.wrap .i64 (Int.tdiv (IntKind.wrap .i64 ((IntKind.wrap .i64 (r0.2.2.1+r1.2.2.1))+(IntKind.wrap .i64 (Int.tdiv (IntKind.wrap .i64 ((IntKind.wrap .i64 (r0.2.1+r1.2.1))+(IntKind.wrap .i64 (Int.tdiv (IntKind.wrap .i64 ((IntKind.wrap .i64 (r0.1+r1.1))+0)) (256:Int))))) (256:Int))))) (256:Int))))) (256:Int))))) (256:Int))))) (256:Int))))) (256:Int))))) (256:Int))))) (256:Int))))) (256:Int))))) (256:Int))))) (256:Int))))) (256:Int))))) (256:Int))))) (256:Int))))) (256:Int)))))))))))))))))) fun r2 =>
 some (r2,0)):=by kernel_rfl
theorem s1x (n:Nat) (s:((List a0d)×((List a0d)×(List a0d)))):e1v (n+1) s =
 a0a (d0z n a0b (s,(0,()))) fun r0 =>
 b0c (fun y1 =>
 some (1:Int)) (fun z2 =>
 some z2) r0:=by kernel_rfl
theorem i0l (n f:Nat) (s_:((List a0d)×((List a0d)×(List a0d)))) (s4:Int):d0z n (f+1) (s_,s4,()) =
 tif ((decide (s4<3))) (
 tif ((decide (s4=0))) (
 tif ((decide ((40:Int)<(((List.length s_.1):Nat):Int)))) (
 some (.inr (0:Int))) (
 d0z n f (s_,((IntKind.wrap .i64 (s4+1)),())))) (
 tif ((decide (s4=1))) (
 tif ((decide ((40:Int)<(((List.length s_.2.1):Nat):Int)))) (
 some (.inr (0:Int))) (
 d0z n f (s_,((IntKind.wrap .i64 (s4+1)),())))) (
 tif ((decide (s4=2))) (
 tif ((decide ((40:Int)<(((List.length s_.2.2):Nat):Int)))) (
 some (.inr (0:Int))) (
 d0z n f (s_,((IntKind.wrap .i64 (s4+1)),())))) (
 none)))) (
 some (.inl ())):=by kernel_rfl
theorem l1y (n:Nat) (a:(Int×Int)):k0t (n+1) a =
 some ((decide (a.1=0))&&(decide (a.2=0))):=by kernel_rfl
theorem q1t (n:Nat) (a:(Int×Int)) (b:(Int×Int)):d1r (n+1) a b =
 a0a (k0t n a) fun r0 =>
 tif (r0) (
 some ((orI .u64 a.1 b.1),(orI .u64 a.2 b.2))) (
 a0a (k0t n b) fun r1 =>
 tif (r1) (
 some ((orI .u64 a.1 b.1),(orI .u64 a.2 b.2))) (
 a0a (g0e n a) fun r2 =>
 a0a (g0e n b) fun r3 =>
 a0a (g0e n a) fun r4 =>
 a0a (t0m n a r4) fun r5 =>
 a0a (d0f n a0b (r5,(b,((0,0),((if r3<r2 then r3 else r2),()))))) fun r6 =>
 b0c (fun y7 =>
 a0a (w0z n y7.1 y7.2.2.1) fun r8 =>
 some r8) (fun z9 =>
 some z9) r6)):=by kernel_rfl
theorem l0o (n f:Nat) (a_:(Int×Int)) (b_:(Int×Int)) (s4:(Int×Int)) (twos:Int):d0f n (f+1) (a_,b_,s4,twos,()) =
 a0a (k0t n b_) fun r0 =>
 tif ((!r0)) (
 a0a (g0e n b_) fun r1 =>
 a0a (t0m n b_ r1) fun r2 =>
 a0a (b0z n r2 a_) fun r3 =>
 tif (r3) (
 a0a (i0x n a_ r2) fun r4 =>
 d0f n f (r2,(r4,(s4,(twos,()))))) (
 a0a (i0x n r2 a_) fun r5 =>
 d0f n f (a_,(r5,(s4,(twos,())))))) (
 some (.inl (a_,(s4,(twos,()))))):=by kernel_rfl
theorem r1a (n:Nat) (s:a0p):r0r (n+1) s =
 a0a (i0h n s.1) fun r0 =>
 tif ((decide (r0=0))) (
 some (decide ((((List.length s.2.2.2):Nat):Int)=s.1.2.2.2.1))) (
 some false):=by kernel_rfl
theorem w1g (n:Nat) (t:Int):x0f (n+1) t =
 tif ((decide ((0:Int)≤t))) (
 some (decide (t<35184372088832))) (
 some false):=by kernel_rfl
theorem w1i (n:Nat) (s:a0p):x0g (n+1) s =
 a0a (r0r n s) fun r0 =>
 tif ((!r0)) (
 some (0:Int)) (
 a0a (x0f n s.2.1) fun r1 =>
 tif ((!r1)) (
 some (0:Int)) (
 tif ((decide (s.1.2.1.1=0))) (
 none) (
 some (IntKind.wrap .i64 ((IntKind.wrap .i64 (Int.tdiv s.2.1 s.1.2.1.1))*s.1.2.1.1))))):=by kernel_rfl
theorem r1d (n:Nat) (s:a0x):x0h (n+1) s =
 a0a (x0i n s ([],(0,((0,(0,[])),(([],([],[])),(0,(0,((0,(0,(0,false))),((0,(0,(0,false))),((0,0),(0,(0,0)))))))))))) fun r0 =>
 some r0:=by kernel_rfl
theorem r1f (n:Nat) (c:a0z) (s:a0x):l0u (n+1) c s =
 a0a (i0h n c) fun r0 =>
 tif ((!(decide (r0=0)))) (
 some (2:Int)) (
 a0a (x0u n s.1) fun r1 =>
 tif ((!(decide (r1=0)))) (
 some (2:Int)) (
 a0a (e1a n s.2.2.1 c.1) fun r2 =>
 tif ((!(decide (r2=0)))) (
 some (2:Int)) (
 a0a (d1x n c s.2.2.2.1) fun r3 =>
 tif ((!(decide (r3=0)))) (
 some (2:Int)) (
 tif ((decide (s.2.1=((-1):Int)))) (
 tif ((decide ((0:Int)<(((List.length s.2.2.1.2.2):Nat):Int)))) (
 some (2:Int)) (
 tif ((!((decide (s.2.2.2.2.1=0))&&((decide (s.2.2.2.2.2.1=0))&&((decide (s.2.2.2.2.2.2.1.1=0))&&((decide (s.2.2.2.2.2.2.1.2.1=0))&&((decide (s.2.2.2.2.2.2.1.2.2.1=0))&&((s.2.2.2.2.2.2.1.2.2.2==false)&&((decide (s.2.2.2.2.2.2.2.1.1=0))&&((decide (s.2.2.2.2.2.2.2.1.2.1=0))&&((decide (s.2.2.2.2.2.2.2.1.2.2.1=0))&&((s.2.2.2.2.2.2.2.1.2.2.2==false)&&((decide (s.2.2.2.2.2.2.2.2.1.1=0))&&((decide (s.2.2.2.2.2.2.2.2.1.2=0))&&((decide (s.2.2.2.2.2.2.2.2.2.1=0))&&((decide (s.2.2.2.2.2.2.2.2.2.2.1=0))&&(decide (s.2.2.2.2.2.2.2.2.2.2.2=0)))))))))))))))))) (
 some (2:Int)) (
 a0a (f0t n a0b (s,(0,()))) fun r4 =>
 b0c (fun y5 =>
 some (0:Int)) (fun z6 =>
 some z6) r4))) (
 a0a (m1k n s.2.2.1) fun r7 =>
 tif ((!(decide (r7.2=0)))) (
 some (2:Int)) (
 tif ((!(decide (r7.1.1=s.2.1)))) (
 some (2:Int)) (
 a0a (c1l n s.2.2.2.2.2 c.2.1.1 s.2.2.2.2.1) fun r8 =>
 tif ((!r8)) (
 some (2:Int)) (
 tif ((!(decide (s.2.2.2.2.2.2.2.1.1=s.2.1)))) (
 some (2:Int)) (
 a0a (e0s n a0b (c,(s,(0,())))) fun r9 =>
 b0c (fun y10 =>
 some (0:Int)) (fun z11 =>
 some z11) r9))))))))):=by kernel_rfl
theorem i0f (n f:Nat) (s_:a0x) (k:Int):f0t n (f+1) (s_,k,()) =
 tif ((decide (k<3))) (
 tif ((decide (k=0))) (
 a0a (q0a n s_.2.2.2.1.1) fun r0 =>
 tif ((decide ((0:Int)<(((List.length r0):Nat):Int)))) (
 some (.inr (2:Int))) (
 f0t n f (s_,((IntKind.wrap .i64 (k+1)),())))) (
 tif ((decide (k=1))) (
 a0a (q0a n s_.2.2.2.1.2.1) fun r1 =>
 tif ((decide ((0:Int)<(((List.length r1):Nat):Int)))) (
 some (.inr (2:Int))) (
 f0t n f (s_,((IntKind.wrap .i64 (k+1)),())))) (
 tif ((decide (k=2))) (
 a0a (q0a n s_.2.2.2.1.2.2) fun r2 =>
 tif ((decide ((0:Int)<(((List.length r2):Nat):Int)))) (
 some (.inr (2:Int))) (
 f0t n f (s_,((IntKind.wrap .i64 (k+1)),())))) (
 none)))) (
 some (.inl ())):=by kernel_rfl
theorem g0w (n f:Nat) (c_:a0z) (s_:a0x) (k_:Int):e0s n (f+1) (c_,s_,k_,()) =
 tif ((decide (k_<3))) (
 tif ((decide (k_=0))) (
 a0a (q0a n s_.2.2.2.1.1) fun r0 =>
 a0a (b0y n a0b (c_,(s_,(k_,(r0,((((List.length r0):Nat):Int),(0,()))))))) fun r1 =>
 b0c (fun y2 =>
 e0s n f (y2.1,(y2.2.1,((IntKind.wrap .i64 (y2.2.2.1+1)),())))) (fun z3 =>
 some (.inr z3)) r1) (
 tif ((decide (k_=1))) (
 a0a (q0a n s_.2.2.2.1.2.1) fun r4 =>
 a0a (b0y n a0b (c_,(s_,(k_,(r4,((((List.length r4):Nat):Int),(0,()))))))) fun r5 =>
 b0c (fun y6 =>
 e0s n f (y6.1,(y6.2.1,((IntKind.wrap .i64 (y6.2.2.1+1)),())))) (fun z7 =>
 some (.inr z7)) r5) (
 tif ((decide (k_=2))) (
 a0a (q0a n s_.2.2.2.1.2.2) fun r8 =>
 a0a (b0y n a0b (c_,(s_,(k_,(r8,((((List.length r8):Nat):Int),(0,()))))))) fun r9 =>
 b0c (fun y10 =>
 e0s n f (y10.1,(y10.2.1,((IntKind.wrap .i64 (y10.2.2.1+1)),())))) (fun z11 =>
 some (.inr z11)) r9) (
 none)))) (
 some (.inl ())):=by kernel_rfl
theorem d0t (n f:Nat) (c_:a0z) (s_:a0x) (k_:Int) (s106:(List a0d)) (s107:Int) (s108:Int):b0y n (f+1) (c_,s_,k_,s106,s107,s108,()) =
 tif ((decide (s108<s107))) (
 a0a (at? s106 s108) fun r0 =>
 tif ((decide (k_=0))) (
 tif ((decide (c_.2.1.1=0))) (
 none) (
 tif ((decide ((IntKind.wrap .i64 (Int.tdiv s_.2.1 c_.2.1.1))≤r0.1))) (
 some (.inr (2:Int))) (
 b0y n f (c_,(s_,(k_,(s106,(s107,((IntKind.wrap .i64 (s108+1)),()))))))))) (
 tif ((decide (k_=1))) (
 tif ((decide (c_.2.1.2.1=0))) (
 none) (
 tif ((decide ((IntKind.wrap .i64 (Int.tdiv s_.2.1 c_.2.1.2.1))≤r0.1))) (
 some (.inr (2:Int))) (
 b0y n f (c_,(s_,(k_,(s106,(s107,((IntKind.wrap .i64 (s108+1)),()))))))))) (
 tif ((decide (k_=2))) (
 tif ((decide (c_.2.1.2.2=0))) (
 none) (
 tif ((decide ((IntKind.wrap .i64 (Int.tdiv s_.2.1 c_.2.1.2.2))≤r0.1))) (
 some (.inr (2:Int))) (
 b0y n f (c_,(s_,(k_,(s106,(s107,((IntKind.wrap .i64 (s108+1)),()))))))))) (
 none)))) (
 some (.inl (c_,(s_,(k_,()))))):=by kernel_rfl
theorem r1b (n:Nat) (s:a0p) (i:Int):r0t (n+1) s i =
 a0a (at? s.2.2.2 i) fun r0 =>
 a0a (x0h n r0) fun r1 =>
 tif ((!r1)) (
 tif ((decide (s.2.2.1=((-1):Int)))) (
 some true) (
 a0a (at? s.2.2.2 i) fun r2 =>
 a0a (m1i n s.1 r2.2.1 s.2.2.1) fun r3 =>
 some (!r3))) (
 some false):=by kernel_rfl
theorem x1f (n:Nat) (a:(List (List UInt8×List UInt8))) (b:(List (List UInt8×List UInt8))):x0t (n+1) a b =
 tif ((!(decide ((((List.length a):Nat):Int)=(((List.length b):Nat):Int))))) (
 some false) (
 a0a (l0w n a0b (a,(b,((((List.length a):Nat):Int),(0,()))))) fun r0 =>
 b0c (fun y1 =>
 some true) (fun z2 =>
 some z2) r0):=by kernel_rfl
theorem j0g (n f:Nat) (a:(List (List UInt8×List UInt8))) (b:(List (List UInt8×List UInt8))) (s12:Int) (s13:Int):l0w n (f+1) (a,b,s12,s13,()) =
 tif ((decide (s13<s12))) (
 a0a (at? a s13) fun r0 =>
 a0a (at? b s13) fun r1 =>
 tif ((!((r0.1==r1.1)&&(r0.2==r1.2)))) (
 some (.inr false)) (
 l0w n f (a,(b,(s12,((IntKind.wrap .i64 (s13+1)),())))))) (
 some (.inl ())):=by kernel_rfl
theorem d2i (n:Nat) (a:(Int×Int)) (b:(Int×Int)):x1h (n+1) a b =
 a0a (t0q n a0b (a,(b,((0,0),())))) fun r0 =>
 b0c (fun y1 =>
 some y1.1) (fun z2 =>
 some z2) r0:=by kernel_rfl
theorem q0c (n f:Nat) (a_:(Int×Int)) (b_:(Int×Int)) (s4:(Int×Int)):t0q n (f+1) (a_,b_,s4,()) =
 tif ((!((decide (b_.1=0))&&(decide (b_.2=0))))) (
 a0a (s0g n a_ b_) fun r0 =>
 t0q n f (b_,(r0.2,(s4,())))) (
 some (.inl (a_,(s4,())))):=by kernel_rfl
theorem r1t (n:Nat) (l:(List (List UInt8×List UInt8))):x0u (n+1) l =
 tif ((decide ((((List.length l):Nat):Int)<1))) (
 some (8:Int)) (
 tif ((decide ((16:Int)<(((List.length l):Nat):Int)))) (
 some (8:Int)) (
 a0a (h0o n a0b (l,(0,(l,((((List.length l):Nat):Int),(0,())))))) fun r0 =>
 b0c (fun y1 =>
 tif ((decide ((256:Int)<y1.1))) (
 some (8:Int)) (
 some (0:Int))) (fun z2 =>
 some z2) r0)):=by kernel_rfl
theorem s0e (n f:Nat) (l:(List (List UInt8×List UInt8))) (all:Int) (s14:(List (List UInt8×List UInt8))) (s15:Int) (s16:Int):h0o n (f+1) (l,all,s14,s15,s16,()) =
 tif ((decide (s16<s15))) (
 a0a (at? s14 s16) fun r0 =>
 a0a (m1o n r0.1) fun r1 =>
 tif ((!r1)) (
 some (.inr (8:Int))) (
 tif ((decide ((128:Int)<(((List.length r0.2):Nat):Int)))) (
 some (.inr (8:Int))) (
 tif ((decide ((0:Int)<s16))) (
 a0a (at? l (IntKind.wrap .i64 (s16-1))) fun r2 =>
 tif ((!(Go.Op.bytesLess r2.1 r0.1))) (
 some (.inr (8:Int))) (
 h0o n f (l,((IntKind.wrap .i64 (all+(IntKind.wrap .i64 ((((List.length r0.1):Nat):Int)+(((List.length r0.2):Nat):Int))))),(s14,(s15,((IntKind.wrap .i64 (s16+1)),()))))))) (
 h0o n f (l,((IntKind.wrap .i64 (all+(IntKind.wrap .i64 ((((List.length r0.1):Nat):Int)+(((List.length r0.2):Nat):Int))))),(s14,(s15,((IntKind.wrap .i64 (s16+1)),()))))))))) (
 some (.inl (all,()))):=by kernel_rfl
theorem w1x (n:Nat) (a:Int) (b:Int) (w:Int):f0k (n+1) a b w =
 a0a (e1c n w) fun r0 =>
 tif ((!r0)) (
 some (0,(0,1))) (
 tif ((decide (a<0))) (
 some (0,(0,1))) (
 tif ((decide ((35184372088832:Int)<b))) (
 some (0,(0,1))) (
 tif ((decide (b≤a))) (
 some (0,(0,1))) (
 tif ((decide (w=0))) (
 none) (
 tif ((!(decide ((Int.tmod a w)=0)))) (
 some (0,(0,10))) (
 tif ((decide (w=0))) (
 none) (
 tif ((!(decide ((Int.tmod b w)=0)))) (
 some (0,(0,10))) (
 tif ((decide (w=0))) (
 none) (
 tif ((decide (w=0))) (
 none) (
 some ((IntKind.wrap .i64 (Int.tdiv a w)),((IntKind.wrap .i64 (Int.tdiv b w)),0)))))))))))):=by kernel_rfl
theorem g1i (n:Nat) (c:a0z) (s:a0x) (i:Int) (j:Int):f0s (n+1) c s (0:Int) i j =
 a0a (l0u n c s) fun r0 =>
 tif ((!(decide (r0=0)))) (
 some ((0,((0,(0,(0,false))),((0,(0,(0,false))),((0,0),(0,(0,0)))))),2)) (
 tif ((decide (i<0))) (
 some ((0,((0,(0,(0,false))),((0,(0,(0,false))),((0,0),(0,(0,0)))))),1)) (
 tif ((decide (j<i))) (
 some ((0,((0,(0,(0,false))),((0,(0,(0,false))),((0,0),(0,(0,0)))))),1)) (
 tif ((decide (s.2.1=((-1):Int)))) (
 some ((0,((0,(0,(0,false))),((0,(0,(0,false))),((0,0),(0,(0,0)))))),0)) (
 tif ((decide (c.2.1.1=0))) (
 none) (
 a0a (p0z n s.2.2.2.1.1 i (if i<(if (IntKind.wrap .i64 (Int.tdiv s.2.1 c.2.1.1))<j then (IntKind.wrap .i64 (Int.tdiv s.2.1 c.2.1.1)) else j) then (if (IntKind.wrap .i64 (Int.tdiv s.2.1 c.2.1.1))<j then (IntKind.wrap .i64 (Int.tdiv s.2.1 c.2.1.1)) else j) else i)) fun r1 =>
 tif ((!(decide (r1.2=0)))) (
 some r1) (
 tif ((decide ((IntKind.wrap .i64 (Int.tdiv s.2.1 c.2.1.1))<i))) (
 some r1) (
 tif ((decide (j≤(IntKind.wrap .i64 (Int.tdiv s.2.1 c.2.1.1))))) (
 some r1) (
 a0a (j0u n c s (0:Int) (IntKind.wrap .i64 (Int.tdiv s.2.1 c.2.1.1))) fun r2 =>
 tif ((!(decide (r2.2=0)))) (
 some ((0,((0,(0,(0,false))),((0,(0,(0,false))),((0,0),(0,(0,0)))))),r2.2)) (
 a0a (j0o n r1.1 r2.1) fun r3 =>
 some r3))))))))):=by kernel_rfl
theorem g1h (n:Nat) (c:a0z) (s:a0x) (i:Int) (j:Int):f0s (n+1) c s (1:Int) i j =
 a0a (l0u n c s) fun r0 =>
 tif ((!(decide (r0=0)))) (
 some ((0,((0,(0,(0,false))),((0,(0,(0,false))),((0,0),(0,(0,0)))))),2)) (
 tif ((decide (i<0))) (
 some ((0,((0,(0,(0,false))),((0,(0,(0,false))),((0,0),(0,(0,0)))))),1)) (
 tif ((decide (j<i))) (
 some ((0,((0,(0,(0,false))),((0,(0,(0,false))),((0,0),(0,(0,0)))))),1)) (
 tif ((decide (s.2.1=((-1):Int)))) (
 some ((0,((0,(0,(0,false))),((0,(0,(0,false))),((0,0),(0,(0,0)))))),0)) (
 tif ((decide (c.2.1.2.1=0))) (
 none) (
 a0a (p0z n s.2.2.2.1.2.1 i (if i<(if (IntKind.wrap .i64 (Int.tdiv s.2.1 c.2.1.2.1))<j then (IntKind.wrap .i64 (Int.tdiv s.2.1 c.2.1.2.1)) else j) then (if (IntKind.wrap .i64 (Int.tdiv s.2.1 c.2.1.2.1))<j then (IntKind.wrap .i64 (Int.tdiv s.2.1 c.2.1.2.1)) else j) else i)) fun r1 =>
 tif ((!(decide (r1.2=0)))) (
 some r1) (
 tif ((decide ((IntKind.wrap .i64 (Int.tdiv s.2.1 c.2.1.2.1))<i))) (
 some r1) (
 tif ((decide (j≤(IntKind.wrap .i64 (Int.tdiv s.2.1 c.2.1.2.1))))) (
 some r1) (
 a0a (j0u n c s (1:Int) (IntKind.wrap .i64 (Int.tdiv s.2.1 c.2.1.2.1))) fun r2 =>
 tif ((!(decide (r2.2=0)))) (
 some ((0,((0,(0,(0,false))),((0,(0,(0,false))),((0,0),(0,(0,0)))))),r2.2)) (
 a0a (j0o n r1.1 r2.1) fun r3 =>
 some r3))))))))):=by kernel_rfl
theorem g1g (n:Nat) (c:a0z) (s:a0x) (i:Int) (j:Int):f0s (n+1) c s (2:Int) i j =
 a0a (l0u n c s) fun r0 =>
 tif ((!(decide (r0=0)))) (
 some ((0,((0,(0,(0,false))),((0,(0,(0,false))),((0,0),(0,(0,0)))))),2)) (
 tif ((decide (i<0))) (
 some ((0,((0,(0,(0,false))),((0,(0,(0,false))),((0,0),(0,(0,0)))))),1)) (
 tif ((decide (j<i))) (
 some ((0,((0,(0,(0,false))),((0,(0,(0,false))),((0,0),(0,(0,0)))))),1)) (
 tif ((decide (s.2.1=((-1):Int)))) (
 some ((0,((0,(0,(0,false))),((0,(0,(0,false))),((0,0),(0,(0,0)))))),0)) (
 tif ((decide (c.2.1.2.2=0))) (
 none) (
 a0a (p0z n s.2.2.2.1.2.2 i (if i<(if (IntKind.wrap .i64 (Int.tdiv s.2.1 c.2.1.2.2))<j then (IntKind.wrap .i64 (Int.tdiv s.2.1 c.2.1.2.2)) else j) then (if (IntKind.wrap .i64 (Int.tdiv s.2.1 c.2.1.2.2))<j then (IntKind.wrap .i64 (Int.tdiv s.2.1 c.2.1.2.2)) else j) else i)) fun r1 =>
 tif ((!(decide (r1.2=0)))) (
 some r1) (
 tif ((decide ((IntKind.wrap .i64 (Int.tdiv s.2.1 c.2.1.2.2))<i))) (
 some r1) (
 tif ((decide (j≤(IntKind.wrap .i64 (Int.tdiv s.2.1 c.2.1.2.2))))) (
 some r1) (
 a0a (j0u n c s (2:Int) (IntKind.wrap .i64 (Int.tdiv s.2.1 c.2.1.2.2))) fun r2 =>
 tif ((!(decide (r2.2=0)))) (
 some ((0,((0,(0,(0,false))),((0,(0,(0,false))),((0,0),(0,(0,0)))))),r2.2)) (
 a0a (j0o n r1.1 r2.1) fun r3 =>
 some r3))))))))):=by kernel_rfl
end Go.Proofs.YtgkpkajaepphjaaGreatDoor
