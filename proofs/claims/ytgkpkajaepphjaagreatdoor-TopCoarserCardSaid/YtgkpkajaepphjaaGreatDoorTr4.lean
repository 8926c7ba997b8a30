/- Trees, printed by program. -/
import Derived.Test.YtgkpkajaepphjaaGreatDoorTr0
import Derived.KernelRfl
set_option linter.unusedVariables false
namespace Go.Proofs.YtgkpkajaepphjaaGreatDoor
open Go.Flat
theorem w1f (n:Nat) (s:a0l):p0n (n+1) s =
 a0a (c0z n s.1) fun r0 =>
 tif ((!(decide (r0=0)))) (
 some (((0,((0,(0,0)),((0,(0,0)),(0,0)))),(0,(0,[]))),2)) (
 tif ((!(decide ((((List.length s.2.2.2):Nat):Int)=s.1.2.2.2.1)))) (
 some (((0,((0,(0,0)),((0,(0,0)),(0,0)))),(0,(0,[]))),2)) (
 some (s,0))):=by kernel_rfl
theorem z0l (n:Nat) (v:a0l):n0e (n+1) v =
 a0a (w0k n v.2.1) fun r0 =>
 tif (r0) (
 tif ((decide (v.2.2.1=((-1):Int)))) (
 some (decide (v.2.2.1≤v.2.1))) (
 a0a (w0k n v.2.2.1) fun r1 =>
 tif (r1) (
 some (decide (v.2.2.1≤v.2.1))) (
 some false))) (
 some false):=by kernel_rfl
theorem z0j (n:Nat) (v:a0l) (is:((Int×Unit)→Option Bool)):d0q (n+1) v is =
 a0a (c0g n a0b (is,((((List.length v.2.2.2):Nat):Int),(0,())))) fun r0 =>
 b0i (fun y1 =>
 some ((-1):Int)) (fun z2 =>
 some z2) r0:=by kernel_rfl
theorem k0a (n f:Nat) (is:((Int×Unit)→Option Bool)) (s9:Int) (s10:Int):c0g n (f+1) (is,s9,s10,()) =
 tif ((decide (s10<s9))) (
 a0a (is (s10,())) fun r0 =>
 tif (r0) (
 some (.inr s10)) (
 c0g n f (is,(s9,((IntKind.wrap .i64 (s10+1)),()))))) (
 some (.inl ())):=by kernel_rfl
theorem i1d (n:Nat) (i:Int) (p1:a0l):e0h (n+1) i p1 =
 a0a (m0z n p1 i) fun r0 =>
 some (!r0):=by kernel_rfl
theorem z0i (n:Nat) (v:a0l) (i:Int):m0z (n+1) v i =
 a0a (at? v.2.2.2 i) fun r0 =>
 a0a (w0l n r0) fun r1 =>
 tif (r1) (
 some true) (
 a0a (r0h n v.1 r0) fun r2 =>
 tif ((decide (r2=0))) (
 tif ((decide ((0:Int)≤r0.2.1))) (
 a0a (k0k n v) fun r3 =>
 tif ((decide (r0.2.1<(IntKind.wrap .i64 (r3+v.1.2.1.1))))) (
 a0a (p0m n v i) fun r4 =>
 some (!r4)) (
 some false)) (
 some false)) (
 some false)):=by kernel_rfl
theorem s1v (n:Nat) (s:a0l) (l:(List (List UInt8×List UInt8))):f1r (n+1) s l =
 a0a (f0g n s) fun r0 =>
 tif ((!(decide (r0=0)))) (
 some r0) (
 a0a (i0v n l) fun r1 =>
 some r1):=by kernel_rfl
theorem y1g (n:Nat) (s:a0l) (a:TAsk) (k:Int):n1n (n+1) s a k =
 a0a (m0k n s a.1) fun r0 =>
 tif ((!(decide (r0.2=0)))) (
 some ((0,((0,(0,(0,false))),((0,(0,(0,false))),((0,0),(0,(0,0)))))),0)) (
 tif ((decide (k=0))) (
 a0a (e0t n a.2.2.1 a.2.2.2 s.1.2.1.1) fun r1 =>
 tif ((!(decide (r1.2.2=0)))) (
 some ((0,((0,(0,(0,false))),((0,(0,(0,false))),((0,0),(0,(0,0)))))),r1.2.2)) (
 a0a (at? s.2.2.2 r0.1) fun r2 =>
 a0a (d0m n s.1 r2 k r1.1 r1.2.1) fun r3 =>
 some r3)) (
 tif ((decide (k=1))) (
 a0a (e0t n a.2.2.1 a.2.2.2 s.1.2.1.2.1) fun r4 =>
 tif ((!(decide (r4.2.2=0)))) (
 some ((0,((0,(0,(0,false))),((0,(0,(0,false))),((0,0),(0,(0,0)))))),r4.2.2)) (
 a0a (at? s.2.2.2 r0.1) fun r5 =>
 a0a (d0m n s.1 r5 k r4.1 r4.2.1) fun r6 =>
 some r6)) (
 tif ((decide (k=2))) (
 a0a (e0t n a.2.2.1 a.2.2.2 s.1.2.1.2.2) fun r7 =>
 tif ((!(decide (r7.2.2=0)))) (
 some ((0,((0,(0,(0,false))),((0,(0,(0,false))),((0,0),(0,(0,0)))))),r7.2.2)) (
 a0a (at? s.2.2.2 r0.1) fun r8 =>
 a0a (d0m n s.1 r8 k r7.1 r7.2.1) fun r9 =>
 some r9)) (
 none)))):=by kernel_rfl
theorem n1q (n:Nat) (c:b0a):a1f (n+1) c =
 tif ((decide (c.2.2.2.2.2.2<1))) (
 some (((0,0),(0,0)),12)) (
 a0a (z0w n c.2.2.2.1 (IntKind.wrap .u64 c.2.2.2.2.2.2)) fun r0 =>
 some r0):=by kernel_rfl
theorem d2g (n:Nat) (n_:Int):v0c (n+1) n_ =
 some (0,n_):=by kernel_rfl
theorem x0q (n:Nat) (s:a0l) (from_:Int) (to:Int):l0y (n+1) s from_ to =
 a0a (c0n n a0b (from_,(to,(s,(10,(1,())))))) fun r0 =>
 b0i (fun y1 =>
 some (0,y1.1)) (fun z2 =>
 some z2) r0:=by kernel_rfl
theorem j0o (n f:Nat) (from_:Int) (to:Int) (s_:a0l) (why:Int) (tier:Int):c0n n (f+1) (from_,to,s_,why,tier,()) =
 tif ((decide (tier≤3))) (
 a0a (x0s n s_ tier from_ to) fun r0 =>
 tif ((decide (r0=0))) (
 some (.inr (tier,0))) (
 tif ((decide (r0=10))) (
 c0n n f (from_,(to,(s_,(why,((IntKind.wrap .i64 (tier+1)),())))))) (
 tif ((decide (r0=11))) (
 c0n n f (from_,(to,(s_,(r0,((IntKind.wrap .i64 (tier+1)),())))))) (
 some (.inr (0,r0)))))) (
 some (.inl (why,()))):=by kernel_rfl
theorem s1t (n:Nat) (s:a0l) (tier:Int) (from_:Int) (to:Int):x0s (n+1) s tier from_ to =
 tif ((decide ((IntKind.wrap .i64 (tier-1))=0))) (
 a0a (e0t n from_ to s.1.2.1.1) fun r0 =>
 tif ((!(decide (r0.2.2=0)))) (
 some r0.2.2) (
 a0a (y0l n s (IntKind.wrap .i64 (tier-1))) fun r1 =>
 tif ((decide (r1.2.2=0))) (
 tif ((decide (r0.1<r1.1))) (
 some (11:Int)) (
 some r1.2.2)) (
 some r1.2.2))) (
 tif ((decide ((IntKind.wrap .i64 (tier-1))=1))) (
 a0a (e0t n from_ to s.1.2.1.2.1) fun r2 =>
 tif ((!(decide (r2.2.2=0)))) (
 some r2.2.2) (
 a0a (y0l n s (IntKind.wrap .i64 (tier-1))) fun r3 =>
 tif ((decide (r3.2.2=0))) (
 tif ((decide (r2.1<r3.1))) (
 some (11:Int)) (
 some r3.2.2)) (
 some r3.2.2))) (
 tif ((decide ((IntKind.wrap .i64 (tier-1))=2))) (
 a0a (e0t n from_ to s.1.2.1.2.2) fun r4 =>
 tif ((!(decide (r4.2.2=0)))) (
 some r4.2.2) (
 a0a (y0l n s (IntKind.wrap .i64 (tier-1))) fun r5 =>
 tif ((decide (r5.2.2=0))) (
 tif ((decide (r4.1<r5.1))) (
 some (11:Int)) (
 some r5.2.2)) (
 some r5.2.2))) (
 none))):=by kernel_rfl
theorem d2h (n:Nat) (a:Int) (b:Int) (w:Int):e0t (n+1) a b w =
 a0a (l1j n w) fun r0 =>
 tif ((!r0)) (
 some (0,(0,1))) (
 tif ((decide (a<0))) (
 some (0,(0,1))) (
 tif ((decide ((35184372088832:Int)<b))) (
 some (0,(0,1))) (
 tif ((decide (b≤a))) (
 some (0,(0,1))) (
 tif ((decide (w=0))) (
 none) (
 tif ((!(decide ((Int.tmod a w)=0)))) (
 some (0,(0,10))) (
 tif ((decide (w=0))) (
 none) (
 tif ((!(decide ((Int.tmod b w)=0)))) (
 some (0,(0,10))) (
 tif ((decide (w=0))) (
 none) (
 tif ((decide (w=0))) (
 none) (
 some ((IntKind.wrap .i64 (Int.tdiv a w)),((IntKind.wrap .i64 (Int.tdiv b w)),0)))))))))))):=by kernel_rfl
theorem w1j (n:Nat) (s:a0l) (l:(List (List UInt8×List UInt8))):m0k (n+1) s l =
 a0a (p0n n s) fun r0 =>
 tif ((!(decide (r0.2=0)))) (
 some (0,r0.2)) (
 a0a (d0q n r0.1 (fun y1=>f0s n y1.1 s l r0.1)) fun r2 =>
 tif ((decide (r2<0))) (
 some (0,3)) (
 some (r2,0))):=by kernel_rfl
theorem c1l (n:Nat) (c:a0o) (s:a0t) (i:Int):f0i (n+1) c s (0:Int) i =
 a0a (f0h n c s) fun r0 =>
 s0e (r0.1) (
 tif ((!(decide (r0.2=0)))) (
 some ((0,((0,(0,(0,false))),((0,(0,(0,false))),((0,0),(0,(0,0)))))),r0.2)) (
 tif ((decide (i<0))) (
 some ((0,((0,(0,(0,false))),((0,(0,(0,false))),((0,0),(0,(0,0)))))),1)) (
 tif ((decide (s.2.1=((-1):Int)))) (
 some ((0,((0,(0,(0,false))),((0,(0,(0,false))),((0,0),(0,(0,0)))))),0)) (
 tif ((decide (c.2.1.1=0))) (
 none) (
 tif ((decide ((IntKind.wrap .i64 (Int.tdiv s.2.1 c.2.1.1))<i))) (
 some ((0,((0,(0,(0,false))),((0,(0,(0,false))),((0,0),(0,(0,0)))))),0)) (
 tif ((decide (c.2.1.1=0))) (
 none) (
 tif ((decide (i=(IntKind.wrap .i64 (Int.tdiv s.2.1 c.2.1.1))))) (
 none) (
 a0a (m0i n s.2.2.2.1.1 i) fun r1 =>
 some (r1,0))))))))) fun r2 =>
 tif ((!(decide (r0.2=0)))) (
 some ((0,((0,(0,(0,false))),((0,(0,(0,false))),((0,0),(0,(0,0)))))),r0.2)) (
 tif ((decide (i<0))) (
 some ((0,((0,(0,(0,false))),((0,(0,(0,false))),((0,0),(0,(0,0)))))),1)) (
 tif ((decide (s.2.1=((-1):Int)))) (
 some ((0,((0,(0,(0,false))),((0,(0,(0,false))),((0,0),(0,(0,0)))))),0)) (
 tif ((decide (c.2.1.1=0))) (
 none) (
 tif ((decide ((IntKind.wrap .i64 (Int.tdiv s.2.1 c.2.1.1))<i))) (
 some ((0,((0,(0,(0,false))),((0,(0,(0,false))),((0,0),(0,(0,0)))))),0)) (
 tif ((decide (c.2.1.1=0))) (
 none) (
 tif ((decide (i=(IntKind.wrap .i64 (Int.tdiv s.2.1 c.2.1.1))))) (
 a0a (h0o n r2 (0:Int)) fun r3 =>
 some r3) (
 a0a (m0i n s.2.2.2.1.1 i) fun r4 =>
 some (r4,0)))))))):=by kernel_rfl
theorem c1k (n:Nat) (c:a0o) (s:a0t) (i:Int):f0i (n+1) c s (1:Int) i =
 a0a (f0h n c s) fun r0 =>
 s0e (r0.1) (
 tif ((!(decide (r0.2=0)))) (
 some ((0,((0,(0,(0,false))),((0,(0,(0,false))),((0,0),(0,(0,0)))))),r0.2)) (
 tif ((decide (i<0))) (
 some ((0,((0,(0,(0,false))),((0,(0,(0,false))),((0,0),(0,(0,0)))))),1)) (
 tif ((decide (s.2.1=((-1):Int)))) (
 some ((0,((0,(0,(0,false))),((0,(0,(0,false))),((0,0),(0,(0,0)))))),0)) (
 tif ((decide (c.2.1.2.1=0))) (
 none) (
 tif ((decide ((IntKind.wrap .i64 (Int.tdiv s.2.1 c.2.1.2.1))<i))) (
 some ((0,((0,(0,(0,false))),((0,(0,(0,false))),((0,0),(0,(0,0)))))),0)) (
 tif ((decide (c.2.1.2.1=0))) (
 none) (
 tif ((decide (i=(IntKind.wrap .i64 (Int.tdiv s.2.1 c.2.1.2.1))))) (
 none) (
 a0a (m0i n s.2.2.2.1.2.1 i) fun r1 =>
 some (r1,0))))))))) fun r2 =>
 tif ((!(decide (r0.2=0)))) (
 some ((0,((0,(0,(0,false))),((0,(0,(0,false))),((0,0),(0,(0,0)))))),r0.2)) (
 tif ((decide (i<0))) (
 some ((0,((0,(0,(0,false))),((0,(0,(0,false))),((0,0),(0,(0,0)))))),1)) (
 tif ((decide (s.2.1=((-1):Int)))) (
 some ((0,((0,(0,(0,false))),((0,(0,(0,false))),((0,0),(0,(0,0)))))),0)) (
 tif ((decide (c.2.1.2.1=0))) (
 none) (
 tif ((decide ((IntKind.wrap .i64 (Int.tdiv s.2.1 c.2.1.2.1))<i))) (
 some ((0,((0,(0,(0,false))),((0,(0,(0,false))),((0,0),(0,(0,0)))))),0)) (
 tif ((decide (c.2.1.2.1=0))) (
 none) (
 tif ((decide (i=(IntKind.wrap .i64 (Int.tdiv s.2.1 c.2.1.2.1))))) (
 a0a (h0o n r2 (1:Int)) fun r3 =>
 some r3) (
 a0a (m0i n s.2.2.2.1.2.1 i) fun r4 =>
 some (r4,0)))))))):=by kernel_rfl
theorem c1j (n:Nat) (c:a0o) (s:a0t) (i:Int):f0i (n+1) c s (2:Int) i =
 a0a (f0h n c s) fun r0 =>
 s0e (r0.1) (
 tif ((!(decide (r0.2=0)))) (
 some ((0,((0,(0,(0,false))),((0,(0,(0,false))),((0,0),(0,(0,0)))))),r0.2)) (
 tif ((decide (i<0))) (
 some ((0,((0,(0,(0,false))),((0,(0,(0,false))),((0,0),(0,(0,0)))))),1)) (
 tif ((decide (s.2.1=((-1):Int)))) (
 some ((0,((0,(0,(0,false))),((0,(0,(0,false))),((0,0),(0,(0,0)))))),0)) (
 tif ((decide (c.2.1.2.2=0))) (
 none) (
 tif ((decide ((IntKind.wrap .i64 (Int.tdiv s.2.1 c.2.1.2.2))<i))) (
 some ((0,((0,(0,(0,false))),((0,(0,(0,false))),((0,0),(0,(0,0)))))),0)) (
 tif ((decide (c.2.1.2.2=0))) (
 none) (
 tif ((decide (i=(IntKind.wrap .i64 (Int.tdiv s.2.1 c.2.1.2.2))))) (
 none) (
 a0a (m0i n s.2.2.2.1.2.2 i) fun r1 =>
 some (r1,0))))))))) fun r2 =>
 tif ((!(decide (r0.2=0)))) (
 some ((0,((0,(0,(0,false))),((0,(0,(0,false))),((0,0),(0,(0,0)))))),r0.2)) (
 tif ((decide (i<0))) (
 some ((0,((0,(0,(0,false))),((0,(0,(0,false))),((0,0),(0,(0,0)))))),1)) (
 tif ((decide (s.2.1=((-1):Int)))) (
 some ((0,((0,(0,(0,false))),((0,(0,(0,false))),((0,0),(0,(0,0)))))),0)) (
 tif ((decide (c.2.1.2.2=0))) (
 none) (
 tif ((decide ((IntKind.wrap .i64 (Int.tdiv s.2.1 c.2.1.2.2))<i))) (
 some ((0,((0,(0,(0,false))),((0,(0,(0,false))),((0,0),(0,(0,0)))))),0)) (
 tif ((decide (c.2.1.2.2=0))) (
 none) (
 tif ((decide (i=(IntKind.wrap .i64 (Int.tdiv s.2.1 c.2.1.2.2))))) (
 a0a (h0o n r2 (2:Int)) fun r3 =>
 some r3) (
 a0a (m0i n s.2.2.2.1.2.2 i) fun r4 =>
 some (r4,0)))))))):=by kernel_rfl
theorem x1i (n:Nat) (s:a0l) (l:(List (List UInt8×List UInt8))):a2u (n+1) s l =
 a0a (f1c n s) fun r0 =>
 tif ((!r0)) (
 some (0,2)) (
 a0a (d0t n a0b (l,(s,(s.2.2.2,((((List.length s.2.2.2):Nat):Int),(0,())))))) fun r1 =>
 b0i (fun y2 =>
 some (0,3)) (fun z3 =>
 some z3) r1):=by kernel_rfl
theorem u0s (n f:Nat) (l:(List (List UInt8×List UInt8))) (s_:a0l) (s12:(List a0t)) (s13:Int) (s14:Int):d0t n (f+1) (l,s_,s12,s13,s14,()) =
 tif ((decide (s14<s13))) (
 a0a (at? s12 s14) fun r0 =>
 a0a (f1d n s_ s14) fun r1 =>
 tif (r1) (
 a0a (d1e n r0.1 l) fun r2 =>
 tif (r2) (
 some (.inr (s14,0))) (
 d0t n f (l,(s_,(s12,(s13,((IntKind.wrap .i64 (s14+1)),()))))))) (
 d0t n f (l,(s_,(s12,(s13,((IntKind.wrap .i64 (s14+1)),()))))))) (
 some (.inl ())):=by kernel_rfl
theorem f1g (n:Nat) (c:a0o) (s:a0t) (k:Int) (i:Int):n1a (n+1) c s k i =
 a0a (f1f n c s) fun r0 =>
 tif ((!(decide (r0=0)))) (
 some ((0,((0,(0,(0,false))),((0,(0,(0,false))),((0,0),(0,(0,0)))))),2)) (
 tif ((decide (k<0))) (
 some ((0,((0,(0,(0,false))),((0,(0,(0,false))),((0,0),(0,(0,0)))))),1)) (
 tif ((decide ((2:Int)<k))) (
 some ((0,((0,(0,(0,false))),((0,(0,(0,false))),((0,0),(0,(0,0)))))),1)) (
 tif ((decide (i<0))) (
 some ((0,((0,(0,(0,false))),((0,(0,(0,false))),((0,0),(0,(0,0)))))),1)) (
 a0a (z0z n c s k i) fun r1 =>
 some r1)))):=by kernel_rfl
theorem c1s (n:Nat) (p:a0q) (c:a0q):k0p (n+1) p c =
 a0a (m0b n (p::(c::[]))) fun r0 =>
 tif ((!r0)) (
 some ((0,((0,(0,(0,false))),((0,(0,(0,false))),((0,0),(0,(0,0)))))),2)) (
 tif ((decide (c.1≤p.1))) (
 some ((0,((0,(0,(0,false))),((0,(0,(0,false))),((0,0),(0,(0,0)))))),9)) (
 tif (c.2.2.2) (
 some ((0,((0,(0,(0,false))),((0,(0,(0,false))),((0,0),(0,(0,0)))))),0)) (
 tif ((decide (p.1<c.2.2.1))) (
 a0a (t0s n c (IntKind.wrap .i64 (c.1-c.2.2.1))) fun r1 =>
 some (r1,0)) (
 tif (p.2.2.2) (
 some ((0,((0,(0,(0,false))),((0,(0,(0,false))),((0,0),(0,(1,0)))))),0)) (
 tif ((decide (c.2.1<p.2.1))) (
 a0a (t0s n c (IntKind.wrap .i64 (c.1-p.1))) fun r2 =>
 some (r2,0)) (
 a0a (v0c n (IntKind.wrap .u64 (c.2.1-p.2.1))) fun r3 =>
 some ((0,((0,(0,(0,false))),((0,(0,(0,false))),(r3,(0,(0,(IntKind.wrap .i64 (c.1-p.1)))))))),0))))))):=by kernel_rfl
theorem v1o (n:Nat) (a:(Int×Int)) (b:(Int×Int)):s0u (n+1) a b =
 tif (((decide ((0:Int)≤a.2))&&((decide ((0:Int)≤b.2))&&true))) (
 tif (((decide ((0:Int)≤a.1))&&((decide ((0:Int)≤b.1))&&((decide ((0:Int)≤(((a.2+b.2)+0) / (18446744073709551616:Int))))&&(decide ((((a.2+b.2)+0) / (18446744073709551616:Int))≤1)))))) (
 a0a (q0w n ((((a.1+b.1)+(((a.2+b.2)+0) / (18446744073709551616:Int))) % (18446744073709551616:Int)),(((a.2+b.2)+0) % (18446744073709551616:Int))) (((a.1+b.1)+(((a.2+b.2)+0) / (18446744073709551616:Int))) / (18446744073709551616:Int))) fun r0 =>
 some r0) (
 none)) (
 none):=by kernel_rfl
theorem f2d (n:Nat) (l:(List b0a)):x1x (n+1) l =
 a0a (o0e n a0b ((0,((0,(0,(0,false))),((0,(0,(0,false))),((0,0),(0,(0,0)))))),((0,((0,(0,(0,false))),((0,(0,(0,false))),((0,0),(0,(0,0)))))),(l,((((List.length l):Nat):Int),(0,())))))) fun r0 =>
 b0i (fun y1 =>
 some (y1.2.1,0)) (fun z2 =>
 some z2) r0:=by kernel_rfl
theorem x0m (n f:Nat) (s2:b0a) (c:b0a) (s9:(List b0a)) (s10:Int) (s11:Int):o0e n (f+1) (s2,c,s9,s10,s11,()) =
 tif ((decide (s11<s10))) (
 a0a (at? s9 s11) fun r0 =>
 a0a (x0l n c r0) fun r1 =>
 tif ((!(decide (r1.2=0)))) (
 some (.inr ((0,((0,(0,(0,false))),((0,(0,(0,false))),((0,0),(0,(0,0)))))),r1.2))) (
 o0e n f (s2,(r1.1,(s9,(s10,((IntKind.wrap .i64 (s11+1)),()))))))) (
 some (.inl (s2,(c,())))):=by kernel_rfl
theorem f2h (n:Nat) (a:(Int×Int)) (b:(Int×Int)):f1p (n+1) a b =
 a0a (k0m n a b) fun r0 =>
 tif (r0) (
 some ((0,0),1)) (
 a0a (g0i n a) fun r1 =>
 a0a (g0i n b) fun r2 =>
 tif ((decide (16=((((((((((((((((1+1)+1)+1)+1)+1)+1)+1)+1)+1)+1)+1)+1)+1)+1)+1) / 1)))) (
 tif ((decide (16=((((((((((((((((1+1)+1)+1)+1)+1)+1)+1)+1)+1)+1)+1)+1)+1)+1)+1) / 1)))) (
 a0a (k0y n a0b ((0,0),((r1.1::(r1.2.1::(r1.2.2.1::(r1.2.2.2.1::(r1.2.2.2.2.1::(r1.2.2.2.2.2.1::(r1.2.2.2.2.2.2.1::(r1.2.2.2.2.2.2.2.1::(r1.2.2.2.2.2.2.2.2.1::(r1.2.2.2.2.2.2.2.2.2.1::(r1.2.2.2.2.2.2.2.2.2.2.1::(r1.2.2.2.2.2.2.2.2.2.2.2.1::(r1.2.2.2.2.2.2.2.2.2.2.2.2.1::(r1.2.2.2.2.2.2.2.2.2.2.2.2.2.1::(r1.2.2.2.2.2.2.2.2.2.2.2.2.2.2.1::(r1.2.2.2.2.2.2.2.2.2.2.2.2.2.2.2::[])))))))))))))))),((r2.1::(r2.2.1::(r2.2.2.1::(r2.2.2.2.1::(r2.2.2.2.2.1::(r2.2.2.2.2.2.1::(r2.2.2.2.2.2.2.1::(r2.2.2.2.2.2.2.2.1::(r2.2.2.2.2.2.2.2.2.1::(r2.2.2.2.2.2.2.2.2.2.1::(r2.2.2.2.2.2.2.2.2.2.2.1::(r2.2.2.2.2.2.2.2.2.2.2.2.1::(r2.2.2.2.2.2.2.2.2.2.2.2.2.1::(r2.2.2.2.2.2.2.2.2.2.2.2.2.2.1::(r2.2.2.2.2.2.2.2.2.2.2.2.2.2.2.1::(r2.2.2.2.2.2.2.2.2.2.2.2.2.2.2.2::[])))))))))))))))),(0,(0,())))))) fun r3 =>
 b0i (fun y4 =>
 a0a ((y4.2.1)[0]?) fun r5 =>
 a0a ((y4.2.1)[1]?) fun r6 =>
 a0a ((y4.2.1)[2]?) fun r7 =>
 a0a ((y4.2.1)[3]?) fun r8 =>
 a0a ((y4.2.1)[4]?) fun r9 =>
 a0a ((y4.2.1)[5]?) fun r10 =>
 a0a ((y4.2.1)[6]?) fun r11 =>
 a0a ((y4.2.1)[7]?) fun r12 =>
 a0a ((y4.2.1)[8]?) fun r13 =>
 a0a ((y4.2.1)[9]?) fun r14 =>
 a0a ((y4.2.1)[10]?) fun r15 =>
 a0a ((y4.2.1)[11]?) fun r16 =>
 a0a ((y4.2.1)[12]?) fun r17 =>
 a0a ((y4.2.1)[13]?) fun r18 =>
 a0a ((y4.2.1)[14]?) fun r19 =>
 a0a ((y4.2.1)[15]?) fun r20 =>
 a0a (b1s n (r5,(r6,(r7,(r8,(r9,(r10,(r11,(r12,(r13,(r14,(r15,(r16,(r17,(r18,(r19,r20)))))))))))))))) fun r21 =>
 some (r21,0)) (fun z22 =>
 some z22) r3) (
 none)) (
 none)):=by kernel_rfl
theorem x0o (n f:Nat) (s4:(Int×Int)) (x:(List Int)) (y:(List Int)) (owed:Int) (s19:Int):k0y n (f+1) (s4,x,y,owed,s19,()) =
 tif ((decide (s19<16))) (
 tif (((decide ((0:Int)≤s19))&&((decide (s19<16))&&(decide (s19<(((List.length x):Nat):Int)))))) (
 a0a ((x)[(Int.toNat s19)]?) fun r0 =>
 tif (((decide ((0:Int)≤s19))&&((decide (s19<16))&&(decide (s19<(((List.length y):Nat):Int)))))) (
 a0a ((y)[(Int.toNat s19)]?) fun r1 =>
 tif ((decide ((IntKind.wrap .i64 ((IntKind.wrap .i64 (r0-r1))-owed))<0))) (
 tif (((decide ((0:Int)≤s19))&&((decide (s19<16))&&(decide (s19<(((List.length x):Nat):Int)))))) (
 a0a ((x)[(Int.toNat s19)]?) fun r2 =>
 k0y n f (s4,((List.set x (Int.toNat s19) (IntKind.wrap .i64 ((IntKind.wrap .i64 ((IntKind.wrap .i64 (r0-r1))-owed))+256))),(y,(1,((IntKind.wrap .i64 (s19+1)),())))))) (
 none)) (
 tif (((decide ((0:Int)≤s19))&&((decide (s19<16))&&(decide (s19<(((List.length x):Nat):Int)))))) (
 a0a ((x)[(Int.toNat s19)]?) fun r3 =>
 k0y n f (s4,((List.set x (Int.toNat s19) (IntKind.wrap .i64 ((IntKind.wrap .i64 (r0-r1))-owed))),(y,(0,((IntKind.wrap .i64 (s19+1)),())))))) (
 none))) (
 none)) (
 none)) (
 some (.inl (s4,(x,())))):=by kernel_rfl
theorem y1e (n:Nat) (a:(Int×Int)) (b:(Int×Int)):k0m (n+1) a b =
 a0a (g0i n a) fun r0 =>
 a0a (g0i n b) fun r1 =>
 tif ((!(decide (r0.2.2.2.2.2.2.2.2.2.2.2.2.2.2.2=r1.2.2.2.2.2.2.2.2.2.2.2.2.2.2.2)))) (
 some (decide (r0.2.2.2.2.2.2.2.2.2.2.2.2.2.2.2<r1.2.2.2.2.2.2.2.2.2.2.2.2.2.2.2))) (
 tif ((!(decide (r0.2.2.2.2.2.2.2.2.2.2.2.2.2.2.1=r1.2.2.2.2.2.2.2.2.2.2.2.2.2.2.1)))) (
 some (decide (r0.2.2.2.2.2.2.2.2.2.2.2.2.2.2.1<r1.2.2.2.2.2.2.2.2.2.2.2.2.2.2.1))) (
 tif ((!(decide (r0.2.2.2.2.2.2.2.2.2.2.2.2.2.1=r1.2.2.2.2.2.2.2.2.2.2.2.2.2.1)))) (
 some (decide (r0.2.2.2.2.2.2.2.2.2.2.2.2.2.1<r1.2.2.2.2.2.2.2.2.2.2.2.2.2.1))) (
 tif ((!(decide (r0.2.2.2.2.2.2.2.2.2.2.2.2.1=r1.2.2.2.2.2.2.2.2.2.2.2.2.1)))) (
 some (decide (r0.2.2.2.2.2.2.2.2.2.2.2.2.1<r1.2.2.2.2.2.2.2.2.2.2.2.2.1))) (
 tif ((!(decide (r0.2.2.2.2.2.2.2.2.2.2.2.1=r1.2.2.2.2.2.2.2.2.2.2.2.1)))) (
 some (decide (r0.2.2.2.2.2.2.2.2.2.2.2.1<r1.2.2.2.2.2.2.2.2.2.2.2.1))) (
 tif ((!(decide (r0.2.2.2.2.2.2.2.2.2.2.1=r1.2.2.2.2.2.2.2.2.2.2.1)))) (
 some (decide (r0.2.2.2.2.2.2.2.2.2.2.1<r1.2.2.2.2.2.2.2.2.2.2.1))) (
 tif ((!(decide (r0.2.2.2.2.2.2.2.2.2.1=r1.2.2.2.2.2.2.2.2.2.1)))) (
 some (decide (r0.2.2.2.2.2.2.2.2.2.1<r1.2.2.2.2.2.2.2.2.2.1))) (
 tif ((!(decide (r0.2.2.2.2.2.2.2.2.1=r1.2.2.2.2.2.2.2.2.1)))) (
 some (decide (r0.2.2.2.2.2.2.2.2.1<r1.2.2.2.2.2.2.2.2.1))) (
 tif ((!(decide (r0.2.2.2.2.2.2.2.1=r1.2.2.2.2.2.2.2.1)))) (
 some (decide (r0.2.2.2.2.2.2.2.1<r1.2.2.2.2.2.2.2.1))) (
 tif ((!(decide (r0.2.2.2.2.2.2.1=r1.2.2.2.2.2.2.1)))) (
 some (decide (r0.2.2.2.2.2.2.1<r1.2.2.2.2.2.2.1))) (
 tif ((!(decide (r0.2.2.2.2.2.1=r1.2.2.2.2.2.1)))) (
 some (decide (r0.2.2.2.2.2.1<r1.2.2.2.2.2.1))) (
 tif ((!(decide (r0.2.2.2.2.1=r1.2.2.2.2.1)))) (
 some (decide (r0.2.2.2.2.1<r1.2.2.2.2.1))) (
 tif ((!(decide (r0.2.2.2.1=r1.2.2.2.1)))) (
 some (decide (r0.2.2.2.1<r1.2.2.2.1))) (
 tif ((!(decide (r0.2.2.1=r1.2.2.1)))) (
 some (decide (r0.2.2.1<r1.2.2.1))) (
 tif ((!(decide (r0.2.1=r1.2.1)))) (
 some (decide (r0.2.1<r1.2.1))) (
 tif ((!(decide (r0.1=r1.1)))) (
 some (decide (r0.1<r1.1))) (
 some false)))))))))))))))):=by kernel_rfl
theorem s1q (n:Nat) (a:(Int×Int)) (n_:Int):o0g (n+1) a n_ =
 a0a (c0u n a0b (n_,(a,((0,0),((0,0),(false,())))))) fun r0 =>
 b0i (fun y1 =>
 some (y1.2.1,0)) (fun z2 =>
 some z2) r0:=by kernel_rfl
theorem i0a (n f:Nat) (n_:Int) (a_:(Int×Int)) (s4:(Int×Int)) (out:(Int×Int)) (over:Bool):c0u n (f+1) (n_,a_,s4,out,over,()) =
 tif ((decide ((0:Int)<n_))) (
 tif ((decide ((Int.tmod n_ (2:Int))=1))) (
 tif (over) (
 some (.inr ((0,0),1))) (
 a0a (n0m n out a_) fun r0 =>
 tif ((!(decide (r0.2=0)))) (
 some (.inr ((0,0),r0.2))) (
 a0a (n0m n a_ a_) fun r1 =>
 tif (over) (
 c0u n f ((IntKind.wrap .u64 (Int.tdiv n_ (2:Int))),(r1.1,(s4,(r0.1,(true,())))))) (
 c0u n f ((IntKind.wrap .u64 (Int.tdiv n_ (2:Int))),(r1.1,(s4,(r0.1,((!(decide (r1.2=0))),()))))))))) (
 a0a (n0m n a_ a_) fun r2 =>
 tif (over) (
 c0u n f ((IntKind.wrap .u64 (Int.tdiv n_ (2:Int))),(r2.1,(s4,(out,(true,())))))) (
 c0u n f ((IntKind.wrap .u64 (Int.tdiv n_ (2:Int))),(r2.1,(s4,(out,((!(decide (r2.2=0))),())))))))) (
 some (.inl (s4,(out,())))):=by kernel_rfl
theorem p1m (n:Nat) (a:b0a) (b:b0a):g0a (n+1) a b =
 a0a (p0b n a) fun r0 =>
 tif ((!(decide (r0=0)))) (
 some ((0,((0,(0,(0,false))),((0,(0,(0,false))),((0,0),(0,(0,0)))))),2)) (
 a0a (p0b n b) fun r1 =>
 tif ((!(decide (r1=0)))) (
 some ((0,((0,(0,(0,false))),((0,(0,(0,false))),((0,0),(0,(0,0)))))),2)) (
 a0a (s0n n a) fun r2 =>
 tif (r2) (
 some (b,0)) (
 a0a (s0n n b) fun r3 =>
 tif (r3) (
 some (a,0)) (
 a0a (u1w n a b) fun r4 =>
 some r4)))):=by kernel_rfl
theorem y0a (n:Nat) (x:Int) (y:Int):i0c (n+1) x y =
 some ((IntKind.wrap .u64 ((IntKind.wrap .u64 ((IntKind.wrap .u64 ((shrI .u64 x (32:Int))*(shrI .u64 y (32:Int))))+(shrI .u64 (IntKind.wrap .u64 ((IntKind.wrap .u64 ((shrI .u64 x (32:Int))*(andI .u64 y (4294967295:Int))))+(shrI .u64 (IntKind.wrap .u64 ((andI .u64 x (4294967295:Int))*(andI .u64 y (4294967295:Int)))) (32:Int)))) (32:Int))))+(shrI .u64 (IntKind.wrap .u64 ((andI .u64 (IntKind.wrap .u64 ((IntKind.wrap .u64 ((shrI .u64 x (32:Int))*(andI .u64 y (4294967295:Int))))+(shrI .u64 (IntKind.wrap .u64 ((andI .u64 x (4294967295:Int))*(andI .u64 y (4294967295:Int)))) (32:Int)))) (4294967295:Int))+(IntKind.wrap .u64 ((andI .u64 x (4294967295:Int))*(shrI .u64 y (32:Int)))))) (32:Int)))),(IntKind.wrap .u64 (x*y))):=by kernel_rfl
theorem p1x (n:Nat) (a:(Int×Int)) (over:Int):q0w (n+1) a over =
 tif ((!(decide (over=0)))) (
 some ((0,0),1)) (
 some (a,0)):=by kernel_rfl
theorem z0o (n:Nat) (s1:(List (List UInt8×List UInt8))) (s2:(List (List UInt8×List UInt8))):n0h (n+1) s1 s2 =
 tif ((!(decide ((((List.length s1):Nat):Int)=(((List.length s2):Nat):Int))))) (
 some false) (
 a0a (f0t n a0b (s1,(s2,((((List.length s1):Nat):Int),(0,()))))) fun r0 =>
 b0i (fun y1 =>
 some true) (fun z2 =>
 some z2) r0):=by kernel_rfl
theorem k0c (n f:Nat) (s1:(List (List UInt8×List UInt8))) (s2:(List (List UInt8×List UInt8))) (s12:Int) (s13:Int):f0t n (f+1) (s1,s2,s12,s13,()) =
 tif ((decide (s13<s12))) (
 a0a (at? s1 s13) fun r0 =>
 a0a (at? s2 s13) fun r1 =>
 tif ((!((r0.1==r1.1)&&(r0.2==r1.2)))) (
 some (.inr false)) (
 f0t n f (s1,(s2,(s12,((IntKind.wrap .i64 (s13+1)),())))))) (
 some (.inl ())):=by kernel_rfl
theorem f2i (n:Nat) (a:(Int×Int)) (b:(Int×Int)):n0m (n+1) a b =
 a0a (g0i n a) fun r0 =>
 a0a (g0i n b) fun r1 =>
 tif ((decide ((0:Int)<(IntKind.wrap .i64 (Int.tdiv (IntKind.wrap .i64 ((IntKind.wrap .i64 (r0.2.2.2.2.2.2.2.2.2.2.2.2.2.2.2+r1.2.2.2.2.2.2.2.2.2.2.2.2.2.2.2))+(IntKind.wrap .i64 (Int.tdiv (IntKind.wrap .i64 ((IntKind.wrap .i64 (r0.2.2.2.2.2.2.2.2.2.2.2.2.2.2.1+r1.2.2.2.2.2.2.2.2.2.2.2.2.2.2.1))+(IntKind.wrap .i64 (Int.tdiv (IntKind.wrap .i64 ((IntKind.wrap .i64 (r0.2.2.2.2.2.2.2.2.2.2.2.2.2.1+r1.2.2.2.2.2.2.2.2.2.2.2.2.2.1))+(IntKind.wrap .i64 (Int.tdiv (IntKind.wrap .i64 ((IntKind.wrap .i64 (r0.2.2.2.2.2.2.2.2.2.2.2.2.1+r1.2.2.2.2.2.2.2.2.2.2.2.2.1))+(IntKind.wrap .i64 (Int.tdiv (IntKind.wrap .i64 ((IntKind.wrap .i64 (r0.2.2.2.2.2.2.2.2.2.2.2.1+r1.2.2.2.2.2.2.2.2.2.2.2.1))+(IntKind.wrap .i64 (Int.tdiv (IntKind.wrap .i64 ((IntKind.wrap .i64 (r0.2.2.2.2.2.2.2.2.2.2.1+r1.2.2.2.2.2.2.2.2.2.2.1))+(IntKind.wrap .i64 (Int.tdiv (IntKind.wrap .i64 ((IntKind.wrap .i64 (r0.2.2.2.2.2.2.2.2.2.1+r1.2.2.2.2.2.2.2.2.2.1))+(IntKind.wrap .i64 (Int.tdiv (IntKind.wrap .i64 ((IntKind.wrap .i64 (r0.2.2.2.2.2.2.2.2.1+r1.2.2.2.2.2.2.2.2.1))+(IntKind.wrap .i64 (Int.tdiv (IntKind.wrap .i64 ((IntKind.wrap .i64 (r0.2.2.2.2.2.2.2.1+r1.2.2.2.2.2.2.2.1))+(IntKind.wrap .i64 (Int.tdiv (IntKind.wrap .i64 ((IntKind.wrap .i64 (r0.2.2.2.2.2.2.1+r1.2.2.2.2.2.2.1))+(IntKind.wrap .i64 (Int.tdiv (IntKind.wrap .i64 ((IntKind.wrap .i64 (r0.2.2.2.2.2.1+r1.2.2.2.2.2.1))+(IntKind.wrap .i64 (Int.tdiv (IntKind.wrap .i64 ((IntKind.wrap .i64 (r0.2.2.2.2.1+r1.2.2.2.2.1))+(IntKind.wrap .i64 (Int.tdiv (IntKind.wrap .i64 ((IntKind.wrap .i64 (r0.2.2.2.1+r1.2.2.2.1))+(IntKind.wrap .i64 (Int.tdiv (IntKind.wrap .i64 ((IntKind.wrap .i64 (r0.2.2.1+r1.2.2.1))+(IntKind.wrap .i64 (Int.tdiv (IntKind.wrap .i64 ((IntKind.wrap .i64 (r0.2.1+r1.2.1))+(IntKind.wrap .i64 (Int.tdiv (IntKind.wrap .i64 ((IntKind.wrap .i64 (r0.1+r1.1))+0)) (256:Int))))) (256:Int))))) (256:Int))))) (256:Int))))) (256:Int))))) (256:Int))))) (256:Int))))) (256:Int))))) (256:Int))))) (256:Int))))) (256:Int))))) (256:Int))))) (256:Int))))) (256:Int))))) (256:Int))))) (256:Int)))))) (
 some ((0,0),1)) (
 a0a (b1s n ((Int.tmod (IntKind.wrap .i64 ((IntKind.wrap .i64 (r0.1+r1.1))+0)) (256:Int)),((Int.tmod (IntKind.wrap .i64 ((IntKind.wrap .i64 (r0.2.1+r1.2.1))+(IntKind.wrap .i64 (Int.tdiv (IntKind.wrap .i64 ((IntKind.wrap .i64 (r0.1+r1.1))+0)) (256:Int))))) (256:Int)),((Int.tmod (IntKind.wrap .i64 ((IntKind.wrap .i64 (r0.2.2.1+r1.2.2.1))+(IntKind.wrap .i64 (Int.tdiv (IntKind.wrap .i64 ((IntKind.wrap .i64 (r0.2.1+r1.2.1))+(IntKind.wrap .i64 (Int.tdiv (IntKind.wrap .i64 ((IntKind.wrap .i64 (r0.1+r1.1))+0)) (256:Int))))) (256:Int))))) (256:Int)),((Int.tmod (IntKind.wrap .i64 ((IntKind.wrap .i64 (r0.2.2.2.1+r1.2.2.2.1))+(IntKind.wrap .i64 (Int.tdiv (IntKind.wrap .i64 ((IntKind.wrap .i64 (r0.2.2.1+r1.2.2.1))+(IntKind.wrap .i64 (Int.tdiv (IntKind.wrap .i64 ((IntKind.wrap .i64 (r0.2.1+r1.2.1))+(IntKind.wrap .i64 (Int.tdiv (IntKind.wrap .i64 ((IntKind.wrap .i64 (r0.1+r1.1))+0)) (256:Int))))) (256:Int))))) (256:Int))))) (256:Int)),((Int.tmod (IntKind.wrap .i64 ((IntKind.wrap .i64 (r0.2.2.2.2.1+r1.2.2.2.2.1))+(IntKind.wrap .i64 (Int.tdiv (IntKind.wrap .i64 ((IntKind.wrap .i64 (r0.2.2.2.1+r1.2.2.2.1))+(IntKind.wrap .i64 (Int.tdiv (IntKind.wrap .i64 ((IntKind.wrap .i64 (r0.2.2.1+r1.2.2.1))+(IntKind.wrap .i64 (Int.tdiv (IntKind.wrap .i64 ((IntKind.wrap .i64 (r0.2.1+r1.2.1))+(IntKind.wrap .i64 (Int.tdiv (IntKind.wrap .i64 ((IntKind.wrap .i64 (r0.1+r1.1))+0)) (256:Int))))) (256:Int))))) (256:Int))))) (256:Int))))) (256:Int)),((Int.tmod (IntKind.wrap .i64 ((IntKind.wrap .i64 (r0.2.2.2.2.2.1+r1.2.2.2.2.2.1))+(IntKind.wrap .i64 (Int.tdiv (IntKind.wrap .i64 ((IntKind.wrap .i64 (r0.2.2.2.2.1+r1.2.2.2.2.1))+(IntKind.wrap .i64 (Int.tdiv (IntKind.wrap .i64 ((IntKind.wrap .i64 (r0.2.2.2.1+r1.2.2.2.1))+(IntKind.wrap .i64 (Int.tdiv (IntKind.wrap .i64 ((IntKind.wrap .i64 (r0.2.2.1+r1.2.2.1))+(IntKind.wrap .i64 (Int.tdiv (IntKind.wrap .i64 ((IntKind.wrap .i64 (r0.2.1+r1.2.1))+(IntKind.wrap .i64 (Int.tdiv (IntKind.wrap .i64 ((IntKind.wrap .i64 (r0.1+r1.1))+0)) (256:Int))))) (256:Int))))) (256:Int))))) (256:Int))))) (256:Int))))) (256:Int)),((Int.tmod (IntKind.wrap .i64 ((IntKind.wrap .i64 (r0.2.2.2.2.2.2.1+r1.2.2.2.2.2.2.1))+(IntKind.wrap .i64 (Int.tdiv (IntKind.wrap .i64 ((IntKind.wrap .i64 (r0.2.2.2.2.2.1+r1.2.2.2.2.2.1))+(IntKind.wrap .i64 (Int.tdiv (IntKind.wrap .i64 ((IntKind.wrap .i64 (r0.2.2.2.2.1+r1.2.2.2.2.1))+(IntKind.wrap .i64 (Int.tdiv (IntKind.wrap .i64 ((IntKind.wrap .i64 (r0.2.2.2.1+r1.2.2.2.1))+(IntKind.wrap .i64 (Int.tdiv (IntKind.wrap .i64 ((IntKind.wrap .i64 (r0.2.2.1+r1.2.2.1))+(IntKind.wrap .i64 (Int.tdiv (IntKind.wrap .i64 ((IntKind.wrap .i64 (r0.2.1+r1.2.1))+(IntKind.wrap .i64 (Int.tdiv (IntKind.wrap .i64 ((IntKind.wrap .i64 (r0.1+r1.1))+0)) (256:Int))))) (256:Int))))) (256:Int))))) (256:Int))))) (256:Int))))) (256:Int))))) (256:Int)),((Int.tmod (IntKind.wrap .i64 ((IntKind.wrap .i64 (r0.2.2.2.2.2.2.2.1+r1.2.2.2.2.2.2.2.1))+(IntKind.wrap .i64 (Int.tdiv (IntKind.wrap .i64 ((IntKind.wrap .i64 (r0.2.2.2.2.2.2.1+r1.2.2.2.2.2.2.1))+(IntKind.wrap .i64 (Int.tdiv (IntKind.wrap .i64 ((IntKind.wrap .i64 (r0.2.2.2.2.2.1+r1.2.2.2.2.2.1))+(IntKind.wrap .i64 (Int.tdiv (IntKind.wrap .i64 ((IntKind.wrap .i64 (r0.2.2.2.2.1+r1.2.2.2.2.1))+(IntKind.wrap .i64 (Int.tdiv (IntKind.wrap .i64 ((IntKind.wrap .i64 (r0.2.2.2.1+r1.2.2.2.1))+(IntKind.wrap .i64 (Int.tdiv (IntKind.wrap .i64 ((IntKind.wrap .i64 (r0.2.2.1+r1.2.2.1))+(IntKind.wrap .i64 (Int.tdiv (IntKind.wrap .i64 ((IntKind.wrap .i64 (r0.2.1+r1.2.1))+(IntKind.wrap .i64 (Int.tdiv (IntKind.wrap .i64 ((IntKind.wrap .i64 (r0.1+r1.1))+0)) (256:Int))))) (256:Int))))) (256:Int))))) (256:Int))))) (256:Int))))) (256:Int))))) (256:Int))))) (256:Int)),((Int.tmod (IntKind.wrap .i64 ((IntKind.wrap .i64 (r0.2.2.2.2.2.2.2.2.1+r1.2.2.2.2.2.2.2.2.1))+(IntKind.wrap .i64 (Int.tdiv (IntKind.wrap .i64 ((IntKind.wrap .i64 (r0.2.2.2.2.2.2.2.1+r1.2.2.2.2.2.2.2.1))+(IntKind.wrap .i64 (Int.tdiv (IntKind.wrap .i64 ((IntKind.wrap .i64 (r0.2.2.2.2.2.2.1+r1.2.2.2.2.2.2.1))+(IntKind.wrap .i64 (Int.tdiv (IntKind.wrap .i64 ((IntKind.wrap .i64 (r0.2.2.2.2.2.1+r1.2.2.2.2.2.1))+(IntKind.wrap .i64 (Int.tdiv (IntKind.wrap .i64 ((IntKind.wrap .i64 (r0.2.2.2.2.1+r1.2.2.2.2.1))+(IntKind.wrap .i64 (Int.tdiv (IntKind.wrap .i64 ((IntKind.wrap .i64 (r0.2.2.2.1+r1.2.2.2.1))+(IntKind.wrap .i64 (Int.tdiv (IntKind.wrap .i64 ((IntKind.wrap .i64 (r0.2.2.1+r1.2.2.1))+(IntKind.wrap .i64 (Int.tdiv (IntKind.wrap .i64 ((IntKind.wrap .i64 (r0.2.1+r1.2.1))+(IntKind.wrap .i64 (Int.tdiv (IntKind.wrap .i64 ((IntKind.wrap .i64 (r0.1+r1.1))+0)) (256:Int))))) (256:Int))))) (256:Int))))) (256:Int))))) (256:Int))))) (256:Int))))) (256:Int))))) (256:Int))))) (256:Int)),((Int.tmod (IntKind.wrap .i64 ((IntKind.wrap .i64 (r0.2.2.2.2.2.2.2.2.2.1+r1.2.2.2.2.2.2.2.2.2.1))+(IntKind.wrap .i64 (Int.tdiv (IntKind.wrap .i64 ((IntKind.wrap .i64 (r0.2.2.2.2.2.2.2.2.1+r1.2.2.2.2.2.2.2.2.1))+(IntKind.wrap .i64 (Int.tdiv (IntKind.wrap .i64 ((IntKind.wrap .i64 (r0.2.2.2.2.2.2.2.1+r1.2.2.2.2.2.2.2.1))+(IntKind.wrap .i64 (Int.tdiv (IntKind.wrap .i64 ((IntKind.wrap .i64 (r0.2.2.2.2.2.2.1+r1.2.2.2.2.2.2.1))+(IntKind.wrap .i64 (Int.tdiv (IntKind.wrap .i64 ((IntKind.wrap .i64 (r0.2.2.2.2.2.1+r1.2.2.2.2.2.1))+(IntKind.wrap .i64 (Int.tdiv (IntKind.wrap .i64 ((IntKind.wrap .i64 (r0.2.2.2.2.1+r1.2.2.2.2.1))+(IntKind.wrap .i64 (Int.tdiv (IntKind.wrap .i64 ((IntKind.wrap .i64 (r0.2.2.2.1+r1.2.2.2.1))+(IntKind.wrap .i64 (Int.tdiv (IntKind.wrap .i64 ((IntKind.wrap .i64 (r0.2.2.1+r1.2.2.1))+(IntKind.wrap .i64 (Int.tdiv (IntKind.wrap .i64 ((IntKind.wrap .i64 (r0.2.1+r1.2.1))+(IntKind.wrap .i64 (Int.tdiv (IntKind.wrap .i64 ((IntKind.wrap .i64 (r0.1+r1.1))+0)) (256:Int))))) (256:Int))))) (256:Int))))) (256:Int))))) (256:Int))))) (256:Int))))) (256:Int))))) (256:Int))))) (256:Int))))) (256:Int)),((Int.tmod (IntKind.wrap .i64 ((IntKind.wrap .i64 (r0.2.2.2.2.2.2.2.2.2.2.1+r1.2.2.2.2.2.2.2.2.2.2.1))+(IntKind.wrap .i64 (Int.tdiv (IntKind.wrap .i64 ((IntKind.wrap .i64 (r0.2.2.2.2.2.2.2.2.2.1+r1.2.2.2.2.2.2.2.2.2.1))+(IntKind.wrap .i64 (Int.tdiv (IntKind.wrap .i64 ((IntKind.wrap .i64 (r0.2.2.2.2.2.2.2.2.1+r1.2.2.2.2.2.2.2.2.1))+(IntKind.wrap .i64 (Int.tdiv (IntKind.wrap .i64 ((IntKind.wrap .i64 (r0.2.2.2.2.2.2.2.1+r1.2.2.2.2.2.2.2.1))+(IntKind.wrap .i64 (Int.tdiv (IntKind.wrap .i64 ((IntKind.wrap .i64 (r0.2.2.2.2.2.2.1+r1.2.2.2.2.2.2.1))+(IntKind.wrap .i64 (Int.tdiv (IntKind.wrap .i64 ((IntKind.wrap .i64 (r0.2.2.2.2.2.1+r1.2.2.2.2.2.1))+(IntKind.wrap .i64 (Int.tdiv (IntKind.wrap .i64 ((IntKind.wrap .i64 (r0.2.2.2.2.1+r1.2.2.2.2.1))+(IntKind.wrap .i64 (Int.tdiv (IntKind.wrap .i64 ((IntKind.wrap .i64 (r0.2.2.2.1+r1.2.2.2.1))+(IntKind.wrap .i64 (Int.tdiv (IntKind.wrap .i64 ((IntKind.wrap .i64 (r0.2.2.1+r1.2.2.1))+(IntKind.wrap .i64 (Int.tdiv (IntKind.wrap .i64 ((IntKind.wrap .i64 (r0.2.1+r1.2.1))+(IntKind.wrap .i64 (Int.tdiv (IntKind.wrap .i64 ((IntKind.wrap .i64 (r0.1+r1.1))+0)) (256:Int))))) (256:Int))))) (256:Int))))) (256:Int))))) (256:Int))))) (256:Int))))) (256:Int))))) (256:Int))))) (256:Int))))) (256:Int))))) (256:Int)),((Int.tmod (IntKind.wrap .i64 ((IntKind.wrap .i64 (r0.2.2.2.2.2.2.2.2.2.2.2.1+r1.2.2.2.2.2.2.2.2.2.2.2.1))+(IntKind.wrap .i64 (Int.tdiv (IntKind.wrap .i64 ((IntKind.wrap .i64 (r0.2.2.2.2.2.2.2.2.2.2.1+r1.2.2.2.2.2.2.2.2.2.2.1))+(IntKind.wrap .i64 (Int.tdiv (IntKind.wrap .i64 ((IntKind.wrap .i64 (r0.2.2.2.2.2.2.2.2.2.1+r1.2.2.2.2.2.2.2.2.2.1))+(IntKind.wrap .i64 (Int.tdiv (IntKind.wrap .i64 ((IntKind.wrap .i64 (r0.2.2.2.2.2.2.2.2.1+r1.2.2.2.2.2.2.2.2.1))+(IntKind.wrap .i64 (Int.tdiv (IntKind.wrap .i64 ((IntKind.wrap .i64 (r0.2.2.2.2.2.2.2.1+r1.2.2.2.2.2.2.2.1))+(IntKind.wrap .i64 (Int.tdiv (IntKind.wrap .i64 ((IntKind.wrap .i64 (r0.2.2.2.2.2.2.1+r1.2.2.2.2.2.2.1))+(IntKind.wrap .i64 (Int.tdiv (IntKind.wrap .i64 ((IntKind.wrap .i64 (r0.2.2.2.2.2.1+r1.2.2.2.2.2.1))+(IntKind.wrap .i64 (Int.tdiv (IntKind.wrap .i64 ((IntKind.wrap .i64 (r0.2.2.2.2.1+r1.2.2.2.2.1))+(IntKind.wrap .i64 (Int.tdiv (IntKind.wrap .i64 ((IntKind.wrap .i64 (r0.2.2.2.1+r1.2.2.2.1))+(IntKind.wrap .i64 (Int.tdiv (IntKind.wrap .i64 ((IntKind.wrap .i64 (r0.2.2.1+r1.2.2.1))+(IntKind.wrap .i64 (Int.tdiv (IntKind.wrap .i64 ((IntKind.wrap .i64 (r0.2.1+r1.2.1))+(IntKind.wrap .i64 (Int.tdiv (IntKind.wrap .i64 ((IntKind.wrap .i64 (r0.1+r1.1))+0)) (256:Int))))) (256:Int))))) (256:Int))))) (256:Int))))) (256:Int))))) (256:Int))))) (256:Int))))) (256:Int))))) (256:Int))))) (256:Int))))) (256:Int))))) (256:Int)),((Int.tmod (IntKind.wrap .i64 ((IntKind.wrap .i64 (r0.2.2.2.2.2.2.2.2.2.2.2.2.1+r1.2.2.2.2.2.2.2.2.2.2.2.2.1))+(IntKind.wrap .i64 (Int.tdiv (IntKind.wrap .i64 ((IntKind.wrap .i64 (r0.2.2.2.2.2.2.2.2.2.2.2.1+r1.2.2.2.2.2.2.2.2.2.2.2.1))+(IntKind.wrap .i64 (Int.tdiv (IntKind.wrap .i64 ((IntKind.wrap .i64 (r0.2.2.2.2.2.2.2.2.2.2.1+r1.2.2.2.2.2.2.2.2.2.2.1))+(IntKind.wrap .i64 (Int.tdiv (IntKind.wrap .i64 ((IntKind.wrap .i64 (r0.2.2.2.2.2.2.2.2.2.1+r1.2.2.2.2.2.2.2.2.2.1))+(IntKind.wrap .i64 (Int.tdiv (IntKind.wrap .i64 ((IntKind.wrap .i64 (r0.2.2.2.2.2.2.2.2.1+r1.2.2.2.2.2.2.2.2.1))+(IntKind.wrap .i64 (Int.tdiv (IntKind.wrap .i64 ((IntKind.wrap .i64 (r0.2.2.2.2.2.2.2.1+r1.2.2.2.2.2.2.2.1))+(IntKind.wrap .i64 (Int.tdiv (IntKind.wrap .i64 ((IntKind.wrap .i64 (r0.2.2.2.2.2.2.1+r1.2.2.2.2.2.2.1))+(IntKind.wrap .i64 (Int.tdiv (IntKind.wrap .i64 ((IntKind.wrap .i64 (r0.2.2.2.2.2.1+r1.2.2.2.2.2.1))+(IntKind.wrap .i64 (Int.tdiv (IntKind.wrap .i64 ((IntKind.wrap .i64 (r0.2.2.2.2.1+r1.2.2.2.2.1))+(IntKind.wrap .i64 (Int.tdiv (IntKind.wrap .i64 ((IntKind.wrap .i64 (r0.2.2.2.1+r1.2.2.2.1))+(IntKind.wrap .i64 (Int.tdiv (IntKind.wrap .i64 ((IntKind.wrap .i64 (r0.2.2.1+r1.2.2.1))+(IntKind.wrap .i64 (Int.tdiv (IntKind.wrap .i64 ((IntKind.wrap .i64 (r0.2.1+r1.2.1))+(IntKind.wrap .i64 (Int.tdiv (IntKind.wrap .i64 ((IntKind.wrap .i64 (r0.1+r1.1))+0)) (256:Int))))) (256:Int))))) (256:Int))))) (256:Int))))) (256:Int))))) (256:Int))))) (256:Int))))) (256:Int))))) (256:Int))))) (256:Int))))) (256:Int))))) (256:Int))))) (256:Int)),((Int.tmod (IntKind.wrap .i64 ((IntKind.wrap .i64 (r0.2.2.2.2.2.2.2.2.2.2.2.2.2.1+r1.2.2.2.2.2.2.2.2.2.2.2.2.2.1))+(IntKind.wrap .i64 (Int.tdiv (IntKind.wrap .i64 ((IntKind.wrap .i64 (r0.2.2.2.2.2.2.2.2.2.2.2.2.1+r1.2.2.2.2.2.2.2.2.2.2.2.2.1))+(IntKind.wrap .i64 (Int.tdiv (IntKind.wrap .i64 ((IntKind.wrap .i64 (r0.2.2.2.2.2.2.2.2.2.2.2.1+r1.2.2.2.2.2.2.2.2.2.2.2.1))+(IntKind.wrap .i64 (Int.tdiv (IntKind.wrap .i64 ((IntKind.wrap .i64 (r0.2.2.2.2.2.2.2.2.2.2.1+r1.2.2.2.2.2.2.2.2.2.2.1))+(IntKind.wrap .i64 (Int.tdiv (IntKind.wrap .i64 ((IntKind.wrap .i64 (r0.2.2.2.2.2.2.2.2.2.1+r1.2.2.2.2.2.2.2.2.2.1))+(IntKind.wrap .i64 (Int.tdiv (IntKind.wrap .i64 ((IntKind.wrap .i64 (r0.2.2.2.2.2.2.2.2.1+r1.2.2.2.2.2.2.2.2.1))+(IntKind.wrap .i64 (Int.tdiv (IntKind.wrap .i64 ((IntKind.wrap .i64 (r0.2.2.2.2.2.2.2.1+r1.2.2.2.2.2.2.2.1))+(IntKind.wrap .i64 (Int.tdiv (IntKind.wrap .i64 ((IntKind.wrap .i64 (r0.2.2.2.2.2.2.1+r1.2.2.2.2.2.2.1))+(IntKind.wrap .i64 (Int.tdiv (IntKind.wrap .i64 ((IntKind.wrap .i64 (r0.2.2.2.2.2.1+r1.2.2.2.2.2.1))+(IntKind.wrap .i64 (Int.tdiv (IntKind.wrap .i64 ((IntKind.wrap .i64 (r0.2.2.2.2.1+r1.2.2.2.2.1))+(IntKind.wrap .i64 (Int.tdiv (IntKind.wrap .i64 ((IntKind.wrap .i64 (r0.2.2.2.1+r1.2.2.2.1))+(IntKind.wrap .i64 (Int.tdiv (IntKind.wrap .i64 ((IntKind.wrap .i64 (r0.2.2.1+r1.2.2.1))+(IntKind.wrap .i64 (Int.tdiv (IntKind.wrap .i64 ((IntKind.wrap .i64 (r0.2.1+r1.2.1))+(IntKind.wrap .i64 (Int.tdiv (IntKind.wrap .i64 ((IntKind.wrap .i64 (r0.1+r1.1))+0)) (256:Int))))) (256:Int))))) (256:Int))))) (256:Int))))) (256:Int))))) (256:Int))))) (256:Int))))) (256:Int))))) (256:Int))))) (256:Int))))) (256:Int))))) (256:Int))))) (256:Int))))) (256:Int)),((Int.tmod (IntKind.wrap .i64 ((IntKind.wrap .i64 (r0.2.2.2.2.2.2.2.2.2.2.2.2.2.2.1+r1.2.2.2.2.2.2.2.2.2.2.2.2.2.2.1))+(IntKind.wrap .i64 (Int.tdiv (IntKind.wrap .i64 ((IntKind.wrap .i64 (r0.2.2.2.2.2.2.2.2.2.2.2.2.2.1+r1.2.2.2.2.2.2.2.2.2.2.2.2.2.1))+(IntKind.wrap .i64 (Int.tdiv (IntKind.wrap .i64 ((IntKind.wrap .i64 (r0.2.2.2.2.2.2.2.2.2.2.2.2.1+r1.2.2.2.2.2.2.2.2.2.2.2.2.1))+(IntKind.wrap .i64 (Int.tdiv (IntKind.wrap .i64 ((IntKind.wrap .i64 (r0.2.2.2.2.2.2.2.2.2.2.2.1+r1.2.2.2.2.2.2.2.2.2.2.2.1))+(IntKind.wrap .i64 (Int.tdiv (IntKind.wrap .i64 ((IntKind.wrap .i64 (r0.2.2.2.2.2.2.2.2.2.2.1+r1.2.2.2.2.2.2.2.2.2.2.1))+(IntKind.wrap .i64 (Int.tdiv (IntKind.wrap .i64 ((IntKind.wrap .i64 (r0.2.2.2.2.2.2.2.2.2.1+r1.2.2.2.2.2.2.2.2.2.1))+(IntKind.wrap .i64 (Int.tdiv (IntKind.wrap .i64 ((IntKind.wrap .i64 (r0.2.2.2.2.2.2.2.2.1+r1.2.2.2.2.2.2.2.2.1))+(IntKind.wrap .i64 (Int.tdiv (IntKind.wrap .i64 ((IntKind.wrap .i64 (r0.2.2.2.2.2.2.2.1+r1.2.2.2.2.2.2.2.1))+(IntKind.wrap .i64 (Int.tdiv (IntKind.wrap .i64 ((IntKind.wrap .i64 (r0.2.2.2.2.2.2.1+r1.2.2.2.2.2.2.1))+(IntKind.wrap .i64 (Int.tdiv (IntKind.wrap .i64 ((IntKind.wrap .i64 (r0.2.2.2.2.2.1+r1.2.2.2.2.2.1))+(IntKind.wrap .i64 (Int.tdiv (IntKind.wrap .i64 ((IntKind.wrap .i64 (r0.2.2.2.2.1+r1.2.2.2.2.1))+(IntKind.wrap .i64 (Int.tdiv (IntKind.wrap .i64 ((IntKind.wrap .i64 (r0.2.2.2.1+r1.2.2.2.1))+(IntKind.wrap .i64 (Int.tdiv (IntKind.wrap .i64 ((IntKind.wrap .i64 (r0.2.2.1+r1.2.2.1))+(IntKind.wrap .i64 (Int.tdiv (IntKind.wrap .i64 ((IntKind.wrap .i64 (r0.2.1+r1.2.1))+(IntKind.wrap .i64 (Int.tdiv (IntKind.wrap .i64 ((IntKind.wrap .i64 (r0.1+r1.1))+0)) (256:Int))))) (256:Int))))) (256:Int))))) (256:Int))))) (256:Int))))) (256:Int))))) (256:Int))))) (256:Int))))) (256:Int))))) (256:Int))))) (256:Int))))) (256:Int))))) (256:Int))))) (256:Int))))) (256:Int)),(Int.tmod (IntKind.wrap .i64 ((IntKind.wrap .i64 (r0.2.2.2.2.2.2.2.2.2.2.2.2.2.2.2+r1.2.2.2.2.2.2.2.2.2.2.2.2.2.2.2))+(IntKind.wrap .i64 (Int.tdiv (IntKind.wrap .i64 ((IntKind.wrap .i64 (r0.2.2.2.2.2.2.2.2.2.2.2.2.2.2.1+r1.2.2.2.2.2.2.2.2.2.2.2.2.2.2.1))+(IntKind.wrap .i64 (Int.tdiv (IntKind.wrap .i64 ((IntKind.wrap .i64 (r0.2.2.2.2.2.2.2.2.2.2.2.2.2.1+r1.2.2.2.2.2.2.2.2.2.2.2.2.2.1))+(IntKind.wrap .i64 (Int.tdiv (IntKind.wrap .i64 ((IntKind.wrap .i64 (r0.2.2.2.2.2.2.2.2.2.2.2.2.1+r1.2.2.2.2.2.2.2.2.2.2.2.2.1))+(IntKind.wrap .i64 (Int.tdiv (IntKind.wrap .i64 ((IntKind.wrap .i64 (r0.2.2.2.2.2.2.2.2.2.2.2.1+r1.2.2.2.2.2.2.2.2.2.2.2.1))+(IntKind.wrap .i64 (Int.tdiv (IntKind.wrap .i64 ((IntKind.wrap .i64 (r0.2.2.2.2.2.2.2.2.2.2.1+r1.2.2.2.2.2.2.2.2.2.2.1))+(IntKind.wrap .i64 (Int.tdiv (IntKind.wrap .i64 ((IntKind.wrap .i64 (r0.2.2.2.2.2.2.2.2.2.1+r1.2.2.2.2.2.2.2.2.2.1))+(IntKind.wrap .i64 (Int.tdiv (IntKind.wrap .i64 ((IntKind.wrap .i64 (r0.2.2.2.2.2.2.2.2.1+r1.2.2.2.2.2.2.2.2.1))+(IntKind.wrap .i64 (Int.tdiv (IntKind.wrap .i64 ((IntKind.wrap .i64 (r0.2.2.2.2.2.2.2.1+r1.2.2.2.2.2.2.2.1))+(IntKind.wrap .i64 (Int.tdiv (IntKind.wrap .i64 ((IntKind.wrap .i64 (r0.2.2.2.2.2.2.1+r1.2.2.2.2.2.2.1))+(IntKind.wrap .i64 (Int.tdiv (IntKind.wrap .i64 ((IntKind.wrap .i64 (r0.2.2.2.2.2.1+r1.2.2.2.2.2.1))+(IntKind.wrap .i64 (Int.tdiv (IntKind.wrap .i64 ((IntKind.wrap .i64 (r0.2.2.2.2.1+r1.2.2.2.2.1))+(IntKind.wrap .i64 (Int.tdiv (IntKind.wrap .i64 ((IntKind.wrap .i64 (r0.2.2.2.1+r1.2.2.2.1))+(IntKind.wrap .i64 (Int.tdiv (IntKind.wrap .i64 ((IntKind.wrap .i64 (r0.2.2.1+r1.2.2.1))+(IntKind.wrap .i64 (Int.tdiv (IntKind.wrap .i64 ((IntKind.wrap .i64 (r0.2.1+r1.2.1))+(IntKind.wrap .i64 (Int.tdiv (IntKind.wrap .i64 ((IntKind.wrap .i64 (r0.1+r1.1))+0)) (256:Int))))) (256:Int))))) (256:Int))))) (256:Int))))) (256:Int))))) (256:Int))))) (256:Int))))) (256:Int))))) (256:Int))))) (256:Int))))) (256:Int))))) (256:Int))))) (256:Int))))) (256:Int))))) (256:Int))))) (256:Int)))))))))))))))))) fun r2 =>
 some (r2,0)):=by kernel_rfl
theorem q1m (n:Nat) (s:a0l):e1k (n+1) s =
 a0a (f0g n s) fun r0 =>
 tif ((!(decide (r0=0)))) (
 some []) (
 a0a (c1z n s) fun r1 =>
 a0a (i0r n r1 (fun y2=>l0l n y2.1 s)) fun r3 =>
 some r3):=by kernel_rfl
theorem b1z (n:Nat) (c:a0o):y0n (n+1) c =
 a0a (c0z n c) fun r0 =>
 tif ((!(decide (r0=0)))) (
 some (0,r0)) (
 a0a (g1u n c) fun r1 =>
 a0a (b1a n c) fun r2 =>
 tif ((decide ((16777216:Int)<(IntKind.wrap .i64 ((IntKind.wrap .i64 (r1+1))+(IntKind.wrap .i64 (c.2.2.2.1*r2))))))) (
 some (0,1)) (
 some ((IntKind.wrap .i64 ((IntKind.wrap .i64 (r1+1))+(IntKind.wrap .i64 (c.2.2.2.1*r2)))),0))):=by kernel_rfl
theorem p1v (n:Nat) (s:a0l) (l:(List (List UInt8×List UInt8))) (e:a0q):d1q (n+1) s l e =
 a0a (v0k n s l e) fun r0 =>
 tif ((!(decide (r0.2.2=0)))) (
 some (((0,((0,(0,0)),((0,(0,0)),(0,0)))),(0,(0,[]))),r0.2.2)) (
 a0a (d1p n s r0.1 r0.2.1 l) fun r1 =>
 tif ((!(decide (r1.2=0)))) (
 some (((0,((0,(0,0)),((0,(0,0)),(0,0)))),(0,(0,[]))),r1.2)) (
 a0a (z0s n s.1 r1.1 e) fun r2 =>
 tif ((!(decide (r2.2=0)))) (
 some (((0,((0,(0,0)),((0,(0,0)),(0,0)))),(0,(0,[]))),r2.2)) (
 a0a (l0o n s.2.2.2) fun r3 =>
 a0a (at? r3 r0.1) fun r4 =>
 a0a ((r3)[(Int.toNat r0.1)]?) fun r5 =>
 some ((s.1,(s.2.1,(s.2.2.1,(List.set r3 (Int.toNat r0.1) r2.1)))),0)))):=by kernel_rfl
theorem z1k (n:Nat) (s:a0l) (now:Int):p1b (n+1) s now =
 tif ((decide (now≤s.2.1))) (
 some (s,false)) (
 tif ((decide ((35184372088832:Int)≤now))) (
 some (s,false)) (
 a0a (f0g n s) fun r0 =>
 tif ((!(decide (r0=0)))) (
 some (s,false)) (
 some ((s.1,(now,s.2.2)),true)))):=by kernel_rfl
theorem i1c (n:Nat) (s:a0l):v0g (n+1) s =
 a0a (f0g n s) fun r0 =>
 tif ((!(decide (r0=0)))) (
 some (((0,((0,(0,0)),((0,(0,0)),(0,0)))),(0,(0,[]))),r0)) (
 tif (((decide ((0:Int)≤(((List.length s.2.2.2):Nat):Int)))&&((decide ((((List.length s.2.2.2):Nat):Int)≤(((List.length s.2.2.2):Nat):Int)))&&(decide (((((List.length s.2.2.2):Nat):Int)*264)≤140737488355328))))) (
 a0a (c1z n s) fun r1 =>
 a0a (g0g n a0b (s,(((0,((0,(0,0)),((0,(0,0)),(0,0)))),(0,(0,[]))),((List.replicate (Int.toNat (((List.length s.2.2.2):Nat):Int)) ([],(0,((0,(0,[])),(([],([],[])),(0,(0,((0,(0,(0,false))),((0,(0,(0,false))),((0,0),(0,(0,0)))))))))))),(r1,((((List.length r1):Nat):Int),(0,()))))))) fun r2 =>
 b0i (fun y3 =>
 some ((y3.1.1,(y3.1.2.1,(y3.1.2.2.1,y3.2.2.1))),0)) (fun z4 =>
 some z4) r2) (
 none)):=by kernel_rfl
theorem n0u (n f:Nat) (s_:a0l) (s2:a0l) (out:(List a0t)) (s24:(List Int)) (s25:Int) (s26:Int):g0g n (f+1) (s_,s2,out,s24,s25,s26,()) =
 tif ((decide (s26<s25))) (
 a0a (at? s24 s26) fun r0 =>
 a0a ((s24)[(Int.toNat s26)]?) fun r1 =>
 a0a (at? s_.2.2.2 r1) fun r2 =>
 a0a (c0d n a0b (s_,(s2,(out,(r1,(r2,(s24,(s25,(s26,(s_.1.2.1,(0,()))))))))))) fun r3 =>
 b0i (fun y4 =>
 a0a (at? y4.2.2.1 y4.2.2.2.1) fun r5 =>
 a0a ((y4.2.2.1)[(Int.toNat y4.2.2.2.1)]?) fun r6 =>
 g0g n f (y4.1,(y4.2.1,((List.set y4.2.2.1 (Int.toNat y4.2.2.2.1) y4.2.2.2.2.1),(y4.2.2.2.2.2.1,(y4.2.2.2.2.2.2.1,((IntKind.wrap .i64 (y4.2.2.2.2.2.2.2.1+1)),()))))))) (fun z7 =>
 some (.inr z7)) r3) (
 some (.inl (s_,(s2,(out,()))))):=by kernel_rfl
theorem u0a (n f:Nat) (s_:a0l) (s2:a0l) (out:(List a0t)) (i:Int) (x:a0t) (s24:(List Int)) (s25:Int) (s26:Int) (s37:(Int×(Int×Int))):c0d n (f+1) (s_,s2,out,i,x,s24,s25,s26,s37,0,()) =
 a0a (d0a n s_.2.1 s37.1 s_.1.2.2.1.1) fun r0 =>
 tif ((!(decide (r0.2=0)))) (
 some (.inr (((0,((0,(0,0)),((0,(0,0)),(0,0)))),(0,(0,[]))),r0.2))) (
 a0a (f0q n s_.1 x (0:Int) r0.1) fun r1 =>
 c0d n f (s_,(s2,(out,(i,((x.1,(x.2.1,(x.2.2.1,((r1,x.2.2.2.1.2),x.2.2.2.2)))),(s24,(s25,(s26,(s37,(1,()))))))))))):=by kernel_rfl
theorem t0z (n f:Nat) (s_:a0l) (s2:a0l) (out:(List a0t)) (i:Int) (x:a0t) (s24:(List Int)) (s25:Int) (s26:Int) (s37:(Int×(Int×Int))):c0d n (f+1) (s_,s2,out,i,x,s24,s25,s26,s37,1,()) =
 a0a (d0a n s_.2.1 s37.2.1 s_.1.2.2.1.2.1) fun r0 =>
 tif ((!(decide (r0.2=0)))) (
 some (.inr (((0,((0,(0,0)),((0,(0,0)),(0,0)))),(0,(0,[]))),r0.2))) (
 a0a (f0q n s_.1 x (1:Int) r0.1) fun r1 =>
 c0d n f (s_,(s2,(out,(i,((x.1,(x.2.1,(x.2.2.1,((x.2.2.2.1.1,(r1,x.2.2.2.1.2.2)),x.2.2.2.2)))),(s24,(s25,(s26,(s37,(2,()))))))))))):=by kernel_rfl
theorem t0y (n f:Nat) (s_:a0l) (s2:a0l) (out:(List a0t)) (i:Int) (x:a0t) (s24:(List Int)) (s25:Int) (s26:Int) (s37:(Int×(Int×Int))):c0d n (f+1) (s_,s2,out,i,x,s24,s25,s26,s37,2,()) =
 a0a (d0a n s_.2.1 s37.2.2 s_.1.2.2.1.2.2) fun r0 =>
 tif ((!(decide (r0.2=0)))) (
 some (.inr (((0,((0,(0,0)),((0,(0,0)),(0,0)))),(0,(0,[]))),r0.2))) (
 a0a (f0q n s_.1 x (2:Int) r0.1) fun r1 =>
 c0d n f (s_,(s2,(out,(i,((x.1,(x.2.1,(x.2.2.1,((x.2.2.2.1.1,(x.2.2.2.1.2.1,r1)),x.2.2.2.2)))),(s24,(s25,(s26,(s37,(3,()))))))))))):=by kernel_rfl
theorem t0x (n f:Nat) (s_:a0l) (s2:a0l) (out:(List a0t)) (i:Int) (x:a0t) (s24:(List Int)) (s25:Int) (s26:Int) (s37:(Int×(Int×Int))):c0d n (f+1) (s_,s2,out,i,x,s24,s25,s26,s37,3,()) =
 some (.inl (s_,(s2,(out,(i,(x,(s24,(s25,(s26,()))))))))):=by kernel_rfl
theorem m1s (n:Nat) (a:(Int×Int)):k0x (n+1) a =
 some ((decide (a.1=0))&&(decide (a.2=0))):=by kernel_rfl
theorem r1q (n:Nat) (a:(Int×Int)) (b:(Int×Int)):e1x (n+1) a b =
 a0a (k0x n a) fun r0 =>
 tif (r0) (
 some ((orI .u64 a.1 b.1),(orI .u64 a.2 b.2))) (
 a0a (k0x n b) fun r1 =>
 tif (r1) (
 some ((orI .u64 a.1 b.1),(orI .u64 a.2 b.2))) (
 a0a (f0y n a) fun r2 =>
 a0a (f0y n b) fun r3 =>
 a0a (f0y n a) fun r4 =>
 a0a (t0j n a r4) fun r5 =>
 a0a (c0t n a0b (r5,(b,((0,0),((if r3<r2 then r3 else r2),()))))) fun r6 =>
 b0i (fun y7 =>
 a0a (x0e n y7.1 y7.2.2.1) fun r8 =>
 some r8) (fun z9 =>
 some z9) r6)):=by kernel_rfl
theorem l0v (n f:Nat) (a_:(Int×Int)) (b_:(Int×Int)) (s4:(Int×Int)) (twos:Int):c0t n (f+1) (a_,b_,s4,twos,()) =
 a0a (k0x n b_) fun r0 =>
 tif ((!r0)) (
 a0a (f0y n b_) fun r1 =>
 a0a (t0j n b_ r1) fun r2 =>
 a0a (l0e n r2 a_) fun r3 =>
 tif (r3) (
 a0a (i0u n a_ r2) fun r4 =>
 c0t n f (r2,(r4,(s4,(twos,()))))) (
 a0a (i0u n r2 a_) fun r5 =>
 c0t n f (a_,(r5,(s4,(twos,())))))) (
 some (.inl (a_,(s4,(twos,()))))):=by kernel_rfl
theorem r1s (n:Nat) (s:a0l):f1c (n+1) s =
 a0a (h0y n s.1) fun r0 =>
 tif ((decide (r0=0))) (
 some (decide ((((List.length s.2.2.2):Nat):Int)=s.1.2.2.2.1))) (
 some false):=by kernel_rfl
theorem r1u (n:Nat) (s:a0t):f1e (n+1) s =
 a0a (x0f n s ([],(0,((0,(0,[])),(([],([],[])),(0,(0,((0,(0,(0,false))),((0,(0,(0,false))),((0,0),(0,(0,0)))))))))))) fun r0 =>
 some r0:=by kernel_rfl
theorem r1w (n:Nat) (c:a0o) (s:a0t):f1f (n+1) c s =
 a0a (h0y n c) fun r0 =>
 tif ((!(decide (r0=0)))) (
 some (2:Int)) (
 a0a (f1o n s.1) fun r1 =>
 tif ((!(decide (r1=0)))) (
 some (2:Int)) (
 a0a (f1l n s.2.2.1 c.1) fun r2 =>
 tif ((!(decide (r2=0)))) (
 some (2:Int)) (
 a0a (f1h n c s.2.2.2.1) fun r3 =>
 tif ((!(decide (r3=0)))) (
 some (2:Int)) (
 tif ((decide (s.2.1=((-1):Int)))) (
 tif ((decide ((0:Int)<(((List.length s.2.2.1.2.2):Nat):Int)))) (
 some (2:Int)) (
 tif ((!((decide (s.2.2.2.2.1=0))&&((decide (s.2.2.2.2.2.1=0))&&((decide (s.2.2.2.2.2.2.1.1=0))&&((decide (s.2.2.2.2.2.2.1.2.1=0))&&((decide (s.2.2.2.2.2.2.1.2.2.1=0))&&((s.2.2.2.2.2.2.1.2.2.2==false)&&((decide (s.2.2.2.2.2.2.2.1.1=0))&&((decide (s.2.2.2.2.2.2.2.1.2.1=0))&&((decide (s.2.2.2.2.2.2.2.1.2.2.1=0))&&((s.2.2.2.2.2.2.2.1.2.2.2==false)&&((decide (s.2.2.2.2.2.2.2.2.1.1=0))&&((decide (s.2.2.2.2.2.2.2.2.1.2=0))&&((decide (s.2.2.2.2.2.2.2.2.2.1=0))&&((decide (s.2.2.2.2.2.2.2.2.2.2.1=0))&&(decide (s.2.2.2.2.2.2.2.2.2.2.2=0)))))))))))))))))) (
 some (2:Int)) (
 a0a (f0k n a0b (s,(0,()))) fun r4 =>
 b0i (fun y5 =>
 some (0:Int)) (fun z6 =>
 some z6) r4))) (
 a0a (n1e n s.2.2.1) fun r7 =>
 tif ((!(decide (r7.2=0)))) (
 some (2:Int)) (
 tif ((!(decide (r7.1.1=s.2.1)))) (
 some (2:Int)) (
 a0a (d1c n s.2.2.2.2.2 c.2.1.1 s.2.2.2.2.1) fun r8 =>
 tif ((!r8)) (
 some (2:Int)) (
 tif ((!(decide (s.2.2.2.2.2.2.2.1.1=s.2.1)))) (
 some (2:Int)) (
 a0a (e0k n a0b (c,(s,(0,())))) fun r9 =>
 b0i (fun y10 =>
 some (0:Int)) (fun z11 =>
 some z11) r9))))))))):=by kernel_rfl
theorem h0w (n f:Nat) (s_:a0t) (k:Int):f0k n (f+1) (s_,k,()) =
 tif ((decide (k<3))) (
 tif ((decide (k=0))) (
 a0a (p0y n s_.2.2.2.1.1) fun r0 =>
 tif ((decide ((0:Int)<(((List.length r0):Nat):Int)))) (
 some (.inr (2:Int))) (
 f0k n f (s_,((IntKind.wrap .i64 (k+1)),())))) (
 tif ((decide (k=1))) (
 a0a (p0y n s_.2.2.2.1.2.1) fun r1 =>
 tif ((decide ((0:Int)<(((List.length r1):Nat):Int)))) (
 some (.inr (2:Int))) (
 f0k n f (s_,((IntKind.wrap .i64 (k+1)),())))) (
 tif ((decide (k=2))) (
 a0a (p0y n s_.2.2.2.1.2.2) fun r2 =>
 tif ((decide ((0:Int)<(((List.length r2):Nat):Int)))) (
 some (.inr (2:Int))) (
 f0k n f (s_,((IntKind.wrap .i64 (k+1)),())))) (
 none)))) (
 some (.inl ())):=by kernel_rfl
theorem g0n (n f:Nat) (c_:a0o) (s_:a0t) (k_:Int):e0k n (f+1) (c_,s_,k_,()) =
 tif ((decide (k_<3))) (
 tif ((decide (k_=0))) (
 a0a (p0y n s_.2.2.2.1.1) fun r0 =>
 a0a (b0w n a0b (c_,(s_,(k_,(r0,((((List.length r0):Nat):Int),(0,()))))))) fun r1 =>
 b0i (fun y2 =>
 e0k n f (y2.1,(y2.2.1,((IntKind.wrap .i64 (y2.2.2.1+1)),())))) (fun z3 =>
 some (.inr z3)) r1) (
 tif ((decide (k_=1))) (
 a0a (p0y n s_.2.2.2.1.2.1) fun r4 =>
 a0a (b0w n a0b (c_,(s_,(k_,(r4,((((List.length r4):Nat):Int),(0,()))))))) fun r5 =>
 b0i (fun y6 =>
 e0k n f (y6.1,(y6.2.1,((IntKind.wrap .i64 (y6.2.2.1+1)),())))) (fun z7 =>
 some (.inr z7)) r5) (
 tif ((decide (k_=2))) (
 a0a (p0y n s_.2.2.2.1.2.2) fun r8 =>
 a0a (b0w n a0b (c_,(s_,(k_,(r8,((((List.length r8):Nat):Int),(0,()))))))) fun r9 =>
 b0i (fun y10 =>
 e0k n f (y10.1,(y10.2.1,((IntKind.wrap .i64 (y10.2.2.1+1)),())))) (fun z11 =>
 some (.inr z11)) r9) (
 none)))) (
 some (.inl ())):=by kernel_rfl
theorem d0j (n f:Nat) (c_:a0o) (s_:a0t) (k_:Int) (s106:(List a0c)) (s107:Int) (s108:Int):b0w n (f+1) (c_,s_,k_,s106,s107,s108,()) =
 tif ((decide (s108<s107))) (
 a0a (at? s106 s108) fun r0 =>
 tif ((decide (k_=0))) (
 tif ((decide (c_.2.1.1=0))) (
 none) (
 tif ((decide ((IntKind.wrap .i64 (Int.tdiv s_.2.1 c_.2.1.1))≤r0.1))) (
 some (.inr (2:Int))) (
 b0w n f (c_,(s_,(k_,(s106,(s107,((IntKind.wrap .i64 (s108+1)),()))))))))) (
 tif ((decide (k_=1))) (
 tif ((decide (c_.2.1.2.1=0))) (
 none) (
 tif ((decide ((IntKind.wrap .i64 (Int.tdiv s_.2.1 c_.2.1.2.1))≤r0.1))) (
 some (.inr (2:Int))) (
 b0w n f (c_,(s_,(k_,(s106,(s107,((IntKind.wrap .i64 (s108+1)),()))))))))) (
 tif ((decide (k_=2))) (
 tif ((decide (c_.2.1.2.2=0))) (
 none) (
 tif ((decide ((IntKind.wrap .i64 (Int.tdiv s_.2.1 c_.2.1.2.2))≤r0.1))) (
 some (.inr (2:Int))) (
 b0w n f (c_,(s_,(k_,(s106,(s107,((IntKind.wrap .i64 (s108+1)),()))))))))) (
 none)))) (
 some (.inl (c_,(s_,(k_,()))))):=by kernel_rfl
theorem r1t (n:Nat) (s:a0l) (i:Int):f1d (n+1) s i =
 a0a (at? s.2.2.2 i) fun r0 =>
 a0a (f1e n r0) fun r1 =>
 tif ((!r1)) (
 tif ((decide (s.2.2.1=((-1):Int)))) (
 some true) (
 a0a (at? s.2.2.2 i) fun r2 =>
 a0a (m1z n s.1 r2.2.1 s.2.2.1) fun r3 =>
 some (!r3))) (
 some false):=by kernel_rfl
theorem y1b (n:Nat) (a:(List (List UInt8×List UInt8))) (b:(List (List UInt8×List UInt8))):d1e (n+1) a b =
 tif ((!(decide ((((List.length a):Nat):Int)=(((List.length b):Nat):Int))))) (
 some false) (
 a0a (l0x n a0b (a,(b,((((List.length a):Nat):Int),(0,()))))) fun r0 =>
 b0i (fun y1 =>
 some true) (fun z2 =>
 some z2) r0):=by kernel_rfl
theorem j0f (n f:Nat) (a:(List (List UInt8×List UInt8))) (b:(List (List UInt8×List UInt8))) (s12:Int) (s13:Int):l0x n (f+1) (a,b,s12,s13,()) =
 tif ((decide (s13<s12))) (
 a0a (at? a s13) fun r0 =>
 a0a (at? b s13) fun r1 =>
 tif ((!((r0.1==r1.1)&&(r0.2==r1.2)))) (
 some (.inr false)) (
 l0x n f (a,(b,(s12,((IntKind.wrap .i64 (s13+1)),())))))) (
 some (.inl ())):=by kernel_rfl
theorem s1l (n:Nat) (l:(List (List UInt8×List UInt8))):f1o (n+1) l =
 tif ((decide ((((List.length l):Nat):Int)<1))) (
 some (8:Int)) (
 tif ((decide ((16:Int)<(((List.length l):Nat):Int)))) (
 some (8:Int)) (
 a0a (h0d n a0b (l,(0,(l,((((List.length l):Nat):Int),(0,())))))) fun r0 =>
 b0i (fun y1 =>
 tif ((decide ((256:Int)<y1.1))) (
 some (8:Int)) (
 some (0:Int))) (fun z2 =>
 some z2) r0)):=by kernel_rfl
theorem r0x (n f:Nat) (l:(List (List UInt8×List UInt8))) (all:Int) (s14:(List (List UInt8×List UInt8))) (s15:Int) (s16:Int):h0d n (f+1) (l,all,s14,s15,s16,()) =
 tif ((decide (s16<s15))) (
 a0a (at? s14 s16) fun r0 =>
 a0a (n1j n r0.1) fun r1 =>
 tif ((!r1)) (
 some (.inr (8:Int))) (
 tif ((decide ((128:Int)<(((List.length r0.2):Nat):Int)))) (
 some (.inr (8:Int))) (
 tif ((decide ((0:Int)<s16))) (
 a0a (at? l (IntKind.wrap .i64 (s16-1))) fun r2 =>
 tif ((!(Go.Op.bytesLess r2.1 r0.1))) (
 some (.inr (8:Int))) (
 h0d n f (l,((IntKind.wrap .i64 (all+(IntKind.wrap .i64 ((((List.length r0.1):Nat):Int)+(((List.length r0.2):Nat):Int))))),(s14,(s15,((IntKind.wrap .i64 (s16+1)),()))))))) (
 h0d n f (l,((IntKind.wrap .i64 (all+(IntKind.wrap .i64 ((((List.length r0.1):Nat):Int)+(((List.length r0.2):Nat):Int))))),(s14,(s15,((IntKind.wrap .i64 (s16+1)),()))))))))) (
 some (.inl (all,()))):=by kernel_rfl
end Go.Proofs.YtgkpkajaepphjaaGreatDoor
