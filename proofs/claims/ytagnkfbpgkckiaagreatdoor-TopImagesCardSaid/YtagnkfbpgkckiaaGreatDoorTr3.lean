/- Trees, printed by program. -/
import Derived.Test.YtagnkfbpgkckiaaGreatDoorTr0
import Derived.KernelRfl
set_option linter.unusedVariables false
open Go.IntKind (wrap)
namespace Go.Proofs.YtagnkfbpgkckiaaGreatDoor
open Go.Flat
theorem m1q (n:Nat)(a:a0y)(b:a0y):g0t (n+1) a b =
 a0a (r0q n a.1 b.1) fun r0 =>
 tif (r0) (
 tif (a.2.1=b.2.1) (
 a0a (g2o n a.2.2.1 b.2.2.1) fun r1 =>
 tif (r1) (
 tif ((decide (a.2.2.2.2.1=b.2.2.2.2.1))&&((decide (a.2.2.2.2.2.1=b.2.2.2.2.2.1))&&((decide (a.2.2.2.2.2.2.1.1=b.2.2.2.2.2.2.1.1))&&((decide (a.2.2.2.2.2.2.1.2.1=b.2.2.2.2.2.2.1.2.1))&&((decide (a.2.2.2.2.2.2.1.2.2.1=b.2.2.2.2.2.2.1.2.2.1))&&((a.2.2.2.2.2.2.1.2.2.2==b.2.2.2.2.2.2.1.2.2.2)&&((decide (a.2.2.2.2.2.2.2.1.1=b.2.2.2.2.2.2.2.1.1))&&((decide (a.2.2.2.2.2.2.2.1.2.1=b.2.2.2.2.2.2.2.1.2.1))&&((decide (a.2.2.2.2.2.2.2.1.2.2.1=b.2.2.2.2.2.2.2.1.2.2.1))&&((a.2.2.2.2.2.2.2.1.2.2.2==b.2.2.2.2.2.2.2.1.2.2.2)&&((decide (a.2.2.2.2.2.2.2.2.1.1=b.2.2.2.2.2.2.2.2.1.1))&&((decide (a.2.2.2.2.2.2.2.2.1.2=b.2.2.2.2.2.2.2.2.1.2))&&((decide (a.2.2.2.2.2.2.2.2.2.1=b.2.2.2.2.2.2.2.2.2.1))&&((decide (a.2.2.2.2.2.2.2.2.2.2.1=b.2.2.2.2.2.2.2.2.2.2.1))&&(decide (a.2.2.2.2.2.2.2.2.2.2.2=b.2.2.2.2.2.2.2.2.2.2.2)))))))))))))))) (
 a0a (j0t n a.2.2.2.1.1 b.2.2.2.1.1) fun r2 =>
 tif (r2) (
 a0a (j0t n a.2.2.2.1.2.1 b.2.2.2.1.2.1) fun r3 =>
 tif (r3) (
 a0a (j0t n a.2.2.2.1.2.2 b.2.2.2.1.2.2) fun r4 =>
 some r4) (
 some false)) (
 some false)) (
 some false)) (
 some false)) (
 some false)) (
 some false):=by kernel_rfl
theorem f2f (n:Nat)(s:a0h)(now:Int):v1a (n+1) s now =
 tif (now<=s.2.1) (
 some (s,false)) (
 tif ((35184372088832:Int)<=now) (
 some (s,false)) (
 a0a (d0w n s) fun r0 =>
 tif (!(r0=0)) (
 some (s,false)) (
 some ((s.1,(now,s.2.2)),true)))):=by kernel_rfl
theorem m1n (n:Nat)(s:a0h):z0g (n+1) s =
 a0a (d0w n s) fun r0 =>
 tif (!(r0=0)) (
 some (((0,((0,(0,0)),((0,(0,0)),(0,0)))),(0,(0,[]))),r0)) (
 tif (((0:Int)<=(s.2.2.2.length:Int))&&(((s.2.2.2.length:Int)<=(s.2.2.2.length:Int))&&(((s.2.2.2.length:Int)*264)<=140737488355328))) (
 a0a (a1y n s) fun r1 =>
 a0a (i0o n a0b (s,(((0,((0,(0,0)),((0,(0,0)),(0,0)))),(0,(0,[]))),((List.replicate (Int.toNat (s.2.2.2.length:Int)) ([],(0,((0,(0,[])),(([],([],[])),(0,(0,((0,(0,(0,false))),((0,(0,(0,false))),((0,0),(0,(0,0)))))))))))),(r1,((r1.length:Int),(0,()))))))) fun r2 =>
 b0v (fun y3 =>
 some ((y3.1.1,(y3.1.2.1,(y3.1.2.2.1,y3.2.2.1))),0)) (fun z4 =>
 some z4) r2) (
 none)):=by kernel_rfl
theorem r0e (n f:Nat)(s_:a0h)(s2:a0h)(out:(List a0y))(s24:(List Int))(s25:Int)(s26:Int):i0o n (f+1) (s_,s2,out,s24,s25,s26,()) =
 tif (s26<s25) (
 a0a (at? s24 s26) fun r0 =>
 a0a ((s24)[(Int.toNat s26)]?) fun r1 =>
 a0a (at? s_.2.2.2 r1) fun r2 =>
 a0a (c0t n a0b (s_,(s2,(out,(r1,(r2,(s24,(s25,(s26,(s_.1.2.1,(0,()))))))))))) fun r3 =>
 b0v (fun y4 =>
 a0a (at? y4.2.2.1 y4.2.2.2.1) fun r5 =>
 a0a ((y4.2.2.1)[(Int.toNat y4.2.2.2.1)]?) fun r6 =>
 i0o n f (y4.1,(y4.2.1,((List.set y4.2.2.1 (Int.toNat y4.2.2.2.1) y4.2.2.2.2.1),(y4.2.2.2.2.2.1,(y4.2.2.2.2.2.2.1,((wrap .i64 (y4.2.2.2.2.2.2.2.1+1)),()))))))) (fun z7 =>
 some (.inr z7)) r3) (
 some (.inl (s_,(s2,(out,()))))):=by kernel_rfl
theorem x0s (n f:Nat)(s_:a0h)(s2:a0h)(out:(List a0y))(i:Int)(x:a0y)(s24:(List Int))(s25:Int)(s26:Int)(s37:(Int×(Int×Int))):c0t n (f+1) (s_,s2,out,i,x,s24,s25,s26,s37,0,()) =
 a0a (d0v n s_.2.1 s37.1 s_.1.2.2.1.1) fun r0 =>
 tif (!(r0.2=0)) (
 some (.inr (((0,((0,(0,0)),((0,(0,0)),(0,0)))),(0,(0,[]))),r0.2))) (
 a0a (h0g n s_.1 x (0:Int) r0.1) fun r1 =>
 c0t n f (s_,(s2,(out,(i,((x.1,(x.2.1,(x.2.2.1,((r1,x.2.2.2.1.2),x.2.2.2.2)))),(s24,(s25,(s26,(s37,(1,()))))))))))):=by kernel_rfl
theorem x0r (n f:Nat)(s_:a0h)(s2:a0h)(out:(List a0y))(i:Int)(x:a0y)(s24:(List Int))(s25:Int)(s26:Int)(s37:(Int×(Int×Int))):c0t n (f+1) (s_,s2,out,i,x,s24,s25,s26,s37,1,()) =
 a0a (d0v n s_.2.1 s37.2.1 s_.1.2.2.1.2.1) fun r0 =>
 tif (!(r0.2=0)) (
 some (.inr (((0,((0,(0,0)),((0,(0,0)),(0,0)))),(0,(0,[]))),r0.2))) (
 a0a (h0g n s_.1 x (1:Int) r0.1) fun r1 =>
 c0t n f (s_,(s2,(out,(i,((x.1,(x.2.1,(x.2.2.1,((x.2.2.2.1.1,(r1,x.2.2.2.1.2.2)),x.2.2.2.2)))),(s24,(s25,(s26,(s37,(2,()))))))))))):=by kernel_rfl
theorem x0q (n f:Nat)(s_:a0h)(s2:a0h)(out:(List a0y))(i:Int)(x:a0y)(s24:(List Int))(s25:Int)(s26:Int)(s37:(Int×(Int×Int))):c0t n (f+1) (s_,s2,out,i,x,s24,s25,s26,s37,2,()) =
 a0a (d0v n s_.2.1 s37.2.2 s_.1.2.2.1.2.2) fun r0 =>
 tif (!(r0.2=0)) (
 some (.inr (((0,((0,(0,0)),((0,(0,0)),(0,0)))),(0,(0,[]))),r0.2))) (
 a0a (h0g n s_.1 x (2:Int) r0.1) fun r1 =>
 c0t n f (s_,(s2,(out,(i,((x.1,(x.2.1,(x.2.2.1,((x.2.2.2.1.1,(x.2.2.2.1.2.1,r1)),x.2.2.2.2)))),(s24,(s25,(s26,(s37,(3,()))))))))))):=by kernel_rfl
theorem x0p (n f:Nat)(s_:a0h)(s2:a0h)(out:(List a0y))(i:Int)(x:a0y)(s24:(List Int))(s25:Int)(s26:Int)(s37:(Int×(Int×Int))):c0t n (f+1) (s_,s2,out,i,x,s24,s25,s26,s37,3,()) =
 some (.inl (s_,(s2,(out,(i,(x,(s24,(s25,(s26,()))))))))):=by kernel_rfl
theorem g1m (n:Nat)(c:b0a):c1x (n+1) c =
 a0a (c0l n c) fun r0 =>
 tif (!(r0=0)) (
 some (0,r0)) (
 a0a (l1n n c) fun r1 =>
 a0a (l0e n c) fun r2 =>
 tif ((16777216:Int)<(wrap .i64 ((wrap .i64 (r1+1))+(wrap .i64 (c.2.2.2.1*r2))))) (
 some (0,1)) (
 some ((wrap .i64 ((wrap .i64 (r1+1))+(wrap .i64 (c.2.2.2.1*r2)))),0))):=by kernel_rfl
theorem m1s (n:Nat)(s:a0h)(l:(List (List UInt8×List UInt8)))(e:a0l):z0k (n+1) s l e =
 a0a (d0w n s) fun r0 =>
 tif (!(r0=0)) (
 some (0,(false,r0))) (
 a0a (f0x n l) fun r1 =>
 tif (!(r1=0)) (
 some (0,(false,r1))) (
 a0a (e0v n e) fun r2 =>
 tif (!(r2=0)) (
 some (0,(false,r2))) (
 a0a (e1a n s) fun r3 =>
 a0a (i1g n s l) fun r4 =>
 tif (e.1<r3.1) (
 some (0,(false,9))) (
 tif (r3.2<=e.1) (
 some (0,(false,9))) (
 tif (r4.2=0) (
 a0a (at? s.2.2.2 r4.1) fun r5 =>
 tif (e.1<=r5.2.1) (
 some (0,(false,9))) (
 tif (r4.2=0) (
 some (r4.1,(false,0))) (
 tif (e.2.2.2) (
 some (0,(false,3))) (
 a0a (i1f n s) fun r6 =>
 some (r6.1,((decide (r6.2=0)),r6.2)))))) (
 tif (r4.2=0) (
 some (r4.1,(false,0))) (
 tif (e.2.2.2) (
 some (0,(false,3))) (
 a0a (i1f n s) fun r7 =>
 some (r7.1,((decide (r7.2=0)),r7.2)))))))))):=by kernel_rfl
theorem m1h (n:Nat)(s:a0h)(i:Int)(fresh:Bool)(l:(List (List UInt8×List UInt8))):i1w (n+1) s i fresh l =
 tif (fresh) (
 a0a (w0y n s.1 l) fun r0 =>
 some r0) (
 a0a (at? s.2.2.2 i) fun r1 =>
 some (r1,0)):=by kernel_rfl
theorem s1e (n:Nat)(c:b0a)(s:a0y)(e:a0l):d1z (n+1) c s e =
 a0a (o0o n c s) fun r0 =>
 h1m (r0.1) (
 tif (!(r0.2=0)) (
 some (([],(0,((0,(0,[])),(([],([],[])),(0,(0,((0,(0,(0,false))),((0,(0,(0,false))),((0,0),(0,(0,0))))))))))),2)) (
 a0a (e0v n e) fun r1 =>
 tif (!(r1=0)) (
 some (([],(0,((0,(0,[])),(([],([],[])),(0,(0,((0,(0,(0,false))),((0,(0,(0,false))),((0,0),(0,(0,0))))))))))),2)) (
 tif (e.1<=s.2.1) (
 some (([],(0,((0,(0,[])),(([],([],[])),(0,(0,((0,(0,(0,false))),((0,(0,(0,false))),((0,0),(0,(0,0))))))))))),9)) (
 tif (c.2.1.1=0) (
 none) (
 none))))) fun r2 =>
 tif (!(r0.2=0)) (
 some (([],(0,((0,(0,[])),(([],([],[])),(0,(0,((0,(0,(0,false))),((0,(0,(0,false))),((0,0),(0,(0,0))))))))))),2)) (
 a0a (e0v n e) fun r3 =>
 tif (!(r3=0)) (
 some (([],(0,((0,(0,[])),(([],([],[])),(0,(0,((0,(0,(0,false))),((0,(0,(0,false))),((0,0),(0,(0,0))))))))))),2)) (
 tif (e.1<=s.2.1) (
 some (([],(0,((0,(0,[])),(([],([],[])),(0,(0,((0,(0,(0,false))),((0,(0,(0,false))),((0,0),(0,(0,0))))))))))),9)) (
 tif (c.2.1.1=0) (
 none) (
 a0a (r1u n r2 (wrap .i64 (Int.tdiv e.1 c.2.1.1))) fun r4 =>
 tif (!(r4.1=0)) (
 some (([],(0,((0,(0,[])),(([],([],[])),(0,(0,((0,(0,(0,false))),((0,(0,(0,false))),((0,0),(0,(0,0))))))))))),r4.1)) (
 a0a (p2c n r4.2 (wrap .i64 (Int.tdiv e.1 c.2.1.1)) e) fun r5 =>
 tif (!(r5.1=0)) (
 some (([],(0,((0,(0,[])),(([],([],[])),(0,(0,((0,(0,(0,false))),((0,(0,(0,false))),((0,0),(0,(0,0))))))))))),r5.1)) (
 some (r5.2.2,0))))))):=by kernel_rfl
theorem b1j (n:Nat)(s:(List a0y)):o0m (n+1) s =
 tif ((List.length s)=0) (
 both (
 some []) (
 tif (((0+(List.length s))*264)<=140737488355328) (
 some ([]++s)) (
 none))) (
 tif (((0+(List.length s))*264)<=140737488355328) (
 some ([]++s)) (
 none)):=by kernel_rfl
theorem z1a (n:Nat)(s:((List a0c)×((List a0c)×(List a0c)))):k1z (n+1) s =
 a0a (e0l n a0b (s,(0,()))) fun r0 =>
 b0v (fun y1 =>
 some (1:Int)) (fun z2 =>
 some z2) r0:=by kernel_rfl
theorem j0z (n f:Nat)(s_:((List a0c)×((List a0c)×(List a0c))))(s4:Int):e0l n (f+1) (s_,s4,()) =
 tif (s4<3) (
 tif (s4=0) (
 tif ((40:Int)<(s_.1.length:Int)) (
 some (.inr (0:Int))) (
 e0l n f (s_,((wrap .i64 (s4+1)),())))) (
 tif (s4=1) (
 tif ((40:Int)<(s_.2.1.length:Int)) (
 some (.inr (0:Int))) (
 e0l n f (s_,((wrap .i64 (s4+1)),())))) (
 tif (s4=2) (
 tif ((40:Int)<(s_.2.2.length:Int)) (
 some (.inr (0:Int))) (
 e0l n f (s_,((wrap .i64 (s4+1)),())))) (
 none)))) (
 some (.inl ())):=by kernel_rfl
theorem c1z (n:Nat)(c:b0a):c0l (n+1) c =
 a0a (h0a n c.1 (1:Int) (4096:Int)) fun r0 =>
 tif (r0) (
 a0a (h0a n c.2.2.2.1 (1:Int) (65536:Int)) fun r1 =>
 tif (r1) (
 a0a (h0a n c.2.2.2.2 (1:Int) (8192:Int)) fun r2 =>
 tif (r2) (
 a0a (k0c n c.2.1.1 (1:Int) (1099511627776:Int)) fun r3 =>
 tif (r3) (
 a0a (h0a n c.2.2.1.1 (1:Int) (4096:Int)) fun r4 =>
 tif (r4) (
 a0a (k0c n c.2.1.2.1 (1:Int) (1099511627776:Int)) fun r5 =>
 tif (r5) (
 a0a (h0a n c.2.2.1.2.1 (1:Int) (4096:Int)) fun r6 =>
 tif (r6) (
 a0a (k0c n c.2.1.2.2 (1:Int) (1099511627776:Int)) fun r7 =>
 tif (r7) (
 a0a (h0a n c.2.2.1.2.2 (1:Int) (4096:Int)) fun r8 =>
 tif (r8) (
 tif (c.2.1.1=0) (
 none) (
 tif ((Int.tmod c.2.1.2.1 c.2.1.1)=0) (
 tif (c.2.1.1=0) (
 none) (
 tif ((wrap .i64 (Int.tdiv c.2.1.2.1 c.2.1.1))<=c.2.2.1.1) (
 tif (c.2.1.2.1=0) (
 none) (
 tif ((Int.tmod c.2.1.2.2 c.2.1.2.1)=0) (
 tif (c.2.1.2.1=0) (
 none) (
 tif ((wrap .i64 (Int.tdiv c.2.1.2.2 c.2.1.2.1))<=c.2.2.1.2.1) (
 tif (!((wrap .i64 (Int.tdiv c.2.1.2.2 c.2.1.2.1))<=c.2.2.1.2.1)) (
 some (2:Int)) (
 a0a (l0c n c) fun r9 =>
 tif (c.2.2.2.2<=r9) (
 some (2:Int)) (
 some (0:Int)))) (
 tif (!((wrap .i64 (Int.tdiv c.2.1.2.2 c.2.1.2.1))<=c.2.2.1.2.1)) (
 some (2:Int)) (
 a0a (l0c n c) fun r10 =>
 tif (c.2.2.2.2<=r10) (
 some (2:Int)) (
 some (0:Int)))))) (
 some (2:Int)))) (
 tif (!((wrap .i64 (Int.tdiv c.2.1.2.1 c.2.1.1))<=c.2.2.1.1)) (
 some (2:Int)) (
 a0a (l0c n c) fun r11 =>
 tif (c.2.2.2.2<=r11) (
 some (2:Int)) (
 some (0:Int)))))) (
 some (2:Int)))) (
 tif (!r8) (
 some (2:Int)) (
 a0a (l0c n c) fun r12 =>
 tif (c.2.2.2.2<=r12) (
 some (2:Int)) (
 some (0:Int))))) (
 some (2:Int))) (
 some (2:Int))) (
 some (2:Int))) (
 some (2:Int))) (
 some (2:Int))) (
 some (2:Int))) (
 some (2:Int))) (
 some (2:Int)):=by kernel_rfl
theorem b2u (n:Nat)(t:Int):a1w (n+1) t =
 tif ((0:Int)<=t) (
 some (decide (t<35184372088832))) (
 some false):=by kernel_rfl
theorem i2y (n:Nat)(a:Int)(b:Int)(w:Int):j0m (n+1) a b w =
 a0a (q1q n w) fun r0 =>
 tif (!r0) (
 some (0,(0,1))) (
 tif (a<0) (
 some (0,(0,1))) (
 tif ((35184372088832:Int)<b) (
 some (0,(0,1))) (
 tif (b<=a) (
 some (0,(0,1))) (
 tif (w=0) (
 none) (
 tif (!((Int.tmod a w)=0)) (
 some (0,(0,10))) (
 tif (w=0) (
 none) (
 tif (!((Int.tmod b w)=0)) (
 some (0,(0,10))) (
 tif (w=0) (
 none) (
 tif (w=0) (
 none) (
 some ((wrap .i64 (Int.tdiv a w)),((wrap .i64 (Int.tdiv b w)),0)))))))))))):=by kernel_rfl
theorem n1y (n:Nat)(e:a0l):e0v (n+1) e =
 tif (e.1<0) (
 some (2:Int)) (
 tif ((35184372088832:Int)<=e.1) (
 some (2:Int)) (
 tif (e.2.2.1<0) (
 some (2:Int)) (
 tif (e.1<e.2.2.1) (
 some (2:Int)) (
 tif (e.2.2.2) (
 tif (!((decide (e.1=e.1))&&((decide (e.2.1=0))&&((decide (e.2.2.1=0))&&(e.2.2.2==true))))) (
 some (2:Int)) (
 some (0:Int))) (
 some (0:Int)))))):=by kernel_rfl
theorem s1h (n:Nat)(s:a0h):e1a (n+1) s =
 a0a (d0w n s) fun r0 =>
 tif (!(r0=0)) (
 some (0,0)) (
 a0a (r1s n s) fun r1 =>
 some (r1,(if (35184372088832:Int)<(wrap .i64 (r1+s.1.2.1.1)) then (35184372088832:Int) else (wrap .i64 (r1+s.1.2.1.1))))):=by kernel_rfl
theorem b2x (n:Nat)(s:a0h):i1f (n+1) s =
 a0a (s0r n s) fun r0 =>
 tif (!(r0.2=0)) (
 some (0,r0.2)) (
 a0a (e0r n r0.1 (fun y1=>h0h n y1.1 r0.1)) fun r2 =>
 tif (r2<0) (
 some (0,7)) (
 some (r2,0))):=by kernel_rfl
theorem m1p (n:Nat)(c:b0a)(s:a0y):o0o (n+1) c s =
 a0a (f1b n c s.2.2.2.1) fun r0 =>
 tif (!(r0=0)) (
 some (none,2)) (
 a0a (f0x n s.1) fun r1 =>
 tif (!(r1=0)) (
 some (none,2)) (
 a0a (b1q n s.2.2.1 c.1) fun r2 =>
 tif (!(r2=0)) (
 some (none,2)) (
 tif (s.2.1=((-1):Int)) (
 a0a (j1r n (c,s)) fun r3 =>
 tif (r3) (
 some ((some (c,s)),0)) (
 tif (!(s.2.1=((-1):Int))) (
 a0a (i1h n (c,s)) fun r4 =>
 tif (r4) (
 some ((some (c,s)),0)) (
 some (none,2))) (
 some (none,2)))) (
 tif (!(s.2.1=((-1):Int))) (
 a0a (i1h n (c,s)) fun r5 =>
 tif (r5) (
 some ((some (c,s)),0)) (
 some (none,2))) (
 some (none,2)))))):=by kernel_rfl
theorem c2d (n:Nat)(s:b0n)(i:Int):r1u (n+1) s i =
 tif (s.2.2.2.2.2.1=i) (
 some (0,s)) (
 tif (s.2.2.2.2.2.2.1=0) (
 some (0,s)) (
 a0a (e1z n s.1 s.2.2.2.2.1 s.2.2.2.2.2 i) fun r0 =>
 tif (r0.2=0) (
 some (r0.2,(s.1,(s.2.1,(s.2.2.1,(s.2.2.2.1,(r0.1,(0,(0,((0,(0,(0,false))),((0,(0,(0,false))),((0,0),(0,(0,0)))))))))))))) (
 some (r0.2,s)))):=by kernel_rfl
theorem j2o (n:Nat)(s:b0n)(i:Int)(e:a0l):p2c (n+1) s i e =
 a0a (c2z n s.2.2.2.1 s.1.1 e) fun r0 =>
 a0a (v1q n s.2.2.2.2.2.2 e) fun r1 =>
 tif (!(r0.2=0)) (
 some (r0.2,s)) (
 some (r1.2,(s.1,(s.2.1,(e.1,(r0.1,(s.2.2.2.2.1,(i,r1.1)))))))):=by kernel_rfl
theorem b2a (n:Nat)(a:(Int×Int))(b:(Int×Int)):i1c (n+1) a b =
 tif (((0:Int)<=a.2)&&(((0:Int)<=b.2)&&true)) (
 tif (((0:Int)<=a.1)&&(((0:Int)<=b.1)&&(((0:Int)<=(((a.2+b.2)+0) / (18446744073709551616:Int)))&&((((a.2+b.2)+0) / (18446744073709551616:Int))<=1)))) (
 a0a (u0v n ((((a.1+b.1)+(((a.2+b.2)+0) / (18446744073709551616:Int))) % (18446744073709551616:Int)),(((a.2+b.2)+0) % (18446744073709551616:Int))) (((a.1+b.1)+(((a.2+b.2)+0) / (18446744073709551616:Int))) / (18446744073709551616:Int))) fun r0 =>
 some r0) (
 none)) (
 none):=by kernel_rfl
theorem o1b (n:Nat)(n_:Int)(low:Int)(high:Int):h0a (n+1) n_ low high =
 tif (low<=n_) (
 some (decide (n_<=high))) (
 some false):=by kernel_rfl
theorem h1y (n:Nat)(n_:Int)(low:Int)(high:Int):k0c (n+1) n_ low high =
 tif (low<=n_) (
 some (decide (n_<=high))) (
 some false):=by kernel_rfl
theorem a1v (n:Nat)(k:Int)(p1:Int)(p2:a0h):g0r (n+1) k p1 p2 =
 tif (k=p1) (
 some true) (
 a0a (e0s n p2 k) fun r0 =>
 tif (r0) (
 a0a (at? p2.2.2.2 k) fun r1 =>
 a0a (at? p2.2.2.2 p1) fun r2 =>
 a0a (r0q n r1.1 r2.1) fun r3 =>
 some r3) (
 some false)):=by kernel_rfl
theorem d1p (n:Nat)(v:a0h)(i:Int):e0s (n+1) v i =
 a0a (at? v.2.2.2 i) fun r0 =>
 a0a (a1x n r0) fun r1 =>
 tif (!r1) (
 tif (v.2.2.1=((-1):Int)) (
 some true) (
 a0a (t0b n v.1 r0.2.1 v.2.2.1) fun r2 =>
 some (!r2))) (
 some false):=by kernel_rfl
theorem n1e (n:Nat)(c:Int):t0s (n+1) c =
 tif ((48:Int)<=c) (
 some (decide (c<=57))) (
 some false):=by kernel_rfl
theorem s0w (n:Nat)(s:(List Int))(f_:((Int×Unit)->Option Bool)):i0k (n+1) s f_ =
 a0a (r0j n s f_) fun r0 =>
 some (decide ((0:Int)<=r0)):=by kernel_rfl
theorem t1q (n:Nat)(c:Int):e1s (n+1) c =
 a0a (t0s n c) fun r0 =>
 tif (r0) (
 some true) (
 tif (c=95) (
 some true) (
 tif ((97:Int)<=(orI .u8 c (32:Int))) (
 some (decide ((orI .u8 c (32:Int))<=122))) (
 some false))):=by kernel_rfl
theorem a2a (n:Nat)(s:a0h)(k:Int):a2b (n+1) s k =
 a0a (d0w n s) fun r0 =>
 tif (!(r0=0)) (
 some r0) (
 tif (k<0) (
 some (1:Int)) (
 tif ((3:Int)<=k) (
 some (1:Int)) (
 some (0:Int)))):=by kernel_rfl
theorem m1i (n:Nat)(n_:Int)(low:Int)(high:Int):s0l (n+1) n_ low high =
 tif (low<=n_) (
 some (decide (n_<=high))) (
 some false):=by kernel_rfl
theorem w1q (n:Nat)(l:(List a0c))(i:Int)(k:Int):j0n (n+1) l i k =
 tif (i<0) (
 some ((0,((0,(0,(0,false))),((0,(0,(0,false))),((0,0),(0,(0,0)))))),1)) (
 tif (k<i) (
 some ((0,((0,(0,(0,false))),((0,(0,(0,false))),((0,0),(0,(0,0)))))),1)) (
 a0a (r1i n l) fun r0 =>
 a0a (j0f n a0b (i,(k,((0,((0,(0,(0,false))),((0,(0,(0,false))),((0,0),(0,(0,0)))))),([],(r0,((r0.length:Int),(0,())))))))) fun r1 =>
 b0v (fun y2 =>
 a0a (v1p n y2.2.1) fun r3 =>
 some r3) (fun z4 =>
 some z4) r1)):=by kernel_rfl
theorem v0b (n f:Nat)(i:Int)(k:Int)(s6:c0q)(cells:(List c0q))(s20:(List a0c))(s21:Int)(s22:Int):j0f n (f+1) (i,k,s6,cells,s20,s21,s22,()) =
 tif (s22<s21) (
 a0a (at? s20 s22) fun r0 =>
 tif (i<=r0.1) (
 tif (r0.1<k) (
 tif ((((List.length cells)+1)*112)<=140737488355328) (
 j0f n f (i,(k,(s6,((cells++(r0.2::[])),(s20,(s21,((wrap .i64 (s22+1)),())))))))) (
 none)) (
 j0f n f (i,(k,(s6,(cells,(s20,(s21,((wrap .i64 (s22+1)),()))))))))) (
 j0f n f (i,(k,(s6,(cells,(s20,(s21,((wrap .i64 (s22+1)),()))))))))) (
 some (.inl (s6,(cells,())))):=by kernel_rfl
theorem x1d (n:Nat)(s:b0n):o0i (n+1) s (0:Int) =
 some (s.2.2.2.2.2.2,0):=by kernel_rfl
theorem x1c (n:Nat)(s:b0n):o0i (n+1) s (1:Int) =
 tif (s.1.2.1.2.1=0) (
 none) (
 tif (s.1.2.1.1=0) (
 none) (
 tif (s.1.2.1.1=0) (
 none) (
 a0a (j0n n s.2.2.2.2.1.1 (wrap .i64 ((wrap .i64 (Int.tdiv s.2.2.1 s.1.2.1.2.1))*(wrap .i64 (Int.tdiv s.1.2.1.2.1 s.1.2.1.1)))) (wrap .i64 (Int.tdiv s.2.2.1 s.1.2.1.1))) fun r0 =>
 a0a (o0i n s (0:Int)) fun r1 =>
 tif (!(r0.2=0)) (
 some ((0,((0,(0,(0,false))),((0,(0,(0,false))),((0,0),(0,(0,0)))))),(if r0.2<r1.2 then r1.2 else r0.2))) (
 tif (!(r1.2=0)) (
 some ((0,((0,(0,(0,false))),((0,(0,(0,false))),((0,0),(0,(0,0)))))),(if r0.2<r1.2 then r1.2 else r0.2))) (
 a0a (i0c n r0.1 r1.1) fun r2 =>
 some r2))))):=by kernel_rfl
theorem x1b (n:Nat)(s:b0n):o0i (n+1) s (2:Int) =
 tif (s.1.2.1.2.2=0) (
 none) (
 tif (s.1.2.1.2.1=0) (
 none) (
 tif (s.1.2.1.2.1=0) (
 none) (
 a0a (j0n n s.2.2.2.2.1.2.1 (wrap .i64 ((wrap .i64 (Int.tdiv s.2.2.1 s.1.2.1.2.2))*(wrap .i64 (Int.tdiv s.1.2.1.2.2 s.1.2.1.2.1)))) (wrap .i64 (Int.tdiv s.2.2.1 s.1.2.1.2.1))) fun r0 =>
 a0a (o0i n s (1:Int)) fun r1 =>
 tif (!(r0.2=0)) (
 some ((0,((0,(0,(0,false))),((0,(0,(0,false))),((0,0),(0,(0,0)))))),(if r0.2<r1.2 then r1.2 else r0.2))) (
 tif (!(r1.2=0)) (
 some ((0,((0,(0,(0,false))),((0,(0,(0,false))),((0,0),(0,(0,0)))))),(if r0.2<r1.2 then r1.2 else r0.2))) (
 a0a (i0c n r0.1 r1.1) fun r2 =>
 some r2))))):=by kernel_rfl
theorem v1n (n:Nat)(a:c0q)(b:c0q):i0c (n+1) a b =
 a0a (s0f n a) fun r0 =>
 tif (!(r0=0)) (
 some ((0,((0,(0,(0,false))),((0,(0,(0,false))),((0,0),(0,(0,0)))))),2)) (
 a0a (s0f n b) fun r1 =>
 tif (!(r1=0)) (
 some ((0,((0,(0,(0,false))),((0,(0,(0,false))),((0,0),(0,(0,0)))))),2)) (
 a0a (w0h n a) fun r2 =>
 tif (r2) (
 some (b,0)) (
 a0a (w0h n b) fun r3 =>
 tif (r3) (
 some (a,0)) (
 a0a (a2l n a b) fun r4 =>
 some r4)))):=by kernel_rfl
theorem c1f (n:Nat)(x:Int)(y:Int):g0u (n+1) x y =
 some ((wrap .u64 ((wrap .u64 ((wrap .u64 ((shrI .u64 x (32:Int))*(shrI .u64 y (32:Int))))+(shrI .u64 (wrap .u64 ((wrap .u64 ((shrI .u64 x (32:Int))*(andI .u64 y (4294967295:Int))))+(shrI .u64 (wrap .u64 ((andI .u64 x (4294967295:Int))*(andI .u64 y (4294967295:Int)))) (32:Int)))) (32:Int))))+(shrI .u64 (wrap .u64 ((andI .u64 (wrap .u64 ((wrap .u64 ((shrI .u64 x (32:Int))*(andI .u64 y (4294967295:Int))))+(shrI .u64 (wrap .u64 ((andI .u64 x (4294967295:Int))*(andI .u64 y (4294967295:Int)))) (32:Int)))) (4294967295:Int))+(wrap .u64 ((andI .u64 x (4294967295:Int))*(shrI .u64 y (32:Int)))))) (32:Int)))),(wrap .u64 (x*y))):=by kernel_rfl
theorem s1o (n:Nat)(a:(Int×Int)):n0q (n+1) a =
 some ((decide (a.1=0))&&(decide (a.2=0))):=by kernel_rfl
theorem x1t (n:Nat)(a:(Int×Int))(b:(Int×Int)):k1g (n+1) a b =
 a0a (n0q n a) fun r0 =>
 tif (r0) (
 some ((orI .u64 a.1 b.1),(orI .u64 a.2 b.2))) (
 a0a (n0q n b) fun r1 =>
 tif (r1) (
 some ((orI .u64 a.1 b.1),(orI .u64 a.2 b.2))) (
 a0a (h0u n a) fun r2 =>
 a0a (h0u n b) fun r3 =>
 a0a (h0u n a) fun r4 =>
 a0a (x0b n a r4) fun r5 =>
 a0a (d0s n a0b (r5,(b,((0,0),((if r3<r2 then r3 else r2),()))))) fun r6 =>
 b0v (fun y7 =>
 a0a (b1r n y7.1 y7.2.2.1) fun r8 =>
 some r8) (fun z9 =>
 some z9) r6)):=by kernel_rfl
theorem o0t (n f:Nat)(a_:(Int×Int))(b_:(Int×Int))(s4:(Int×Int))(twos:Int):d0s n (f+1) (a_,b_,s4,twos,()) =
 a0a (n0q n b_) fun r0 =>
 tif (!r0) (
 a0a (h0u n b_) fun r1 =>
 a0a (x0b n b_ r1) fun r2 =>
 a0a (n0y n r2 a_) fun r3 =>
 tif (r3) (
 a0a (k0x n a_ r2) fun r4 =>
 d0s n f (r2,(r4,(s4,(twos,()))))) (
 a0a (k0x n r2 a_) fun r5 =>
 d0s n f (a_,(r5,(s4,(twos,())))))) (
 some (.inl (a_,(s4,(twos,()))))):=by kernel_rfl
theorem m1u (n:Nat)(a:(Int×Int))(d:(Int×Int)):t0h (n+1) a d =
 a0a (w0z n a) fun r0 =>
 a0a (w0z n d) fun r1 =>
 a0a (i0q n a0b (a,(d,((0,0),((0,0),((wrap .i64 (r0-r1)),())))))) fun r2 =>
 b0v (fun y3 =>
 some y3.2.1) (fun z4 =>
 some z4) r2:=by kernel_rfl
theorem k0w (n f:Nat)(a_:(Int×Int))(d_:(Int×Int))(s4:(Int×Int))(q:(Int×Int))(by_:Int):i0q n (f+1) (a_,d_,s4,q,by_,()) =
 tif ((0:Int)<=by_) (
 a0a (b1r n d_ by_) fun r0 =>
 a0a (n0y n a_ r0) fun r1 =>
 tif (r1) (
 i0q n f (a_,(d_,(s4,(q,((wrap .i64 (by_-1)),())))))) (
 a0a (k0x n a_ r0) fun r2 =>
 a0a (y0z n (1:Int)) fun r3 =>
 a0a (b1r n r3 by_) fun r4 =>
 i0q n f (r2,(d_,(s4,(((orI .u64 q.1 r4.1),(orI .u64 q.2 r4.2)),((wrap .i64 (by_-1)),()))))))) (
 some (.inl (s4,(q,())))):=by kernel_rfl
theorem l1i (n:Nat)(p:a0l)(c:a0l):m0g (n+1) p c =
 a0a (p0d n (p::(c::[]))) fun r0 =>
 tif (r0) (
 some (decide (p.1<c.1))) (
 some false):=by kernel_rfl
theorem n2c (n:Nat)(n_:Int)(most:Int):l1u (n+1) n_ most =
 tif ((0:Int)<=n_) (
 some (decide (n_<=most))) (
 some false):=by kernel_rfl
theorem h1w (n:Nat)(p:a0l)(c:a0l):u0b (n+1) p c =
 a0a (p0d n (p::(c::[]))) fun r0 =>
 tif (!r0) (
 some ((0,((0,(0,(0,false))),((0,(0,(0,false))),((0,0),(0,(0,0)))))),2)) (
 tif (c.1<=p.1) (
 some ((0,((0,(0,(0,false))),((0,(0,(0,false))),((0,0),(0,(0,0)))))),9)) (
 tif (c.2.2.2) (
 some ((0,((0,(0,(0,false))),((0,(0,(0,false))),((0,0),(0,(0,0)))))),0)) (
 tif (p.1<c.2.2.1) (
 a0a (x0k n c (wrap .i64 (c.1-c.2.2.1))) fun r1 =>
 some (r1,0)) (
 tif (p.2.2.2) (
 some ((0,((0,(0,(0,false))),((0,(0,(0,false))),((0,0),(0,(1,0)))))),0)) (
 tif (c.2.1<p.2.1) (
 a0a (x0k n c (wrap .i64 (c.1-p.1))) fun r2 =>
 some (r2,0)) (
 a0a (y0z n (wrap .u64 (c.2.1-p.2.1))) fun r3 =>
 some ((0,((0,(0,(0,false))),((0,(0,(0,false))),(r3,(0,(0,(wrap .i64 (c.1-p.1)))))))),0))))))):=by kernel_rfl
theorem a2y (n:Nat)(l:(List (Int×Int))):q1o (n+1) l =
 a0a (s0k n a0b ((0,0),((0,0),(l,((l.length:Int),(0,())))))) fun r0 =>
 b0v (fun y1 =>
 some (y1.2.1,0)) (fun z2 =>
 some z2) r0:=by kernel_rfl
theorem y0d (n f:Nat)(s2:(Int×Int))(a:(Int×Int))(s9:(List (Int×Int)))(s10:Int)(s11:Int):s0k n (f+1) (s2,a,s9,s10,s11,()) =
 tif (s11<s10) (
 a0a (at? s9 s11) fun r0 =>
 a0a (i1c n a r0) fun r1 =>
 tif (!(r1.2=0)) (
 some (.inr ((0,0),r1.2))) (
 s0k n f (s2,(r1.1,(s9,(s10,((wrap .i64 (s11+1)),()))))))) (
 some (.inl (s2,(a,())))):=by kernel_rfl
theorem a2z (n:Nat)(a:(Int×Int))(b:(Int×Int)):q1p (n+1) a b =
 tif ((((0:Int)<=a.2)&&((0:Int)<=b.2))&&((b.2<18446744073709551616)&&true)) (
 tif ((((0:Int)<=a.1)&&((0:Int)<=b.1))&&((b.1<18446744073709551616)&&(((0:Int)<=(if a.2<(b.2+0) then (1:Int) else (0:Int)))&&((if a.2<(b.2+0) then (1:Int) else (0:Int))<=1)))) (
 a0a (u0v n ((((a.1-b.1)-(if a.2<(b.2+0) then (1:Int) else (0:Int))) % (18446744073709551616:Int)),(((a.2-b.2)-0) % (18446744073709551616:Int))) (if a.1<(b.1+(if a.2<(b.2+0) then (1:Int) else (0:Int))) then (1:Int) else (0:Int))) fun r0 =>
 some r0) (
 none)) (
 none):=by kernel_rfl
theorem c1g (n:Nat)(x:Int):d0y (n+1) x =
 tif ((4294967296:Int)<=x) (
 tif ((65536:Int)<=(shrI .u64 x (32:Int))) (
 tif ((256:Int)<=(shrI .u64 (shrI .u64 x (32:Int)) (16:Int))) (
 a0a (at? i0e (wrap .u8 (shrI .u64 (shrI .u64 (shrI .u64 x (32:Int)) (16:Int)) (8:Int)))) fun r0 =>
 some (wrap .i64 ((56:Int)+(wrap .i64 (((UInt8.toNat r0):Nat):Int))))) (
 a0a (at? i0e (wrap .u8 (shrI .u64 (shrI .u64 x (32:Int)) (16:Int)))) fun r1 =>
 some (wrap .i64 ((48:Int)+(wrap .i64 (((UInt8.toNat r1):Nat):Int)))))) (
 tif ((256:Int)<=(shrI .u64 x (32:Int))) (
 a0a (at? i0e (wrap .u8 (shrI .u64 (shrI .u64 x (32:Int)) (8:Int)))) fun r2 =>
 some (wrap .i64 ((40:Int)+(wrap .i64 (((UInt8.toNat r2):Nat):Int))))) (
 a0a (at? i0e (wrap .u8 (shrI .u64 x (32:Int)))) fun r3 =>
 some (wrap .i64 ((32:Int)+(wrap .i64 (((UInt8.toNat r3):Nat):Int))))))) (
 tif ((65536:Int)<=x) (
 tif ((256:Int)<=(shrI .u64 x (16:Int))) (
 a0a (at? i0e (wrap .u8 (shrI .u64 (shrI .u64 x (16:Int)) (8:Int)))) fun r4 =>
 some (wrap .i64 ((24:Int)+(wrap .i64 (((UInt8.toNat r4):Nat):Int))))) (
 a0a (at? i0e (wrap .u8 (shrI .u64 x (16:Int)))) fun r5 =>
 some (wrap .i64 ((16:Int)+(wrap .i64 (((UInt8.toNat r5):Nat):Int)))))) (
 tif ((256:Int)<=x) (
 a0a (at? i0e (wrap .u8 (shrI .u64 x (8:Int)))) fun r6 =>
 some (wrap .i64 ((8:Int)+(wrap .i64 (((UInt8.toNat r6):Nat):Int))))) (
 a0a (at? i0e (wrap .u8 x)) fun r7 =>
 some (wrap .i64 ((0:Int)+(wrap .i64 (((UInt8.toNat r7):Nat):Int))))))):=by kernel_rfl
theorem i2z (n:Nat)(i:Int)(n_:Int):q1r (n+1) i n_ =
 tif (i<0) (
 some (0:Int)) (
 tif (n_<1) (
 some (0:Int)) (
 tif (n_=0) (
 none) (
 some (Int.tmod i n_)))):=by kernel_rfl
theorem m0s (n:Nat)(s:(List a0c))(f_:((a0c×Unit)->Option Bool)):k0s (n+1) s f_ =
 a0a (d0o n a0b (s,(f_,((s.length:Int),(0,()))))) fun r0 =>
 b0v (fun y1 =>
 some ((-1):Int)) (fun z2 =>
 some z2) r0:=by kernel_rfl
theorem j0r (n f:Nat)(s:(List a0c))(f_:((a0c×Unit)->Option Bool))(s7:Int)(s8:Int):d0o n (f+1) (s,f_,s7,s8,()) =
 tif (s8<s7) (
 a0a (at? s s8) fun r0 =>
 a0a (f_ (r0,())) fun r1 =>
 tif (r1) (
 some (.inr s8)) (
 d0o n f (s,(f_,(s7,((wrap .i64 (s8+1)),())))))) (
 some (.inl ())):=by kernel_rfl
theorem j2y (n:Nat)(data:(List a0c))(n_:Int)(cmp:((a0c×(a0c×Unit))->Option Int)):p2h (n+1) data n_ cmp =
 a0a (r0h n a0b (data,(n_,(cmp,(20,(0,(20,()))))))) fun r0 =>
 b0v (fun y1 =>
 a0a (s1a n y1.1 y1.2.2.2.2.1 y1.2.1 y1.2.2.1) fun r2 =>
 a0a (n0p n a0b (r2,(y1.2.1,(y1.2.2.1,(y1.2.2.2.1,()))))) fun r3 =>
 b0v (fun y4 =>
 some y4.1) (fun z5 =>
 some z5) r3) (fun z6 =>
 some z6) r0:=by kernel_rfl
theorem b1f (n f:Nat)(data:(List a0c))(n_:Int)(cmp:((a0c×(a0c×Unit))->Option Int))(blockSize:Int)(a:Int)(b:Int):r0h n (f+1) (data,n_,cmp,blockSize,a,b,()) =
 tif (b<=n_) (
 a0a (s1a n data a b cmp) fun r0 =>
 r0h n f (r0,(n_,(cmp,(blockSize,(b,((wrap .i64 (b+blockSize)),()))))))) (
 some (.inl (data,(n_,(cmp,(blockSize,(a,()))))))):=by kernel_rfl
theorem b1e (n f:Nat)(data:(List a0c))(n_:Int)(cmp:((a0c×(a0c×Unit))->Option Int))(blockSize:Int):n0p n (f+1) (data,n_,cmp,blockSize,()) =
 tif (blockSize<n_) (
 a0a (w0v n a0b (data,(n_,(cmp,(blockSize,(0,((wrap .i64 ((2:Int)*blockSize)),()))))))) fun r0 =>
 b0v (fun y1 =>
 tif ((wrap .i64 (y1.2.2.2.2.1+y1.2.2.2.1))<y1.2.1) (
 a0a (b0t n y1.1 y1.2.2.2.2.1 (wrap .i64 (y1.2.2.2.2.1+y1.2.2.2.1)) y1.2.1 y1.2.2.1) fun r2 =>
 n0p n f (r2,(y1.2.1,(y1.2.2.1,((wrap .i64 (y1.2.2.2.1*2)),()))))) (
 n0p n f (y1.1,(y1.2.1,(y1.2.2.1,((wrap .i64 (y1.2.2.2.1*2)),())))))) (fun z3 =>
 some (.inr z3)) r0) (
 some (.inl (data,()))):=by kernel_rfl
theorem b1d (n f:Nat)(data:(List a0c))(n_:Int)(cmp:((a0c×(a0c×Unit))->Option Int))(blockSize:Int)(a:Int)(b:Int):w0v n (f+1) (data,n_,cmp,blockSize,a,b,()) =
 tif (b<=n_) (
 a0a (b0t n data a (wrap .i64 (a+blockSize)) b cmp) fun r0 =>
 w0v n f (r0,(n_,(cmp,(blockSize,(b,((wrap .i64 (b+(wrap .i64 ((2:Int)*blockSize)))),()))))))) (
 some (.inl (data,(n_,(cmp,(blockSize,(a,()))))))):=by kernel_rfl
theorem q0f (n:Nat)(x:Int):p0g (n+1) x =
 some (!(decide (x=x))):=by kernel_rfl
theorem u1p (n:Nat)(c:a0l)(seen:Int):x0k (n+1) c seen =
 a0a (y0z n c.2.1) fun r0 =>
 some (0,((0,(0,(0,false))),((0,(0,(0,false))),(r0,(1,(0,seen)))))):=by kernel_rfl
theorem k2a (n:Nat)(data:(List a0c))(a:Int)(b:Int)(cmp:((a0c×(a0c×Unit))->Option Int)):s1a (n+1) data a b cmp =
 a0a (w0x n a0b (data,(a,(b,(cmp,((wrap .i64 (a+1)),())))))) fun r0 =>
 b0v (fun y1 =>
 some y1.1) (fun z2 =>
 some z2) r0:=by kernel_rfl
theorem b1h (n f:Nat)(data:(List a0c))(a:Int)(b:Int)(cmp:((a0c×(a0c×Unit))->Option Int))(i:Int):w0x n (f+1) (data,a,b,cmp,i,()) =
 tif (i<b) (
 a0a (w0w n a0b (data,(a,(b,(cmp,(i,(i,()))))))) fun r0 =>
 b0v (fun y1 =>
 w0x n f (y1.1,(y1.2.1,(y1.2.2.1,(y1.2.2.2.1,((wrap .i64 (y1.2.2.2.2.1+1)),())))))) (fun z2 =>
 some (.inr z2)) r0) (
 some (.inl (data,()))):=by kernel_rfl
theorem b1g (n f:Nat)(data:(List a0c))(a:Int)(b:Int)(cmp:((a0c×(a0c×Unit))->Option Int))(i:Int)(j:Int):w0w n (f+1) (data,a,b,cmp,i,j,()) =
 tif (a<j) (
 a0a (at? data j) fun r0 =>
 a0a ((data)[(Int.toNat j)]?) fun r1 =>
 a0a (at? data (wrap .i64 (j-1))) fun r2 =>
 a0a ((data)[(Int.toNat (wrap .i64 (j-1)))]?) fun r3 =>
 a0a (cmp (r1,(r3,()))) fun r4 =>
 tif (r4<0) (
 a0a (at? data (wrap .i64 (j-1))) fun r5 =>
 a0a ((data)[(Int.toNat (wrap .i64 (j-1)))]?) fun r6 =>
 a0a (at? data j) fun r7 =>
 a0a ((data)[(Int.toNat j)]?) fun r8 =>
 a0a (at? data j) fun r9 =>
 a0a ((data)[(Int.toNat j)]?) fun r10 =>
 a0a (at? (List.set data (Int.toNat j) r6) (wrap .i64 (j-1))) fun r11 =>
 a0a ((List.set data (Int.toNat j) r6)[(Int.toNat (wrap .i64 (j-1)))]?) fun r12 =>
 w0w n f ((List.set (List.set data (Int.toNat j) r6) (Int.toNat (wrap .i64 (j-1))) r8),(a,(b,(cmp,(i,((wrap .i64 (j-1)),()))))))) (
 some (.inl (data,(a,(b,(cmp,(i,())))))))) (
 some (.inl (data,(a,(b,(cmp,(i,()))))))):=by kernel_rfl
theorem j2w (n:Nat)(data:(List a0c))(a:Int)(m:Int)(b:Int)(cmp:((a0c×(a0c×Unit))->Option Int)):b0t (n+1) data a m b cmp =
 tif ((wrap .i64 (m-a))=1) (
 a0a (r0g n a0b (data,(a,(cmp,(m,(b,())))))) fun r0 =>
 b0v (fun y1 =>
 a0a (w0t n a0b (y1.1,(y1.2.2.1,(y1.2.1,())))) fun r2 =>
 b0v (fun y3 =>
 some y3.1) (fun z4 =>
 some z4) r2) (fun z5 =>
 some z5) r0) (
 tif ((wrap .i64 (b-m))=1) (
 a0a (o0j n a0b (data,(m,(cmp,(a,(m,())))))) fun r6 =>
 b0v (fun y7 =>
 a0a (s0u n a0b (y7.1,(y7.2.2.1,(y7.2.1,())))) fun r8 =>
 b0v (fun y9 =>
 some y9.1) (fun z10 =>
 some z10) r8) (fun z11 =>
 some z11) r6) (
 tif ((wrap .i64 (shrI .u64 (wrap .u64 (wrap .i64 (a+b))) (1:Int)))<m) (
 a0a (k0r n a0b (data,(a,(m,(b,(cmp,((wrap .i64 (shrI .u64 (wrap .u64 (wrap .i64 (a+b))) (1:Int))),((wrap .i64 ((wrap .i64 (shrI .u64 (wrap .u64 (wrap .i64 (a+b))) (1:Int)))+m)),((wrap .i64 ((wrap .i64 ((wrap .i64 (shrI .u64 (wrap .u64 (wrap .i64 (a+b))) (1:Int)))+m))-b)),((wrap .i64 (shrI .u64 (wrap .u64 (wrap .i64 (a+b))) (1:Int))),((wrap .i64 ((wrap .i64 ((wrap .i64 (shrI .u64 (wrap .u64 (wrap .i64 (a+b))) (1:Int)))+m))-1)),()))))))))))) fun r12 =>
 b0v (fun y13 =>
 tif (y13.2.2.2.2.2.2.2.1<y13.2.2.1) (
 tif (y13.2.2.1<(wrap .i64 (y13.2.2.2.2.2.2.1-y13.2.2.2.2.2.2.2.1))) (
 a0a (j1u n y13.1 y13.2.2.2.2.2.2.2.1 y13.2.2.1 (wrap .i64 (y13.2.2.2.2.2.2.1-y13.2.2.2.2.2.2.2.1)) y13.2.2.2.2.1) fun r14 =>
 tif (y13.2.1<y13.2.2.2.2.2.2.2.1) (
 tif (y13.2.2.2.2.2.2.2.1<y13.2.2.2.2.2.1) (
 a0a (b0t n r14 y13.2.1 y13.2.2.2.2.2.2.2.1 y13.2.2.2.2.2.1 y13.2.2.2.2.1) fun r15 =>
 tif (y13.2.2.2.2.2.1<(wrap .i64 (y13.2.2.2.2.2.2.1-y13.2.2.2.2.2.2.2.1))) (
 tif ((wrap .i64 (y13.2.2.2.2.2.2.1-y13.2.2.2.2.2.2.2.1))<y13.2.2.2.1) (
 a0a (b0t n r15 y13.2.2.2.2.2.1 (wrap .i64 (y13.2.2.2.2.2.2.1-y13.2.2.2.2.2.2.2.1)) y13.2.2.2.1 y13.2.2.2.2.1) fun r16 =>
 some r16) (
 some r15)) (
 some r15)) (
 tif (y13.2.2.2.2.2.1<(wrap .i64 (y13.2.2.2.2.2.2.1-y13.2.2.2.2.2.2.2.1))) (
 tif ((wrap .i64 (y13.2.2.2.2.2.2.1-y13.2.2.2.2.2.2.2.1))<y13.2.2.2.1) (
 a0a (b0t n r14 y13.2.2.2.2.2.1 (wrap .i64 (y13.2.2.2.2.2.2.1-y13.2.2.2.2.2.2.2.1)) y13.2.2.2.1 y13.2.2.2.2.1) fun r17 =>
 some r17) (
 some r14)) (
 some r14))) (
 tif (y13.2.2.2.2.2.1<(wrap .i64 (y13.2.2.2.2.2.2.1-y13.2.2.2.2.2.2.2.1))) (
 tif ((wrap .i64 (y13.2.2.2.2.2.2.1-y13.2.2.2.2.2.2.2.1))<y13.2.2.2.1) (
 a0a (b0t n r14 y13.2.2.2.2.2.1 (wrap .i64 (y13.2.2.2.2.2.2.1-y13.2.2.2.2.2.2.2.1)) y13.2.2.2.1 y13.2.2.2.2.1) fun r18 =>
 some r18) (
 some r14)) (
 some r14))) (
 tif (y13.2.1<y13.2.2.2.2.2.2.2.1) (
 tif (y13.2.2.2.2.2.2.2.1<y13.2.2.2.2.2.1) (
 a0a (b0t n y13.1 y13.2.1 y13.2.2.2.2.2.2.2.1 y13.2.2.2.2.2.1 y13.2.2.2.2.1) fun r19 =>
 tif (y13.2.2.2.2.2.1<(wrap .i64 (y13.2.2.2.2.2.2.1-y13.2.2.2.2.2.2.2.1))) (
 tif ((wrap .i64 (y13.2.2.2.2.2.2.1-y13.2.2.2.2.2.2.2.1))<y13.2.2.2.1) (
 a0a (b0t n r19 y13.2.2.2.2.2.1 (wrap .i64 (y13.2.2.2.2.2.2.1-y13.2.2.2.2.2.2.2.1)) y13.2.2.2.1 y13.2.2.2.2.1) fun r20 =>
 some r20) (
 some r19)) (
 some r19)) (
 tif (y13.2.2.2.2.2.1<(wrap .i64 (y13.2.2.2.2.2.2.1-y13.2.2.2.2.2.2.2.1))) (
 tif ((wrap .i64 (y13.2.2.2.2.2.2.1-y13.2.2.2.2.2.2.2.1))<y13.2.2.2.1) (
 a0a (b0t n y13.1 y13.2.2.2.2.2.1 (wrap .i64 (y13.2.2.2.2.2.2.1-y13.2.2.2.2.2.2.2.1)) y13.2.2.2.1 y13.2.2.2.2.1) fun r21 =>
 some r21) (
 some y13.1)) (
 some y13.1))) (
 tif (y13.2.2.2.2.2.1<(wrap .i64 (y13.2.2.2.2.2.2.1-y13.2.2.2.2.2.2.2.1))) (
 tif ((wrap .i64 (y13.2.2.2.2.2.2.1-y13.2.2.2.2.2.2.2.1))<y13.2.2.2.1) (
 a0a (b0t n y13.1 y13.2.2.2.2.2.1 (wrap .i64 (y13.2.2.2.2.2.2.1-y13.2.2.2.2.2.2.2.1)) y13.2.2.2.1 y13.2.2.2.2.1) fun r22 =>
 some r22) (
 some y13.1)) (
 some y13.1)))) (
 tif (y13.2.1<y13.2.2.2.2.2.2.2.1) (
 tif (y13.2.2.2.2.2.2.2.1<y13.2.2.2.2.2.1) (
 a0a (b0t n y13.1 y13.2.1 y13.2.2.2.2.2.2.2.1 y13.2.2.2.2.2.1 y13.2.2.2.2.1) fun r23 =>
 tif (y13.2.2.2.2.2.1<(wrap .i64 (y13.2.2.2.2.2.2.1-y13.2.2.2.2.2.2.2.1))) (
 tif ((wrap .i64 (y13.2.2.2.2.2.2.1-y13.2.2.2.2.2.2.2.1))<y13.2.2.2.1) (
 a0a (b0t n r23 y13.2.2.2.2.2.1 (wrap .i64 (y13.2.2.2.2.2.2.1-y13.2.2.2.2.2.2.2.1)) y13.2.2.2.1 y13.2.2.2.2.1) fun r24 =>
 some r24) (
 some r23)) (
 some r23)) (
 tif (y13.2.2.2.2.2.1<(wrap .i64 (y13.2.2.2.2.2.2.1-y13.2.2.2.2.2.2.2.1))) (
 tif ((wrap .i64 (y13.2.2.2.2.2.2.1-y13.2.2.2.2.2.2.2.1))<y13.2.2.2.1) (
 a0a (b0t n y13.1 y13.2.2.2.2.2.1 (wrap .i64 (y13.2.2.2.2.2.2.1-y13.2.2.2.2.2.2.2.1)) y13.2.2.2.1 y13.2.2.2.2.1) fun r25 =>
 some r25) (
 some y13.1)) (
 some y13.1))) (
 tif (y13.2.2.2.2.2.1<(wrap .i64 (y13.2.2.2.2.2.2.1-y13.2.2.2.2.2.2.2.1))) (
 tif ((wrap .i64 (y13.2.2.2.2.2.2.1-y13.2.2.2.2.2.2.2.1))<y13.2.2.2.1) (
 a0a (b0t n y13.1 y13.2.2.2.2.2.1 (wrap .i64 (y13.2.2.2.2.2.2.1-y13.2.2.2.2.2.2.2.1)) y13.2.2.2.1 y13.2.2.2.2.1) fun r26 =>
 some r26) (
 some y13.1)) (
 some y13.1)))) (fun z27 =>
 some z27) r12) (
 a0a (k0r n a0b (data,(a,(m,(b,(cmp,((wrap .i64 (shrI .u64 (wrap .u64 (wrap .i64 (a+b))) (1:Int))),((wrap .i64 ((wrap .i64 (shrI .u64 (wrap .u64 (wrap .i64 (a+b))) (1:Int)))+m)),(a,(m,((wrap .i64 ((wrap .i64 ((wrap .i64 (shrI .u64 (wrap .u64 (wrap .i64 (a+b))) (1:Int)))+m))-1)),()))))))))))) fun r28 =>
 b0v (fun y29 =>
 tif (y29.2.2.2.2.2.2.2.1<y29.2.2.1) (
 tif (y29.2.2.1<(wrap .i64 (y29.2.2.2.2.2.2.1-y29.2.2.2.2.2.2.2.1))) (
 a0a (j1u n y29.1 y29.2.2.2.2.2.2.2.1 y29.2.2.1 (wrap .i64 (y29.2.2.2.2.2.2.1-y29.2.2.2.2.2.2.2.1)) y29.2.2.2.2.1) fun r30 =>
 tif (y29.2.1<y29.2.2.2.2.2.2.2.1) (
 tif (y29.2.2.2.2.2.2.2.1<y29.2.2.2.2.2.1) (
 a0a (b0t n r30 y29.2.1 y29.2.2.2.2.2.2.2.1 y29.2.2.2.2.2.1 y29.2.2.2.2.1) fun r31 =>
 tif (y29.2.2.2.2.2.1<(wrap .i64 (y29.2.2.2.2.2.2.1-y29.2.2.2.2.2.2.2.1))) (
 tif ((wrap .i64 (y29.2.2.2.2.2.2.1-y29.2.2.2.2.2.2.2.1))<y29.2.2.2.1) (
 a0a (b0t n r31 y29.2.2.2.2.2.1 (wrap .i64 (y29.2.2.2.2.2.2.1-y29.2.2.2.2.2.2.2.1)) y29.2.2.2.1 y29.2.2.2.2.1) fun r32 =>
 some r32) (
 some r31)) (
 some r31)) (
 tif (y29.2.2.2.2.2.1<(wrap .i64 (y29.2.2.2.2.2.2.1-y29.2.2.2.2.2.2.2.1))) (
 tif ((wrap .i64 (y29.2.2.2.2.2.2.1-y29.2.2.2.2.2.2.2.1))<y29.2.2.2.1) (
 a0a (b0t n r30 y29.2.2.2.2.2.1 (wrap .i64 (y29.2.2.2.2.2.2.1-y29.2.2.2.2.2.2.2.1)) y29.2.2.2.1 y29.2.2.2.2.1) fun r33 =>
 some r33) (
 some r30)) (
 some r30))) (
 tif (y29.2.2.2.2.2.1<(wrap .i64 (y29.2.2.2.2.2.2.1-y29.2.2.2.2.2.2.2.1))) (
 tif ((wrap .i64 (y29.2.2.2.2.2.2.1-y29.2.2.2.2.2.2.2.1))<y29.2.2.2.1) (
 a0a (b0t n r30 y29.2.2.2.2.2.1 (wrap .i64 (y29.2.2.2.2.2.2.1-y29.2.2.2.2.2.2.2.1)) y29.2.2.2.1 y29.2.2.2.2.1) fun r34 =>
 some r34) (
 some r30)) (
 some r30))) (
 tif (y29.2.1<y29.2.2.2.2.2.2.2.1) (
 tif (y29.2.2.2.2.2.2.2.1<y29.2.2.2.2.2.1) (
 a0a (b0t n y29.1 y29.2.1 y29.2.2.2.2.2.2.2.1 y29.2.2.2.2.2.1 y29.2.2.2.2.1) fun r35 =>
 tif (y29.2.2.2.2.2.1<(wrap .i64 (y29.2.2.2.2.2.2.1-y29.2.2.2.2.2.2.2.1))) (
 tif ((wrap .i64 (y29.2.2.2.2.2.2.1-y29.2.2.2.2.2.2.2.1))<y29.2.2.2.1) (
 a0a (b0t n r35 y29.2.2.2.2.2.1 (wrap .i64 (y29.2.2.2.2.2.2.1-y29.2.2.2.2.2.2.2.1)) y29.2.2.2.1 y29.2.2.2.2.1) fun r36 =>
 some r36) (
 some r35)) (
 some r35)) (
 tif (y29.2.2.2.2.2.1<(wrap .i64 (y29.2.2.2.2.2.2.1-y29.2.2.2.2.2.2.2.1))) (
 tif ((wrap .i64 (y29.2.2.2.2.2.2.1-y29.2.2.2.2.2.2.2.1))<y29.2.2.2.1) (
 a0a (b0t n y29.1 y29.2.2.2.2.2.1 (wrap .i64 (y29.2.2.2.2.2.2.1-y29.2.2.2.2.2.2.2.1)) y29.2.2.2.1 y29.2.2.2.2.1) fun r37 =>
 some r37) (
 some y29.1)) (
 some y29.1))) (
 tif (y29.2.2.2.2.2.1<(wrap .i64 (y29.2.2.2.2.2.2.1-y29.2.2.2.2.2.2.2.1))) (
 tif ((wrap .i64 (y29.2.2.2.2.2.2.1-y29.2.2.2.2.2.2.2.1))<y29.2.2.2.1) (
 a0a (b0t n y29.1 y29.2.2.2.2.2.1 (wrap .i64 (y29.2.2.2.2.2.2.1-y29.2.2.2.2.2.2.2.1)) y29.2.2.2.1 y29.2.2.2.2.1) fun r38 =>
 some r38) (
 some y29.1)) (
 some y29.1)))) (
 tif (y29.2.1<y29.2.2.2.2.2.2.2.1) (
 tif (y29.2.2.2.2.2.2.2.1<y29.2.2.2.2.2.1) (
 a0a (b0t n y29.1 y29.2.1 y29.2.2.2.2.2.2.2.1 y29.2.2.2.2.2.1 y29.2.2.2.2.1) fun r39 =>
 tif (y29.2.2.2.2.2.1<(wrap .i64 (y29.2.2.2.2.2.2.1-y29.2.2.2.2.2.2.2.1))) (
 tif ((wrap .i64 (y29.2.2.2.2.2.2.1-y29.2.2.2.2.2.2.2.1))<y29.2.2.2.1) (
 a0a (b0t n r39 y29.2.2.2.2.2.1 (wrap .i64 (y29.2.2.2.2.2.2.1-y29.2.2.2.2.2.2.2.1)) y29.2.2.2.1 y29.2.2.2.2.1) fun r40 =>
 some r40) (
 some r39)) (
 some r39)) (
 tif (y29.2.2.2.2.2.1<(wrap .i64 (y29.2.2.2.2.2.2.1-y29.2.2.2.2.2.2.2.1))) (
 tif ((wrap .i64 (y29.2.2.2.2.2.2.1-y29.2.2.2.2.2.2.2.1))<y29.2.2.2.1) (
 a0a (b0t n y29.1 y29.2.2.2.2.2.1 (wrap .i64 (y29.2.2.2.2.2.2.1-y29.2.2.2.2.2.2.2.1)) y29.2.2.2.1 y29.2.2.2.2.1) fun r41 =>
 some r41) (
 some y29.1)) (
 some y29.1))) (
 tif (y29.2.2.2.2.2.1<(wrap .i64 (y29.2.2.2.2.2.2.1-y29.2.2.2.2.2.2.2.1))) (
 tif ((wrap .i64 (y29.2.2.2.2.2.2.1-y29.2.2.2.2.2.2.2.1))<y29.2.2.2.1) (
 a0a (b0t n y29.1 y29.2.2.2.2.2.1 (wrap .i64 (y29.2.2.2.2.2.2.1-y29.2.2.2.2.2.2.2.1)) y29.2.2.2.1 y29.2.2.2.2.1) fun r42 =>
 some r42) (
 some y29.1)) (
 some y29.1)))) (fun z43 =>
 some z43) r28))):=by kernel_rfl
theorem b1b (n f:Nat)(data:(List a0c))(a:Int)(cmp:((a0c×(a0c×Unit))->Option Int))(i:Int)(j:Int):r0g n (f+1) (data,a,cmp,i,j,()) =
 tif (i<j) (
 a0a (at? data (wrap .i64 (shrI .u64 (wrap .u64 (wrap .i64 (i+j))) (1:Int)))) fun r0 =>
 a0a ((data)[(Int.toNat (wrap .i64 (shrI .u64 (wrap .u64 (wrap .i64 (i+j))) (1:Int))))]?) fun r1 =>
 a0a (at? data a) fun r2 =>
 a0a ((data)[(Int.toNat a)]?) fun r3 =>
 a0a (cmp (r1,(r3,()))) fun r4 =>
 tif (r4<0) (
 r0g n f (data,(a,(cmp,((wrap .i64 ((wrap .i64 (shrI .u64 (wrap .u64 (wrap .i64 (i+j))) (1:Int)))+1)),(j,())))))) (
 r0g n f (data,(a,(cmp,(i,((wrap .i64 (shrI .u64 (wrap .u64 (wrap .i64 (i+j))) (1:Int))),()))))))) (
 some (.inl (data,(a,(i,()))))):=by kernel_rfl
theorem b1a (n f:Nat)(data:(List a0c))(i:Int)(k:Int):w0t n (f+1) (data,i,k,()) =
 tif (k<(wrap .i64 (i-1))) (
 a0a (at? data (wrap .i64 (k+1))) fun r0 =>
 a0a ((data)[(Int.toNat (wrap .i64 (k+1)))]?) fun r1 =>
 a0a (at? data k) fun r2 =>
 a0a ((data)[(Int.toNat k)]?) fun r3 =>
 a0a (at? data k) fun r4 =>
 a0a ((data)[(Int.toNat k)]?) fun r5 =>
 a0a (at? (List.set data (Int.toNat k) r1) (wrap .i64 (k+1))) fun r6 =>
 a0a ((List.set data (Int.toNat k) r1)[(Int.toNat (wrap .i64 (k+1)))]?) fun r7 =>
 w0t n f ((List.set (List.set data (Int.toNat k) r1) (Int.toNat (wrap .i64 (k+1))) r3),(i,((wrap .i64 (k+1)),())))) (
 some (.inl (data,()))):=by kernel_rfl
theorem y0i (n f:Nat)(data:(List a0c))(m:Int)(cmp:((a0c×(a0c×Unit))->Option Int))(i_:Int)(j_:Int):o0j n (f+1) (data,m,cmp,i_,j_,()) =
 tif (i_<j_) (
 a0a (at? data m) fun r0 =>
 a0a ((data)[(Int.toNat m)]?) fun r1 =>
 a0a (at? data (wrap .i64 (shrI .u64 (wrap .u64 (wrap .i64 (i_+j_))) (1:Int)))) fun r2 =>
 a0a ((data)[(Int.toNat (wrap .i64 (shrI .u64 (wrap .u64 (wrap .i64 (i_+j_))) (1:Int))))]?) fun r3 =>
 a0a (cmp (r1,(r3,()))) fun r4 =>
 tif (!(r4<0)) (
 o0j n f (data,(m,(cmp,((wrap .i64 ((wrap .i64 (shrI .u64 (wrap .u64 (wrap .i64 (i_+j_))) (1:Int)))+1)),(j_,())))))) (
 o0j n f (data,(m,(cmp,(i_,((wrap .i64 (shrI .u64 (wrap .u64 (wrap .i64 (i_+j_))) (1:Int))),()))))))) (
 some (.inl (data,(m,(i_,()))))):=by kernel_rfl
theorem y0h (n f:Nat)(data:(List a0c))(i_:Int)(k_:Int):s0u n (f+1) (data,i_,k_,()) =
 tif (i_<k_) (
 a0a (at? data (wrap .i64 (k_-1))) fun r0 =>
 a0a ((data)[(Int.toNat (wrap .i64 (k_-1)))]?) fun r1 =>
 a0a (at? data k_) fun r2 =>
 a0a ((data)[(Int.toNat k_)]?) fun r3 =>
 a0a (at? data k_) fun r4 =>
 a0a ((data)[(Int.toNat k_)]?) fun r5 =>
 a0a (at? (List.set data (Int.toNat k_) r1) (wrap .i64 (k_-1))) fun r6 =>
 a0a ((List.set data (Int.toNat k_) r1)[(Int.toNat (wrap .i64 (k_-1)))]?) fun r7 =>
 s0u n f ((List.set (List.set data (Int.toNat k_) r1) (Int.toNat (wrap .i64 (k_-1))) r3),(i_,((wrap .i64 (k_-1)),())))) (
 some (.inl (data,()))):=by kernel_rfl
theorem y0g (n f:Nat)(data:(List a0c))(a:Int)(m:Int)(b:Int)(cmp:((a0c×(a0c×Unit))->Option Int))(mid:Int)(n_:Int)(start:Int)(r:Int)(p:Int):k0r n (f+1) (data,a,m,b,cmp,mid,n_,start,r,p,()) =
 tif (start<r) (
 a0a (at? data (wrap .i64 (p-(wrap .i64 (shrI .u64 (wrap .u64 (wrap .i64 (start+r))) (1:Int)))))) fun r0 =>
 a0a ((data)[(Int.toNat (wrap .i64 (p-(wrap .i64 (shrI .u64 (wrap .u64 (wrap .i64 (start+r))) (1:Int))))))]?) fun r1 =>
 a0a (at? data (wrap .i64 (shrI .u64 (wrap .u64 (wrap .i64 (start+r))) (1:Int)))) fun r2 =>
 a0a ((data)[(Int.toNat (wrap .i64 (shrI .u64 (wrap .u64 (wrap .i64 (start+r))) (1:Int))))]?) fun r3 =>
 a0a (cmp (r1,(r3,()))) fun r4 =>
 tif (!(r4<0)) (
 k0r n f (data,(a,(m,(b,(cmp,(mid,(n_,((wrap .i64 ((wrap .i64 (shrI .u64 (wrap .u64 (wrap .i64 (start+r))) (1:Int)))+1)),(r,(p,()))))))))))) (
 k0r n f (data,(a,(m,(b,(cmp,(mid,(n_,(start,((wrap .i64 (shrI .u64 (wrap .u64 (wrap .i64 (start+r))) (1:Int))),(p,())))))))))))) (
 some (.inl (data,(a,(m,(b,(cmp,(mid,(n_,(start,())))))))))):=by kernel_rfl
theorem j2z (n:Nat)(data:(List a0c))(a:Int)(m:Int)(b:Int)(cmp:((a0c×(a0c×Unit))->Option Int)):j1u (n+1) data a m b cmp =
 a0a (r0i n a0b (data,(m,(cmp,((wrap .i64 (m-a)),((wrap .i64 (b-m)),())))))) fun r0 =>
 b0v (fun y1 =>
 a0a (j1t n y1.1 (wrap .i64 (y1.2.1-y1.2.2.2.1)) y1.2.1 y1.2.2.2.1 y1.2.2.1) fun r2 =>
 some r2) (fun z3 =>
 some z3) r0:=by kernel_rfl
theorem r1z (n f:Nat)(data:(List a0c))(m:Int)(cmp:((a0c×(a0c×Unit))->Option Int))(i:Int)(j:Int):r0i n (f+1) (data,m,cmp,i,j,()) =
 tif (!(i=j)) (
 tif (j<i) (
 a0a (j1t n data (wrap .i64 (m-i)) m j cmp) fun r0 =>
 r0i n f (r0,(m,(cmp,((wrap .i64 (i-j)),(j,())))))) (
 a0a (j1t n data (wrap .i64 (m-i)) (wrap .i64 ((wrap .i64 (m+j))-i)) i cmp) fun r1 =>
 r0i n f (r1,(m,(cmp,(i,((wrap .i64 (j-i)),()))))))) (
 some (.inl (data,(m,(cmp,(i,())))))):=by kernel_rfl
theorem j2x (n:Nat)(data:(List a0c))(a:Int)(b:Int)(n_:Int)(cmp:((a0c×(a0c×Unit))->Option Int)):j1t (n+1) data a b n_ cmp =
 a0a (w0u n a0b (data,(a,(b,(n_,(0,())))))) fun r0 =>
 b0v (fun y1 =>
 some y1.1) (fun z2 =>
 some z2) r0:=by kernel_rfl
theorem b1c (n f:Nat)(data:(List a0c))(a:Int)(b:Int)(n_:Int)(i:Int):w0u n (f+1) (data,a,b,n_,i,()) =
 tif (i<n_) (
 a0a (at? data (wrap .i64 (b+i))) fun r0 =>
 a0a ((data)[(Int.toNat (wrap .i64 (b+i)))]?) fun r1 =>
 a0a (at? data (wrap .i64 (a+i))) fun r2 =>
 a0a ((data)[(Int.toNat (wrap .i64 (a+i)))]?) fun r3 =>
 a0a (at? data (wrap .i64 (a+i))) fun r4 =>
 a0a ((data)[(Int.toNat (wrap .i64 (a+i)))]?) fun r5 =>
 a0a (at? (List.set data (Int.toNat (wrap .i64 (a+i))) r1) (wrap .i64 (b+i))) fun r6 =>
 a0a ((List.set data (Int.toNat (wrap .i64 (a+i))) r1)[(Int.toNat (wrap .i64 (b+i)))]?) fun r7 =>
 w0u n f ((List.set (List.set data (Int.toNat (wrap .i64 (a+i))) r1) (Int.toNat (wrap .i64 (b+i))) r3),(a,(b,(n_,((wrap .i64 (i+1)),())))))) (
 some (.inl (data,()))):=by kernel_rfl
theorem e2h (n:Nat)(l:(List (List UInt8))):i1n (n+1) l =
 a0a (z0w n l) fun r0 =>
 tif (!r0) (
 some (((0,((0,(0,0)),((0,(0,0)),(0,0)))),(0,(0,[]))),4)) (
 a0a (at? l (0:Int)) fun r1 =>
 tif (true&&((64:Int)<=(r1.length:Int))) (
 a0a (w0e n (List.drop 8 (List.take 64 r1))) fun r2 =>
 tif (!(r2.2=0)) (
 some (((0,((0,(0,0)),((0,(0,0)),(0,0)))),(0,(0,[]))),4)) (
 a0a (l0e n r2.1) fun r3 =>
 tif (!((wrap .i64 ((l.length:Int)-1))=(wrap .i64 (r2.1.2.2.2.1*r3)))) (
 some (((0,((0,(0,0)),((0,(0,0)),(0,0)))),(0,(0,[]))),4)) (
 a0a (at? l (0:Int)) fun r4 =>
 tif (64<=(List.length r4)) (
 a0a (l0g n (List.drop 64 (List.take (List.length r4) r4))) fun r5 =>
 a0a (a0e n r5 (8:Int)) fun r6 =>
 a0a (a0e n r6.2 (8:Int)) fun r7 =>
 tif (1<=(List.length l)) (
 a0a (l0e n r2.1) fun r8 =>
 a0a (o0n n (List.drop 1 (List.take (List.length l) l)) r8) fun r9 =>
 a0a (j0i n r9 (l,(((0,((0,(0,0)),((0,(0,0)),(0,0)))),(0,(0,[]))),(r2.1,((r2.1,((wrap .i64 r6.1),((wrap .i64 ((wrap .i64 r7.1)-1)),[]))),()))))) fun r10 =>
 a0a (k0a n r10.2.2.2.1) fun r11 =>
 tif (!(r11.2=0)) (
 some (((0,((0,(0,0)),((0,(0,0)),(0,0)))),(0,(0,[]))),4)) (
 a0a (j0s n r10.1 r11.1) fun r12 =>
 tif (!r12) (
 some (((0,((0,(0,0)),((0,(0,0)),(0,0)))),(0,(0,[]))),4)) (
 some (r10.2.2.2.1,0)))) (
 none)) (
 none)))) (
 none)):=by kernel_rfl
theorem h1s (n:Nat)(x:((List (List UInt8))×(a0h×(b0a×(a0h×Unit))))):j0i n [] x=some x:=by kernel_rfl
theorem e1w (n:Nat)(y:((List (List UInt8))×Unit))(r:List ((List (List UInt8))×Unit))(l:(List (List UInt8)))(s2:a0h)(c:b0a)(s:a0h):j0i n (y::r) (l,s2,c,s,()) =
 a0a (a0a (e0m n (c,y.1)) fun r0 =>
 tif ((((List.length s.2.2.2)+1)*264)<=140737488355328) (
 some (l,(s2,(c,((s.1,(s.2.1,(s.2.2.1,(s.2.2.2++(r0.1::[]))))),()))))) (
 none)) fun r1 =>
 j0i n r r1:=by kernel_rfl
theorem q0m (n:Nat)(count:Int):strings_Repeat (n+1) [(0:UInt8)] count =
 tif (count=0) (
 some []) (
 tif (count=1) (
 some ((UInt8.ofNat 0)::[])) (
 tif (count<0) (
 none) (
 a0a (t0q n (1:Int) (wrap .u64 count)) fun r0 =>
 tif ((0:Int)<r0.1) (
 none) (
 tif ((9223372036854775807:Int)<r0.2) (
 none) (
 tif ((8192:Int)<(wrap .i64 r0.2)) (
 a0a (b0y n [] (wrap .i64 r0.2)) fun r1 =>
 a0a (a0o n r1 ((UInt8.ofNat 0)::[])) fun r2 =>
 a0a (d0k n a0b ((wrap .i64 r0.2),(8192,(r2.2.2,())))) fun r3 =>
 b0v (fun y4 =>
 a0a (b0q n y4.1) fun r5 =>
 some r5.1) (fun z6 =>
 some z6) r3) (
 a0a (b0y n [] (wrap .i64 r0.2)) fun r7 =>
 a0a (a0o n r7 ((UInt8.ofNat 0)::[])) fun r8 =>
 a0a (d0k n a0b ((wrap .i64 r0.2),((wrap .i64 r0.2),(r8.2.2,())))) fun r9 =>
 b0v (fun y10 =>
 a0a (b0q n y10.1) fun r11 =>
 some r11.1) (fun z12 =>
 some z12) r9)))))):=by kernel_rfl
theorem l0t (n f:Nat)(n_:Int)(chunkMax:Int)(b:List UInt8):d0k n (f+1) (n_,chunkMax,b,()) =
 a0a (f0t n b) fun r0 =>
 tif (r0.1<n_) (
 a0a (f0t n r0.2) fun r1 =>
 a0a (f0t n r1.2) fun r2 =>
 a0a (b0q n r2.2) fun r3 =>
 tif (((0:Int)<=(if chunkMax<(if r2.1<(wrap .i64 (n_-r1.1)) then r2.1 else (wrap .i64 (n_-r1.1))) then chunkMax else (if r2.1<(wrap .i64 (n_-r1.1)) then r2.1 else (wrap .i64 (n_-r1.1)))))&&((if chunkMax<(if r2.1<(wrap .i64 (n_-r1.1)) then r2.1 else (wrap .i64 (n_-r1.1))) then chunkMax else (if r2.1<(wrap .i64 (n_-r1.1)) then r2.1 else (wrap .i64 (n_-r1.1))))<=(r3.1.length:Int))) (
 a0a (a0o n r3.2 (List.drop 0 (List.take (Int.toNat (if chunkMax<(if r2.1<(wrap .i64 (n_-r1.1)) then r2.1 else (wrap .i64 (n_-r1.1))) then chunkMax else (if r2.1<(wrap .i64 (n_-r1.1)) then r2.1 else (wrap .i64 (n_-r1.1))))) r3.1))) fun r4 =>
 d0k n f (n_,(chunkMax,(r4.2.2,())))) (
 none)) (
 some (.inl (r0.2,()))):=by kernel_rfl
end Go.Proofs.YtagnkfbpgkckiaaGreatDoor
