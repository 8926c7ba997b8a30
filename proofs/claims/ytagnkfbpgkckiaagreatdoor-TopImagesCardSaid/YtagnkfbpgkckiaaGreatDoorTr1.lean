/- Trees, printed by program. -/
import Derived.Test.YtagnkfbpgkckiaaGreatDoorTr0
import Derived.KernelRfl
set_option linter.unusedVariables false
open Go.IntKind (wrap)
namespace Go.Proofs.YtagnkfbpgkckiaaGreatDoor
open Go.Flat
theorem g1w (n:Nat)(s:a0h)(l:(List c0g))(q:TAsk):a1p (n+1) s l q =
 a0a (u0x n ) fun r0 =>
 tif (!r0) (
 some false) (
 a0a (c1i n s) fun r1 =>
 tif (r1=0) (
 some true) (
 a0a (d0w n s) fun r2 =>
 tif (!(r2=0)) (
 some true) (
 a0a (w0n n s.1) fun r3 =>
 tif (!r3) (
 some true) (
 a0a (n0g n l) fun r4 =>
 tif (!r4) (
 some true) (
 a0a (r0t n q.1) fun r5 =>
 tif (r5=0) (
 some true) (
 a0a (k0a n s) fun r6 =>
 a0a (i1n n r6.1) fun r7 =>
 tif (!(r6.2=0)) (
 some false) (
 tif (!(r7.2=0)) (
 some false) (
 a0a (h0d n a0b (s,(q,(r7.1,(l,((l.length:Int),(0,()))))))) fun r8 =>
 b0v (fun y9 =>
 a0a (k0a n y9.1) fun r10 =>
 a0a (k0a n y9.2.2.1) fun r11 =>
 a0a (x0d n y9.1 y9.2.1) fun r12 =>
 a0a (x0d n y9.2.2.1 y9.2.1) fun r13 =>
 tif (r10.2=0) (
 tif (r11.2=0) (
 a0a (s1t n r10.1 r11.1) fun r14 =>
 tif (r14) (
 tif ((decide (r12.1.1=r13.1.1))&&((decide (r12.1.2.1.1=r13.1.2.1.1))&&((decide (r12.1.2.1.2.1.1=r13.1.2.1.2.1.1))&&((decide (r12.1.2.1.2.1.2.1=r13.1.2.1.2.1.2.1))&&((decide (r12.1.2.1.2.1.2.2.1=r13.1.2.1.2.1.2.2.1))&&((r12.1.2.1.2.1.2.2.2==r13.1.2.1.2.1.2.2.2)&&((decide (r12.1.2.1.2.2.1.1=r13.1.2.1.2.2.1.1))&&((decide (r12.1.2.1.2.2.1.2.1=r13.1.2.1.2.2.1.2.1))&&((decide (r12.1.2.1.2.2.1.2.2.1=r13.1.2.1.2.2.1.2.2.1))&&((r12.1.2.1.2.2.1.2.2.2==r13.1.2.1.2.2.1.2.2.2)&&((decide (r12.1.2.1.2.2.2.1.1=r13.1.2.1.2.2.2.1.1))&&((decide (r12.1.2.1.2.2.2.1.2=r13.1.2.1.2.2.2.1.2))&&((decide (r12.1.2.1.2.2.2.2.1=r13.1.2.1.2.2.2.2.1))&&((decide (r12.1.2.1.2.2.2.2.2.1=r13.1.2.1.2.2.2.2.2.1))&&((decide (r12.1.2.1.2.2.2.2.2.2=r13.1.2.1.2.2.2.2.2.2))&&((decide (r12.1.2.2.1.1.1=r13.1.2.2.1.1.1))&&((decide (r12.1.2.2.1.1.2=r13.1.2.2.1.1.2))&&((decide (r12.1.2.2.1.2.1=r13.1.2.2.1.2.1))&&((decide (r12.1.2.2.1.2.2=r13.1.2.2.1.2.2))&&(decide (r12.1.2.2.2=r13.1.2.2.2))))))))))))))))))))) (
 some (decide (r12.2=r13.2))) (
 some false)) (
 some false)) (
 some false)) (
 some false)) (fun z15 =>
 some z15) r8)))))))):=by kernel_rfl
theorem m0q (n f:Nat)(s_:a0h)(q_:TAsk)(t:a0h)(s68:(List c0g))(s69:Int)(s70:Int):h0d n (f+1) (s_,q_,t,s68,s69,s70,()) =
 tif (s70<s69) (
 a0a (at? s68 s70) fun r0 =>
 a0a (w0o n r0 s_) fun r1 =>
 a0a (w0o n r0 t) fun r2 =>
 tif (!(r1.2=r2.2)) (
 some (.inr false)) (
 h0d n f (r1.1,(q_,(r2.1,(s68,(s69,((wrap .i64 (s70+1)),())))))))) (
 some (.inl (s_,(q_,(t,()))))):=by kernel_rfl
theorem j1c (n:Nat)  : u0x (n+1)  =
 a0a (r2s n ) fun r0 =>
 a0a (j1o n r0) fun r1 =>
 tif (!(r1.2=0)) (
 some false) (
 a0a (u0u n r1.1 ((((97:UInt8)::[]),[])::[]) (2,(1,(0,false)))) fun r2 =>
 a0a (k0a n r2.1) fun r3 =>
 a0a (r1b n r2.1 [] (1:Int) (0:Int) (10:Int)) fun r4 =>
 tif (r2.2=0) (
 tif ((r3.1.length:Int)=25) (
 tif (r3.2=0) (
 tif (r4.1.2.1=1) (
 tif (r4.1.2.2.1=1) (
 some (decide (r4.2=0))) (
 some false)) (
 some false)) (
 some false)) (
 some false)) (
 some false)):=by kernel_rfl
theorem y1y (n:Nat)(s:a0h):c1i (n+1) s =
 tif ((8:Int)<(s.2.2.2.length:Int)) (
 some (0:Int)) (
 a0a (m0b n a0b (s.2.2.2,((s.2.2.2.length:Int),(0,())))) fun r0 =>
 b0v (fun y1 =>
 some (1:Int)) (fun z2 =>
 some z2) r0):=by kernel_rfl
theorem v0x (n f:Nat)(s10:(List a0y))(s11:Int)(s12:Int):m0b n (f+1) (s10,s11,s12,()) =
 tif (s12<s11) (
 a0a (at? s10 s12) fun r0 =>
 a0a (c1j n r0) fun r1 =>
 tif (r1=0) (
 some (.inr (0:Int))) (
 m0b n f (s10,(s11,((wrap .i64 (s12+1)),()))))) (
 some (.inl ())):=by kernel_rfl
theorem x1a (n:Nat)(s:a0h):d0w (n+1) s =
 a0a (s0r n s) fun r0 =>
 tif (!(r0.2=0)) (
 some (2:Int)) (
 a0a (q0l n r0.1) fun r1 =>
 tif (!r1) (
 some (2:Int)) (
 a0a (e0r n r0.1 (fun y2=>f0s n y2.1 r0.1)) fun r3 =>
 tif ((0:Int)<=r3) (
 some (2:Int)) (
 some (0:Int)))):=by kernel_rfl
theorem d2i (n:Nat)(s:a0h)(a:TAsk):x0d (n+1) s a =
 a0a (k1h n s a.1) fun r0 =>
 tif (!(r0=0)) (
 some ((0,((0,((0,(0,(0,false))),((0,(0,(0,false))),((0,0),(0,(0,0)))))),(((0,0),(0,0)),0))),r0)) (
 a0a (x0c n s a.2.1 a.2.2.1 a.2.2.2) fun r1 =>
 tif (!(r1.2=0)) (
 some ((0,((0,((0,(0,(0,false))),((0,(0,(0,false))),((0,0),(0,(0,0)))))),(((0,0),(0,0)),0))),r1.2)) (
 a0a (s1u n s a (wrap .i64 (r1.1-1))) fun r2 =>
 tif (!(r2.2=0)) (
 some ((0,((0,((0,(0,(0,false))),((0,(0,(0,false))),((0,0),(0,(0,0)))))),(((0,0),(0,0)),0))),r2.2)) (
 a0a (e1i n r2.1) fun r3 =>
 some ((r1.1,(r2.1,r3)),0)))):=by kernel_rfl
theorem c1h (n:Nat)(a:(List (List UInt8×List UInt8)))(b:(List (List UInt8×List UInt8))):r0q (n+1) a b =
 a0a (q0p n a b) fun r0 =>
 some r0:=by kernel_rfl
theorem w1c (n:Nat)(a:(Int×Int))(b:(Int×Int)):n0y (n+1) a b =
 tif (a.1<b.1) (
 some true) (
 tif (a.1=b.1) (
 some (decide (a.2<b.2))) (
 some false)):=by kernel_rfl
theorem z1k (n:Nat)(s:a0h):k0a (n+1) s =
 a0a (a1c n s) fun r0 =>
 a0a (q0c n a0b (s,(r0.2,((r0.1::[]),(0,()))))) fun r1 =>
 b0v (fun y2 =>
 tif (!(y2.1=0)) (
 some ([],y2.1)) (
 some (y2.2.1,0))) (fun z3 =>
 some z3) r1:=by kernel_rfl
theorem p0b (n f:Nat)(s_:a0h)(why:Int)(out:(List (List UInt8)))(i:Int):q0c n (f+1) (s_,why,out,i,()) =
 tif (why=0) (
 tif (i<(s_.2.2.2.length:Int)) (
 a0a (at? s_.2.2.2 i) fun r0 =>
 a0a (a1d n s_.1 r0) fun r1 =>
 tif ((((List.length out)+(List.length r1.1))*16)<=140737488355328) (
 q0c n f (s_,(r1.2,((out++r1.1),((wrap .i64 (i+1)),()))))) (
 none)) (
 some (.inl (why,(out,()))))) (
 some (.inl (why,(out,())))):=by kernel_rfl
theorem d2f (n:Nat)(a:(List (List UInt8)))(b:(List (List UInt8))):s1t (n+1) a b =
 tif (!((a.length:Int)=(b.length:Int))) (
 some false) (
 a0a (t0i n a0b (a,(b,((a.length:Int),(0,()))))) fun r0 =>
 b0v (fun y1 =>
 some true) (fun z2 =>
 some z2) r0):=by kernel_rfl
theorem y0q (n f:Nat)(a:(List (List UInt8)))(b:(List (List UInt8)))(s12:Int)(s13:Int):t0i n (f+1) (a,b,s12,s13,()) =
 tif (s13<s12) (
 a0a (at? a s13) fun r0 =>
 a0a (at? b s13) fun r1 =>
 tif (!(r0==r1)) (
 some (.inr false)) (
 t0i n f (a,(b,(s12,((wrap .i64 (s13+1)),())))))) (
 some (.inl ())):=by kernel_rfl
theorem r1c (n:Nat)(c:b0a):w0n (n+1) c =
 a0a (j1o n c) fun r0 =>
 tif (r0.2=0) (
 tif ((r0.1.2.2.2.length:Int)<=8) (
 tif (c.1<=60) (
 tif (c.2.2.1.1<=40) (
 tif (c.2.2.1.2.1<=40) (
 some (decide (c.2.2.1.2.2<=40))) (
 some false)) (
 some false)) (
 some false)) (
 some false)) (
 some false):=by kernel_rfl
theorem g1v (n:Nat)(l:(List c0g)):n0g (n+1) l =
 tif ((40:Int)<(l.length:Int)) (
 some false) (
 a0a (g0b n a0b (l,((l.length:Int),(0,())))) fun r0 =>
 b0v (fun y1 =>
 some true) (fun z2 =>
 some z2) r0):=by kernel_rfl
theorem o0b (n f:Nat)(s8:(List c0g))(s9:Int)(s10:Int):g0b n (f+1) (s8,s9,s10,()) =
 tif (s10<s9) (
 a0a (at? s8 s10) fun r0 =>
 a0a (r0t n r0.2.1.1) fun r1 =>
 tif (r1=0) (
 some (.inr false)) (
 g0b n f (s8,(s9,((wrap .i64 (s10+1)),()))))) (
 some (.inl ())):=by kernel_rfl
theorem z1b (n:Nat)(l:(List (List UInt8×List UInt8))):r0t (n+1) l =
 a0a (m0c n a0b (l,((l.length:Int),(0,())))) fun r0 =>
 b0v (fun y1 =>
 some (1:Int)) (fun z2 =>
 some z2) r0:=by kernel_rfl
theorem v0y (n f:Nat)(s5:(List (List UInt8×List UInt8)))(s6:Int)(s7:Int):m0c n (f+1) (s5,s6,s7,()) =
 tif (s7<s6) (
 a0a (at? s5 s7) fun r0 =>
 tif (s7=40) (
 some (.inr (0:Int))) (
 tif ((1000:Int)<(r0.1.length:Int)) (
 some (.inr (0:Int))) (
 tif ((1000:Int)<(r0.2.length:Int)) (
 some (.inr (0:Int))) (
 m0c n f (s5,(s6,((wrap .i64 (s7+1)),()))))))) (
 some (.inl ())):=by kernel_rfl
theorem r1d (n:Nat)(a:c0g)(s:a0h):w0o (n+1) a s =
 tif (a.1=0) (
 a0a (u0u n s a.2.1.1 a.2.1.2) fun r0 =>
 tif (r0.2=0) (
 some r0) (
 some (s,r0.2))) (
 tif (a.1=1) (
 a0a (v1a n s a.2.2) fun r1 =>
 some (r1.1,0)) (
 tif (a.1=2) (
 a0a (r1p n s) fun r2 =>
 tif (r2.2.2=0) (
 some (r2.1,0)) (
 some (s,0))) (
 tif (a.1=3) (
 a0a (z0g n s) fun r3 =>
 tif (r3.2=0) (
 some (r3.1,0)) (
 some (s,0))) (
 some (s,0))))):=by kernel_rfl
theorem j2m (n:Nat)(c:b0a):j1o (n+1) c =
 a0a (c1x n c) fun r0 =>
 tif (!(r0.2=0)) (
 some (((0,((0,(0,0)),((0,(0,0)),(0,0)))),(0,(0,[]))),r0.2)) (
 tif (((0:Int)<=c.2.2.2.1)&&((c.2.2.2.1<=c.2.2.2.1)&&((c.2.2.2.1*264)<=140737488355328))) (
 some ((c,(0,(((-1):Int),(List.replicate (Int.toNat c.2.2.2.1) ([],(0,((0,(0,[])),(([],([],[])),(0,(0,((0,(0,(0,false))),((0,(0,(0,false))),((0,0),(0,(0,0))))))))))))))),0)) (
 none)):=by kernel_rfl
theorem v1z (n:Nat)(s:a0h)(l:(List (List UInt8×List UInt8)))(e:a0l):u0u (n+1) s l e =
 a0a (z0k n s l e) fun r0 =>
 tif (!(r0.2.2=0)) (
 some (((0,((0,(0,0)),((0,(0,0)),(0,0)))),(0,(0,[]))),r0.2.2)) (
 a0a (i1w n s r0.1 r0.2.1 l) fun r1 =>
 tif (!(r1.2=0)) (
 some (((0,((0,(0,0)),((0,(0,0)),(0,0)))),(0,(0,[]))),r1.2)) (
 a0a (d1z n s.1 r1.1 e) fun r2 =>
 tif (!(r2.2=0)) (
 some (((0,((0,(0,0)),((0,(0,0)),(0,0)))),(0,(0,[]))),r2.2)) (
 a0a (o0m n s.2.2.2) fun r3 =>
 a0a (at? r3 r0.1) fun r4 =>
 a0a ((r3)[(Int.toNat r0.1)]?) fun r5 =>
 some ((s.1,(s.2.1,(s.2.2.1,(List.set r3 (Int.toNat r0.1) r2.1)))),0)))):=by kernel_rfl
theorem y1z (n:Nat)(s:a0y):c1j (n+1) s =
 a0a (r0t n s.1) fun r0 =>
 tif (r0=0) (
 some (0:Int)) (
 tif ((60:Int)<(s.2.2.1.2.2.length:Int)) (
 some (0:Int)) (
 a0a (k1z n s.2.2.2.1) fun r1 =>
 some r1)):=by kernel_rfl
theorem b2v (n:Nat)(s:a0h):s0r (n+1) s =
 a0a (c0l n s.1) fun r0 =>
 tif (!(r0=0)) (
 some (((0,((0,(0,0)),((0,(0,0)),(0,0)))),(0,(0,[]))),2)) (
 tif (!((s.2.2.2.length:Int)=s.1.2.2.2.1)) (
 some (((0,((0,(0,0)),((0,(0,0)),(0,0)))),(0,(0,[]))),2)) (
 some (s,0))):=by kernel_rfl
theorem d1q (n:Nat)(v:a0h):q0l (n+1) v =
 a0a (a1w n v.2.1) fun r0 =>
 tif (r0) (
 tif (v.2.2.1=((-1):Int)) (
 some (decide (v.2.2.1<=v.2.1))) (
 a0a (a1w n v.2.2.1) fun r1 =>
 tif (r1) (
 some (decide (v.2.2.1<=v.2.1))) (
 some false))) (
 some false):=by kernel_rfl
theorem d1o (n:Nat)(v:a0h)(is:((Int×Unit)->Option Bool)):e0r (n+1) v is =
 a0a (d0d n a0b (is,((v.2.2.2.length:Int),(0,())))) fun r0 =>
 b0v (fun y1 =>
 some ((-1):Int)) (fun z2 =>
 some z2) r0:=by kernel_rfl
theorem m0r (n f:Nat)(is:((Int×Unit)->Option Bool))(s9:Int)(s10:Int):d0d n (f+1) (is,s9,s10,()) =
 tif (s10<s9) (
 a0a (is (s10,())) fun r0 =>
 tif (r0) (
 some (.inr s10)) (
 d0d n f (is,(s9,((wrap .i64 (s10+1)),()))))) (
 some (.inl ())):=by kernel_rfl
theorem m1o (n:Nat)(i:Int)(p1:a0h):f0s (n+1) i p1 =
 a0a (q0k n p1 i) fun r0 =>
 some (!r0):=by kernel_rfl
theorem d1n (n:Nat)(v:a0h)(i:Int):q0k (n+1) v i =
 a0a (at? v.2.2.2 i) fun r0 =>
 a0a (a1x n r0) fun r1 =>
 tif (r1) (
 some true) (
 a0a (p0q n v.1 r0) fun r2 =>
 tif (r2=0) (
 tif ((0:Int)<=r0.2.1) (
 a0a (n0h n v) fun r3 =>
 tif (r0.2.1<(wrap .i64 (r3+v.1.2.1.1))) (
 a0a (s0q n v i) fun r4 =>
 some (!r4)) (
 some false)) (
 some false)) (
 some false)):=by kernel_rfl
theorem x1z (n:Nat)(s:a0h)(l:(List (List UInt8×List UInt8))):k1h (n+1) s l =
 a0a (d0w n s) fun r0 =>
 tif (!(r0=0)) (
 some r0) (
 a0a (f0x n l) fun r1 =>
 some r1):=by kernel_rfl
theorem s1x (n:Nat)(s:a0h)(tier:Int)(from_:Int)(to:Int):x0c (n+1) s tier from_ to =
 a0a (d0w n s) fun r0 =>
 tif (!(r0=0)) (
 some (0,r0)) (
 tif (tier<0) (
 some (0,1)) (
 tif ((3:Int)<tier) (
 some (0,1)) (
 tif (tier=0) (
 a0a (o0u n s from_ to) fun r1 =>
 some r1) (
 a0a (b1u n s tier from_ to) fun r2 =>
 tif (!(r2=0)) (
 some (0,r2)) (
 some (tier,0)))))):=by kernel_rfl
theorem d2h (n:Nat)(s:a0h)(a:TAsk)(k:Int):s1u (n+1) s a k =
 a0a (i1g n s a.1) fun r0 =>
 tif (!(r0.2=0)) (
 some ((0,((0,(0,(0,false))),((0,(0,(0,false))),((0,0),(0,(0,0)))))),0)) (
 tif (k=0) (
 a0a (j0m n a.2.2.1 a.2.2.2 s.1.2.1.1) fun r1 =>
 tif (!(r1.2.2=0)) (
 some ((0,((0,(0,(0,false))),((0,(0,(0,false))),((0,0),(0,(0,0)))))),r1.2.2)) (
 a0a (at? s.2.2.2 r0.1) fun r2 =>
 a0a (e0k n s.1 r2 k r1.1 r1.2.1) fun r3 =>
 some r3)) (
 tif (k=1) (
 a0a (j0m n a.2.2.1 a.2.2.2 s.1.2.1.2.1) fun r4 =>
 tif (!(r4.2.2=0)) (
 some ((0,((0,(0,(0,false))),((0,(0,(0,false))),((0,0),(0,(0,0)))))),r4.2.2)) (
 a0a (at? s.2.2.2 r0.1) fun r5 =>
 a0a (e0k n s.1 r5 k r4.1 r4.2.1) fun r6 =>
 some r6)) (
 tif (k=2) (
 a0a (j0m n a.2.2.1 a.2.2.2 s.1.2.1.2.2) fun r7 =>
 tif (!(r7.2.2=0)) (
 some ((0,((0,(0,(0,false))),((0,(0,(0,false))),((0,0),(0,(0,0)))))),r7.2.2)) (
 a0a (at? s.2.2.2 r0.1) fun r8 =>
 a0a (e0k n s.1 r8 k r7.1 r7.2.1) fun r9 =>
 some r9)) (
 none)))):=by kernel_rfl
theorem s1y (n:Nat)(c:c0q):e1i (n+1) c =
 tif (c.2.2.2.2.2.2<1) (
 some (((0,0),(0,0)),12)) (
 a0a (e1f n c.2.2.2.1 (wrap .u64 c.2.2.2.2.2.2)) fun r0 =>
 some r0):=by kernel_rfl
theorem d1s (n:Nat)(s1:(List (List UInt8×List UInt8)))(s2:(List (List UInt8×List UInt8))):q0p (n+1) s1 s2 =
 tif (!((s1.length:Int)=(s2.length:Int))) (
 some false) (
 a0a (h0o n a0b (s1,(s2,((s1.length:Int),(0,()))))) fun r0 =>
 b0v (fun y1 =>
 some true) (fun z2 =>
 some z2) r0):=by kernel_rfl
theorem m0u (n f:Nat)(s1:(List (List UInt8×List UInt8)))(s2:(List (List UInt8×List UInt8)))(s12:Int)(s13:Int):h0o n (f+1) (s1,s2,s12,s13,()) =
 tif (s13<s12) (
 a0a (at? s1 s13) fun r0 =>
 a0a (at? s2 s13) fun r1 =>
 tif (!((r0.1==r1.1)&&(r0.2==r1.2))) (
 some (.inr false)) (
 h0o n f (s1,(s2,(s12,((wrap .i64 (s13+1)),())))))) (
 some (.inl ())):=by kernel_rfl
theorem n1q (n:Nat)(s:a0h):a1c (n+1) s =
 a0a (d0w n s) fun r0 =>
 tif (!(r0=0)) (
 some ([],r0)) (
 a0a (f1f n s.1) fun r1 =>
 tif ((8+(List.length r1))<=9223372036854775807) (
 a0a (e0g n [] (((112:UInt8)::((108:UInt8)::((105:UInt8)::((109:UInt8)::((115:UInt8)::((111:UInt8)::((108:UInt8)::((108:UInt8)::[]))))))))++r1)) fun r2 =>
 a0a (o0z n r2 (s.2.1::((wrap .i64 (s.2.2.1+1))::[]))) fun r3 =>
 a0a (c0y n r3) fun r4 =>
 a0a (g0w n r4.1 (512:Int)) fun r5 =>
 some (r5,0)) (
 none)):=by kernel_rfl
theorem n1r (n:Nat)(c:b0a)(x:a0y):a1d (n+1) c x =
 a0a (c0l n c) fun r0 =>
 tif (!(r0=0)) (
 some ([],2)) (
 a0a (a1b n x) fun r1 =>
 tif (r1) (
 a0a (g0w n [] (512:Int)) fun r2 =>
 a0a (l0e n c) fun r3 =>
 a0a (m0k n (r2::[]) r3) fun r4 =>
 some (r4,0)) (
 a0a (p0q n c x) fun r5 =>
 tif (!(r5=0)) (
 some ([],2)) (
 a0a (a1a n x) fun r6 =>
 tif (!(r6.2=0)) (
 some ([],r6.2)) (
 a0a (z0x n x.2.2.1 c.1) fun r7 =>
 a0a (p0a n (r6.1::[]) r7 (16:Int) (fun y8=>t0w n y8.1)) fun r9 =>
 a0a (f0k n a0b (r9,(x.2.2.2.1,(0,())))) fun r10 =>
 b0v (fun y11 =>
 some (y11.1,0)) (fun z12 =>
 some z12) r10)))):=by kernel_rfl
theorem g0n (n f:Nat)(out:(List (List UInt8)))(s45:((List a0c)×((List a0c)×(List a0c))))(s46:Int):f0k n (f+1) (out,s45,s46,()) =
 tif (s46<3) (
 tif (s46=0) (
 a0a (i0r n out s45.1 (4:Int) (fun y0=>l0b n y0.1)) fun r1 =>
 f0k n f (r1,(s45,((wrap .i64 (s46+1)),())))) (
 tif (s46=1) (
 a0a (i0r n out s45.2.1 (4:Int) (fun y2=>l0b n y2.1)) fun r3 =>
 f0k n f (r3,(s45,((wrap .i64 (s46+1)),())))) (
 tif (s46=2) (
 a0a (i0r n out s45.2.2 (4:Int) (fun y4=>l0b n y4.1)) fun r5 =>
 f0k n f (r5,(s45,((wrap .i64 (s46+1)),())))) (
 none)))) (
 some (.inl (out,()))):=by kernel_rfl
theorem n1j (n:Nat)(l:(List (List UInt8))):z0w (n+1) l =
 tif ((0:Int)<(l.length:Int)) (
 a0a (k0l n l (fun y0=>n0i n y0.1)) fun r1 =>
 some (!r1)) (
 some false):=by kernel_rfl
theorem a2c (n:Nat)(s:List UInt8):w0e (n+1) s =
 a0a (l0g n s) fun r0 =>
 a0a (a0e n r0 (4:Int)) fun r1 =>
 a0a (a0e n r1.2 (8:Int)) fun r2 =>
 a0a (a0e n r2.2 (8:Int)) fun r3 =>
 a0a (a0e n r3.2 (8:Int)) fun r4 =>
 a0a (a0e n r4.2 (4:Int)) fun r5 =>
 a0a (a0e n r5.2 (4:Int)) fun r6 =>
 a0a (a0e n r6.2 (4:Int)) fun r7 =>
 a0a (a0e n r7.2 (4:Int)) fun r8 =>
 a0a (a0e n r8.2 (4:Int)) fun r9 =>
 a0a (a0e n r9.2 (8:Int)) fun r10 =>
 tif (!(r10.1=0)) (
 some ((0,((0,(0,0)),((0,(0,0)),(0,0)))),4)) (
 a0a (i0x n r10.2) fun r11 =>
 tif (r11) (
 some ((0,((0,(0,0)),((0,(0,0)),(0,0)))),4)) (
 a0a (l0f n r10.2) fun r12 =>
 tif ((0:Int)<r12) (
 some ((0,((0,(0,0)),((0,(0,0)),(0,0)))),4)) (
 a0a (c0l n ((wrap .i64 r1.1),(((wrap .i64 r2.1),((wrap .i64 r3.1),(wrap .i64 r4.1))),(((wrap .i64 r5.1),((wrap .i64 r6.1),(wrap .i64 r7.1))),((wrap .i64 r8.1),(wrap .i64 r9.1)))))) fun r13 =>
 tif (!(r13=0)) (
 some ((0,((0,(0,0)),((0,(0,0)),(0,0)))),4)) (
 some (((wrap .i64 r1.1),(((wrap .i64 r2.1),((wrap .i64 r3.1),(wrap .i64 r4.1))),(((wrap .i64 r5.1),((wrap .i64 r6.1),(wrap .i64 r7.1))),((wrap .i64 r8.1),(wrap .i64 r9.1))))),0))))):=by kernel_rfl
theorem c1y (n:Nat)(c:b0a):l0e (n+1) c =
 a0a (c0l n c) fun r0 =>
 tif (!(r0=0)) (
 some (0:Int)) (
 a0a (l0c n c) fun r1 =>
 some r1):=by kernel_rfl
theorem g0a (n:Nat)(s:List UInt8):l0g (n+1) s =
 some (s,false):=by kernel_rfl
theorem w0g (n:Nat)(r:(List UInt8×Bool))(width:Int):a0e (n+1) r width =
 tif (width<1) (
 a0a (b0x n r) fun r0 =>
 some ((0:Int),r0)) (
 tif ((8:Int)<width) (
 a0a (b0x n r) fun r1 =>
 some ((0:Int),r1)) (
 a0a (e0h n r width) fun r2 =>
 a0a (c0n n a0b (r2.2,((0:Int),((List.map (fun y3=>(((UInt8.toNat y3):Nat):Int)) r2.1),((((List.length (List.map (fun y4=>(((UInt8.toNat y4):Nat):Int)) r2.1)):Nat):Int),((0:Int),())))))) fun r5 =>
 b0v (fun y6 =>
 some (y6.2.1,y6.1)) (fun z7 =>
 some z7) r5)):=by kernel_rfl
theorem j0l (n f:Nat)(r:(List UInt8×Bool))(n_:Int)(s19:(List Int))(s20:Int)(s21:Int):c0n n (f+1) (r,n_,s19,s20,s21,()) =
 tif (s21<s20) (
 a0a (at? s19 s21) fun r0 =>
 c0n n f (r,((orI .u64 (shlI .u64 n_ (8:Int)) (wrap .u64 r0)),(s19,(s20,((wrap .i64 (s21+1)),())))))) (
 some (.inl (r,(n_,())))):=by kernel_rfl
theorem m0d (n:Nat)(p:b0e):e0m (n+1) p =
 a0a (c0k n p (1:Int) (1:Int)) fun r0 =>
 a0a (l0g n r0.1) fun r1 =>
 a0a (a0e n r1 (2:Int)) fun r2 =>
 tif ((wrap .i64 r2.1)=0) (
 some (([],(0,((0,(0,[])),(([],([],[])),(0,(0,((0,(0,(0,false))),((0,(0,(0,false))),((0,0),(0,(0,0))))))))))),r0.2)) (
 tif ((320:Int)<(wrap .i64 r2.1)) (
 some (([],(0,((0,(0,[])),(([],([],[])),(0,(0,((0,(0,(0,false))),((0,(0,(0,false))),((0,0),(0,(0,0))))))))))),r0.2)) (
 a0a (e0h n r2.2 (320:Int)) fun r3 =>
 tif (((0:Int)<=(wrap .i64 r2.1))&&((wrap .i64 r2.1)<=(r3.1.length:Int))) (
 a0a (i1m n (List.drop 0 (List.take (Int.toNat (wrap .i64 r2.1)) r3.1))) fun r4 =>
 a0a (a0e n r3.2 (8:Int)) fun r5 =>
 a0a (a0e n r5.2 (8:Int)) fun r6 =>
 a0a (a0e n r6.2 (8:Int)) fun r7 =>
 a0a (a0e n r7.2 (2:Int)) fun r8 =>
 a0a (e0h n r8.2 (128:Int)) fun r9 =>
 a0a (l0p n r9.1) fun r10 =>
 a0a (o0y n r0.2 ((wrap .i64 r6.1),((wrap .i64 r7.1),[])) (wrap .i64 r8.1)) fun r11 =>
 a0a (a0u n a0b (r11.2,(([],(0,((0,(0,[])),(([],([],[])),(0,(0,((0,(0,(0,false))),((0,(0,(0,false))),((0,0),(0,(0,0))))))))))),((r4.1,((wrap .i64 r5.1),(r11.1,(([],([],[])),r10)))),(r11.2.1.2.2.1,(0,())))))) fun r12 =>
 b0v (fun y13 =>
 some (y13.2.2.1,y13.1)) (fun z14 =>
 some z14) r12) (
 none))):=by kernel_rfl
theorem d0h (n f:Nat)(p:b0e)(s2:a0y)(x:a0y)(s63:(Int×(Int×Int)))(s64:Int):a0u n (f+1) (p,s2,x,s63,s64,()) =
 tif (s64<3) (
 tif (s64=0) (
 a0a (g0f n p s63.1) fun r0 =>
 tif (s64=0) (
 a0u n f (r0.2,(s2,((x.1,(x.2.1,(x.2.2.1,((r0.1,x.2.2.2.1.2),x.2.2.2.2)))),(s63,((wrap .i64 (s64+1)),())))))) (
 tif (s64=1) (
 a0u n f (r0.2,(s2,((x.1,(x.2.1,(x.2.2.1,((x.2.2.2.1.1,(r0.1,x.2.2.2.1.2.2)),x.2.2.2.2)))),(s63,((wrap .i64 (s64+1)),())))))) (
 tif (s64=2) (
 a0u n f (r0.2,(s2,((x.1,(x.2.1,(x.2.2.1,((x.2.2.2.1.1,(x.2.2.2.1.2.1,r0.1)),x.2.2.2.2)))),(s63,((wrap .i64 (s64+1)),())))))) (
 none)))) (
 tif (s64=1) (
 a0a (g0f n p s63.2.1) fun r1 =>
 tif (s64=0) (
 a0u n f (r1.2,(s2,((x.1,(x.2.1,(x.2.2.1,((r1.1,x.2.2.2.1.2),x.2.2.2.2)))),(s63,((wrap .i64 (s64+1)),())))))) (
 tif (s64=1) (
 a0u n f (r1.2,(s2,((x.1,(x.2.1,(x.2.2.1,((x.2.2.2.1.1,(r1.1,x.2.2.2.1.2.2)),x.2.2.2.2)))),(s63,((wrap .i64 (s64+1)),())))))) (
 tif (s64=2) (
 a0u n f (r1.2,(s2,((x.1,(x.2.1,(x.2.2.1,((x.2.2.2.1.1,(x.2.2.2.1.2.1,r1.1)),x.2.2.2.2)))),(s63,((wrap .i64 (s64+1)),())))))) (
 none)))) (
 tif (s64=2) (
 a0a (g0f n p s63.2.2) fun r2 =>
 tif (s64=0) (
 a0u n f (r2.2,(s2,((x.1,(x.2.1,(x.2.2.1,((r2.1,x.2.2.2.1.2),x.2.2.2.2)))),(s63,((wrap .i64 (s64+1)),())))))) (
 tif (s64=1) (
 a0u n f (r2.2,(s2,((x.1,(x.2.1,(x.2.2.1,((x.2.2.2.1.1,(r2.1,x.2.2.2.1.2.2)),x.2.2.2.2)))),(s63,((wrap .i64 (s64+1)),())))))) (
 tif (s64=2) (
 a0u n f (r2.2,(s2,((x.1,(x.2.1,(x.2.2.1,((x.2.2.2.1.1,(x.2.2.2.1.2.1,r2.1)),x.2.2.2.2)))),(s63,((wrap .i64 (s64+1)),())))))) (
 none)))) (
 none)))) (
 some (.inl (p,(s2,(x,()))))):=by kernel_rfl
theorem b1i (n:Nat)(s1:(List (List UInt8)))(s2:(List (List UInt8))):j0s (n+1) s1 s2 =
 tif (!((s1.length:Int)=(s2.length:Int))) (
 some false) (
 a0a (g0l n a0b (s1,(s2,((s1.length:Int),(0,()))))) fun r0 =>
 b0v (fun y1 =>
 some true) (fun z2 =>
 some z2) r0):=by kernel_rfl
theorem l0v (n f:Nat)(s1:(List (List UInt8)))(s2:(List (List UInt8)))(s12:Int)(s13:Int):g0l n (f+1) (s1,s2,s12,s13,()) =
 tif (s13<s12) (
 a0a (at? s1 s13) fun r0 =>
 a0a (at? s2 s13) fun r1 =>
 tif (!(r0==r1)) (
 some (.inr false)) (
 g0l n f (s1,(s2,(s12,((wrap .i64 (s13+1)),())))))) (
 some (.inl ())):=by kernel_rfl
theorem b2r (n:Nat)(s:a0h):r1p (n+1) s =
 a0a (d0w n s) fun r0 =>
 tif (!(r0=0)) (
 some (((0,((0,(0,0)),((0,(0,0)),(0,0)))),(0,(0,[]))),(0,r0))) (
 a0a (j1l n s) fun r1 =>
 some ((s.1,(s.2.1,(s.2.1,s.2.2.2))),((r1.length:Int),0))):=by kernel_rfl
theorem w1z (n:Nat)(s:a0y):a1x (n+1) s =
 a0a (g0t n s ([],(0,((0,(0,[])),(([],([],[])),(0,(0,((0,(0,(0,false))),((0,(0,(0,false))),((0,0),(0,(0,0)))))))))))) fun r0 =>
 some r0:=by kernel_rfl
theorem k1a (n:Nat)(c:b0a)(s:a0y):p0q (n+1) c s =
 a0a (o0o n c s) fun r0 =>
 h1m (r0.1) (
 some r0.2) fun r1 =>
 some r0.2:=by kernel_rfl
theorem g1y (n:Nat)(v:a0h):n0h (n+1) v =
 tif (v.1.2.1.1=0) (
 none) (
 some (wrap .i64 (v.2.1-(Int.tmod v.2.1 v.1.2.1.1)))):=by kernel_rfl
theorem g1x (n:Nat)(v:a0h)(i:Int):s0q (n+1) v i =
 a0a (e0r n v (fun y0=>g0r n y0.1 i v)) fun r1 =>
 tif (r1<i) (
 a0a (e0s n v i) fun r2 =>
 some r2) (
 some false):=by kernel_rfl
theorem b2z (n:Nat)(s:a0h):a1y (n+1) s =
 a0a (s0r n s) fun r0 =>
 tif (!(r0.2=0)) (
 some []) (
 a0a (k0q n a0b (r0.1,([],((r0.1.2.2.2.length:Int),(0,()))))) fun r1 =>
 b0v (fun y2 =>
 some y2.1) (fun z3 =>
 some z3) r1):=by kernel_rfl
theorem y0f (n f:Nat)(v:a0h)(out:(List Int))(s17:Int)(s18:Int):k0q n (f+1) (v,out,s17,s18,()) =
 tif (s18<s17) (
 a0a (e0s n v s18) fun r0 =>
 tif (r0) (
 tif ((((List.length out)+1)*8)<=140737488355328) (
 k0q n f (v,((out++(s18::[])),(s17,((wrap .i64 (s18+1)),()))))) (
 none)) (
 k0q n f (v,(out,(s17,((wrap .i64 (s18+1)),())))))) (
 some (.inl (out,()))):=by kernel_rfl
theorem n1h (n:Nat)(l:(List (List UInt8×List UInt8))):f0x (n+1) l =
 tif ((l.length:Int)=0) (
 some (8:Int)) (
 tif ((16:Int)<(l.length:Int)) (
 some (8:Int)) (
 a0a (g0i n a0b (l,(256,(l,((l.length:Int),(0,())))))) fun r0 =>
 b0v (fun y1 =>
 some (0:Int)) (fun z2 =>
 some z2) r0)):=by kernel_rfl
theorem r0r (n f:Nat)(l:(List (List UInt8×List UInt8)))(left:Int)(s14:(List (List UInt8×List UInt8)))(s15:Int)(s16:Int):g0i n (f+1) (l,left,s14,s15,s16,()) =
 tif (s16<s15) (
 a0a (at? s14 s16) fun r0 =>
 a0a (e1t n r0.1) fun r1 =>
 tif (!r1) (
 some (.inr (8:Int))) (
 tif ((128:Int)<(r0.2.length:Int)) (
 some (.inr (8:Int))) (
 tif ((wrap .i64 (left-(wrap .i64 ((r0.1.length:Int)+(r0.2.length:Int)))))<0) (
 some (.inr (8:Int))) (
 tif ((0:Int)<s16) (
 a0a (at? l (wrap .i64 (s16-1))) fun r2 =>
 tif (!(Go.Op.bytesLess r2.1 r0.1)) (
 some (.inr (8:Int))) (
 g0i n f (l,((wrap .i64 (left-(wrap .i64 ((r0.1.length:Int)+(r0.2.length:Int))))),(s14,(s15,((wrap .i64 (s16+1)),()))))))) (
 g0i n f (l,((wrap .i64 (left-(wrap .i64 ((r0.1.length:Int)+(r0.2.length:Int))))),(s14,(s15,((wrap .i64 (s16+1)),())))))))))) (
 some (.inl ())):=by kernel_rfl
theorem b1s (n:Nat)(s:a0h)(from_:Int)(to:Int):o0u (n+1) s from_ to =
 a0a (d0l n a0b (from_,(to,(s,(10,(1,())))))) fun r0 =>
 b0v (fun y1 =>
 some (0,y1.1)) (fun z2 =>
 some z2) r0:=by kernel_rfl
theorem l0y (n f:Nat)(from_:Int)(to:Int)(s_:a0h)(why:Int)(tier:Int):d0l n (f+1) (from_,to,s_,why,tier,()) =
 tif (tier<=3) (
 a0a (b1u n s_ tier from_ to) fun r0 =>
 tif (r0=0) (
 some (.inr (tier,0))) (
 tif (r0=10) (
 d0l n f (from_,(to,(s_,(why,((wrap .i64 (tier+1)),())))))) (
 tif (r0=11) (
 d0l n f (from_,(to,(s_,(r0,((wrap .i64 (tier+1)),())))))) (
 some (.inr (0,r0)))))) (
 some (.inl (why,()))):=by kernel_rfl
theorem x1x (n:Nat)(s:a0h)(tier:Int)(from_:Int)(to:Int):b1u (n+1) s tier from_ to =
 tif ((wrap .i64 (tier-1))=0) (
 a0a (j0m n from_ to s.1.2.1.1) fun r0 =>
 tif (!(r0.2.2=0)) (
 some r0.2.2) (
 a0a (c1u n s (wrap .i64 (tier-1))) fun r1 =>
 tif (r1.2.2=0) (
 tif (r0.1<r1.1) (
 some (11:Int)) (
 some r1.2.2)) (
 some r1.2.2))) (
 tif ((wrap .i64 (tier-1))=1) (
 a0a (j0m n from_ to s.1.2.1.2.1) fun r2 =>
 tif (!(r2.2.2=0)) (
 some r2.2.2) (
 a0a (c1u n s (wrap .i64 (tier-1))) fun r3 =>
 tif (r3.2.2=0) (
 tif (r2.1<r3.1) (
 some (11:Int)) (
 some r3.2.2)) (
 some r3.2.2))) (
 tif ((wrap .i64 (tier-1))=2) (
 a0a (j0m n from_ to s.1.2.1.2.2) fun r4 =>
 tif (!(r4.2.2=0)) (
 some r4.2.2) (
 a0a (c1u n s (wrap .i64 (tier-1))) fun r5 =>
 tif (r5.2.2=0) (
 tif (r4.1<r5.1) (
 some (11:Int)) (
 some r5.2.2)) (
 some r5.2.2))) (
 none))):=by kernel_rfl
theorem c2a (n:Nat)(s:a0h)(l:(List (List UInt8×List UInt8))):i1g (n+1) s l =
 a0a (s0r n s) fun r0 =>
 tif (!(r0.2=0)) (
 some (0,r0.2)) (
 a0a (e0r n r0.1 (fun y1=>h0m n y1.1 s l r0.1)) fun r2 =>
 tif (r2<0) (
 some (0,3)) (
 some (r2,0))):=by kernel_rfl
theorem o0q (n:Nat)(c:b0a)(s:a0y)(k:Int)(i:Int)(j:Int):e0k (n+1) c s k i j =
 a0a (o0o n c s) fun r0 =>
 h1m (r0.1) (
 tif (!(r0.2=0)) (
 some ((0,((0,(0,(0,false))),((0,(0,(0,false))),((0,0),(0,(0,0)))))),r0.2)) (
 tif (k<0) (
 some ((0,((0,(0,(0,false))),((0,(0,(0,false))),((0,0),(0,(0,0)))))),1)) (
 tif ((3:Int)<=k) (
 some ((0,((0,(0,(0,false))),((0,(0,(0,false))),((0,0),(0,(0,0)))))),1)) (
 tif (i<0) (
 some ((0,((0,(0,(0,false))),((0,(0,(0,false))),((0,0),(0,(0,0)))))),1)) (
 tif (j<i) (
 some ((0,((0,(0,(0,false))),((0,(0,(0,false))),((0,0),(0,(0,0)))))),1)) (
 none)))))) fun r1 =>
 tif (!(r0.2=0)) (
 some ((0,((0,(0,(0,false))),((0,(0,(0,false))),((0,0),(0,(0,0)))))),r0.2)) (
 tif (k<0) (
 some ((0,((0,(0,(0,false))),((0,(0,(0,false))),((0,0),(0,(0,0)))))),1)) (
 tif ((3:Int)<=k) (
 some ((0,((0,(0,(0,false))),((0,(0,(0,false))),((0,0),(0,(0,0)))))),1)) (
 tif (i<0) (
 some ((0,((0,(0,(0,false))),((0,(0,(0,false))),((0,0),(0,(0,0)))))),1)) (
 tif (j<i) (
 some ((0,((0,(0,(0,false))),((0,(0,(0,false))),((0,0),(0,(0,0)))))),1)) (
 a0a (s0s n r1 k i j) fun r2 =>
 some r2))))):=by kernel_rfl
theorem s1s (n:Nat)(inc:(Int×Int))(ms:Int):e1f (n+1) inc ms =
 tif (ms=0) (
 some (((0,0),(0,0)),12)) (
 a0a (w0m n inc (1000:Int)) fun r0 =>
 tif (!(r0.2=0)) (
 some (((0,0),(0,0)),r0.2)) (
 a0a (y0z n ms) fun r1 =>
 a0a (v0n n r0.1 r1) fun r2 =>
 some r2)):=by kernel_rfl
theorem a1g (n:Nat)(w:(List Int))(s:List UInt8):e0g (n+1) w s =
 tif (decide ((((List.length w)+(List.length (List.map (fun y1=>(((UInt8.toNat y1):Nat):Int)) s)))*1)<=140737488355328)) (
 some (w++(List.map (fun y0=>(((UInt8.toNat y0):Nat):Int)) s))) (
 none):=by kernel_rfl
theorem v1g (n:Nat)(c:b0a):f1f (n+1) c =
 a0a (c0l n c) fun r0 =>
 tif (!(r0=0)) (
 some []) (
 a0a (a0t n [] (4:Int) (wrap .u64 c.1)) fun r1 =>
 a0a (a0t n r1 (8:Int) (wrap .u64 c.2.1.1)) fun r2 =>
 a0a (a0t n r2 (8:Int) (wrap .u64 c.2.1.2.1)) fun r3 =>
 a0a (a0t n r3 (8:Int) (wrap .u64 c.2.1.2.2)) fun r4 =>
 a0a (a0t n r4 (4:Int) (wrap .u64 c.2.2.1.1)) fun r6 =>
 a0a (a0t n r6 (4:Int) (wrap .u64 c.2.2.1.2.1)) fun r8 =>
 a0a (a0t n r8 (4:Int) (wrap .u64 c.2.2.1.2.2)) fun r10 =>
 a0a (a0t n r10 (4:Int) (wrap .u64 c.2.2.2.1)) fun r12 =>
 a0a (a0t n r12 (4:Int) (wrap .u64 c.2.2.2.2)) fun r14 =>
 a0a (a0t n r14 (8:Int) (0:Int)) fun r15 =>
 a0a (c0y n r15) fun r16 =>
 some r16.1):=by kernel_rfl
theorem z1j (n:Nat)(w:(List Int))(l:(List Int)):o0z (n+1) w l =
 a0a (q0b n a0b (w,(l,((l.length:Int),(0,()))))) fun r0 =>
 b0v (fun y1 =>
 some y1.1) (fun z2 =>
 some z2) r0:=by kernel_rfl
theorem v0z (n f:Nat)(w:(List Int))(s6:(List Int))(s7:Int)(s8:Int):q0b n (f+1) (w,s6,s7,s8,()) =
 tif (s8<s7) (
 a0a (at? s6 s8) fun r0 =>
 a0a (a0t n w (8:Int) (wrap .u64 r0)) fun r1 =>
 q0b n f (r1,(s6,(s7,((wrap .i64 (s8+1)),()))))) (
 some (.inl (w,()))):=by kernel_rfl
theorem z1i (n:Nat)(s:List UInt8)(n_:Int):g0w (n+1) s n_ =
 a0a (strings_Repeat n ((0:UInt8)::[]) (if (wrap .i64 (n_-(s.length:Int)))<0 then (0:Int) else (wrap .i64 (n_-(s.length:Int))))) fun r0 =>
 tif (((List.length s)+(List.length r0))<=9223372036854775807) (
 some (s++r0)) (
 none):=by kernel_rfl
theorem p0e (n:Nat)(w:(List Int)):c0y (n+1) w =
 some ((List.map (fun y0=>(UInt8.ofNat (Int.toNat y0))) w),w):=by kernel_rfl
theorem n1p (n:Nat)(x:a0y):a1b (n+1) x =
 a0a (g0t n x ([],(0,((0,(0,[])),(([],([],[])),(0,(0,((0,(0,(0,false))),((0,(0,(0,false))),((0,0),(0,(0,0)))))))))))) fun r0 =>
 some r0:=by kernel_rfl
theorem z0i (n:Nat)(x:(List (List UInt8)))(count:Int):m0k (n+1) x count =
 tif (count<0) (
 none) (
 a0a (t0q n (wrap .u64 (x.length:Int)) (wrap .u64 count)) fun r0 =>
 tif ((0:Int)<r0.1) (
 none) (
 tif ((9223372036854775807:Int)<r0.2) (
 none) (
 tif (((0:Int)<=(wrap .i64 r0.2))&&(((wrap .i64 r0.2)<=(wrap .i64 r0.2))&&(((wrap .i64 r0.2)*16)<=140737488355328))) (
 a0a (f0u n a0b ((Go.Flat.putRow (List.replicate (Int.toNat (wrap .i64 r0.2)) ([]:List UInt8)) 0 (List.take (List.length (List.replicate (Int.toNat (wrap .i64 r0.2)) ([]:List UInt8))) x)),((((List.length (List.take (List.length (List.replicate (Int.toNat (wrap .i64 r0.2)) ([]:List UInt8))) x)):Nat):Int),()))) fun r1 =>
 b0v (fun y2 =>
 some y2.1) (fun z3 =>
 some z3) r1) (
 none)))):=by kernel_rfl
theorem k0j (n f:Nat)(newslice:(List (List UInt8)))(n_:Int):f0u n (f+1) (newslice,n_,()) =
 tif (n_<(newslice.length:Int)) (
 tif ((0:Int)<=n_) (
 tif ((Int.toNat n_)<=(List.length newslice)) (
 tif (((0:Int)<=n_)&&(n_<=(newslice.length:Int))) (
 tif (((Int.toNat n_)+((List.length newslice)-(Int.toNat n_)))<=(List.length newslice)) (
 f0u n f ((Go.Flat.putRow newslice (Int.toNat n_) (List.take ((List.length newslice)-(Int.toNat n_)) (List.take ((Int.toNat n_)-0) (List.drop 0 newslice)))),((wrap .i64 (n_+(((List.length (List.take ((List.length newslice)-(Int.toNat n_)) (List.take ((Int.toNat n_)-0) (List.drop 0 newslice)))):Nat):Int))),()))) (
 none)) (
 none)) (
 none)) (
 none)) (
 some (.inl (newslice,()))):=by kernel_rfl
theorem n1o (n:Nat)(x:a0y):a1a (n+1) x =
 a0a (z0u n x.1) fun r0 =>
 a0a (a0t n [] (2:Int) (wrap .u64 (r0.1.length:Int))) fun r1 =>
 a0a (g0w n r0.1 (320:Int)) fun r2 =>
 a0a (e0g n r1 r2) fun r3 =>
 a0a (o0z n r3 (x.2.1::(x.2.2.1.1::(x.2.2.1.2.1::[])))) fun r4 =>
 a0a (a0t n r4 (2:Int) (wrap .u64 (x.2.2.1.2.2.length:Int))) fun r5 =>
 a0a (l0b n x.2.2.2.2) fun r6 =>
 a0a (e0g n r5 r6) fun r7 =>
 a0a (c0y n r7) fun r8 =>
 a0a (g0w n r8.1 (512:Int)) fun r9 =>
 some (r9,r0.2):=by kernel_rfl
theorem c1n (n:Nat)(out:(List (List UInt8)))(l:(List a0l))(each:Int)(bytes:((a0l×Unit)->Option (List UInt8))):p0a (n+1) out l each bytes =
 a0a (q0t n l each) fun r0 =>
 a0a (e0o n r0 (out,(bytes,()))) fun r1 =>
 some r1.1:=by kernel_rfl
theorem u0t (n:Nat)(x:((List (List UInt8))×(((a0l×Unit)->Option (List UInt8))×Unit))):e0o n [] x=some x:=by kernel_rfl
theorem t0v (n:Nat)(y:((List a0l)×Unit))(r:List ((List a0l)×Unit))(out_:(List (List UInt8)))(bytes_:((a0l×Unit)->Option (List UInt8))):e0o n (y::r) (out_,bytes_,()) =
 a0a (a0a (g0m n a0b (out_,(bytes_,([],(y.1,((y.1.length:Int),(0,()))))))) fun r0 =>
 b0v (fun y1 =>
 a0a (b0q n y1.2.2.1) fun r2 =>
 a0a (g0w n r2.1 (512:Int)) fun r3 =>
 tif ((((List.length y1.1)+1)*16)<=140737488355328) (
 some ((y1.1++(r3::[])),(y1.2.1,()))) (
 none)) (fun z4 =>
 none) r0) fun r5 =>
 e0o n r r5:=by kernel_rfl
theorem m0f (n f:Nat)(out_:(List (List UInt8)))(bytes_:((a0l×Unit)->Option (List UInt8)))(b:List UInt8)(s17:(List a0l))(s18:Int)(s19:Int):g0m n (f+1) (out_,bytes_,b,s17,s18,s19,()) =
 tif (s19<s18) (
 a0a (at? s17 s19) fun r0 =>
 a0a (bytes_ (r0,())) fun r1 =>
 a0a (a0o n b r1) fun r2 =>
 g0m n f (out_,(bytes_,(r2.2.2,(s17,(s18,((wrap .i64 (s19+1)),()))))))) (
 some (.inl (out_,(bytes_,(b,()))))):=by kernel_rfl
theorem n1m (n:Nat)(r:(Int×(Int×(List a0l))))(room:Int):z0x (n+1) r room =
 tif (((0:Int)<=room)&&((room<=room)&&((room*32)<=140737488355328))) (
 a0a (l0o n a0b (room,(r,((List.replicate (Int.toNat room) (0,(0,(0,false)))),(r.2.2,((r.2.2.length:Int),(0,()))))))) fun r0 =>
 b0v (fun y1 =>
 some y1.1) (fun z2 =>
 some z2) r0) (
 none):=by kernel_rfl
theorem r0v (n f:Nat)(room:Int)(r_:(Int×(Int×(List a0l))))(out:(List a0l))(s11:(List a0l))(s12:Int)(s13:Int):l0o n (f+1) (room,r_,out,s11,s12,s13,()) =
 tif (s13<s12) (
 a0a (at? s11 s13) fun r0 =>
 tif (room=0) (
 none) (
 a0a (at? out (Int.tmod (wrap .i64 (r_.1+s13)) room)) fun r1 =>
 a0a ((out)[(Int.toNat (Int.tmod (wrap .i64 (r_.1+s13)) room))]?) fun r2 =>
 l0o n f (room,(r_,((List.set out (Int.toNat (Int.tmod (wrap .i64 (r_.1+s13)) room)) r0),(s11,(s12,((wrap .i64 (s13+1)),())))))))) (
 some (.inl (out,()))):=by kernel_rfl
theorem n1s (n:Nat)(e:a0l):t0w (n+1) e =
 a0a (o0x n [] e) fun r0 =>
 a0a (c0y n r0) fun r1 =>
 a0a (g0w n r1.1 (32:Int)) fun r2 =>
 some r2:=by kernel_rfl
theorem e1v (n:Nat)(out:(List (List UInt8)))(l:(List a0c))(each:Int)(bytes:((a0c×Unit)->Option (List UInt8))):i0r (n+1) out l each bytes =
 a0a (s0y n l each) fun r0 =>
 a0a (f0j n r0 (out,(bytes,()))) fun r1 =>
 some r1.1:=by kernel_rfl
theorem w0a (n:Nat)(x:((List (List UInt8))×(((a0c×Unit)->Option (List UInt8))×Unit))):f0j n [] x=some x:=by kernel_rfl
theorem u0s (n:Nat)(y:((List a0c)×Unit))(r:List ((List a0c)×Unit))(out_:(List (List UInt8)))(bytes_:((a0c×Unit)->Option (List UInt8))):f0j n (y::r) (out_,bytes_,()) =
 a0a (a0a (h0v n a0b (out_,(bytes_,([],(y.1,((y.1.length:Int),(0,()))))))) fun r0 =>
 b0v (fun y1 =>
 a0a (b0q n y1.2.2.1) fun r2 =>
 a0a (g0w n r2.1 (512:Int)) fun r3 =>
 tif ((((List.length y1.1)+1)*16)<=140737488355328) (
 some ((y1.1++(r3::[])),(y1.2.1,()))) (
 none)) (fun z4 =>
 none) r0) fun r5 =>
 f0j n r r5:=by kernel_rfl
theorem m0x (n f:Nat)(out_:(List (List UInt8)))(bytes_:((a0c×Unit)->Option (List UInt8)))(b:List UInt8)(s17:(List a0c))(s18:Int)(s19:Int):h0v n (f+1) (out_,bytes_,b,s17,s18,s19,()) =
 tif (s19<s18) (
 a0a (at? s17 s19) fun r0 =>
 a0a (bytes_ (r0,())) fun r1 =>
 a0a (a0o n b r1) fun r2 =>
 h0v n f (out_,(bytes_,(r2.2.2,(s17,(s18,((wrap .i64 (s19+1)),()))))))) (
 some (.inl (out_,(bytes_,(b,()))))):=by kernel_rfl
theorem t1z (n:Nat)(s:a0c):l0b (n+1) s =
 a0a (o0z n [] (s.1::(s.2.1::[]))) fun r0 =>
 a0a (o0x n r0 s.2.2.1) fun r1 =>
 a0a (o0x n r1 s.2.2.2.1) fun r2 =>
 a0a (o0z n r2 ((wrap .i64 s.2.2.2.2.1.1)::((wrap .i64 s.2.2.2.2.1.2)::(s.2.2.2.2.2.1::(s.2.2.2.2.2.2.1::(s.2.2.2.2.2.2.2::[])))))) fun r3 =>
 a0a (c0y n r3) fun r4 =>
 a0a (g0w n r4.1 (128:Int)) fun r5 =>
 some r5:=by kernel_rfl
theorem q0r (n:Nat)(s:(List (List UInt8)))(f_:((List UInt8×Unit)->Option Bool)):k0l (n+1) s f_ =
 a0a (o0k n s f_) fun r0 =>
 some (decide ((0:Int)<=r0)):=by kernel_rfl
theorem h1q (n:Nat)(s:List UInt8):n0i (n+1) s =
 some (!(decide ((s.length:Int)=512))):=by kernel_rfl
theorem j0a (n:Nat)(r:(List UInt8×Bool)):i0x (n+1) r =
 some r.2:=by kernel_rfl
theorem m0z (n:Nat)(r:(List UInt8×Bool)):l0f (n+1) r =
 some (r.1.length:Int):=by kernel_rfl
theorem v1d (n:Nat)(c:b0a):l0c (n+1) c =
 a0a (l0d n c.1 (16:Int)) fun r0 =>
 a0a (l0d n c.2.2.1.1 (4:Int)) fun r1 =>
 a0a (l0d n c.2.2.1.2.1 (4:Int)) fun r2 =>
 a0a (l0d n c.2.2.1.2.2 (4:Int)) fun r3 =>
 some (wrap .i64 ((wrap .i64 ((wrap .i64 ((wrap .i64 ((1:Int)+r0))+r1))+r2))+r3)):=by kernel_rfl
theorem x0y (n:Nat)(r:(List UInt8×Bool)):b0x (n+1) r =
 some ([],true):=by kernel_rfl
theorem p0f (n:Nat)(r:(List UInt8×Bool))(n_:Int):e0h (n+1) r n_ =
 tif (r.2) (
 a0a (b0x n r) fun r0 =>
 some ([],r0)) (
 tif (n_<0) (
 a0a (b0x n r) fun r1 =>
 some ([],r1)) (
 tif ((r.1.length:Int)<n_) (
 a0a (b0x n r) fun r2 =>
 some ([],r2)) (
 tif (((0:Int)<=n_)&&(n_<=(r.1.length:Int))) (
 tif ((0:Int)<=n_) (
 tif ((Int.toNat n_)<=(List.length r.1)) (
 some ((List.drop 0 (List.take (Int.toNat n_) r.1)),((List.drop (Int.toNat n_) (List.take (List.length r.1) r.1)),r.2))) (
 none)) (
 none)) (
 none)))):=by kernel_rfl
theorem z0z (n:Nat)(p:b0e)(n_:Int)(each:Int):c0k (n+1) p n_ each =
 tif (each=0) (
 none) (
 tif (((0:Int)<=(if (p.2.length:Int)<(wrap .i64 (Int.tdiv (wrap .i64 ((wrap .i64 (n_+each))-1)) each)) then (p.2.length:Int) else (wrap .i64 (Int.tdiv (wrap .i64 ((wrap .i64 (n_+each))-1)) each))))&&((if (p.2.length:Int)<(wrap .i64 (Int.tdiv (wrap .i64 ((wrap .i64 (n_+each))-1)) each)) then (p.2.length:Int) else (wrap .i64 (Int.tdiv (wrap .i64 ((wrap .i64 (n_+each))-1)) each)))<=(p.2.length:Int))) (
 a0a (strings_Join n (List.drop 0 (List.take (Int.toNat (if (p.2.length:Int)<(wrap .i64 (Int.tdiv (wrap .i64 ((wrap .i64 (n_+each))-1)) each)) then (p.2.length:Int) else (wrap .i64 (Int.tdiv (wrap .i64 ((wrap .i64 (n_+each))-1)) each)))) p.2)) []) fun r0 =>
 tif ((0:Int)<=(if (p.2.length:Int)<(wrap .i64 (Int.tdiv (wrap .i64 ((wrap .i64 (n_+each))-1)) each)) then (p.2.length:Int) else (wrap .i64 (Int.tdiv (wrap .i64 ((wrap .i64 (n_+each))-1)) each)))) (
 tif ((Int.toNat (if (p.2.length:Int)<(wrap .i64 (Int.tdiv (wrap .i64 ((wrap .i64 (n_+each))-1)) each)) then (p.2.length:Int) else (wrap .i64 (Int.tdiv (wrap .i64 ((wrap .i64 (n_+each))-1)) each))))<=(List.length p.2)) (
 some (r0,(p.1,(List.drop (Int.toNat (if (p.2.length:Int)<(wrap .i64 (Int.tdiv (wrap .i64 ((wrap .i64 (n_+each))-1)) each)) then (p.2.length:Int) else (wrap .i64 (Int.tdiv (wrap .i64 ((wrap .i64 (n_+each))-1)) each)))) (List.take (List.length p.2) p.2))))) (
 none)) (
 none)) (
 none)):=by kernel_rfl
theorem e2f (n:Nat)(s:List UInt8):i1m (n+1) s =
 a0a (l0g n s) fun r0 =>
 a0a (d0u n r0) fun r1 =>
 a0a (t0u n a0b (r1.2,([],(r1.1,())))) fun r2 =>
 b0v (fun y3 =>
 a0a (i0x n y3.1) fun r4 =>
 tif (r4) (
 some ([],4)) (
 a0a (l0f n y3.1) fun r5 =>
 tif ((0:Int)<r5) (
 some ([],4)) (
 a0a (f0x n y3.2.1) fun r6 =>
 tif (!(r6=0)) (
 some ([],4)) (
 some (y3.2.1,0))))) (fun z7 =>
 some z7) r2:=by kernel_rfl
theorem y0r (n f:Nat)(r:(List UInt8×Bool))(out:(List (List UInt8×List UInt8)))(n_:Int):t0u n (f+1) (r,out,n_,()) =
 tif ((0:Int)<n_) (
 a0a (i0x n r) fun r0 =>
 tif (!r0) (
 tif ((out.length:Int)<=16) (
 a0a (i0b n r (64:Int)) fun r1 =>
 a0a (i0b n r1.2 (128:Int)) fun r2 =>
 tif ((((List.length out)+1)*32)<=140737488355328) (
 t0u n f (r2.2,((out++((r1.1,r2.1)::[])),((wrap .u64 (n_-1)),())))) (
 none)) (
 some (.inl (r,(out,()))))) (
 some (.inl (r,(out,()))))) (
 some (.inl (r,(out,())))):=by kernel_rfl
theorem e1u (n:Nat)(s:List UInt8):l0p (n+1) s =
 a0a (l0g n s) fun r0 =>
 a0a (a0e n r0 (8:Int)) fun r1 =>
 a0a (a0e n r1.2 (8:Int)) fun r2 =>
 a0a (g0v n r2.2) fun r3 =>
 a0a (g0v n r3.2) fun r4 =>
 a0a (a0e n r4.2 (8:Int)) fun r5 =>
 a0a (a0e n r5.2 (8:Int)) fun r6 =>
 a0a (a0e n r6.2 (8:Int)) fun r7 =>
 a0a (a0e n r7.2 (8:Int)) fun r8 =>
 a0a (a0e n r8.2 (8:Int)) fun r9 =>
 some ((wrap .i64 r1.1),((wrap .i64 r2.1),(r3.1,(r4.1,((r5.1,r6.1),((wrap .i64 r7.1),((wrap .i64 r8.1),(wrap .i64 r9.1)))))))):=by kernel_rfl
theorem c1m (n:Nat)(p:b0e)(r:(Int×(Int×(List a0l))))(many:Int):o0y (n+1) p r many =
 a0a (c0k n p p.1.1 (16:Int)) fun r0 =>
 tif (r.1<0) (
 some (r,r0.2)) (
 tif (r0.2.1.1<many) (
 some (r,r0.2)) (
 a0a (e0n n a0b (r0.2,(r,((0,(0,[])),(r0.1,(r0.2.1.1,(many,(0,())))))))) fun r1 =>
 b0v (fun y2 =>
 some (y2.2.1,y2.1)) (fun z3 =>
 some z3) r1)):=by kernel_rfl
theorem m0e (n f:Nat)(p:b0e)(r_:(Int×(Int×(List a0l))))(s6:(Int×(Int×(List a0l))))(all:List UInt8)(room:Int)(s36:Int)(s37:Int):e0n n (f+1) (p,r_,s6,all,room,s36,s37,()) =
 tif (s37<s36) (
 tif (room=0) (
 none) (
 tif (room=0) (
 none) (
 tif ((0:Int)<=(wrap .i64 ((32:Int)*(Int.tmod (wrap .i64 ((Int.tmod r_.1 room)+s37)) room)))) (
 tif ((Int.toNat (wrap .i64 ((32:Int)*(Int.tmod (wrap .i64 ((Int.tmod r_.1 room)+s37)) room))))<=(List.length all)) (
 a0a (l0g n (List.drop (Int.toNat (wrap .i64 ((32:Int)*(Int.tmod (wrap .i64 ((Int.tmod r_.1 room)+s37)) room)))) (List.take (List.length all) all))) fun r0 =>
 a0a (g0v n r0) fun r1 =>
 tif ((((List.length r_.2.2)+1)*32)<=140737488355328) (
 e0n n f (p,((r_.1,(r_.2.1,(r_.2.2++(r1.1::[])))),(s6,(all,(room,(s36,((wrap .i64 (s37+1)),())))))))) (
 none)) (
 none)) (
 none)))) (
 some (.inl (p,(r_,(s6,()))))):=by kernel_rfl
theorem z0y (n:Nat)(p:b0e)(n_:Int):g0f (n+1) p n_ =
 a0a (c0k n p n_ (4:Int)) fun r0 =>
 tif (((0:Int)<=n_)&&((n_<=n_)&&((n_*120)<=140737488355328))) (
 a0a (d0z n a0b (r0.2,(r0.1,((List.replicate (Int.toNat n_) ((0:Int),((0:Int),(((0:Int),((0:Int),((0:Int),false))),(((0:Int),((0:Int),((0:Int),false))),(((0:Int),(0:Int)),((0:Int),((0:Int),(0:Int))))))))),((((List.length (List.replicate (Int.toNat n_) ((0:Int),((0:Int),(((0:Int),((0:Int),((0:Int),false))),(((0:Int),((0:Int),((0:Int),false))),(((0:Int),(0:Int)),((0:Int),((0:Int),(0:Int)))))))))):Nat):Int),((0:Int),())))))) fun r1 =>
 b0v (fun y2 =>
 some (y2.2.1,y2.1)) (fun z3 =>
 some z3) r1) (
 none):=by kernel_rfl
theorem k0n (n f:Nat)(p:b0e)(all:List UInt8)(out:(List a0c))(s14:Int)(s15:Int):d0z n (f+1) (p,all,out,s14,s15,()) =
 tif (s15<s14) (
 tif ((0:Int)<=(wrap .i64 ((128:Int)*s15))) (
 tif ((Int.toNat (wrap .i64 ((128:Int)*s15)))<=(List.length all)) (
 a0a (l0p n (List.drop (Int.toNat (wrap .i64 ((128:Int)*s15))) (List.take (List.length all) all))) fun r0 =>
 a0a (at? out s15) fun r1 =>
 a0a ((out)[(Int.toNat s15)]?) fun r2 =>
 d0z n f (p,(all,((List.set out (Int.toNat s15) r0),(s14,((wrap .i64 (s15+1)),())))))) (
 none)) (
 none)) (
 some (.inl (p,(out,())))):=by kernel_rfl
theorem c2y (n:Nat)(a:(Int×(Int×(List a0l))))(b:(Int×(Int×(List a0l)))):g2o (n+1) a b =
 tif (a.1=b.1) (
 tif (a.2.1=b.2.1) (
 a0a (q0q n a.2.2 b.2.2) fun r0 =>
 some r0) (
 some false)) (
 some false):=by kernel_rfl
theorem g1z (n:Nat)(s1:(List a0c))(s2:(List a0c)):j0t (n+1) s1 s2 =
 tif (!((s1.length:Int)=(s2.length:Int))) (
 some false) (
 a0a (i0u n a0b (s1,(s2,((s1.length:Int),(0,()))))) fun r0 =>
 b0v (fun y1 =>
 some true) (fun z2 =>
 some z2) r0):=by kernel_rfl
theorem o0l (n f:Nat)(s1:(List a0c))(s2:(List a0c))(s12:Int)(s13:Int):i0u n (f+1) (s1,s2,s12,s13,()) =
 tif (s13<s12) (
 a0a (at? s1 s13) fun r0 =>
 a0a (at? s2 s13) fun r1 =>
 tif (!((decide (r0.1=r1.1))&&((decide (r0.2.1=r1.2.1))&&((decide (r0.2.2.1.1=r1.2.2.1.1))&&((decide (r0.2.2.1.2.1=r1.2.2.1.2.1))&&((decide (r0.2.2.1.2.2.1=r1.2.2.1.2.2.1))&&((r0.2.2.1.2.2.2==r1.2.2.1.2.2.2)&&((decide (r0.2.2.2.1.1=r1.2.2.2.1.1))&&((decide (r0.2.2.2.1.2.1=r1.2.2.2.1.2.1))&&((decide (r0.2.2.2.1.2.2.1=r1.2.2.2.1.2.2.1))&&((r0.2.2.2.1.2.2.2==r1.2.2.2.1.2.2.2)&&((decide (r0.2.2.2.2.1.1=r1.2.2.2.2.1.1))&&((decide (r0.2.2.2.2.1.2=r1.2.2.2.2.1.2))&&((decide (r0.2.2.2.2.2.1=r1.2.2.2.2.2.1))&&((decide (r0.2.2.2.2.2.2.1=r1.2.2.2.2.2.2.1))&&(decide (r0.2.2.2.2.2.2.2=r1.2.2.2.2.2.2.2))))))))))))))))) (
 some (.inr false)) (
 i0u n f (s1,(s2,(s12,((wrap .i64 (s13+1)),())))))) (
 some (.inl ())):=by kernel_rfl
theorem w1x (n:Nat)(s:a0h):j1l (n+1) s =
 a0a (d0w n s) fun r0 =>
 tif (!(r0=0)) (
 some []) (
 a0a (a1y n s) fun r1 =>
 a0a (k0t n r1 (fun y2=>o0f n y2.1 s)) fun r3 =>
 some r3):=by kernel_rfl
theorem w1f (n:Nat)(now:Int)(w:Int)(n_:Int):d0v (n+1) now w n_ =
 a0a (j2a n now w) fun r0 =>
 tif (!(r0.2=0)) (
 some (0,1)) (
 a0a (w1e n n_ (1:Int) (4096:Int)) fun r1 =>
 tif (!r1) (
 some (0,1)) (
 some ((if (0:Int)<(wrap .i64 ((wrap .i64 (r0.1+1))-n_)) then (wrap .i64 ((wrap .i64 (r0.1+1))-n_)) else (0:Int)),0))):=by kernel_rfl
theorem j1k (n:Nat)(c:b0a)(x:a0y)(oldest:Int):h0g (n+1) c x (0:Int) oldest =
 a0a (f0q n c x.2.1 (0:Int)) fun r0 =>
 a0a (f0v n x.2.2.2.1.1) fun r1 =>
 a0a (d0g n a0b (oldest,(r0.1,(r0.2,(r1,((r1.length:Int),(0,()))))))) fun r2 =>
 b0v (fun y3 =>
 some y3.1) (fun z4 =>
 some z4) r2:=by kernel_rfl
theorem j1j (n:Nat)(c:b0a)(x:a0y)(oldest:Int):h0g (n+1) c x (1:Int) oldest =
 a0a (f0q n c x.2.1 (1:Int)) fun r0 =>
 a0a (f0v n x.2.2.2.1.2.1) fun r1 =>
 a0a (d0g n a0b (oldest,(r0.1,(r0.2,(r1,((r1.length:Int),(0,()))))))) fun r2 =>
 b0v (fun y3 =>
 some y3.1) (fun z4 =>
 some z4) r2:=by kernel_rfl
theorem j1i (n:Nat)(c:b0a)(x:a0y)(oldest:Int):h0g (n+1) c x (2:Int) oldest =
 a0a (f0q n c x.2.1 (2:Int)) fun r0 =>
 a0a (f0v n x.2.2.2.1.2.2) fun r1 =>
 a0a (d0g n a0b (oldest,(r0.1,(r0.2,(r1,((r1.length:Int),(0,()))))))) fun r2 =>
 b0v (fun y3 =>
 some y3.1) (fun z4 =>
 some z4) r2:=by kernel_rfl
theorem u0j (n f:Nat)(oldest:Int)(from_:Int)(to:Int)(out:(List a0c))(s28:Int)(s29:Int):d0g n (f+1) (oldest,from_,to,out,s28,s29,()) =
 tif (s29<s28) (
 a0a (at? out s29) fun r0 =>
 a0a ((out)[(Int.toNat s29)]?) fun r1 =>
 tif (r1.1<oldest) (
 tif (r1.1<from_) (
 a0a (at? out s29) fun r2 =>
 a0a ((out)[(Int.toNat s29)]?) fun r3 =>
 d0g n f (oldest,(from_,(to,((List.set out (Int.toNat s29) (0,(0,((0,(0,(0,false))),((0,(0,(0,false))),((0,0),(0,(0,0)))))))),(s28,((wrap .i64 (s29+1)),()))))))) (
 tif (to<=r1.1) (
 a0a (at? out s29) fun r4 =>
 a0a ((out)[(Int.toNat s29)]?) fun r5 =>
 d0g n f (oldest,(from_,(to,((List.set out (Int.toNat s29) (0,(0,((0,(0,(0,false))),((0,(0,(0,false))),((0,0),(0,(0,0)))))))),(s28,((wrap .i64 (s29+1)),()))))))) (
 d0g n f (oldest,(from_,(to,(out,(s28,((wrap .i64 (s29+1)),()))))))))) (
 d0g n f (oldest,(from_,(to,(out,(s28,((wrap .i64 (s29+1)),())))))))) (
 some (.inl (out,()))):=by kernel_rfl
theorem a2d (n:Nat)(c:b0a):l1n (n+1) c =
 a0a (c0l n c) fun r0 =>
 tif (!(r0=0)) (
 some (0:Int)) (
 a0a (f1e n c) fun r1 =>
 some (wrap .i64 ((wrap .i64 ((1:Int)+r1))+c.2.2.2.2))):=by kernel_rfl
theorem s1f (n:Nat)(c:b0a)(l:(List (List UInt8×List UInt8))):w0y (n+1) c l =
 a0a (c0l n c) fun r0 =>
 tif (!(r0=0)) (
 some (([],(0,((0,(0,[])),(([],([],[])),(0,(0,((0,(0,(0,false))),((0,(0,(0,false))),((0,0),(0,(0,0))))))))))),r0)) (
 a0a (f0x n l) fun r1 =>
 tif (!(r1=0)) (
 some (([],(0,((0,(0,[])),(([],([],[])),(0,(0,((0,(0,(0,false))),((0,(0,(0,false))),((0,0),(0,(0,0))))))))))),r1)) (
 a0a (q0s n l) fun r2 =>
 a0a (e1y n c) fun r3 =>
 some ((r2,(((-1):Int),((0,(0,[])),(r3,(0,(0,((0,(0,(0,false))),((0,(0,(0,false))),((0,0),(0,(0,0))))))))))),0))):=by kernel_rfl
end Go.Proofs.YtagnkfbpgkckiaaGreatDoor
