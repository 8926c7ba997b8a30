/- Trees, printed by program. -/
import Derived.Test.YtfibfcjepngbmaaGreatDoorTr0
import Derived.KernelRfl
set_option linter.unusedVariables false
open Go.IntKind (wrap)
namespace Go.Proofs.YtfibfcjepngbmaaGreatDoor
open Go.Flat
theorem k1i (n:Nat)(c:a0z)(s:((List a0c)×((List a0c)×(List a0c))))(was:a0c)(j:Int):x0i (n+1) c s was j =
 a0a (v0t n c s) fun r0 =>
 b1n (r0.1) (
 tif (!(r0.2=0)) (
 some (([],([],[])),r0.2)) (
 tif (!((decide (was.1=0))&&((decide (was.2.1=0))&&((decide (was.2.2.1.1=0))&&((decide (was.2.2.1.2.1=0))&&((decide (was.2.2.1.2.2.1=0))&&((was.2.2.1.2.2.2==false)&&((decide (was.2.2.2.1.1=0))&&((decide (was.2.2.2.1.2.1=0))&&((decide (was.2.2.2.1.2.2.1=0))&&((was.2.2.2.1.2.2.2==false)&&((decide (was.2.2.2.2.1.1=0))&&((decide (was.2.2.2.2.1.2=0))&&((decide (was.2.2.2.2.2.1=0))&&((decide (was.2.2.2.2.2.2.1=0))&&(decide (was.2.2.2.2.2.2.2=0))))))))))))))))) (
 a0a (j0u n was.2 c.2.1.1 was.1) fun r1 =>
 tif (!r1) (
 some (([],([],[])),2)) (
 tif ((decide (was.1=0))&&((decide (was.2.1=0))&&((decide (was.2.2.1.1=0))&&((decide (was.2.2.1.2.1=0))&&((decide (was.2.2.1.2.2.1=0))&&((was.2.2.1.2.2.2==false)&&((decide (was.2.2.2.1.1=0))&&((decide (was.2.2.2.1.2.1=0))&&((decide (was.2.2.2.1.2.2.1=0))&&((was.2.2.2.1.2.2.2==false)&&((decide (was.2.2.2.2.1.1=0))&&((decide (was.2.2.2.2.1.2=0))&&((decide (was.2.2.2.2.2.1=0))&&((decide (was.2.2.2.2.2.2.1=0))&&(decide (was.2.2.2.2.2.2.2=0)))))))))))))))) (
 some (s,0)) (
 tif (was.1=j) (
 some (s,0)) (
 tif (j<was.1) (
 some (([],([],[])),1)) (
 none))))) (
 tif ((decide (was.1=0))&&((decide (was.2.1=0))&&((decide (was.2.2.1.1=0))&&((decide (was.2.2.1.2.1=0))&&((decide (was.2.2.1.2.2.1=0))&&((was.2.2.1.2.2.2==false)&&((decide (was.2.2.2.1.1=0))&&((decide (was.2.2.2.1.2.1=0))&&((decide (was.2.2.2.1.2.2.1=0))&&((was.2.2.2.1.2.2.2==false)&&((decide (was.2.2.2.2.1.1=0))&&((decide (was.2.2.2.2.1.2=0))&&((decide (was.2.2.2.2.2.1=0))&&((decide (was.2.2.2.2.2.2.1=0))&&(decide (was.2.2.2.2.2.2.2=0)))))))))))))))) (
 some (s,0)) (
 tif (was.1=j) (
 some (s,0)) (
 tif (j<was.1) (
 some (([],([],[])),1)) (
 none)))))) fun r2 =>
 tif (!(r0.2=0)) (
 some (([],([],[])),r0.2)) (
 tif (!((decide (was.1=0))&&((decide (was.2.1=0))&&((decide (was.2.2.1.1=0))&&((decide (was.2.2.1.2.1=0))&&((decide (was.2.2.1.2.2.1=0))&&((was.2.2.1.2.2.2==false)&&((decide (was.2.2.2.1.1=0))&&((decide (was.2.2.2.1.2.1=0))&&((decide (was.2.2.2.1.2.2.1=0))&&((was.2.2.2.1.2.2.2==false)&&((decide (was.2.2.2.2.1.1=0))&&((decide (was.2.2.2.2.1.2=0))&&((decide (was.2.2.2.2.2.1=0))&&((decide (was.2.2.2.2.2.2.1=0))&&(decide (was.2.2.2.2.2.2.2=0))))))))))))))))) (
 a0a (j0u n was.2 c.2.1.1 was.1) fun r3 =>
 tif (!r3) (
 some (([],([],[])),2)) (
 tif ((decide (was.1=0))&&((decide (was.2.1=0))&&((decide (was.2.2.1.1=0))&&((decide (was.2.2.1.2.1=0))&&((decide (was.2.2.1.2.2.1=0))&&((was.2.2.1.2.2.2==false)&&((decide (was.2.2.2.1.1=0))&&((decide (was.2.2.2.1.2.1=0))&&((decide (was.2.2.2.1.2.2.1=0))&&((was.2.2.2.1.2.2.2==false)&&((decide (was.2.2.2.2.1.1=0))&&((decide (was.2.2.2.2.1.2=0))&&((decide (was.2.2.2.2.2.1=0))&&((decide (was.2.2.2.2.2.2.1=0))&&(decide (was.2.2.2.2.2.2.2=0)))))))))))))))) (
 some (s,0)) (
 tif (was.1=j) (
 some (s,0)) (
 tif (j<was.1) (
 some (([],([],[])),1)) (
 a0a (o0e n r2 (0:Int) j) fun r4 =>
 tif (!r4.1) (
 some (([],([],[])),1)) (
 a0a (e0j n r4.2 (0:Int) was.1 was.2) fun r5 =>
 tif (!(r5.1=0)) (
 some (([],([],[])),r5.1)) (
 a0a (k1l n r5.2 was.1 j) fun r6 =>
 some (r6.2,0)))))))) (
 tif ((decide (was.1=0))&&((decide (was.2.1=0))&&((decide (was.2.2.1.1=0))&&((decide (was.2.2.1.2.1=0))&&((decide (was.2.2.1.2.2.1=0))&&((was.2.2.1.2.2.2==false)&&((decide (was.2.2.2.1.1=0))&&((decide (was.2.2.2.1.2.1=0))&&((decide (was.2.2.2.1.2.2.1=0))&&((was.2.2.2.1.2.2.2==false)&&((decide (was.2.2.2.2.1.1=0))&&((decide (was.2.2.2.2.1.2=0))&&((decide (was.2.2.2.2.2.1=0))&&((decide (was.2.2.2.2.2.2.1=0))&&(decide (was.2.2.2.2.2.2.2=0)))))))))))))))) (
 some (s,0)) (
 tif (was.1=j) (
 some (s,0)) (
 tif (j<was.1) (
 some (([],([],[])),1)) (
 a0a (o0e n r2 (0:Int) j) fun r7 =>
 tif (!r7.1) (
 some (([],([],[])),1)) (
 a0a (e0j n r7.2 (0:Int) was.1 was.2) fun r8 =>
 tif (!(r8.1=0)) (
 some (([],([],[])),r8.1)) (
 a0a (k1l n r8.2 was.1 j) fun r9 =>
 some (r9.2,0)))))))):=by kernel_rfl
theorem z1h (n:Nat)(r:(Int×(Int×(List a0j))))(room:Int)(e:a0j):s1j (n+1) r room e =
 a0a (u0k n r room) fun r0 =>
 tif (!(r0=0)) (
 some ((0,(0,[])),2)) (
 a0a (d0q n e) fun r1 =>
 tif (!(r1=0)) (
 some ((0,(0,[])),2)) (
 a0a (z0k n r) fun r2 =>
 tif (r2.2=0) (
 a0a (i0k n r2.1 e) fun r3 =>
 tif (!r3) (
 some ((0,(0,[])),9)) (
 tif ((r.2.2.length:Int)=room) (
 tif (r.1=70368744177664) (
 some ((0,(0,[])),1)) (
 a0a (n0u n r.2.2 room) fun r4 =>
 b1n (r4.1) (
 tif (!(r4.2=0)) (
 some ((0,(0,[])),r4.2)) (
 none)) fun r5 =>
 tif (!(r4.2=0)) (
 some ((0,(0,[])),r4.2)) (
 a0a (y0a n r5 e) fun r6 =>
 tif (r6.2.1) (
 a0a (k0s n r6.2.2) fun r7 =>
 some (((wrap .i64 (r.1+1)),(r6.1.1,r7.1)),0)) (
 a0a (k0s n r6.2.2) fun r8 =>
 some ((r.1,(r.2.1,r8.1)),0))))) (
 a0a (n0u n r.2.2 room) fun r9 =>
 b1n (r9.1) (
 tif (!(r9.2=0)) (
 some ((0,(0,[])),r9.2)) (
 none)) fun r10 =>
 tif (!(r9.2=0)) (
 some ((0,(0,[])),r9.2)) (
 a0a (y0a n r10 e) fun r11 =>
 tif (r11.2.1) (
 a0a (k0s n r11.2.2) fun r12 =>
 some (((wrap .i64 (r.1+1)),(r11.1.1,r12.1)),0)) (
 a0a (k0s n r11.2.2) fun r13 =>
 some ((r.1,(r.2.1,r13.1)),0)))))) (
 tif ((r.2.2.length:Int)=room) (
 tif (r.1=70368744177664) (
 some ((0,(0,[])),1)) (
 a0a (n0u n r.2.2 room) fun r14 =>
 b1n (r14.1) (
 tif (!(r14.2=0)) (
 some ((0,(0,[])),r14.2)) (
 none)) fun r15 =>
 tif (!(r14.2=0)) (
 some ((0,(0,[])),r14.2)) (
 a0a (y0a n r15 e) fun r16 =>
 tif (r16.2.1) (
 a0a (k0s n r16.2.2) fun r17 =>
 some (((wrap .i64 (r.1+1)),(r16.1.1,r17.1)),0)) (
 a0a (k0s n r16.2.2) fun r18 =>
 some ((r.1,(r.2.1,r18.1)),0))))) (
 a0a (n0u n r.2.2 room) fun r19 =>
 b1n (r19.1) (
 tif (!(r19.2=0)) (
 some ((0,(0,[])),r19.2)) (
 none)) fun r20 =>
 tif (!(r19.2=0)) (
 some ((0,(0,[])),r19.2)) (
 a0a (y0a n r20 e) fun r21 =>
 tif (r21.2.1) (
 a0a (k0s n r21.2.2) fun r22 =>
 some (((wrap .i64 (r.1+1)),(r21.1.1,r22.1)),0)) (
 a0a (k0s n r21.2.2) fun r23 =>
 some ((r.1,(r.2.1,r23.1)),0))))))):=by kernel_rfl
theorem v1k (n:Nat)(c:b0f)(e:a0j):l1n (n+1) c e =
 a0a (d0q n e) fun r0 =>
 tif (!(r0=0)) (
 some ((0,((0,(0,(0,false))),((0,(0,(0,false))),((0,0),(0,(0,0)))))),r0)) (
 a0a (l1j n e) fun r1 =>
 a0a (r0j n c r1) fun r2 =>
 some r2):=by kernel_rfl
theorem n1q (n:Nat)(s:a0l):u0n (n+1) s =
 a0a (l0w n s) fun r0 =>
 tif (!r0) (
 some (2:Int)) (
 a0a (u0l n s.2.1) fun r1 =>
 tif (!r1) (
 some (2:Int)) (
 tif (!(s.2.2.1=((-1):Int))) (
 a0a (u0l n s.2.2.1) fun r2 =>
 tif (!r2) (
 some (2:Int)) (
 tif (s.2.1<s.2.2.1) (
 some (2:Int)) (
 a0a (n0v n s) fun r3 =>
 a0a (c0u n a0b (s,((wrap .i64 (r3+s.1.2.1.1)),(s.2.2.2,((s.2.2.2.length:Int),(0,())))))) fun r4 =>
 b0u (fun y5 =>
 some (0:Int)) (fun z6 =>
 some z6) r4))) (
 tif (s.2.1<s.2.2.1) (
 some (2:Int)) (
 a0a (n0v n s) fun r7 =>
 a0a (c0u n a0b (s,((wrap .i64 (r7+s.1.2.1.1)),(s.2.2.2,((s.2.2.2.length:Int),(0,())))))) fun r8 =>
 b0u (fun y9 =>
 some (0:Int)) (fun z10 =>
 some z10) r8)))):=by kernel_rfl
theorem p0a (n f:Nat)(s_:a0l)(end_:Int)(s42:(List b0c))(s43:Int)(s44:Int):c0u n (f+1) (s_,end_,s42,s43,s44,()) =
 tif (s44<s43) (
 a0a (at? s42 s44) fun r0 =>
 a0a (u0m n r0) fun r1 =>
 tif (r1) (
 c0u n f (s_,(end_,(s42,(s43,((wrap .i64 (s44+1)),())))))) (
 a0a (u0o n s_.1 r0) fun r2 =>
 tif (!(r2=0)) (
 some (.inr (2:Int))) (
 tif (r0.2.1<0) (
 some (.inr (2:Int))) (
 tif (end_<=r0.2.1) (
 some (.inr (2:Int))) (
 tif (((0:Int)<=s44)&&(s44<=(s_.2.2.2.length:Int))) (
 a0a (c0t n a0b (s_,(end_,(s44,(r0,(s42,(s43,(s44,((((List.length (List.drop 0 (List.take (Int.toNat s44) s_.2.2.2))):Nat):Int),((0:Int),())))))))))) fun r3 =>
 b0u (fun y4 =>
 c0u n f (y4.1,(y4.2.1,(y4.2.2.1,(y4.2.2.2.1,((wrap .i64 (y4.2.2.2.2.1+1)),())))))) (fun z5 =>
 some (.inr z5)) r3) (
 none)))))) (
 some (.inl ())):=by kernel_rfl
theorem o0q (n f:Nat)(s_:a0l)(end_:Int)(i:Int)(x:b0c)(s42:(List b0c))(s43:Int)(s44:Int)(s71:Int)(s72:Int):c0t n (f+1) (s_,end_,i,x,s42,s43,s44,s71,s72,()) =
 tif (s72<s71) (
 a0a (l0x n s_ i) fun r0 =>
 tif (r0) (
 a0a (l0x n s_ s72) fun r1 =>
 tif (r1) (
 a0a (at? s_.2.2.2 s72) fun r2 =>
 a0a (q0v n r2.1 x.1) fun r3 =>
 tif (r3) (
 some (.inr (2:Int))) (
 c0t n f (s_,(end_,(i,(x,(s42,(s43,(s44,(s71,((wrap .i64 (s72+1)),()))))))))))) (
 c0t n f (s_,(end_,(i,(x,(s42,(s43,(s44,(s71,((wrap .i64 (s72+1)),()))))))))))) (
 c0t n f (s_,(end_,(i,(x,(s42,(s43,(s44,(s71,((wrap .i64 (s72+1)),()))))))))))) (
 some (.inl (s_,(end_,(s42,(s43,(s44,()))))))):=by kernel_rfl
theorem s1q (n:Nat)(s:a0l):i1r (n+1) s =
 a0a (u0n n s) fun r0 =>
 tif (!(r0=0)) (
 some (0,0)) (
 a0a (n0v n s) fun r1 =>
 some (r1,(if (35184372088832:Int)<(wrap .i64 (r1+s.1.2.1.1)) then (35184372088832:Int) else (wrap .i64 (r1+s.1.2.1.1))))):=by kernel_rfl
theorem n1i (n:Nat)(s:a0l):l0w (n+1) s =
 a0a (e0o n s.1) fun r0 =>
 tif (r0=0) (
 some (decide ((s.2.2.2.length:Int)=s.1.2.2.2.1))) (
 some false):=by kernel_rfl
theorem n1k (n:Nat)(s:a0l)(i:Int):l0x (n+1) s i =
 a0a (at? s.2.2.2 i) fun r0 =>
 a0a (u0m n r0) fun r1 =>
 tif (!r1) (
 tif (s.2.2.1=((-1):Int)) (
 some true) (
 a0a (at? s.2.2.2 i) fun r2 =>
 a0a (i1v n s.1 r2.2.1 s.2.2.1) fun r3 =>
 some (!r3))) (
 some false):=by kernel_rfl
theorem z1v (n:Nat)(n_:Int):a1z (n+1) n_ =
 tif (n_<1) (
 some []) (
 tif ((4096:Int)<n_) (
 some []) (
 tif (((0:Int)<=n_)&&((n_<=n_)&&((n_*120)<=140737488355328))) (
 some (List.replicate (Int.toNat n_) (0,(0,((0,(0,(0,false))),((0,(0,(0,false))),((0,0),(0,(0,0))))))))) (
 none))):=by kernel_rfl
theorem n1z (n:Nat)(r:(Int×(Int×(List a0j))))(room:Int):u0u (n+1) r room =
 tif (room<1) (
 some (2:Int)) (
 tif ((4096:Int)<room) (
 some (2:Int)) (
 tif (room<(r.2.2.length:Int)) (
 some (2:Int)) (
 tif (r.1<0) (
 some (2:Int)) (
 tif ((70368744177664:Int)<r.1) (
 some (2:Int)) (
 a0a (g0d n a0b (room,(r,(r.2.2,((r.2.2.length:Int),(0,())))))) fun r0 =>
 b0u (fun y1 =>
 tif (y1.2.1.1=0) (
 tif (!(y1.2.1.2.1=0)) (
 some (2:Int)) (
 some (0:Int))) (
 tif (y1.2.1.2.1<0) (
 some (2:Int)) (
 tif ((35184372088832:Int)<=y1.2.1.2.1) (
 some (2:Int)) (
 tif (!((y1.2.1.2.2.length:Int)=y1.1)) (
 some (2:Int)) (
 a0a (at? y1.2.1.2.2 (0:Int)) fun r2 =>
 tif (r2.1<=y1.2.1.2.1) (
 some (2:Int)) (
 some (0:Int))))))) (fun z3 =>
 some z3) r0))))):=by kernel_rfl
theorem p0d (n f:Nat)(room:Int)(r_:(Int×(Int×(List a0j))))(s31:(List a0j))(s32:Int)(s33:Int):g0d n (f+1) (room,r_,s31,s32,s33,()) =
 tif (s33<s32) (
 a0a (at? s31 s33) fun r0 =>
 a0a (e0p n r0) fun r1 =>
 tif (!(r1=0)) (
 some (.inr (2:Int))) (
 tif ((0:Int)<s33) (
 a0a (at? r_.2.2 (wrap .i64 (s33-1))) fun r2 =>
 tif (r0.1<=r2.1) (
 some (.inr (2:Int))) (
 g0d n f (room,(r_,(s31,(s32,((wrap .i64 (s33+1)),()))))))) (
 g0d n f (room,(r_,(s31,(s32,((wrap .i64 (s33+1)),())))))))) (
 some (.inl (room,(r_,())))):=by kernel_rfl
theorem n1w (n:Nat)(c:a0z)(s:((List a0c)×((List a0c)×(List a0c)))):u0p (n+1) c s =
 a0a (e0o n c) fun r0 =>
 tif (!(r0=0)) (
 some (2:Int)) (
 tif (!((s.1.length:Int)=c.2.2.1.1)) (
 some (2:Int)) (
 a0a (l0y n s.1 c.2.1.1) fun r1 =>
 tif (!(r1=0)) (
 some (2:Int)) (
 tif (!((s.2.1.length:Int)=c.2.2.1.2.1)) (
 some (2:Int)) (
 a0a (l0y n s.2.1 c.2.1.2.1) fun r2 =>
 tif (!(r2=0)) (
 some (2:Int)) (
 tif (!((s.2.2.length:Int)=c.2.2.1.2.2)) (
 some (2:Int)) (
 a0a (l0y n s.2.2 c.2.1.2.2) fun r3 =>
 tif (!(r3=0)) (
 some (2:Int)) (
 some (0:Int)))))))):=by kernel_rfl
theorem z1x (n:Nat)(l:(List a0c)):n0x (n+1) l =
 a0a (l0z n a0b ([],(l,((l.length:Int),(0,()))))) fun r0 =>
 b0u (fun y1 =>
 some y1.1) (fun z2 =>
 some z2) r0:=by kernel_rfl
theorem u0t (n f:Nat)(out:(List a0c))(s8:(List a0c))(s9:Int)(s10:Int):l0z n (f+1) (out,s8,s9,s10,()) =
 tif (s10<s9) (
 a0a (at? s8 s10) fun r0 =>
 tif ((decide (r0.1=0))&&((decide (r0.2.1=0))&&((decide (r0.2.2.1.1=0))&&((decide (r0.2.2.1.2.1=0))&&((decide (r0.2.2.1.2.2.1=0))&&((r0.2.2.1.2.2.2==false)&&((decide (r0.2.2.2.1.1=0))&&((decide (r0.2.2.2.1.2.1=0))&&((decide (r0.2.2.2.1.2.2.1=0))&&((r0.2.2.2.1.2.2.2==false)&&((decide (r0.2.2.2.2.1.1=0))&&((decide (r0.2.2.2.2.1.2=0))&&((decide (r0.2.2.2.2.2.1=0))&&((decide (r0.2.2.2.2.2.2.1=0))&&(decide (r0.2.2.2.2.2.2.2=0)))))))))))))))) (
 l0z n f (out,(s8,(s9,((wrap .i64 (s10+1)),()))))) (
 a0a (q0u n a0b (out,(r0,((out.length:Int),(s8,(s9,(s10,()))))))) fun r1 =>
 b0u (fun y2 =>
 tif (((0:Int)<=y2.2.2.1)&&(y2.2.2.1<=(y2.1.length:Int))) (
 tif (((0+(List.length (List.take ((Int.toNat y2.2.2.1)-0) (List.drop 0 y2.1))))*120)<=140737488355328) (
 tif ((((List.length ([]++(List.take ((Int.toNat y2.2.2.1)-0) (List.drop 0 y2.1))))+1)*120)<=140737488355328) (
 tif ((0:Int)<=y2.2.2.1) (
 tif ((Int.toNat y2.2.2.1)<=(List.length y2.1)) (
 tif ((((List.length (([]++(List.take ((Int.toNat y2.2.2.1)-0) (List.drop 0 y2.1)))++(y2.2.1::[])))+(List.length (List.take ((List.length y2.1)-(Int.toNat y2.2.2.1)) (List.drop (Int.toNat y2.2.2.1) y2.1))))*120)<=140737488355328) (
 l0z n f (((([]++(List.take ((Int.toNat y2.2.2.1)-0) (List.drop 0 y2.1)))++(y2.2.1::[]))++(List.take ((List.length y2.1)-(Int.toNat y2.2.2.1)) (List.drop (Int.toNat y2.2.2.1) y2.1))),(y2.2.2.2.1,(y2.2.2.2.2.1,((wrap .i64 (y2.2.2.2.2.2.1+1)),()))))) (
 none)) (
 none)) (
 none)) (
 none)) (
 none)) (
 none)) (fun z3 =>
 some (.inr z3)) r1)) (
 some (.inl (out,()))):=by kernel_rfl
theorem u0s (n f:Nat)(out:(List a0c))(s:a0c)(at_:Int)(s8:(List a0c))(s9:Int)(s10:Int):q0u n (f+1) (out,s,at_,s8,s9,s10,()) =
 tif ((0:Int)<at_) (
 a0a (at? out (wrap .i64 (at_-1))) fun r0 =>
 a0a ((out)[(Int.toNat (wrap .i64 (at_-1)))]?) fun r1 =>
 tif (s.1<r1.1) (
 q0u n f (out,(s,((wrap .i64 (at_-1)),(s8,(s9,(s10,()))))))) (
 some (.inl (out,(s,(at_,(s8,(s9,(s10,()))))))))) (
 some (.inl (out,(s,(at_,(s8,(s9,(s10,())))))))):=by kernel_rfl
theorem t1k (n:Nat)(r:(Int×(Int×(List a0j)))):i1z (n+1) r =
 tif ((r.2.2.length:Int)=0) (
 some ((0,(0,(0,false))),3)) (
 a0a (at? r.2.2 (wrap .i64 ((r.2.2.length:Int)-1))) fun r0 =>
 some (r0,0)):=by kernel_rfl
theorem t1h (n:Nat)(c:b0f)(w:Int)(i:Int):q0t (n+1) c w i =
 a0a (p0g n c) fun r0 =>
 tif (!(r0=0)) (
 some false) (
 tif (c.1=0) (
 some false) (
 a0a (f1k n c.2.1.1 w) fun r1 =>
 a0a (f1k n c.2.2.1.1 w) fun r2 =>
 tif (r1.2=0) (
 tif (r2.2=0) (
 tif (r1.1=i) (
 some (decide (r2.1=i))) (
 some false)) (
 some false)) (
 some false))):=by kernel_rfl
theorem i1y (n:Nat)(i:Int)(w:Int):q0s (n+1) i w =
 tif ((0:Int)<=i) (
 tif (w=0) (
 none) (
 some (decide (i<=(wrap .i64 (Int.tdiv (35184372088831:Int) w)))))) (
 some false):=by kernel_rfl
theorem z1u (n:Nat)(l:(List a0c))(w:Int)(i:Int)(c:b0f):k0h (n+1) l w i c =
 a0a (l0y n l w) fun r0 =>
 tif (!(r0=0)) (
 some ([],2)) (
 a0a (q0t n c w i) fun r1 =>
 tif (!r1) (
 some ([],2)) (
 tif (((0+(List.length l))*120)<=140737488355328) (
 a0a (u0x n i (l.length:Int)) fun r2 =>
 a0a (at? ([]++l) r2) fun r3 =>
 a0a (([]++l)[(Int.toNat r2)]?) fun r4 =>
 some ((List.set ([]++l) (Int.toNat r2) (i,c)),0)) (
 none))):=by kernel_rfl
theorem e2i (n:Nat)(c:a0z)(s:((List a0c)×((List a0c)×(List a0c))))(i:Int)(j:Int):w1h (n+1) c s i j =
 tif (c.2.1.2.1=0) (
 none) (
 tif (c.2.1.2.1=0) (
 none) (
 tif ((wrap .i64 (Int.tdiv (wrap .i64 (i*c.2.1.1)) c.2.1.2.1))=(wrap .i64 (Int.tdiv (wrap .i64 (j*c.2.1.1)) c.2.1.2.1))) (
 tif (c.2.1.2.2=0) (
 none) (
 tif (c.2.1.2.2=0) (
 none) (
 tif ((wrap .i64 (Int.tdiv (wrap .i64 (i*c.2.1.1)) c.2.1.2.2))=(wrap .i64 (Int.tdiv (wrap .i64 (j*c.2.1.1)) c.2.1.2.2))) (
 some s) (
 a0a (g0q n c s (2:Int) (wrap .i64 (Int.tdiv (wrap .i64 (i*c.2.1.1)) c.2.1.2.2))) fun r0 =>
 tif (r0.2=0) (
 tif ((0:Int)<r0.1.1) (
 a0a (k0h n s.2.2 c.2.1.2.2 (wrap .i64 (Int.tdiv (wrap .i64 (i*c.2.1.1)) c.2.1.2.2)) r0.1) fun r1 =>
 tif (r1.2=0) (
 some (s.1,(s.2.1,r1.1))) (
 some s)) (
 some s)) (
 some s))))) (
 a0a (g0q n c s (1:Int) (wrap .i64 (Int.tdiv (wrap .i64 (i*c.2.1.1)) c.2.1.2.1))) fun r2 =>
 tif (r2.2=0) (
 tif ((0:Int)<r2.1.1) (
 a0a (k0h n s.2.1 c.2.1.2.1 (wrap .i64 (Int.tdiv (wrap .i64 (i*c.2.1.1)) c.2.1.2.1)) r2.1) fun r3 =>
 tif (r3.2=0) (
 tif (c.2.1.2.2=0) (
 none) (
 tif (c.2.1.2.2=0) (
 none) (
 tif ((wrap .i64 (Int.tdiv (wrap .i64 (i*c.2.1.1)) c.2.1.2.2))=(wrap .i64 (Int.tdiv (wrap .i64 (j*c.2.1.1)) c.2.1.2.2))) (
 some (s.1,(r3.1,s.2.2))) (
 a0a (g0q n c (s.1,(r3.1,s.2.2)) (2:Int) (wrap .i64 (Int.tdiv (wrap .i64 (i*c.2.1.1)) c.2.1.2.2))) fun r4 =>
 tif (r4.2=0) (
 tif ((0:Int)<r4.1.1) (
 a0a (k0h n s.2.2 c.2.1.2.2 (wrap .i64 (Int.tdiv (wrap .i64 (i*c.2.1.1)) c.2.1.2.2)) r4.1) fun r5 =>
 tif (r5.2=0) (
 some (s.1,(r3.1,r5.1))) (
 some (s.1,(r3.1,s.2.2)))) (
 some (s.1,(r3.1,s.2.2)))) (
 some (s.1,(r3.1,s.2.2))))))) (
 tif (c.2.1.2.2=0) (
 none) (
 tif (c.2.1.2.2=0) (
 none) (
 tif ((wrap .i64 (Int.tdiv (wrap .i64 (i*c.2.1.1)) c.2.1.2.2))=(wrap .i64 (Int.tdiv (wrap .i64 (j*c.2.1.1)) c.2.1.2.2))) (
 some s) (
 a0a (g0q n c s (2:Int) (wrap .i64 (Int.tdiv (wrap .i64 (i*c.2.1.1)) c.2.1.2.2))) fun r6 =>
 tif (r6.2=0) (
 tif ((0:Int)<r6.1.1) (
 a0a (k0h n s.2.2 c.2.1.2.2 (wrap .i64 (Int.tdiv (wrap .i64 (i*c.2.1.1)) c.2.1.2.2)) r6.1) fun r7 =>
 tif (r7.2=0) (
 some (s.1,(s.2.1,r7.1))) (
 some s)) (
 some s)) (
 some s)))))) (
 tif (c.2.1.2.2=0) (
 none) (
 tif (c.2.1.2.2=0) (
 none) (
 tif ((wrap .i64 (Int.tdiv (wrap .i64 (i*c.2.1.1)) c.2.1.2.2))=(wrap .i64 (Int.tdiv (wrap .i64 (j*c.2.1.1)) c.2.1.2.2))) (
 some s) (
 a0a (g0q n c s (2:Int) (wrap .i64 (Int.tdiv (wrap .i64 (i*c.2.1.1)) c.2.1.2.2))) fun r8 =>
 tif (r8.2=0) (
 tif ((0:Int)<r8.1.1) (
 a0a (k0h n s.2.2 c.2.1.2.2 (wrap .i64 (Int.tdiv (wrap .i64 (i*c.2.1.1)) c.2.1.2.2)) r8.1) fun r9 =>
 tif (r9.2=0) (
 some (s.1,(s.2.1,r9.1))) (
 some s)) (
 some s)) (
 some s)))))) (
 tif (c.2.1.2.2=0) (
 none) (
 tif (c.2.1.2.2=0) (
 none) (
 tif ((wrap .i64 (Int.tdiv (wrap .i64 (i*c.2.1.1)) c.2.1.2.2))=(wrap .i64 (Int.tdiv (wrap .i64 (j*c.2.1.1)) c.2.1.2.2))) (
 some s) (
 a0a (g0q n c s (2:Int) (wrap .i64 (Int.tdiv (wrap .i64 (i*c.2.1.1)) c.2.1.2.2))) fun r10 =>
 tif (r10.2=0) (
 tif ((0:Int)<r10.1.1) (
 a0a (k0h n s.2.2 c.2.1.2.2 (wrap .i64 (Int.tdiv (wrap .i64 (i*c.2.1.1)) c.2.1.2.2)) r10.1) fun r11 =>
 tif (r11.2=0) (
 some (s.1,(s.2.1,r11.1))) (
 some s)) (
 some s)) (
 some s)))))))):=by kernel_rfl
theorem e2q (n:Nat)(l:(List a0j)):e2r (n+1) l =
 a0a (p0f n a0b (l,((0,((0,(0,(0,false))),((0,(0,(0,false))),((0,0),(0,(0,0)))))),(l,((l.length:Int),(0,())))))) fun r0 =>
 b0u (fun y1 =>
 a0a (i0f n a0b (y1.1,(y1.2.1,((0,((0,(0,(0,false))),((0,(0,(0,false))),((0,0),(0,(0,0)))))),(y1.1,((y1.1.length:Int),(0,()))))))) fun r2 =>
 b0u (fun y3 =>
 some (y3.2.1,0)) (fun z4 =>
 some z4) r2) (fun z5 =>
 some z5) r0:=by kernel_rfl
theorem y0i (n f:Nat)(l:(List a0j))(s2:b0f)(s11:(List a0j))(s12:Int)(s13:Int):p0f n (f+1) (l,s2,s11,s12,s13,()) =
 tif (s13<s12) (
 a0a (at? s11 s13) fun r0 =>
 a0a (e0p n r0) fun r1 =>
 tif (!(r1=0)) (
 some (.inr ((0,((0,(0,(0,false))),((0,(0,(0,false))),((0,0),(0,(0,0)))))),2))) (
 p0f n f (l,(s2,(s11,(s12,((wrap .i64 (s13+1)),()))))))) (
 some (.inl (l,(s2,())))):=by kernel_rfl
theorem y0h (n f:Nat)(l:(List a0j))(s2:b0f)(c:b0f)(s22:(List a0j))(s23:Int)(s24:Int):i0f n (f+1) (l,s2,c,s22,s23,s24,()) =
 tif (s24<s23) (
 a0a (at? s22 s24) fun r0 =>
 tif ((0:Int)<s24) (
 a0a (at? l (wrap .i64 (s24-1))) fun r1 =>
 tif (r0.1<=r1.1) (
 some (.inr ((0,((0,(0,(0,false))),((0,(0,(0,false))),((0,0),(0,(0,0)))))),9))) (
 tif (s24=0) (
 i0f n f (l,(s2,(((wrap .i64 (c.1+1)),(r0,(r0,c.2.2.2))),(s22,(s23,((wrap .i64 (s24+1)),()))))))) (
 a0a (at? l (wrap .i64 (s24-1))) fun r2 =>
 a0a (k0i n r2 r0) fun r3 =>
 a0a (p0j n c.2.2.2.1 r3.1.2.2.2.1) fun r4 =>
 i0f n f (l,(s2,(((wrap .i64 (c.1+1)),(c.2.1,(r0,(r4.1,((wrap .i64 (c.2.2.2.2.1+r3.1.2.2.2.2.1)),((wrap .i64 (c.2.2.2.2.2.1+r3.1.2.2.2.2.2.1)),(wrap .i64 (c.2.2.2.2.2.2+r3.1.2.2.2.2.2.2)))))))),(s22,(s23,((wrap .i64 (s24+1)),()))))))))) (
 tif (s24=0) (
 i0f n f (l,(s2,(((wrap .i64 (c.1+1)),(r0,(r0,c.2.2.2))),(s22,(s23,((wrap .i64 (s24+1)),()))))))) (
 a0a (at? l (wrap .i64 (s24-1))) fun r5 =>
 a0a (k0i n r5 r0) fun r6 =>
 a0a (p0j n c.2.2.2.1 r6.1.2.2.2.1) fun r7 =>
 i0f n f (l,(s2,(((wrap .i64 (c.1+1)),(c.2.1,(r0,(r7.1,((wrap .i64 (c.2.2.2.2.1+r6.1.2.2.2.2.1)),((wrap .i64 (c.2.2.2.2.2.1+r6.1.2.2.2.2.2.1)),(wrap .i64 (c.2.2.2.2.2.2+r6.1.2.2.2.2.2.2)))))))),(s22,(s23,((wrap .i64 (s24+1)),()))))))))) (
 some (.inl (s2,(c,())))):=by kernel_rfl
theorem o1h (n:Nat)(a:b0f)(b:b0f):u0z (n+1) a b =
 a0a (p0g n a) fun r0 =>
 tif (!(r0=0)) (
 some ((0,((0,(0,(0,false))),((0,(0,(0,false))),((0,0),(0,(0,0)))))),2)) (
 a0a (p0g n b) fun r1 =>
 tif (!(r1=0)) (
 some ((0,((0,(0,(0,false))),((0,(0,(0,false))),((0,0),(0,(0,0)))))),2)) (
 tif (a.1=0) (
 some (b,0)) (
 tif (b.1=0) (
 some (a,0)) (
 tif (b.2.1.1<=a.2.2.1.1) (
 some ((0,((0,(0,(0,false))),((0,(0,(0,false))),((0,0),(0,(0,0)))))),9)) (
 a0a (k0i n a.2.2.1 b.2.1) fun r2 =>
 a0a (t1w n (a.2.2.2.1::(r2.1.2.2.2.1::(b.2.2.2.1::[])))) fun r3 =>
 some (((wrap .i64 (a.1+b.1)),(a.2.1,(b.2.2.1,(r3.1,((wrap .i64 ((wrap .i64 (a.2.2.2.2.1+r2.1.2.2.2.2.1))+b.2.2.2.2.1)),((wrap .i64 ((wrap .i64 (a.2.2.2.2.2.1+r2.1.2.2.2.2.2.1))+b.2.2.2.2.2.1)),(wrap .i64 ((wrap .i64 (a.2.2.2.2.2.2+r2.1.2.2.2.2.2.2))+b.2.2.2.2.2.2)))))))),0)))))):=by kernel_rfl
theorem y1h (n:Nat)(t:Int)(now:Int)(w:Int)(n_:Int):a1f (n+1) t now w n_ =
 a0a (y1g n t w) fun r0 =>
 a0a (a1e n now w n_) fun r1 =>
 tif (r0.2=0) (
 tif (r1.2=0) (
 some (decide (r0.1<r1.1))) (
 some false)) (
 some false):=by kernel_rfl
theorem r0n (n:Nat)(s:(List Int))(f_:((Int×Unit)->Option Bool)):l0v (n+1) s f_ =
 a0a (c0p n a0b (s,(f_,((s.length:Int),(0,()))))) fun r0 =>
 b0u (fun y1 =>
 some ((-1):Int)) (fun z2 =>
 some z2) r0:=by kernel_rfl
theorem g0i (n f:Nat)(s:(List Int))(f_:((Int×Unit)->Option Bool))(s7:Int)(s8:Int):c0p n (f+1) (s,f_,s7,s8,()) =
 tif (s8<s7) (
 a0a (at? s s8) fun r0 =>
 a0a (f_ (r0,())) fun r1 =>
 tif (r1) (
 some (.inr s8)) (
 c0p n f (s,(f_,(s7,((wrap .i64 (s8+1)),())))))) (
 some (.inl ())):=by kernel_rfl
theorem r1h (n:Nat)(n_:Int):t0q (n+1) n_ =
 tif (n_<1) (
 some []) (
 tif ((4096:Int)<n_) (
 some []) (
 tif (((0:Int)<=n_)&&((n_<=n_)&&((n_*120)<=140737488355328))) (
 some (List.replicate (Int.toNat n_) (0,(0,((0,(0,(0,false))),((0,(0,(0,false))),((0,0),(0,(0,0))))))))) (
 none))):=by kernel_rfl
theorem p1y (n:Nat)(c:a0z)(s:((List a0c)×((List a0c)×(List a0c)))):v0t (n+1) c s =
 a0a (f0f n c) fun r0 =>
 tif (!(r0=0)) (
 some (none,r0)) (
 tif (!((s.1.length:Int)=c.2.2.1.1)) (
 some (none,2)) (
 a0a (j0l n s.1 c.2.1.1) fun r1 =>
 tif (!(r1=0)) (
 some (none,2)) (
 tif (!((s.2.1.length:Int)=c.2.2.1.2.1)) (
 some (none,2)) (
 a0a (j0l n s.2.1 c.2.1.2.1) fun r2 =>
 tif (!(r2=0)) (
 some (none,2)) (
 tif (!((s.2.2.length:Int)=c.2.2.1.2.2)) (
 some (none,2)) (
 a0a (j0l n s.2.2 c.2.1.2.2) fun r3 =>
 tif (!(r3=0)) (
 some (none,2)) (
 some ((some (c,s)),0)))))))):=by kernel_rfl
theorem i1n (n:Nat)(l:(List a0j)):w0r (n+1) l =
 a0a (f0d n a0b (l,(l,((l.length:Int),(0,()))))) fun r0 =>
 b0u (fun y1 =>
 some true) (fun z2 =>
 some z2) r0:=by kernel_rfl
theorem o0p (n f:Nat)(l:(List a0j))(s5:(List a0j))(s6:Int)(s7:Int):f0d n (f+1) (l,s5,s6,s7,()) =
 tif (s7<s6) (
 a0a (at? s5 s7) fun r0 =>
 a0a (d0q n r0) fun r1 =>
 tif (!(r1=0)) (
 some (.inr false)) (
 tif ((0:Int)<s7) (
 a0a (at? l (wrap .i64 (s7-1))) fun r2 =>
 a0a (i0k n r2 r0) fun r3 =>
 tif (!r3) (
 some (.inr false)) (
 f0d n f (l,(s5,(s6,((wrap .i64 (s7+1)),())))))) (
 f0d n f (l,(s5,(s6,((wrap .i64 (s7+1)),()))))))) (
 some (.inl ())):=by kernel_rfl
theorem i1o (n:Nat)(r:(Int×(Int×(List a0j))))(room:Int):f1i (n+1) r room =
 tif (r.1=0) (
 some (decide (r.2.1=0))) (
 tif ((r.2.2.length:Int)=room) (
 tif ((0:Int)<=r.2.1) (
 a0a (at? r.2.2 (0:Int)) fun r0 =>
 some (decide (r.2.1<r0.1))) (
 some false)) (
 some false)):=by kernel_rfl
theorem y0z (n:Nat)(l:(List a0c))(i:Int):d0h (n+1) l i =
 a0a (f0j n l (fun y0=>k0a n y0.1 i)) fun r1 =>
 some r1:=by kernel_rfl
theorem s1k (n:Nat)(r:(Int×(Int×(List a0j)))):z0k (n+1) r =
 tif ((r.2.2.length:Int)=0) (
 some ((0,(0,(0,false))),3)) (
 a0a (at? r.2.2 (wrap .i64 ((r.2.2.length:Int)-1))) fun r0 =>
 some (r0,0)):=by kernel_rfl
theorem m1i (n:Nat)(c:b0f)(w:Int)(i:Int):j0u (n+1) c w i =
 tif (c.1=0) (
 some false) (
 a0a (m0s n c) fun r0 =>
 tif (!(r0=0)) (
 some false) (
 a0a (e0l n a0b (w,(i,((c.2.1.1,c.2.2.1.1),(0,()))))) fun r1 =>
 b0u (fun y2 =>
 some true) (fun z3 =>
 some z3) r1)):=by kernel_rfl
theorem j0t (n f:Nat)(w:Int)(i:Int)(s25:(Int×Int))(s26:Int):e0l n (f+1) (w,i,s25,s26,()) =
 tif (s26<2) (
 tif (s26=0) (
 a0a (y1g n s25.1 w) fun r0 =>
 tif (!(r0.2=0)) (
 some (.inr false)) (
 tif (!(r0.1=i)) (
 some (.inr false)) (
 e0l n f (w,(i,(s25,((wrap .i64 (s26+1)),()))))))) (
 tif (s26=1) (
 a0a (y1g n s25.2 w) fun r1 =>
 tif (!(r1.2=0)) (
 some (.inr false)) (
 tif (!(r1.1=i)) (
 some (.inr false)) (
 e0l n f (w,(i,(s25,((wrap .i64 (s26+1)),()))))))) (
 none))) (
 some (.inl ())):=by kernel_rfl
theorem z0d (n:Nat)(s:r0r)(i:Int):o0e (n+1) s (0:Int) i =
 tif ((0:Int)<=i) (
 tif (s.1.2.1.1=0) (
 none) (
 some ((decide (i<=(wrap .i64 (Int.tdiv (35184372088831:Int) s.1.2.1.1)))),s))) (
 some (false,s)):=by kernel_rfl
theorem k1o (n:Nat)(s:r0r)(i:Int)(c:b0f):e0j (n+1) s (0:Int) i c =
 a0a (t0p n s.2.1 s.1.2.1.1 i c) fun r0 =>
 tif (r0.2=0) (
 some (r0.2,(s.1,(r0.1,s.2.2)))) (
 some (r0.2,s)):=by kernel_rfl
theorem k1n (n:Nat)(s:r0r)(i:Int)(c:b0f):e0j (n+1) s (1:Int) i c =
 a0a (t0p n s.2.2.1 s.1.2.1.2.1 i c) fun r0 =>
 tif (r0.2=0) (
 some (r0.2,(s.1,(s.2.1,(r0.1,s.2.2.2))))) (
 some (r0.2,s)):=by kernel_rfl
theorem k1m (n:Nat)(s:r0r)(i:Int)(c:b0f):e0j (n+1) s (2:Int) i c =
 a0a (t0p n s.2.2.2 s.1.2.1.2.2 i c) fun r0 =>
 tif (r0.2=0) (
 some (r0.2,(s.1,(s.2.1,(s.2.2.1,r0.1))))) (
 some (r0.2,s)):=by kernel_rfl
theorem b2n (n:Nat)(s:r0r)(i:Int)(j:Int):k1l (n+1) s i j =
 tif (s.1.2.1.2.1=0) (
 none) (
 tif (s.1.2.1.2.1=0) (
 none) (
 tif ((wrap .i64 (Int.tdiv (wrap .i64 (i*s.1.2.1.1)) s.1.2.1.2.1))=(wrap .i64 (Int.tdiv (wrap .i64 (j*s.1.2.1.1)) s.1.2.1.2.1))) (
 tif (s.1.2.1.2.2=0) (
 none) (
 tif (s.1.2.1.2.2=0) (
 none) (
 tif ((wrap .i64 (Int.tdiv (wrap .i64 (i*s.1.2.1.1)) s.1.2.1.2.2))=(wrap .i64 (Int.tdiv (wrap .i64 (j*s.1.2.1.1)) s.1.2.1.2.2))) (
 some s) (
 a0a (f0m n s (2:Int) (wrap .i64 (Int.tdiv (wrap .i64 (i*s.1.2.1.1)) s.1.2.1.2.2))) fun r0 =>
 tif (r0.2.1=0) (
 tif ((0:Int)<r0.1.1) (
 a0a (e0j n r0.2.2 (2:Int) (wrap .i64 (Int.tdiv (wrap .i64 (i*s.1.2.1.1)) s.1.2.1.2.2)) r0.1) fun r1 =>
 some r1.2) (
 some r0.2.2)) (
 some r0.2.2))))) (
 a0a (f0m n s (1:Int) (wrap .i64 (Int.tdiv (wrap .i64 (i*s.1.2.1.1)) s.1.2.1.2.1))) fun r2 =>
 tif (r2.2.1=0) (
 tif ((0:Int)<r2.1.1) (
 a0a (e0j n r2.2.2 (1:Int) (wrap .i64 (Int.tdiv (wrap .i64 (i*s.1.2.1.1)) s.1.2.1.2.1)) r2.1) fun r3 =>
 tif (r3.2.1.2.1.2.2=0) (
 none) (
 tif (r3.2.1.2.1.2.2=0) (
 none) (
 tif ((wrap .i64 (Int.tdiv (wrap .i64 (i*r3.2.1.2.1.1)) r3.2.1.2.1.2.2))=(wrap .i64 (Int.tdiv (wrap .i64 (j*r3.2.1.2.1.1)) r3.2.1.2.1.2.2))) (
 some r3.2) (
 a0a (f0m n r3.2 (2:Int) (wrap .i64 (Int.tdiv (wrap .i64 (i*r3.2.1.2.1.1)) r3.2.1.2.1.2.2))) fun r4 =>
 tif (r4.2.1=0) (
 tif ((0:Int)<r4.1.1) (
 a0a (e0j n r4.2.2 (2:Int) (wrap .i64 (Int.tdiv (wrap .i64 (i*r3.2.1.2.1.1)) r3.2.1.2.1.2.2)) r4.1) fun r5 =>
 some r5.2) (
 some r4.2.2)) (
 some r4.2.2))))) (
 tif (r2.2.2.1.2.1.2.2=0) (
 none) (
 tif (r2.2.2.1.2.1.2.2=0) (
 none) (
 tif ((wrap .i64 (Int.tdiv (wrap .i64 (i*r2.2.2.1.2.1.1)) r2.2.2.1.2.1.2.2))=(wrap .i64 (Int.tdiv (wrap .i64 (j*r2.2.2.1.2.1.1)) r2.2.2.1.2.1.2.2))) (
 some r2.2.2) (
 a0a (f0m n r2.2.2 (2:Int) (wrap .i64 (Int.tdiv (wrap .i64 (i*r2.2.2.1.2.1.1)) r2.2.2.1.2.1.2.2))) fun r6 =>
 tif (r6.2.1=0) (
 tif ((0:Int)<r6.1.1) (
 a0a (e0j n r6.2.2 (2:Int) (wrap .i64 (Int.tdiv (wrap .i64 (i*r2.2.2.1.2.1.1)) r2.2.2.1.2.1.2.2)) r6.1) fun r7 =>
 some r7.2) (
 some r6.2.2)) (
 some r6.2.2)))))) (
 tif (r2.2.2.1.2.1.2.2=0) (
 none) (
 tif (r2.2.2.1.2.1.2.2=0) (
 none) (
 tif ((wrap .i64 (Int.tdiv (wrap .i64 (i*r2.2.2.1.2.1.1)) r2.2.2.1.2.1.2.2))=(wrap .i64 (Int.tdiv (wrap .i64 (j*r2.2.2.1.2.1.1)) r2.2.2.1.2.1.2.2))) (
 some r2.2.2) (
 a0a (f0m n r2.2.2 (2:Int) (wrap .i64 (Int.tdiv (wrap .i64 (i*r2.2.2.1.2.1.1)) r2.2.2.1.2.1.2.2))) fun r8 =>
 tif (r8.2.1=0) (
 tif ((0:Int)<r8.1.1) (
 a0a (e0j n r8.2.2 (2:Int) (wrap .i64 (Int.tdiv (wrap .i64 (i*r2.2.2.1.2.1.1)) r2.2.2.1.2.1.2.2)) r8.1) fun r9 =>
 some r9.2) (
 some r8.2.2)) (
 some r8.2.2)))))))):=by kernel_rfl
theorem b1w (n:Nat)(p:a0j)(c:a0j):i0k (n+1) p c =
 a0a (k0n n (p::(c::[]))) fun r0 =>
 tif (r0) (
 some (decide (p.1<c.1))) (
 some false):=by kernel_rfl
theorem s1h (n:Nat)(l:(List a0j))(room:Int):n0u (n+1) l room =
 a0a (r0z n room) fun r0 =>
 b1n (r0.1) (
 tif (!(r0.2=0)) (
 some (none,r0.2)) (
 none)) fun r1 =>
 tif (!(r0.2=0)) (
 some (none,r0.2)) (
 a0a (n0t n a0b (r1,(l,((l.length:Int),(0,()))))) fun r2 =>
 b0u (fun y3 =>
 some ((some y3.1),0)) (fun z4 =>
 some z4) r2):=by kernel_rfl
theorem s0b (n f:Nat)(q:f0w)(s18:(List a0j))(s19:Int)(s20:Int):n0t n (f+1) (q,s18,s19,s20,()) =
 tif (s20<s19) (
 a0a (at? s18 s20) fun r0 =>
 a0a (y0a n q r0) fun r1 =>
 n0t n f (r1.2.2,(s18,(s19,((wrap .i64 (s20+1)),()))))) (
 some (.inl (q,()))):=by kernel_rfl
theorem m1z (n:Nat)(r:f0w)(x:a0j):y0a (n+1) r x =
 tif ((r.2.1.length:Int)<r.1) (
 tif ((((List.length r.2.1)+1)*32)<=140737488355328) (
 some ((0,(0,(0,false))),(false,(r.1,((r.2.1++(x::[])),r.2.2))))) (
 none)) (
 a0a (at? r.2.1 r.2.2.1) fun r0 =>
 a0a ((r.2.1)[(Int.toNat r.2.2.1)]?) fun r1 =>
 a0a (at? r.2.1 r.2.2.1) fun r2 =>
 a0a ((r.2.1)[(Int.toNat r.2.2.1)]?) fun r3 =>
 a0a (w1a n (r.1,((List.set r.2.1 (Int.toNat r.2.2.1) x),r.2.2)) (1:Int)) fun r4 =>
 some (r1,(true,(r4.2.1,(r4.2.2.1,(r4.1,(wrap .u64 (r4.2.2.2.2+1)))))))):=by kernel_rfl
theorem d2y (n:Nat)(r:f0w):k0s (n+1) r =
 tif (true&&(((0:Int)<=(r.2.1.length:Int))&&(((r.2.1.length:Int)*32)<=140737488355328))) (
 tif ((0:Int)<=r.2.2.1) (
 tif ((Int.toNat r.2.2.1)<=(List.length r.2.1)) (
 tif (((0+(List.length (List.take ((List.length r.2.1)-(Int.toNat r.2.2.1)) (List.drop (Int.toNat r.2.2.1) r.2.1))))*32)<=140737488355328) (
 tif (((0:Int)<=r.2.2.1)&&(r.2.2.1<=(r.2.1.length:Int))) (
 tif ((((List.length ((List.replicate 0 ((0:Int),((0:Int),((0:Int),false))))++(List.take ((List.length r.2.1)-(Int.toNat r.2.2.1)) (List.drop (Int.toNat r.2.2.1) r.2.1))))+(List.length (List.take ((Int.toNat r.2.2.1)-0) (List.drop 0 r.2.1))))*32)<=140737488355328) (
 some ((((List.replicate 0 ((0:Int),((0:Int),((0:Int),false))))++(List.take ((List.length r.2.1)-(Int.toNat r.2.2.1)) (List.drop (Int.toNat r.2.2.1) r.2.1)))++(List.take ((Int.toNat r.2.2.1)-0) (List.drop 0 r.2.1))),r)) (
 none)) (
 none)) (
 none)) (
 none)) (
 none)) (
 none):=by kernel_rfl
theorem l1k (n:Nat)(a:b0f)(b:b0f):r0j (n+1) a b =
 a0a (m0s n a) fun r0 =>
 tif (!(r0=0)) (
 some ((0,((0,(0,(0,false))),((0,(0,(0,false))),((0,0),(0,(0,0)))))),2)) (
 a0a (m0s n b) fun r1 =>
 tif (!(r1=0)) (
 some ((0,((0,(0,(0,false))),((0,(0,(0,false))),((0,0),(0,(0,0)))))),2)) (
 a0a (q0b n a) fun r2 =>
 tif (r2) (
 some (b,0)) (
 a0a (q0b n b) fun r3 =>
 tif (r3) (
 some (a,0)) (
 a0a (q1o n a b) fun r4 =>
 some r4)))):=by kernel_rfl
theorem v1h (n:Nat)(e:a0j):l1j (n+1) e =
 some (1,(e,(e,((0,0),(0,(0,0)))))):=by kernel_rfl
theorem s1r (n:Nat)(t:Int):u0l (n+1) t =
 tif ((0:Int)<=t) (
 some (decide (t<35184372088832))) (
 some false):=by kernel_rfl
theorem a1w (n:Nat)(s:a0l):n0v (n+1) s =
 a0a (l0w n s) fun r0 =>
 tif (!r0) (
 some (0:Int)) (
 a0a (u0l n s.2.1) fun r1 =>
 tif (!r1) (
 some (0:Int)) (
 tif (s.1.2.1.1=0) (
 none) (
 some (wrap .i64 ((wrap .i64 (Int.tdiv s.2.1 s.1.2.1.1))*s.1.2.1.1))))):=by kernel_rfl
theorem n1p (n:Nat)(s:b0c):u0m (n+1) s =
 a0a (q0r n s ([],(0,((0,(0,[])),(([],([],[])),(0,(0,((0,(0,(0,false))),((0,(0,(0,false))),((0,0),(0,(0,0)))))))))))) fun r0 =>
 some r0:=by kernel_rfl
theorem s1z (n:Nat)(c:a0z)(last:Int)(now:Int):i1v (n+1) c last now =
 a0a (e0o n c) fun r0 =>
 tif (!(r0=0)) (
 some false) (
 a0a (u0y n last now c.2.1.1 c.2.2.1.1) fun r1 =>
 tif (!r1) (
 some false) (
 a0a (u0y n last now c.2.1.2.1 c.2.2.1.2.1) fun r2 =>
 tif (!r2) (
 some false) (
 a0a (u0y n last now c.2.1.2.2 c.2.2.1.2.2) fun r3 =>
 tif (!r3) (
 some false) (
 some true)))):=by kernel_rfl
theorem n1x (n:Nat)(l:(List a0c))(w:Int):l0y (n+1) l w =
 tif ((l.length:Int)<1) (
 some (2:Int)) (
 tif ((4096:Int)<(l.length:Int)) (
 some (2:Int)) (
 tif (w<1) (
 some (2:Int)) (
 tif ((1099511627776:Int)<w) (
 some (2:Int)) (
 a0a (g0c n a0b (l,(w,(l,((l.length:Int),(0,())))))) fun r0 =>
 b0u (fun y1 =>
 some (0:Int)) (fun z2 =>
 some z2) r0)))):=by kernel_rfl
theorem p0b (n f:Nat)(l:(List a0c))(w:Int)(s23:(List a0c))(s24:Int)(s25:Int):g0c n (f+1) (l,w,s23,s24,s25,()) =
 tif (s25<s24) (
 a0a (at? s23 s25) fun r0 =>
 tif ((decide (r0.1=0))&&((decide (r0.2.1=0))&&((decide (r0.2.2.1.1=0))&&((decide (r0.2.2.1.2.1=0))&&((decide (r0.2.2.1.2.2.1=0))&&((r0.2.2.1.2.2.2==false)&&((decide (r0.2.2.2.1.1=0))&&((decide (r0.2.2.2.1.2.1=0))&&((decide (r0.2.2.2.1.2.2.1=0))&&((r0.2.2.2.1.2.2.2==false)&&((decide (r0.2.2.2.2.1.1=0))&&((decide (r0.2.2.2.2.1.2=0))&&((decide (r0.2.2.2.2.2.1=0))&&((decide (r0.2.2.2.2.2.2.1=0))&&(decide (r0.2.2.2.2.2.2.2=0)))))))))))))))) (
 g0c n f (l,(w,(s23,(s24,((wrap .i64 (s25+1)),())))))) (
 a0a (q0t n r0.2 w r0.1) fun r1 =>
 tif (!r1) (
 some (.inr (2:Int))) (
 a0a (u0x n r0.1 (l.length:Int)) fun r2 =>
 tif (!(r2=s25)) (
 some (.inr (2:Int))) (
 g0c n f (l,(w,(s23,(s24,((wrap .i64 (s25+1)),()))))))))) (
 some (.inl ())):=by kernel_rfl
theorem o1i (n:Nat)(c:b0f):p0g (n+1) c =
 tif ((decide (c.1=0))&&((decide (c.2.1.1=0))&&((decide (c.2.1.2.1=0))&&((decide (c.2.1.2.2.1=0))&&((c.2.1.2.2.2==false)&&((decide (c.2.2.1.1=0))&&((decide (c.2.2.1.2.1=0))&&((decide (c.2.2.1.2.2.1=0))&&((c.2.2.1.2.2.2==false)&&((decide (c.2.2.2.1.1=0))&&((decide (c.2.2.2.1.2=0))&&((decide (c.2.2.2.2.1=0))&&((decide (c.2.2.2.2.2.1=0))&&(decide (c.2.2.2.2.2.2=0))))))))))))))) (
 some (0:Int)) (
 tif (c.1<1) (
 some (2:Int)) (
 a0a (e0p n c.2.1) fun r0 =>
 tif (!(r0=0)) (
 some (2:Int)) (
 a0a (e0p n c.2.2.1) fun r1 =>
 tif (!(r1=0)) (
 some (2:Int)) (
 tif (c.2.2.1.1<c.2.1.1) (
 some (2:Int)) (
 tif ((wrap .i64 ((wrap .i64 (c.2.2.1.1-c.2.1.1))+1))<c.1) (
 some (2:Int)) (
 tif (c.1=1) (
 tif (!((decide (c.2.1.1=c.2.2.1.1))&&((decide (c.2.1.2.1=c.2.2.1.2.1))&&((decide (c.2.1.2.2.1=c.2.2.1.2.2.1))&&(c.2.1.2.2.2==c.2.2.1.2.2.2))))) (
 some (2:Int)) (
 tif ((1:Int)<c.1) (
 tif (c.2.1.1=c.2.2.1.1) (
 some (2:Int)) (
 tif (c.2.2.2.2.1<0) (
 some (2:Int)) (
 tif (c.2.2.2.2.2.1<0) (
 some (2:Int)) (
 tif (c.2.2.2.2.2.2<0) (
 some (2:Int)) (
 tif (c.1<=c.2.2.2.2.1) (
 some (2:Int)) (
 tif (c.1<=c.2.2.2.2.2.1) (
 some (2:Int)) (
 tif (c.1<=(wrap .i64 (c.2.2.2.2.1+c.2.2.2.2.2.1))) (
 some (2:Int)) (
 tif ((wrap .i64 (c.2.2.1.1-c.2.1.1))<c.2.2.2.2.2.2) (
 some (2:Int)) (
 a0a (m0d n (0,18446744073709551615) (wrap .u64 (wrap .i64 (c.1-1)))) fun r2 =>
 a0a (q0x n r2.1 c.2.2.2.1) fun r3 =>
 tif (r3) (
 some (2:Int)) (
 some (0:Int))))))))))) (
 tif (c.2.2.2.2.1<0) (
 some (2:Int)) (
 tif (c.2.2.2.2.2.1<0) (
 some (2:Int)) (
 tif (c.2.2.2.2.2.2<0) (
 some (2:Int)) (
 tif (c.1<=c.2.2.2.2.1) (
 some (2:Int)) (
 tif (c.1<=c.2.2.2.2.2.1) (
 some (2:Int)) (
 tif (c.1<=(wrap .i64 (c.2.2.2.2.1+c.2.2.2.2.2.1))) (
 some (2:Int)) (
 tif ((wrap .i64 (c.2.2.1.1-c.2.1.1))<c.2.2.2.2.2.2) (
 some (2:Int)) (
 a0a (m0d n (0,18446744073709551615) (wrap .u64 (wrap .i64 (c.1-1)))) fun r4 =>
 a0a (q0x n r4.1 c.2.2.2.1) fun r5 =>
 tif (r5) (
 some (2:Int)) (
 some (0:Int)))))))))))) (
 tif ((1:Int)<c.1) (
 tif (c.2.1.1=c.2.2.1.1) (
 some (2:Int)) (
 tif (c.2.2.2.2.1<0) (
 some (2:Int)) (
 tif (c.2.2.2.2.2.1<0) (
 some (2:Int)) (
 tif (c.2.2.2.2.2.2<0) (
 some (2:Int)) (
 tif (c.1<=c.2.2.2.2.1) (
 some (2:Int)) (
 tif (c.1<=c.2.2.2.2.2.1) (
 some (2:Int)) (
 tif (c.1<=(wrap .i64 (c.2.2.2.2.1+c.2.2.2.2.2.1))) (
 some (2:Int)) (
 tif ((wrap .i64 (c.2.2.1.1-c.2.1.1))<c.2.2.2.2.2.2) (
 some (2:Int)) (
 a0a (m0d n (0,18446744073709551615) (wrap .u64 (wrap .i64 (c.1-1)))) fun r6 =>
 a0a (q0x n r6.1 c.2.2.2.1) fun r7 =>
 tif (r7) (
 some (2:Int)) (
 some (0:Int))))))))))) (
 tif (c.2.2.2.2.1<0) (
 some (2:Int)) (
 tif (c.2.2.2.2.2.1<0) (
 some (2:Int)) (
 tif (c.2.2.2.2.2.2<0) (
 some (2:Int)) (
 tif (c.1<=c.2.2.2.2.1) (
 some (2:Int)) (
 tif (c.1<=c.2.2.2.2.2.1) (
 some (2:Int)) (
 tif (c.1<=(wrap .i64 (c.2.2.2.2.1+c.2.2.2.2.2.1))) (
 some (2:Int)) (
 tif ((wrap .i64 (c.2.2.1.1-c.2.1.1))<c.2.2.2.2.2.2) (
 some (2:Int)) (
 a0a (m0d n (0,18446744073709551615) (wrap .u64 (wrap .i64 (c.1-1)))) fun r8 =>
 a0a (q0x n r8.1 c.2.2.2.1) fun r9 =>
 tif (r9) (
 some (2:Int)) (
 some (0:Int))))))))))))))))):=by kernel_rfl
theorem e2n (n:Nat)(t:Int)(w:Int):f1k (n+1) t w =
 tif (t<0) (
 some (0,1)) (
 tif ((35184372088832:Int)<=t) (
 some (0,1)) (
 a0a (o1f n w) fun r0 =>
 tif (!r0) (
 some (0,1)) (
 tif (w=0) (
 none) (
 tif (w=0) (
 none) (
 some ((wrap .i64 (Int.tdiv (wrap .i64 (t-(Int.tmod t w))) w)),0)))))):=by kernel_rfl
theorem t1n (n:Nat)(i:Int)(n_:Int):u0x (n+1) i n_ =
 tif (i<0) (
 some (0:Int)) (
 tif (n_<1) (
 some (0:Int)) (
 tif (n_=0) (
 none) (
 some (Int.tmod i n_)))):=by kernel_rfl
theorem i1x (n:Nat)(c:a0z)(s:((List a0c)×((List a0c)×(List a0c))))(i:Int):g0q (n+1) c s (1:Int) i =
 a0a (m0b n c (1:Int)) fun r0 =>
 a0a (z0o n s.1 (wrap .i64 (i*r0)) (wrap .i64 ((wrap .i64 (i+1))*r0))) fun r1 =>
 some r1:=by kernel_rfl
theorem i1w (n:Nat)(c:a0z)(s:((List a0c)×((List a0c)×(List a0c))))(i:Int):g0q (n+1) c s (2:Int) i =
 a0a (m0b n c (2:Int)) fun r0 =>
 a0a (z0o n s.2.1 (wrap .i64 (i*r0)) (wrap .i64 ((wrap .i64 (i+1))*r0))) fun r1 =>
 some r1:=by kernel_rfl
theorem d1a (n:Nat)(p:a0j)(c:a0j):k0i (n+1) p c =
 a0a (e0p n p) fun r0 =>
 tif (!(r0=0)) (
 some ((0,((0,(0,(0,false))),((0,(0,(0,false))),((0,0),(0,(0,0)))))),2)) (
 a0a (e0p n c) fun r1 =>
 tif (!(r1=0)) (
 some ((0,((0,(0,(0,false))),((0,(0,(0,false))),((0,0),(0,(0,0)))))),2)) (
 tif (c.1<=p.1) (
 some ((0,((0,(0,(0,false))),((0,(0,(0,false))),((0,0),(0,(0,0)))))),9)) (
 tif (c.2.2.2) (
 some ((0,((0,(0,(0,false))),((0,(0,(0,false))),((0,0),(0,(0,0)))))),0)) (
 tif (p.1<c.2.2.1) (
 some ((0,((0,(0,(0,false))),((0,(0,(0,false))),((0,c.2.1),(1,(0,(wrap .i64 (c.1-c.2.2.1)))))))),0)) (
 tif (p.2.2.2) (
 some ((0,((0,(0,(0,false))),((0,(0,(0,false))),((0,0),(0,(1,0)))))),0)) (
 tif (c.2.1<p.2.1) (
 some ((0,((0,(0,(0,false))),((0,(0,(0,false))),((0,c.2.1),(1,(0,(wrap .i64 (c.1-p.1)))))))),0)) (
 some ((0,((0,(0,(0,false))),((0,(0,(0,false))),((0,(wrap .u64 (c.2.1-p.2.1))),(0,(0,(wrap .i64 (c.1-p.1)))))))),0)))))))):=by kernel_rfl
theorem a2e (n:Nat)(a:(Int×Int))(b:(Int×Int)):p0j (n+1) a b =
 a0a (m0e n a) fun r0 =>
 a0a (m0e n b) fun r1 =>
 tif ((0:Int)<(wrap .i64 (Int.tdiv (wrap .i64 ((wrap .i64 (r0.2.2.2.2.2.2.2.2.2.2.2.2.2.2.2+r1.2.2.2.2.2.2.2.2.2.2.2.2.2.2.2))+(wrap .i64 (Int.tdiv (wrap .i64 ((wrap .i64 (r0.2.2.2.2.2.2.2.2.2.2.2.2.2.2.1+r1.2.2.2.2.2.2.2.2.2.2.2.2.2.2.1))+(wrap .i64 (Int.tdiv (wrap .i64 ((wrap .i64 (r0.2.2.2.2.2.2.2.2.2.2.2.2.2.1+r1.2.2.2.2.2.2.2.2.2.2.2.2.2.1))+(wrap .i64 (Int.tdiv (wrap .i64 ((wrap .i64 (r0.2.2.2.2.2.2.2.2.2.2.2.2.1+r1.2.2.2.2.2.2.2.2.2.2.2.2.1))+(wrap .i64 (Int.tdiv (wrap .i64 ((wrap .i64 (r0.2.2.2.2.2.2.2.2.2.2.2.1+r1.2.2.2.2.2.2.2.2.2.2.2.1))+(wrap .i64 (Int.tdiv (wrap .i64 ((wrap .i64 (r0.2.2.2.2.2.2.2.2.2.2.1+r1.2.2.2.2.2.2.2.2.2.2.1))+(wrap .i64 (Int.tdiv (wrap .i64 ((wrap .i64 (r0.2.2.2.2.2.2.2.2.2.1+r1.2.2.2.2.2.2.2.2.2.1))+(wrap .i64 (Int.tdiv (wrap .i64 ((wrap .i64 (r0.2.2.2.2.2.2.2.2.1+r1.2.2.2.2.2.2.2.2.1))+(wrap .i64 (Int.tdiv (wrap .i64 ((wrap .i64 (r0.2.2.2.2.2.2.2.1+r1.2.2.2.2.2.2.2.1))+(wrap .i64 (Int.tdiv (wrap .i64 ((wrap .i64 (r0.2.2.2.2.2.2.1+r1.2.2.2.2.2.2.1))+(wrap .i64 (Int.tdiv (wrap .i64 ((wrap .i64 (r0.2.2.2.2.2.1+r1.2.2.2.2.2.1))+(wrap .i64 (Int.tdiv (wrap .i64 ((wrap .i64 (r0.2.2.2.2.1+r1.2.2.2.2.1))+(wrap .i64 (Int.tdiv (wrap .i64 ((wrap .i64 (r0.2.2.2.1+r1.2.2.2.1))+(wrap .i64 (Int.tdiv (wrap .i64 ((wrap .i64 (r0.2.2.1+r1.2.2.1))+(wrap .i64 (Int.tdiv (wrap .i64 ((wrap .i64 (r0.2.1+r1.2.1))+(wrap .i64 (Int.tdiv (wrap .i64 ((wrap .i64 (r0.1+r1.1))+0)) (256:Int))))) (256:Int))))) (256:Int))))) (256:Int))))) (256:Int))))) (256:Int))))) (256:Int))))) (256:Int))))) (256:Int))))) (256:Int))))) (256:Int))))) (256:Int))))) (256:Int))))) (256:Int))))) (256:Int))))) (256:Int)))) (
 some ((0,0),1)) (
 a0a (w1m n ((Int.tmod (wrap .i64 ((wrap .i64 (r0.1+r1.1))+0)) (256:Int)),((Int.tmod (wrap .i64 ((wrap .i64 (r0.2.1+r1.2.1))+(wrap .i64 (Int.tdiv (wrap .i64 ((wrap .i64 (r0.1+r1.1))+0)) (256:Int))))) (256:Int)),((Int.tmod (wrap .i64 ((wrap .i64 (r0.2.2.1+r1.2.2.1))+(wrap .i64 (Int.tdiv (wrap .i64 ((wrap .i64 (r0.2.1+r1.2.1))+(wrap .i64 (Int.tdiv (wrap .i64 ((wrap .i64 (r0.1+r1.1))+0)) (256:Int))))) (256:Int))))) (256:Int)),((Int.tmod (wrap .i64 ((wrap .i64 (r0.2.2.2.1+r1.2.2.2.1))+(wrap .i64 (Int.tdiv (wrap .i64 ((wrap .i64 (r0.2.2.1+r1.2.2.1))+(wrap .i64 (Int.tdiv (wrap .i64 ((wrap .i64 (r0.2.1+r1.2.1))+(wrap .i64 (Int.tdiv (wrap .i64 ((wrap .i64 (r0.1+r1.1))+0)) (256:Int))))) (256:Int))))) (256:Int))))) (256:Int)),((Int.tmod (wrap .i64 ((wrap .i64 (r0.2.2.2.2.1+r1.2.2.2.2.1))+(wrap .i64 (Int.tdiv (wrap .i64 ((wrap .i64 (r0.2.2.2.1+r1.2.2.2.1))+(wrap .i64 (Int.tdiv (wrap .i64 ((wrap .i64 (r0.2.2.1+r1.2.2.1))+(wrap .i64 (Int.tdiv (wrap .i64 ((wrap .i64 (r0.2.1+r1.2.1))+(wrap .i64 (Int.tdiv (wrap .i64 ((wrap .i64 (r0.1+r1.1))+0)) (256:Int))))) (256:Int))))) (256:Int))))) (256:Int))))) (256:Int)),((Int.tmod (wrap .i64 ((wrap .i64 (r0.2.2.2.2.2.1+r1.2.2.2.2.2.1))+(wrap .i64 (Int.tdiv (wrap .i64 ((wrap .i64 (r0.2.2.2.2.1+r1.2.2.2.2.1))+(wrap .i64 (Int.tdiv (wrap .i64 ((wrap .i64 (r0.2.2.2.1+r1.2.2.2.1))+(wrap .i64 (Int.tdiv (wrap .i64 ((wrap .i64 (r0.2.2.1+r1.2.2.1))+(wrap .i64 (Int.tdiv (wrap .i64 ((wrap .i64 (r0.2.1+r1.2.1))+(wrap .i64 (Int.tdiv (wrap .i64 ((wrap .i64 (r0.1+r1.1))+0)) (256:Int))))) (256:Int))))) (256:Int))))) (256:Int))))) (256:Int))))) (256:Int)),((Int.tmod (wrap .i64 ((wrap .i64 (r0.2.2.2.2.2.2.1+r1.2.2.2.2.2.2.1))+(wrap .i64 (Int.tdiv (wrap .i64 ((wrap .i64 (r0.2.2.2.2.2.1+r1.2.2.2.2.2.1))+(wrap .i64 (Int.tdiv (wrap .i64 ((wrap .i64 (r0.2.2.2.2.1+r1.2.2.2.2.1))+(wrap .i64 (Int.tdiv (wrap .i64 ((wrap .i64 (r0.2.2.2.1+r1.2.2.2.1))+(wrap .i64 (Int.tdiv (wrap .i64 ((wrap .i64 (r0.2.2.1+r1.2.2.1))+(wrap .i64 (Int.tdiv (wrap .i64 ((wrap .i64 (r0.2.1+r1.2.1))+(wrap .i64 (Int.tdiv (wrap .i64 ((wrap .i64 (r0.1+r1.1))+0)) (256:Int))))) (256:Int))))) (256:Int))))) (256:Int))))) (256:Int))))) (256:Int))))) (256:Int)),((Int.tmod (wrap .i64 ((wrap .i64 (r0.2.2.2.2.2.2.2.1+r1.2.2.2.2.2.2.2.1))+(wrap .i64 (Int.tdiv (wrap .i64 ((wrap .i64 (r0.2.2.2.2.2.2.1+r1.2.2.2.2.2.2.1))+(wrap .i64 (Int.tdiv (wrap .i64 ((wrap .i64 (r0.2.2.2.2.2.1+r1.2.2.2.2.2.1))+(wrap .i64 (Int.tdiv (wrap .i64 ((wrap .i64 (r0.2.2.2.2.1+r1.2.2.2.2.1))+(wrap .i64 (Int.tdiv (wrap .i64 ((wrap .i64 (r0.2.2.2.1+r1.2.2.2.1))+(wrap .i64 (Int.tdiv (wrap .i64 ((wrap .i64 (r0.2.2.1+r1.2.2.1))+(wrap .i64 (Int.tdiv (wrap .i64 ((wrap .i64 (r0.2.1+r1.2.1))+(wrap .i64 (Int.tdiv (wrap .i64 ((wrap .i64 (r0.1+r1.1))+0)) (256:Int))))) (256:Int))))) (256:Int))))) (256:Int))))) (256:Int))))) (256:Int))))) (256:Int))))) (256:Int)),((Int.tmod (wrap .i64 ((wrap .i64 (r0.2.2.2.2.2.2.2.2.1+r1.2.2.2.2.2.2.2.2.1))+(wrap .i64 (Int.tdiv (wrap .i64 ((wrap .i64 (r0.2.2.2.2.2.2.2.1+r1.2.2.2.2.2.2.2.1))+(wrap .i64 (Int.tdiv (wrap .i64 ((wrap .i64 (r0.2.2.2.2.2.2.1+r1.2.2.2.2.2.2.1))+(wrap .i64 (Int.tdiv (wrap .i64 ((wrap .i64 (r0.2.2.2.2.2.1+r1.2.2.2.2.2.1))+(wrap .i64 (Int.tdiv (wrap .i64 ((wrap .i64 (r0.2.2.2.2.1+r1.2.2.2.2.1))+(wrap .i64 (Int.tdiv (wrap .i64 ((wrap .i64 (r0.2.2.2.1+r1.2.2.2.1))+(wrap .i64 (Int.tdiv (wrap .i64 ((wrap .i64 (r0.2.2.1+r1.2.2.1))+(wrap .i64 (Int.tdiv (wrap .i64 ((wrap .i64 (r0.2.1+r1.2.1))+(wrap .i64 (Int.tdiv (wrap .i64 ((wrap .i64 (r0.1+r1.1))+0)) (256:Int))))) (256:Int))))) (256:Int))))) (256:Int))))) (256:Int))))) (256:Int))))) (256:Int))))) (256:Int))))) (256:Int)),((Int.tmod (wrap .i64 ((wrap .i64 (r0.2.2.2.2.2.2.2.2.2.1+r1.2.2.2.2.2.2.2.2.2.1))+(wrap .i64 (Int.tdiv (wrap .i64 ((wrap .i64 (r0.2.2.2.2.2.2.2.2.1+r1.2.2.2.2.2.2.2.2.1))+(wrap .i64 (Int.tdiv (wrap .i64 ((wrap .i64 (r0.2.2.2.2.2.2.2.1+r1.2.2.2.2.2.2.2.1))+(wrap .i64 (Int.tdiv (wrap .i64 ((wrap .i64 (r0.2.2.2.2.2.2.1+r1.2.2.2.2.2.2.1))+(wrap .i64 (Int.tdiv (wrap .i64 ((wrap .i64 (r0.2.2.2.2.2.1+r1.2.2.2.2.2.1))+(wrap .i64 (Int.tdiv (wrap .i64 ((wrap .i64 (r0.2.2.2.2.1+r1.2.2.2.2.1))+(wrap .i64 (Int.tdiv (wrap .i64 ((wrap .i64 (r0.2.2.2.1+r1.2.2.2.1))+(wrap .i64 (Int.tdiv (wrap .i64 ((wrap .i64 (r0.2.2.1+r1.2.2.1))+(wrap .i64 (Int.tdiv (wrap .i64 ((wrap .i64 (r0.2.1+r1.2.1))+(wrap .i64 (Int.tdiv (wrap .i64 ((wrap .i64 (r0.1+r1.1))+0)) (256:Int))))) (256:Int))))) (256:Int))))) (256:Int))))) (256:Int))))) (256:Int))))) (256:Int))))) (256:Int))))) (256:Int))))) (256:Int)),((Int.tmod (wrap .i64 ((wrap .i64 (r0.2.2.2.2.2.2.2.2.2.2.1+r1.2.2.2.2.2.2.2.2.2.2.1))+(wrap .i64 (Int.tdiv (wrap .i64 ((wrap .i64 (r0.2.2.2.2.2.2.2.2.2.1+r1.2.2.2.2.2.2.2.2.2.1))+(wrap .i64 (Int.tdiv (wrap .i64 ((wrap .i64 (r0.2.2.2.2.2.2.2.2.1+r1.2.2.2.2.2.2.2.2.1))+(wrap .i64 (Int.tdiv (wrap .i64 ((wrap .i64 (r0.2.2.2.2.2.2.2.1+r1.2.2.2.2.2.2.2.1))+(wrap .i64 (Int.tdiv (wrap .i64 ((wrap .i64 (r0.2.2.2.2.2.2.1+r1.2.2.2.2.2.2.1))+(wrap .i64 (Int.tdiv (wrap .i64 ((wrap .i64 (r0.2.2.2.2.2.1+r1.2.2.2.2.2.1))+(wrap .i64 (Int.tdiv (wrap .i64 ((wrap .i64 (r0.2.2.2.2.1+r1.2.2.2.2.1))+(wrap .i64 (Int.tdiv (wrap .i64 ((wrap .i64 (r0.2.2.2.1+r1.2.2.2.1))+(wrap .i64 (Int.tdiv (wrap .i64 ((wrap .i64 (r0.2.2.1+r1.2.2.1))+(wrap .i64 (Int.tdiv (wrap .i64 ((wrap .i64 (r0.2.1+r1.2.1))+(wrap .i64 (Int.tdiv (wrap .i64 ((wrap .i64 (r0.1+r1.1))+0)) (256:Int))))) (256:Int))))) (256:Int))))) (256:Int))))) (256:Int))))) (256:Int))))) (256:Int))))) (256:Int))))) (256:Int))))) (256:Int))))) (256:Int)),((Int.tmod (wrap .i64 ((wrap .i64 (r0.2.2.2.2.2.2.2.2.2.2.2.1+r1.2.2.2.2.2.2.2.2.2.2.2.1))+(wrap .i64 (Int.tdiv (wrap .i64 ((wrap .i64 (r0.2.2.2.2.2.2.2.2.2.2.1+r1.2.2.2.2.2.2.2.2.2.2.1))+(wrap .i64 (Int.tdiv (wrap .i64 ((wrap .i64 (r0.2.2.2.2.2.2.2.2.2.1+r1.2.2.2.2.2.2.2.2.2.1))+(wrap .i64 (Int.tdiv (wrap .i64 ((wrap .i64 (r0.2.2.2.2.2.2.2.2.1+r1.2.2.2.2.2.2.2.2.1))+(wrap .i64 (Int.tdiv (wrap .i64 ((wrap .i64 (r0.2.2.2.2.2.2.2.1+r1.2.2.2.2.2.2.2.1))+(wrap .i64 (Int.tdiv (wrap .i64 ((wrap .i64 (r0.2.2.2.2.2.2.1+r1.2.2.2.2.2.2.1))+(wrap .i64 (Int.tdiv (wrap .i64 ((wrap .i64 (r0.2.2.2.2.2.1+r1.2.2.2.2.2.1))+(wrap .i64 (Int.tdiv (wrap .i64 ((wrap .i64 (r0.2.2.2.2.1+r1.2.2.2.2.1))+(wrap .i64 (Int.tdiv (wrap .i64 ((wrap .i64 (r0.2.2.2.1+r1.2.2.2.1))+(wrap .i64 (Int.tdiv (wrap .i64 ((wrap .i64 (r0.2.2.1+r1.2.2.1))+(wrap .i64 (Int.tdiv (wrap .i64 ((wrap .i64 (r0.2.1+r1.2.1))+(wrap .i64 (Int.tdiv (wrap .i64 ((wrap .i64 (r0.1+r1.1))+0)) (256:Int))))) (256:Int))))) (256:Int))))) (256:Int))))) (256:Int))))) (256:Int))))) (256:Int))))) (256:Int))))) (256:Int))))) (256:Int))))) (256:Int))))) (256:Int)),((Int.tmod (wrap .i64 ((wrap .i64 (r0.2.2.2.2.2.2.2.2.2.2.2.2.1+r1.2.2.2.2.2.2.2.2.2.2.2.2.1))+(wrap .i64 (Int.tdiv (wrap .i64 ((wrap .i64 (r0.2.2.2.2.2.2.2.2.2.2.2.1+r1.2.2.2.2.2.2.2.2.2.2.2.1))+(wrap .i64 (Int.tdiv (wrap .i64 ((wrap .i64 (r0.2.2.2.2.2.2.2.2.2.2.1+r1.2.2.2.2.2.2.2.2.2.2.1))+(wrap .i64 (Int.tdiv (wrap .i64 ((wrap .i64 (r0.2.2.2.2.2.2.2.2.2.1+r1.2.2.2.2.2.2.2.2.2.1))+(wrap .i64 (Int.tdiv (wrap .i64 ((wrap .i64 (r0.2.2.2.2.2.2.2.2.1+r1.2.2.2.2.2.2.2.2.1))+(wrap .i64 (Int.tdiv (wrap .i64 ((wrap .i64 (r0.2.2.2.2.2.2.2.1+r1.2.2.2.2.2.2.2.1))+(wrap .i64 (Int.tdiv (wrap .i64 ((wrap .i64 (r0.2.2.2.2.2.2.1+r1.2.2.2.2.2.2.1))+(wrap .i64 (Int.tdiv (wrap .i64 ((wrap .i64 (r0.2.2.2.2.2.1+r1.2.2.2.2.2.1))+(wrap .i64 (Int.tdiv (wrap .i64 ((wrap .i64 (r0.2.2.2.2.1+r1.2.2.2.2.1))+(wrap .i64 (Int.tdiv (wrap .i64 ((wrap .i64 (r0.2.2.2.1+r1.2.2.2.1))+(wrap .i64 (Int.tdiv (wrap .i64 ((wrap .i64 (r0.2.2.1+r1.2.2.1))+(wrap .i64 (Int.tdiv (wrap .i64 ((wrap .i64 (r0.2.1+r1.2.1))+(wrap .i64 (Int.tdiv (wrap .i64 ((wrap .i64 (r0.1+r1.1))+0)) (256:Int))))) (256:Int))))) (256:Int))))) (256:Int))))) (256:Int))))) (256:Int))))) (256:Int))))) (256:Int))))) (256:Int))))) (256:Int))))) (256:Int))))) (256:Int))))) (256:Int)),((Int.tmod (wrap .i64 ((wrap .i64 (r0.2.2.2.2.2.2.2.2.2.2.2.2.2.1+r1.2.2.2.2.2.2.2.2.2.2.2.2.2.1))+(wrap .i64 (Int.tdiv (wrap .i64 ((wrap .i64 (r0.2.2.2.2.2.2.2.2.2.2.2.2.1+r1.2.2.2.2.2.2.2.2.2.2.2.2.1))+(wrap .i64 (Int.tdiv (wrap .i64 ((wrap .i64 (r0.2.2.2.2.2.2.2.2.2.2.2.1+r1.2.2.2.2.2.2.2.2.2.2.2.1))+(wrap .i64 (Int.tdiv (wrap .i64 ((wrap .i64 (r0.2.2.2.2.2.2.2.2.2.2.1+r1.2.2.2.2.2.2.2.2.2.2.1))+(wrap .i64 (Int.tdiv (wrap .i64 ((wrap .i64 (r0.2.2.2.2.2.2.2.2.2.1+r1.2.2.2.2.2.2.2.2.2.1))+(wrap .i64 (Int.tdiv (wrap .i64 ((wrap .i64 (r0.2.2.2.2.2.2.2.2.1+r1.2.2.2.2.2.2.2.2.1))+(wrap .i64 (Int.tdiv (wrap .i64 ((wrap .i64 (r0.2.2.2.2.2.2.2.1+r1.2.2.2.2.2.2.2.1))+(wrap .i64 (Int.tdiv (wrap .i64 ((wrap .i64 (r0.2.2.2.2.2.2.1+r1.2.2.2.2.2.2.1))+(wrap .i64 (Int.tdiv (wrap .i64 ((wrap .i64 (r0.2.2.2.2.2.1+r1.2.2.2.2.2.1))+(wrap .i64 (Int.tdiv (wrap .i64 ((wrap .i64 (r0.2.2.2.2.1+r1.2.2.2.2.1))+(wrap .i64 (Int.tdiv (wrap .i64 ((wrap .i64 (r0.2.2.2.1+r1.2.2.2.1))+(wrap .i64 (Int.tdiv (wrap .i64 ((wrap .i64 (r0.2.2.1+r1.2.2.1))+(wrap .i64 (Int.tdiv (wrap .i64 ((wrap .i64 (r0.2.1+r1.2.1))+(wrap .i64 (Int.tdiv (wrap .i64 ((wrap .i64 (r0.1+r1.1))+0)) (256:Int))))) (256:Int))))) (256:Int))))) (256:Int))))) (256:Int))))) (256:Int))))) (256:Int))))) (256:Int))))) (256:Int))))) (256:Int))))) (256:Int))))) (256:Int))))) (256:Int))))) (256:Int)),((Int.tmod (wrap .i64 ((wrap .i64 (r0.2.2.2.2.2.2.2.2.2.2.2.2.2.2.1+r1.2.2.2.2.2.2.2.2.2.2.2.2.2.2.1))+(wrap .i64 (Int.tdiv (wrap .i64 ((wrap .i64 (r0.2.2.2.2.2.2.2.2.2.2.2.2.2.1+r1.2.2.2.2.2.2.2.2.2.2.2.2.2.1))+(wrap .i64 (Int.tdiv (wrap .i64 ((wrap .i64 (r0.2.2.2.2.2.2.2.2.2.2.2.2.1+r1.2.2.2.2.2.2.2.2.2.2.2.2.1))+(wrap .i64 (Int.tdiv (wrap .i64 ((wrap .i64 (r0.2.2.2.2.2.2.2.2.2.2.2.1+r1.2.2.2.2.2.2.2.2.2.2.2.1))+(wrap .i64 (Int.tdiv (wrap .i64 ((wrap .i64 (r0.2.2.2.2.2.2.2.2.2.2.1+r1.2.2.2.2.2.2.2.2.2.2.1))+(wrap .i64 (Int.tdiv (wrap .i64 ((wrap .i64 (r0.2.2.2.2.2.2.2.2.2.1+r1.2.2.2.2.2.2.2.2.2.1))+(wrap .i64 (Int.tdiv (wrap .i64 ((wrap .i64 (r0.2.2.2.2.2.2.2.2.1+r1.2.2.2.2.2.2.2.2.1))+(wrap .i64 (Int.tdiv (wrap .i64 ((wrap .i64 (r0.2.2.2.2.2.2.2.1+r1.2.2.2.2.2.2.2.1))+(wrap .i64 (Int.tdiv (wrap .i64 ((wrap .i64 (r0.2.2.2.2.2.2.1+r1.2.2.2.2.2.2.1))+(wrap .i64 (Int.tdiv (wrap .i64 ((wrap .i64 (r0.2.2.2.2.2.1+r1.2.2.2.2.2.1))+(wrap .i64 (Int.tdiv (wrap .i64 ((wrap .i64 (r0.2.2.2.2.1+r1.2.2.2.2.1))+(wrap .i64 (Int.tdiv (wrap .i64 ((wrap .i64 (r0.2.2.2.1+r1.2.2.2.1))+(wrap .i64 (Int.tdiv (wrap .i64 ((wrap .i64 (r0.2.2.1+r1.2.2.1))+(wrap .i64 (Int.tdiv (wrap .i64 ((wrap .i64 (r0.2.1+r1.2.1))+(wrap .i64 (Int.tdiv (wrap .i64 ((wrap .i64 (r0.1+r1.1))+0)) (256:Int))))) (256:Int))))) (256:Int))))) (256:Int))))) (256:Int))))) (256:Int))))) (256:Int))))) (256:Int))))) (256:Int))))) (256:Int))))) (256:Int))))) (256:Int))))) (256:Int))))) (256:Int))))) (256:Int)),(Int.tmod (wrap .i64 ((wrap .i64 (r0.2.2.2.2.2.2.2.2.2.2.2.2.2.2.2+r1.2.2.2.2.2.2.2.2.2.2.2.2.2.2.2))+(wrap .i64 (Int.tdiv (wrap .i64 ((wrap .i64 (r0.2.2.2.2.2.2.2.2.2.2.2.2.2.2.1+r1.2.2.2.2.2.2.2.2.2.2.2.2.2.2.1))+(wrap .i64 (Int.tdiv (wrap .i64 ((wrap .i64 (r0.2.2.2.2.2.2.2.2.2.2.2.2.2.1+r1.2.2.2.2.2.2.2.2.2.2.2.2.2.1))+(wrap .i64 (Int.tdiv (wrap .i64 ((wrap .i64 (r0.2.2.2.2.2.2.2.2.2.2.2.2.1+r1.2.2.2.2.2.2.2.2.2.2.2.2.1))+(wrap .i64 (Int.tdiv (wrap .i64 ((wrap .i64 (r0.2.2.2.2.2.2.2.2.2.2.2.1+r1.2.2.2.2.2.2.2.2.2.2.2.1))+(wrap .i64 (Int.tdiv (wrap .i64 ((wrap .i64 (r0.2.2.2.2.2.2.2.2.2.2.1+r1.2.2.2.2.2.2.2.2.2.2.1))+(wrap .i64 (Int.tdiv (wrap .i64 ((wrap .i64 (r0.2.2.2.2.2.2.2.2.2.1+r1.2.2.2.2.2.2.2.2.2.1))+(wrap .i64 (Int.tdiv (wrap .i64 ((wrap .i64 (r0.2.2.2.2.2.2.2.2.1+r1.2.2.2.2.2.2.2.2.1))+(wrap .i64 (Int.tdiv (wrap .i64 ((wrap .i64 (r0.2.2.2.2.2.2.2.1+r1.2.2.2.2.2.2.2.1))+(wrap .i64 (Int.tdiv (wrap .i64 ((wrap .i64 (r0.2.2.2.2.2.2.1+r1.2.2.2.2.2.2.1))+(wrap .i64 (Int.tdiv (wrap .i64 ((wrap .i64 (r0.2.2.2.2.2.1+r1.2.2.2.2.2.1))+(wrap .i64 (Int.tdiv (wrap .i64 ((wrap .i64 (r0.2.2.2.2.1+r1.2.2.2.2.1))+(wrap .i64 (Int.tdiv (wrap .i64 ((wrap .i64 (r0.2.2.2.1+r1.2.2.2.1))+(wrap .i64 (Int.tdiv (wrap .i64 ((wrap .i64 (r0.2.2.1+r1.2.2.1))+(wrap .i64 (Int.tdiv (wrap .i64 ((wrap .i64 (r0.2.1+r1.2.1))+(wrap .i64 (Int.tdiv (wrap .i64 ((wrap .i64 (r0.1+r1.1))+0)) (256:Int))))) (256:Int))))) (256:Int))))) (256:Int))))) (256:Int))))) (256:Int))))) (256:Int))))) (256:Int))))) (256:Int))))) (256:Int))))) (256:Int))))) (256:Int))))) (256:Int))))) (256:Int))))) (256:Int))))) (256:Int)))))))))))))))))) fun r2 =>
 some (r2,0)):=by kernel_rfl
theorem a2d (n:Nat)(l:(List (Int×Int))):t1w (n+1) l =
 a0a (q0w n a0b ((0,0),((0,0),(l,((l.length:Int),(0,())))))) fun r0 =>
 b0u (fun y1 =>
 some (y1.2.1,0)) (fun z2 =>
 some z2) r0:=by kernel_rfl
theorem v0c (n f:Nat)(s2:(Int×Int))(a:(Int×Int))(s9:(List (Int×Int)))(s10:Int)(s11:Int):q0w n (f+1) (s2,a,s9,s10,s11,()) =
 tif (s11<s10) (
 a0a (at? s9 s11) fun r0 =>
 a0a (p0j n a r0) fun r1 =>
 tif (!(r1.2=0)) (
 some (.inr ((0,0),r1.2))) (
 q0w n f (s2,(r1.1,(s9,(s10,((wrap .i64 (s11+1)),()))))))) (
 some (.inl (s2,(a,())))):=by kernel_rfl
theorem wi_Of_eq (n:Nat)(t:Int)(w:Int):y1g (n+1) t w =
 a0a (n0g n t (0:Int) (35184372088831:Int)) fun r0 =>
 tif (!r0) (
 some (0,1)) (
 a0a (v1t n w) fun r1 =>
 tif (!r1) (
 some (0,1)) (
 tif (w=0) (
 none) (
 some ((wrap .i64 (Int.tdiv t w)),0)))):=by kernel_rfl
theorem m1b (n:Nat)(now:Int)(w:Int)(n_:Int):a1e (n+1) now w n_ =
 a0a (y1g n now w) fun r0 =>
 tif (!(r0.2=0)) (
 some (0,1)) (
 a0a (m1a n n_ (1:Int) (4096:Int)) fun r1 =>
 tif (!r1) (
 some (0,1)) (
 some ((if (0:Int)<(wrap .i64 ((wrap .i64 (r0.1+1))-n_)) then (wrap .i64 ((wrap .i64 (r0.1+1))-n_)) else (0:Int)),0))):=by kernel_rfl
theorem h1j (n:Nat)(l:(List a0c))(w:Int):j0l (n+1) l w =
 tif ((l.length:Int)=0) (
 some (2:Int)) (
 tif ((4096:Int)<(l.length:Int)) (
 some (2:Int)) (
 tif (w<1) (
 some (2:Int)) (
 tif ((1099511627776:Int)<w) (
 some (2:Int)) (
 a0a (e0u n a0b (l,(w,(l,((l.length:Int),(0,())))))) fun r0 =>
 b0u (fun y1 =>
 some (0:Int)) (fun z2 =>
 some z2) r0)))):=by kernel_rfl
theorem o0n (n f:Nat)(l:(List a0c))(w:Int)(s23:(List a0c))(s24:Int)(s25:Int):e0u n (f+1) (l,w,s23,s24,s25,()) =
 tif (s25<s24) (
 a0a (at? s23 s25) fun r0 =>
 a0a (o0r n r0) fun r1 =>
 tif (!r1) (
 a0a (g1y n r0.1 (l.length:Int)) fun r2 =>
 tif (!(r2=s25)) (
 some (.inr (2:Int))) (
 a0a (j0u n r0.2 w r0.1) fun r3 =>
 tif (!r3) (
 some (.inr (2:Int))) (
 e0u n f (l,(w,(s23,(s24,((wrap .i64 (s25+1)),())))))))) (
 e0u n f (l,(w,(s23,(s24,((wrap .i64 (s25+1)),()))))))) (
 some (.inl ())):=by kernel_rfl
theorem n0o (n:Nat)(s:(List a0c))(f_:((a0c×Unit)->Option Bool)):f0j (n+1) s f_ =
 a0a (h0h n s f_) fun r0 =>
 some (decide ((0:Int)<=r0)):=by kernel_rfl
theorem u0i (n:Nat)(s:a0c)(p1:Int):k0a (n+1) s p1 =
 tif ((0:Int)<s.2.1) (
 some (decide (p1<=s.1))) (
 some false):=by kernel_rfl
theorem l1l (n:Nat)(c:b0f):m0s (n+1) c =
 a0a (q0b n c) fun r0 =>
 tif (r0) (
 some (0:Int)) (
 a0a (x0p n c) fun r1 =>
 tif (!r1) (
 some (2:Int)) (
 a0a (a1c n (18446744073709551615:Int)) fun r2 =>
 a0a (w0e n r2 (wrap .u64 (wrap .i64 (c.1-1)))) fun r3 =>
 tif (!(r3.2=0)) (
 some (2:Int)) (
 a0a (a1d n r3.1 c.2.2.2.1) fun r4 =>
 tif (r4) (
 some (2:Int)) (
 a0a (c1c n c.2.2.2.2.2.1 (wrap .i64 (c.1-1))) fun r5 =>
 tif (!r5) (
 some (2:Int)) (
 a0a (c1c n c.2.2.2.2.1 (wrap .i64 ((wrap .i64 (c.1-1))-c.2.2.2.2.2.1))) fun r6 =>
 tif (!r6) (
 some (2:Int)) (
 a0a (c1c n c.2.2.2.2.2.2 (wrap .i64 (c.2.2.1.1-c.2.1.1))) fun r7 =>
 tif (!r7) (
 some (2:Int)) (
 some (0:Int)))))))):=by kernel_rfl
theorem r1g (n:Nat)(l:(List a0c))(w:Int)(i:Int)(c:b0f):t0p (n+1) l w i c =
 a0a (j0l n l w) fun r0 =>
 tif (!(r0=0)) (
 some ([],2)) (
 a0a (j0u n c w i) fun r1 =>
 tif (!r1) (
 some ([],2)) (
 a0a (j0b n l) fun r2 =>
 a0a (g1y n i (r2.length:Int)) fun r3 =>
 a0a (at? r2 r3) fun r4 =>
 a0a ((r2)[(Int.toNat r3)]?) fun r5 =>
 some ((List.set r2 (Int.toNat r3) (i,c)),0))):=by kernel_rfl
theorem e1b (n:Nat)(s:r0r)(i:Int):f0m (n+1) s (1:Int) i =
 tif (s.1.2.1.1=0) (
 none) (
 a0a (t0r n s.2.1 (wrap .i64 (i*(wrap .i64 (Int.tdiv s.1.2.1.2.1 s.1.2.1.1)))) (wrap .i64 ((wrap .i64 (i+1))*(wrap .i64 (Int.tdiv s.1.2.1.2.1 s.1.2.1.1))))) fun r0 =>
 some (r0.1,(r0.2,s))):=by kernel_rfl
theorem e1a (n:Nat)(s:r0r)(i:Int):f0m (n+1) s (2:Int) i =
 tif (s.1.2.1.2.1=0) (
 none) (
 a0a (t0r n s.2.2.1 (wrap .i64 (i*(wrap .i64 (Int.tdiv s.1.2.1.2.2 s.1.2.1.2.1)))) (wrap .i64 ((wrap .i64 (i+1))*(wrap .i64 (Int.tdiv s.1.2.1.2.2 s.1.2.1.2.1))))) fun r0 =>
 some (r0.1,(r0.2,s))):=by kernel_rfl
theorem e1c (n:Nat)(l:(List a0j)):k0n (n+1) l =
 a0a (i0a n a0b (l,((l.length:Int),(0,())))) fun r0 =>
 b0u (fun y1 =>
 some true) (fun z2 =>
 some z2) r0:=by kernel_rfl
theorem m0o (n f:Nat)(s5:(List a0j))(s6:Int)(s7:Int):i0a n (f+1) (s5,s6,s7,()) =
 tif (s7<s6) (
 a0a (at? s5 s7) fun r0 =>
 a0a (d0q n r0) fun r1 =>
 tif (!(r1=0)) (
 some (.inr false)) (
 i0a n f (s5,(s6,((wrap .i64 (s7+1)),()))))) (
 some (.inl ())):=by kernel_rfl
theorem w0q (n:Nat)(room:Int):r0z (n+1) room =
 tif (room<1) (
 some (none,1)) (
 tif ((65536:Int)<room) (
 some (none,1)) (
 some ((some (room,([],(0,0)))),0))):=by kernel_rfl
theorem s1g (n:Nat)(r:f0w)(i:Int):w1a (n+1) r i =
 tif ((r.2.1.length:Int)=0) (
 none) (
 some ((Int.tmod (wrap .i64 (r.2.2.1+i)) (r.2.1.length:Int)),r)):=by kernel_rfl
theorem q1l (n:Nat)(c:b0f):q0b (n+1) c =
 some ((decide (c.1=0))&&((decide (c.2.1.1=0))&&((decide (c.2.1.2.1=0))&&((decide (c.2.1.2.2.1=0))&&((c.2.1.2.2.2==false)&&((decide (c.2.2.1.1=0))&&((decide (c.2.2.1.2.1=0))&&((decide (c.2.2.1.2.2.1=0))&&((c.2.2.1.2.2.2==false)&&((decide (c.2.2.2.1.1=0))&&((decide (c.2.2.2.1.2=0))&&((decide (c.2.2.2.2.1=0))&&((decide (c.2.2.2.2.2.1=0))&&(decide (c.2.2.2.2.2.2=0))))))))))))))):=by kernel_rfl
theorem q1m (n:Nat)(a:b0f)(b:b0f):q1o (n+1) a b =
 a0a (o0f n a.2.2.1 b.2.1) fun r0 =>
 tif (!(r0.2=0)) (
 some ((0,((0,(0,(0,false))),((0,(0,(0,false))),((0,0),(0,(0,0)))))),r0.2)) (
 a0a (g1w n (a.2.2.2.1::(r0.1.2.2.2.1::(b.2.2.2.1::[])))) fun r1 =>
 some (((wrap .i64 (a.1+b.1)),(a.2.1,(b.2.2.1,(r1.1,((wrap .i64 (r0.1.2.2.2.2.1+(wrap .i64 (a.2.2.2.2.1+b.2.2.2.2.1)))),((wrap .i64 (r0.1.2.2.2.2.2.1+(wrap .i64 (a.2.2.2.2.2.1+b.2.2.2.2.2.1)))),(wrap .i64 (r0.1.2.2.2.2.2.2+(wrap .i64 (a.2.2.2.2.2.2+b.2.2.2.2.2.2)))))))))),r1.2)):=by kernel_rfl
theorem t1o (n:Nat)(t:Int)(now:Int)(w:Int)(n_:Int):u0y (n+1) t now w n_ =
 a0a (f1k n t w) fun r0 =>
 a0a (w0u n now w n_) fun r1 =>
 tif (r0.2=0) (
 tif (r1.2=0) (
 some (decide (r0.1<r1.1))) (
 some false)) (
 some false):=by kernel_rfl
theorem o1m (n:Nat)(a:(Int×Int))(n_:Int):m0d (n+1) a n_ =
 a0a (c0w n a0b (n_,(a,((0,0),((0,0),(false,())))))) fun r0 =>
 b0u (fun y1 =>
 some (y1.2.1,0)) (fun z2 =>
 some z2) r0:=by kernel_rfl
theorem g0t (n f:Nat)(n_:Int)(a_:(Int×Int))(s4:(Int×Int))(out:(Int×Int))(over:Bool):c0w n (f+1) (n_,a_,s4,out,over,()) =
 tif ((0:Int)<n_) (
 tif ((Int.tmod n_ (2:Int))=1) (
 tif (over) (
 some (.inr ((0,0),1))) (
 a0a (p0j n out a_) fun r0 =>
 tif (!(r0.2=0)) (
 some (.inr ((0,0),r0.2))) (
 a0a (p0j n a_ a_) fun r1 =>
 tif (over) (
 c0w n f ((wrap .u64 (Int.tdiv n_ (2:Int))),(r1.1,(s4,(r0.1,(true,())))))) (
 c0w n f ((wrap .u64 (Int.tdiv n_ (2:Int))),(r1.1,(s4,(r0.1,((!(decide (r1.2=0))),()))))))))) (
 a0a (p0j n a_ a_) fun r2 =>
 tif (over) (
 c0w n f ((wrap .u64 (Int.tdiv n_ (2:Int))),(r2.1,(s4,(out,(true,())))))) (
 c0w n f ((wrap .u64 (Int.tdiv n_ (2:Int))),(r2.1,(s4,(out,((!(decide (r2.2=0))),())))))))) (
 some (.inl (s4,(out,())))):=by kernel_rfl
theorem t1x (n:Nat)(a:(Int×Int))(b:(Int×Int)):q0x (n+1) a b =
 a0a (m0e n a) fun r0 =>
 a0a (m0e n b) fun r1 =>
 tif (!(r0.2.2.2.2.2.2.2.2.2.2.2.2.2.2.2=r1.2.2.2.2.2.2.2.2.2.2.2.2.2.2.2)) (
 some (decide (r0.2.2.2.2.2.2.2.2.2.2.2.2.2.2.2<r1.2.2.2.2.2.2.2.2.2.2.2.2.2.2.2))) (
 tif (!(r0.2.2.2.2.2.2.2.2.2.2.2.2.2.2.1=r1.2.2.2.2.2.2.2.2.2.2.2.2.2.2.1)) (
 some (decide (r0.2.2.2.2.2.2.2.2.2.2.2.2.2.2.1<r1.2.2.2.2.2.2.2.2.2.2.2.2.2.2.1))) (
 tif (!(r0.2.2.2.2.2.2.2.2.2.2.2.2.2.1=r1.2.2.2.2.2.2.2.2.2.2.2.2.2.1)) (
 some (decide (r0.2.2.2.2.2.2.2.2.2.2.2.2.2.1<r1.2.2.2.2.2.2.2.2.2.2.2.2.2.1))) (
 tif (!(r0.2.2.2.2.2.2.2.2.2.2.2.2.1=r1.2.2.2.2.2.2.2.2.2.2.2.2.1)) (
 some (decide (r0.2.2.2.2.2.2.2.2.2.2.2.2.1<r1.2.2.2.2.2.2.2.2.2.2.2.2.1))) (
 tif (!(r0.2.2.2.2.2.2.2.2.2.2.2.1=r1.2.2.2.2.2.2.2.2.2.2.2.1)) (
 some (decide (r0.2.2.2.2.2.2.2.2.2.2.2.1<r1.2.2.2.2.2.2.2.2.2.2.2.1))) (
 tif (!(r0.2.2.2.2.2.2.2.2.2.2.1=r1.2.2.2.2.2.2.2.2.2.2.1)) (
 some (decide (r0.2.2.2.2.2.2.2.2.2.2.1<r1.2.2.2.2.2.2.2.2.2.2.1))) (
 tif (!(r0.2.2.2.2.2.2.2.2.2.1=r1.2.2.2.2.2.2.2.2.2.1)) (
 some (decide (r0.2.2.2.2.2.2.2.2.2.1<r1.2.2.2.2.2.2.2.2.2.1))) (
 tif (!(r0.2.2.2.2.2.2.2.2.1=r1.2.2.2.2.2.2.2.2.1)) (
 some (decide (r0.2.2.2.2.2.2.2.2.1<r1.2.2.2.2.2.2.2.2.1))) (
 tif (!(r0.2.2.2.2.2.2.2.1=r1.2.2.2.2.2.2.2.1)) (
 some (decide (r0.2.2.2.2.2.2.2.1<r1.2.2.2.2.2.2.2.1))) (
 tif (!(r0.2.2.2.2.2.2.1=r1.2.2.2.2.2.2.1)) (
 some (decide (r0.2.2.2.2.2.2.1<r1.2.2.2.2.2.2.1))) (
 tif (!(r0.2.2.2.2.2.1=r1.2.2.2.2.2.1)) (
 some (decide (r0.2.2.2.2.2.1<r1.2.2.2.2.2.1))) (
 tif (!(r0.2.2.2.2.1=r1.2.2.2.2.1)) (
 some (decide (r0.2.2.2.2.1<r1.2.2.2.2.1))) (
 tif (!(r0.2.2.2.1=r1.2.2.2.1)) (
 some (decide (r0.2.2.2.1<r1.2.2.2.1))) (
 tif (!(r0.2.2.1=r1.2.2.1)) (
 some (decide (r0.2.2.1<r1.2.2.1))) (
 tif (!(r0.2.1=r1.2.1)) (
 some (decide (r0.2.1<r1.2.1))) (
 tif (!(r0.1=r1.1)) (
 some (decide (r0.1<r1.1))) (
 some false)))))))))))))))):=by kernel_rfl
end Go.Proofs.YtfibfcjepngbmaaGreatDoor
