/- Trees, printed by program. -/
import Derived.Test.YtfibfcjepngbmaaGreatDoorTr0
import Derived.KernelRfl
set_option linter.unusedVariables false
namespace Go.Proofs.YtfibfcjepngbmaaGreatDoor
open Go.Flat
theorem i1a (n:Nat) (c:b0d) (s:((List a0c)×((List a0c)×(List a0c)))) (was:a0c) (j:Int):v0o (n+1) c s was j =
 a0a (u0d n c s) fun r0 =>
 z0l (r0.1) (
 tif ((!(decide (r0.2=0)))) (
 some (([],([],[])),r0.2)) (
 tif ((!((decide (was.1=0))&&((decide (was.2.1=0))&&((decide (was.2.2.1.1=0))&&((decide (was.2.2.1.2.1=0))&&((decide (was.2.2.1.2.2.1=0))&&((was.2.2.1.2.2.2==false)&&((decide (was.2.2.2.1.1=0))&&((decide (was.2.2.2.1.2.1=0))&&((decide (was.2.2.2.1.2.2.1=0))&&((was.2.2.2.1.2.2.2==false)&&((decide (was.2.2.2.2.1.1=0))&&((decide (was.2.2.2.2.1.2=0))&&((decide (was.2.2.2.2.2.1=0))&&((decide (was.2.2.2.2.2.2.1=0))&&(decide (was.2.2.2.2.2.2.2=0)))))))))))))))))) (
 a0a (j0n n was.2 c.2.1.1 was.1) fun r1 =>
 tif ((!r1)) (
 some (([],([],[])),2)) (
 tif (((decide (was.1=0))&&((decide (was.2.1=0))&&((decide (was.2.2.1.1=0))&&((decide (was.2.2.1.2.1=0))&&((decide (was.2.2.1.2.2.1=0))&&((was.2.2.1.2.2.2==false)&&((decide (was.2.2.2.1.1=0))&&((decide (was.2.2.2.1.2.1=0))&&((decide (was.2.2.2.1.2.2.1=0))&&((was.2.2.2.1.2.2.2==false)&&((decide (was.2.2.2.2.1.1=0))&&((decide (was.2.2.2.2.1.2=0))&&((decide (was.2.2.2.2.2.1=0))&&((decide (was.2.2.2.2.2.2.1=0))&&(decide (was.2.2.2.2.2.2.2=0))))))))))))))))) (
 some (s,0)) (
 tif ((decide (was.1=j))) (
 some (s,0)) (
 tif ((decide (j<was.1))) (
 some (([],([],[])),1)) (
 none))))) (
 tif (((decide (was.1=0))&&((decide (was.2.1=0))&&((decide (was.2.2.1.1=0))&&((decide (was.2.2.1.2.1=0))&&((decide (was.2.2.1.2.2.1=0))&&((was.2.2.1.2.2.2==false)&&((decide (was.2.2.2.1.1=0))&&((decide (was.2.2.2.1.2.1=0))&&((decide (was.2.2.2.1.2.2.1=0))&&((was.2.2.2.1.2.2.2==false)&&((decide (was.2.2.2.2.1.1=0))&&((decide (was.2.2.2.2.1.2=0))&&((decide (was.2.2.2.2.2.1=0))&&((decide (was.2.2.2.2.2.2.1=0))&&(decide (was.2.2.2.2.2.2.2=0))))))))))))))))) (
 some (s,0)) (
 tif ((decide (was.1=j))) (
 some (s,0)) (
 tif ((decide (j<was.1))) (
 some (([],([],[])),1)) (
 none)))))) fun r2 =>
 tif ((!(decide (r0.2=0)))) (
 some (([],([],[])),r0.2)) (
 tif ((!((decide (was.1=0))&&((decide (was.2.1=0))&&((decide (was.2.2.1.1=0))&&((decide (was.2.2.1.2.1=0))&&((decide (was.2.2.1.2.2.1=0))&&((was.2.2.1.2.2.2==false)&&((decide (was.2.2.2.1.1=0))&&((decide (was.2.2.2.1.2.1=0))&&((decide (was.2.2.2.1.2.2.1=0))&&((was.2.2.2.1.2.2.2==false)&&((decide (was.2.2.2.2.1.1=0))&&((decide (was.2.2.2.2.1.2=0))&&((decide (was.2.2.2.2.2.1=0))&&((decide (was.2.2.2.2.2.2.1=0))&&(decide (was.2.2.2.2.2.2.2=0)))))))))))))))))) (
 a0a (j0n n was.2 c.2.1.1 was.1) fun r3 =>
 tif ((!r3)) (
 some (([],([],[])),2)) (
 tif (((decide (was.1=0))&&((decide (was.2.1=0))&&((decide (was.2.2.1.1=0))&&((decide (was.2.2.1.2.1=0))&&((decide (was.2.2.1.2.2.1=0))&&((was.2.2.1.2.2.2==false)&&((decide (was.2.2.2.1.1=0))&&((decide (was.2.2.2.1.2.1=0))&&((decide (was.2.2.2.1.2.2.1=0))&&((was.2.2.2.1.2.2.2==false)&&((decide (was.2.2.2.2.1.1=0))&&((decide (was.2.2.2.2.1.2=0))&&((decide (was.2.2.2.2.2.1=0))&&((decide (was.2.2.2.2.2.2.1=0))&&(decide (was.2.2.2.2.2.2.2=0))))))))))))))))) (
 some (s,0)) (
 tif ((decide (was.1=j))) (
 some (s,0)) (
 tif ((decide (j<was.1))) (
 some (([],([],[])),1)) (
 a0a (n0m n r2 (0:Int) j) fun r4 =>
 tif ((!r4.1)) (
 some (([],([],[])),1)) (
 a0a (e0m n r4.2 (0:Int) was.1 was.2) fun r5 =>
 tif ((!(decide (r5.1=0)))) (
 some (([],([],[])),r5.1)) (
 a0a (i1d n r5.2 was.1 j) fun r6 =>
 some (r6.2,0)))))))) (
 tif (((decide (was.1=0))&&((decide (was.2.1=0))&&((decide (was.2.2.1.1=0))&&((decide (was.2.2.1.2.1=0))&&((decide (was.2.2.1.2.2.1=0))&&((was.2.2.1.2.2.2==false)&&((decide (was.2.2.2.1.1=0))&&((decide (was.2.2.2.1.2.1=0))&&((decide (was.2.2.2.1.2.2.1=0))&&((was.2.2.2.1.2.2.2==false)&&((decide (was.2.2.2.2.1.1=0))&&((decide (was.2.2.2.2.1.2=0))&&((decide (was.2.2.2.2.2.1=0))&&((decide (was.2.2.2.2.2.2.1=0))&&(decide (was.2.2.2.2.2.2.2=0))))))))))))))))) (
 some (s,0)) (
 tif ((decide (was.1=j))) (
 some (s,0)) (
 tif ((decide (j<was.1))) (
 some (([],([],[])),1)) (
 a0a (n0m n r2 (0:Int) j) fun r7 =>
 tif ((!r7.1)) (
 some (([],([],[])),1)) (
 a0a (e0m n r7.2 (0:Int) was.1 was.2) fun r8 =>
 tif ((!(decide (r8.1=0)))) (
 some (([],([],[])),r8.1)) (
 a0a (i1d n r8.2 was.1 j) fun r9 =>
 some (r9.2,0)))))))):=by kernel_rfl
theorem v1b (n:Nat) (r:(Int×(Int×(List a0t)))) (room:Int) (e:a0t):o1z (n+1) r room e =
 a0a (t0m n r room) fun r0 =>
 tif ((!(decide (r0=0)))) (
 some ((0,(0,[])),2)) (
 a0a (c0z n e) fun r1 =>
 tif ((!(decide (r1=0)))) (
 some ((0,(0,[])),2)) (
 a0a (x0o n r) fun r2 =>
 tif ((decide (r2.2=0))) (
 a0a (i0b n r2.1 e) fun r3 =>
 tif ((!r3)) (
 some ((0,(0,[])),9)) (
 tif ((decide ((((List.length r.2.2):Nat):Int)=room))) (
 tif ((decide (r.1=70368744177664))) (
 some ((0,(0,[])),1)) (
 a0a (m0x n r.2.2 room) fun r4 =>
 z0l (r4.1) (
 tif ((!(decide (r4.2=0)))) (
 some ((0,(0,[])),r4.2)) (
 none)) fun r5 =>
 tif ((!(decide (r4.2=0)))) (
 some ((0,(0,[])),r4.2)) (
 a0a (w0f n r5 e) fun r6 =>
 tif (r6.2.1) (
 a0a (k0g n r6.2.2) fun r7 =>
 some (((IntKind.wrap .i64 (r.1+1)),(r6.1.1,r7.1)),0)) (
 a0a (k0g n r6.2.2) fun r8 =>
 some ((r.1,(r.2.1,r8.1)),0))))) (
 a0a (m0x n r.2.2 room) fun r9 =>
 z0l (r9.1) (
 tif ((!(decide (r9.2=0)))) (
 some ((0,(0,[])),r9.2)) (
 none)) fun r10 =>
 tif ((!(decide (r9.2=0)))) (
 some ((0,(0,[])),r9.2)) (
 a0a (w0f n r10 e) fun r11 =>
 tif (r11.2.1) (
 a0a (k0g n r11.2.2) fun r12 =>
 some (((IntKind.wrap .i64 (r.1+1)),(r11.1.1,r12.1)),0)) (
 a0a (k0g n r11.2.2) fun r13 =>
 some ((r.1,(r.2.1,r13.1)),0)))))) (
 tif ((decide ((((List.length r.2.2):Nat):Int)=room))) (
 tif ((decide (r.1=70368744177664))) (
 some ((0,(0,[])),1)) (
 a0a (m0x n r.2.2 room) fun r14 =>
 z0l (r14.1) (
 tif ((!(decide (r14.2=0)))) (
 some ((0,(0,[])),r14.2)) (
 none)) fun r15 =>
 tif ((!(decide (r14.2=0)))) (
 some ((0,(0,[])),r14.2)) (
 a0a (w0f n r15 e) fun r16 =>
 tif (r16.2.1) (
 a0a (k0g n r16.2.2) fun r17 =>
 some (((IntKind.wrap .i64 (r.1+1)),(r16.1.1,r17.1)),0)) (
 a0a (k0g n r16.2.2) fun r18 =>
 some ((r.1,(r.2.1,r18.1)),0))))) (
 a0a (m0x n r.2.2 room) fun r19 =>
 z0l (r19.1) (
 tif ((!(decide (r19.2=0)))) (
 some ((0,(0,[])),r19.2)) (
 none)) fun r20 =>
 tif ((!(decide (r19.2=0)))) (
 some ((0,(0,[])),r19.2)) (
 a0a (w0f n r20 e) fun r21 =>
 tif (r21.2.1) (
 a0a (k0g n r21.2.2) fun r22 =>
 some (((IntKind.wrap .i64 (r.1+1)),(r21.1.1,r22.1)),0)) (
 a0a (k0g n r21.2.2) fun r23 =>
 some ((r.1,(r.2.1,r23.1)),0))))))):=by kernel_rfl
theorem q1v (n:Nat) (c:c0j) (e:a0t):j1e (n+1) c e =
 a0a (c0z n e) fun r0 =>
 tif ((!(decide (r0=0)))) (
 some ((0,((0,(0,(0,false))),((0,(0,(0,false))),((0,0),(0,(0,0)))))),r0)) (
 a0a (j1a n e) fun r1 =>
 a0a (q0r n c r1) fun r2 =>
 some r2):=by kernel_rfl
theorem t1x (n:Nat) (t:Int) (now:Int) (w:Int) (n_:Int):y0d (n+1) t now w n_ =
 a0a (t1w n t w) fun r0 =>
 a0a (y0c n now w n_) fun r1 =>
 tif ((decide (r0.2=0))) (
 tif ((decide (r1.2=0))) (
 some (decide (r0.1<r1.1))) (
 some false)) (
 some false):=by kernel_rfl
theorem q0w (n:Nat) (s:(List Int)) (f_:((Int×Unit)→Option Bool)):l0l (n+1) s f_ =
 a0a (c0o n a0b (s,(f_,((((List.length s):Nat):Int),(0,()))))) fun r0 =>
 b0y (fun y1 =>
 some ((-1):Int)) (fun z2 =>
 some z2) r0:=by kernel_rfl
theorem g0d (n f:Nat) (s:(List Int)) (f_:((Int×Unit)→Option Bool)) (s7:Int) (s8:Int):c0o n (f+1) (s,f_,s7,s8,()) =
 tif ((decide (s8<s7))) (
 a0a (at? s s8) fun r0 =>
 a0a (f_ (r0,())) fun r1 =>
 tif (r1) (
 some (.inr s8)) (
 c0o n f (s,(f_,(s7,((IntKind.wrap .i64 (s8+1)),())))))) (
 some (.inl ())):=by kernel_rfl
theorem n1w (n:Nat) (n_:Int):s0u (n+1) n_ =
 tif ((decide (n_<1))) (
 some []) (
 tif ((decide ((4096:Int)<n_))) (
 some []) (
 tif (((decide ((0:Int)≤n_))&&((decide (n_≤n_))&&(decide ((n_*120)≤140737488355328))))) (
 some (List.replicate (Int.toNat n_) (0,(0,((0,(0,(0,false))),((0,(0,(0,false))),((0,0),(0,(0,0))))))))) (
 none))):=by kernel_rfl
theorem m1l (n:Nat) (c:b0d) (s:((List a0c)×((List a0c)×(List a0c)))):u0d (n+1) c s =
 a0a (d0s n c) fun r0 =>
 tif ((!(decide (r0=0)))) (
 some (none,r0)) (
 tif ((!(decide ((((List.length s.1):Nat):Int)=c.2.2.1.1)))) (
 some (none,2)) (
 a0a (j0e n s.1 c.2.1.1) fun r1 =>
 tif ((!(decide (r1=0)))) (
 some (none,2)) (
 tif ((!(decide ((((List.length s.2.1):Nat):Int)=c.2.2.1.2.1)))) (
 some (none,2)) (
 a0a (j0e n s.2.1 c.2.1.2.1) fun r2 =>
 tif ((!(decide (r2=0)))) (
 some (none,2)) (
 tif ((!(decide ((((List.length s.2.2):Nat):Int)=c.2.2.1.2.2)))) (
 some (none,2)) (
 a0a (j0e n s.2.2 c.2.1.2.2) fun r3 =>
 tif ((!(decide (r3=0)))) (
 some (none,2)) (
 some ((some (c,s)),0)))))))):=by kernel_rfl
theorem f1y (n:Nat) (l:(List a0t)):v0c (n+1) l =
 a0a (f0f n a0b (l,(l,((((List.length l):Nat):Int),(0,()))))) fun r0 =>
 b0y (fun y1 =>
 some true) (fun z2 =>
 some z2) r0:=by kernel_rfl
theorem o0a (n f:Nat) (l:(List a0t)) (s5:(List a0t)) (s6:Int) (s7:Int):f0f n (f+1) (l,s5,s6,s7,()) =
 tif ((decide (s7<s6))) (
 a0a (at? s5 s7) fun r0 =>
 a0a (c0z n r0) fun r1 =>
 tif ((!(decide (r1=0)))) (
 some (.inr false)) (
 tif ((decide ((0:Int)<s7))) (
 a0a (at? l (IntKind.wrap .i64 (s7-1))) fun r2 =>
 a0a (i0b n r2 r0) fun r3 =>
 tif ((!r3)) (
 some (.inr false)) (
 f0f n f (l,(s5,(s6,((IntKind.wrap .i64 (s7+1)),())))))) (
 f0f n f (l,(s5,(s6,((IntKind.wrap .i64 (s7+1)),()))))))) (
 some (.inl ())):=by kernel_rfl
theorem f1z (n:Nat) (r:(Int×(Int×(List a0t)))) (room:Int):d1i (n+1) r room =
 tif ((decide (r.1=0))) (
 some (decide (r.2.1=0))) (
 tif ((decide ((((List.length r.2.2):Nat):Int)=room))) (
 tif ((decide ((0:Int)≤r.2.1))) (
 a0a (at? r.2.2 (0:Int)) fun r0 =>
 some (decide (r.2.1<r0.1))) (
 some false)) (
 some false)):=by kernel_rfl
theorem x0e (n:Nat) (l:(List a0c)) (i:Int):d0e (n+1) l i =
 a0a (f0k n l (fun y0=>j0s n y0.1 i)) fun r1 =>
 some r1:=by kernel_rfl
theorem p1a (n:Nat) (r:(Int×(Int×(List a0t)))):x0o (n+1) r =
 tif ((decide ((((List.length r.2.2):Nat):Int)=0))) (
 some ((0,(0,(0,false))),3)) (
 a0a (at? r.2.2 (IntKind.wrap .i64 ((((List.length r.2.2):Nat):Int)-1))) fun r0 =>
 some (r0,0)):=by kernel_rfl
theorem j1x (n:Nat) (c:c0j) (w:Int) (i:Int):j0n (n+1) c w i =
 tif ((decide (c.1=0))) (
 some false) (
 a0a (l0z n c) fun r0 =>
 tif ((!(decide (r0=0)))) (
 some false) (
 a0a (e0n n a0b (w,(i,((c.2.1.1,c.2.2.1.1),(0,()))))) fun r1 =>
 b0y (fun y2 =>
 some true) (fun z3 =>
 some z3) r1)):=by kernel_rfl
theorem j0m (n f:Nat) (w:Int) (i:Int) (s25:(Int×Int)) (s26:Int):e0n n (f+1) (w,i,s25,s26,()) =
 tif ((decide (s26<2))) (
 tif ((decide (s26=0))) (
 a0a (t1w n s25.1 w) fun r0 =>
 tif ((!(decide (r0.2=0)))) (
 some (.inr false)) (
 tif ((!(decide (r0.1=i)))) (
 some (.inr false)) (
 e0n n f (w,(i,(s25,((IntKind.wrap .i64 (s26+1)),()))))))) (
 tif ((decide (s26=1))) (
 a0a (t1w n s25.2 w) fun r1 =>
 tif ((!(decide (r1.2=0)))) (
 some (.inr false)) (
 tif ((!(decide (r1.1=i)))) (
 some (.inr false)) (
 e0n n f (w,(i,(s25,((IntKind.wrap .i64 (s26+1)),()))))))) (
 none))) (
 some (.inl ())):=by kernel_rfl
theorem x0h (n:Nat) (s:r0b) (i:Int):n0m (n+1) s (0:Int) i =
 tif ((decide ((0:Int)≤i))) (
 tif ((decide (s.1.2.1.1=0))) (
 none) (
 some ((decide (i≤(IntKind.wrap .i64 (Int.tdiv (35184372088831:Int) s.1.2.1.1)))),s))) (
 some (false,s)):=by kernel_rfl
theorem i1g (n:Nat) (s:r0b) (i:Int) (c:c0j):e0m (n+1) s (0:Int) i c =
 a0a (s0t n s.2.1 s.1.2.1.1 i c) fun r0 =>
 tif ((decide (r0.2=0))) (
 some (r0.2,(s.1,(r0.1,s.2.2)))) (
 some (r0.2,s)):=by kernel_rfl
theorem i1f (n:Nat) (s:r0b) (i:Int) (c:c0j):e0m (n+1) s (1:Int) i c =
 a0a (s0t n s.2.2.1 s.1.2.1.2.1 i c) fun r0 =>
 tif ((decide (r0.2=0))) (
 some (r0.2,(s.1,(s.2.1,(r0.1,s.2.2.2))))) (
 some (r0.2,s)):=by kernel_rfl
theorem i1e (n:Nat) (s:r0b) (i:Int) (c:c0j):e0m (n+1) s (2:Int) i c =
 a0a (s0t n s.2.2.2 s.1.2.1.2.2 i c) fun r0 =>
 tif ((decide (r0.2=0))) (
 some (r0.2,(s.1,(s.2.1,(s.2.2.1,r0.1))))) (
 some (r0.2,s)):=by kernel_rfl
theorem w1z (n:Nat) (s:r0b) (i:Int) (j:Int):i1d (n+1) s i j =
 tif ((decide (s.1.2.1.2.1=0))) (
 none) (
 tif ((decide (s.1.2.1.2.1=0))) (
 none) (
 tif ((decide ((IntKind.wrap .i64 (Int.tdiv (IntKind.wrap .i64 (i*s.1.2.1.1)) s.1.2.1.2.1))=(IntKind.wrap .i64 (Int.tdiv (IntKind.wrap .i64 (j*s.1.2.1.1)) s.1.2.1.2.1))))) (
 tif ((decide (s.1.2.1.2.2=0))) (
 none) (
 tif ((decide (s.1.2.1.2.2=0))) (
 none) (
 tif ((decide ((IntKind.wrap .i64 (Int.tdiv (IntKind.wrap .i64 (i*s.1.2.1.1)) s.1.2.1.2.2))=(IntKind.wrap .i64 (Int.tdiv (IntKind.wrap .i64 (j*s.1.2.1.1)) s.1.2.1.2.2))))) (
 some s) (
 a0a (f0m n s (2:Int) (IntKind.wrap .i64 (Int.tdiv (IntKind.wrap .i64 (i*s.1.2.1.1)) s.1.2.1.2.2))) fun r0 =>
 tif ((decide (r0.2.1=0))) (
 tif ((decide ((0:Int)<r0.1.1))) (
 a0a (e0m n r0.2.2 (2:Int) (IntKind.wrap .i64 (Int.tdiv (IntKind.wrap .i64 (i*s.1.2.1.1)) s.1.2.1.2.2)) r0.1) fun r1 =>
 some r1.2) (
 some r0.2.2)) (
 some r0.2.2))))) (
 a0a (f0m n s (1:Int) (IntKind.wrap .i64 (Int.tdiv (IntKind.wrap .i64 (i*s.1.2.1.1)) s.1.2.1.2.1))) fun r2 =>
 tif ((decide (r2.2.1=0))) (
 tif ((decide ((0:Int)<r2.1.1))) (
 a0a (e0m n r2.2.2 (1:Int) (IntKind.wrap .i64 (Int.tdiv (IntKind.wrap .i64 (i*s.1.2.1.1)) s.1.2.1.2.1)) r2.1) fun r3 =>
 tif ((decide (r3.2.1.2.1.2.2=0))) (
 none) (
 tif ((decide (r3.2.1.2.1.2.2=0))) (
 none) (
 tif ((decide ((IntKind.wrap .i64 (Int.tdiv (IntKind.wrap .i64 (i*r3.2.1.2.1.1)) r3.2.1.2.1.2.2))=(IntKind.wrap .i64 (Int.tdiv (IntKind.wrap .i64 (j*r3.2.1.2.1.1)) r3.2.1.2.1.2.2))))) (
 some r3.2) (
 a0a (f0m n r3.2 (2:Int) (IntKind.wrap .i64 (Int.tdiv (IntKind.wrap .i64 (i*r3.2.1.2.1.1)) r3.2.1.2.1.2.2))) fun r4 =>
 tif ((decide (r4.2.1=0))) (
 tif ((decide ((0:Int)<r4.1.1))) (
 a0a (e0m n r4.2.2 (2:Int) (IntKind.wrap .i64 (Int.tdiv (IntKind.wrap .i64 (i*r3.2.1.2.1.1)) r3.2.1.2.1.2.2)) r4.1) fun r5 =>
 some r5.2) (
 some r4.2.2)) (
 some r4.2.2))))) (
 tif ((decide (r2.2.2.1.2.1.2.2=0))) (
 none) (
 tif ((decide (r2.2.2.1.2.1.2.2=0))) (
 none) (
 tif ((decide ((IntKind.wrap .i64 (Int.tdiv (IntKind.wrap .i64 (i*r2.2.2.1.2.1.1)) r2.2.2.1.2.1.2.2))=(IntKind.wrap .i64 (Int.tdiv (IntKind.wrap .i64 (j*r2.2.2.1.2.1.1)) r2.2.2.1.2.1.2.2))))) (
 some r2.2.2) (
 a0a (f0m n r2.2.2 (2:Int) (IntKind.wrap .i64 (Int.tdiv (IntKind.wrap .i64 (i*r2.2.2.1.2.1.1)) r2.2.2.1.2.1.2.2))) fun r6 =>
 tif ((decide (r6.2.1=0))) (
 tif ((decide ((0:Int)<r6.1.1))) (
 a0a (e0m n r6.2.2 (2:Int) (IntKind.wrap .i64 (Int.tdiv (IntKind.wrap .i64 (i*r2.2.2.1.2.1.1)) r2.2.2.1.2.1.2.2)) r6.1) fun r7 =>
 some r7.2) (
 some r6.2.2)) (
 some r6.2.2)))))) (
 tif ((decide (r2.2.2.1.2.1.2.2=0))) (
 none) (
 tif ((decide (r2.2.2.1.2.1.2.2=0))) (
 none) (
 tif ((decide ((IntKind.wrap .i64 (Int.tdiv (IntKind.wrap .i64 (i*r2.2.2.1.2.1.1)) r2.2.2.1.2.1.2.2))=(IntKind.wrap .i64 (Int.tdiv (IntKind.wrap .i64 (j*r2.2.2.1.2.1.1)) r2.2.2.1.2.1.2.2))))) (
 some r2.2.2) (
 a0a (f0m n r2.2.2 (2:Int) (IntKind.wrap .i64 (Int.tdiv (IntKind.wrap .i64 (i*r2.2.2.1.2.1.1)) r2.2.2.1.2.1.2.2))) fun r8 =>
 tif ((decide (r8.2.1=0))) (
 tif ((decide ((0:Int)<r8.1.1))) (
 a0a (e0m n r8.2.2 (2:Int) (IntKind.wrap .i64 (Int.tdiv (IntKind.wrap .i64 (i*r2.2.2.1.2.1.1)) r2.2.2.1.2.1.2.2)) r8.1) fun r9 =>
 some r9.2) (
 some r8.2.2)) (
 some r8.2.2)))))))):=by kernel_rfl
theorem z0w (n:Nat) (p:a0t) (c:a0t):i0b (n+1) p c =
 a0a (j0y n (p::(c::[]))) fun r0 =>
 tif (r0) (
 some (decide (p.1<c.1))) (
 some false):=by kernel_rfl
theorem o1x (n:Nat) (l:(List a0t)) (room:Int):m0x (n+1) l room =
 a0a (r0i n room) fun r0 =>
 z0l (r0.1) (
 tif ((!(decide (r0.2=0)))) (
 some (none,r0.2)) (
 none)) fun r1 =>
 tif ((!(decide (r0.2=0)))) (
 some (none,r0.2)) (
 a0a (m0w n a0b (r1,(l,((((List.length l):Nat):Int),(0,()))))) fun r2 =>
 b0y (fun y3 =>
 some ((some y3.1),0)) (fun z4 =>
 some z4) r2):=by kernel_rfl
theorem r0k (n f:Nat) (q:f0s) (s18:(List a0t)) (s19:Int) (s20:Int):m0w n (f+1) (q,s18,s19,s20,()) =
 tif ((decide (s20<s19))) (
 a0a (at? s18 s20) fun r0 =>
 a0a (w0f n q r0) fun r1 =>
 m0w n f (r1.2.2,(s18,(s19,((IntKind.wrap .i64 (s20+1)),()))))) (
 some (.inl (q,()))):=by kernel_rfl
theorem k1k (n:Nat) (r:f0s) (x:a0t):w0f (n+1) r x =
 tif ((decide ((((List.length r.2.1):Nat):Int)<r.1))) (
 tif ((decide ((((List.length r.2.1)+1)*32)≤140737488355328))) (
 some ((0,(0,(0,false))),(false,(r.1,((r.2.1++(x::[])),r.2.2))))) (
 none)) (
 a0a (at? r.2.1 r.2.2.1) fun r0 =>
 a0a ((r.2.1)[(Int.toNat r.2.2.1)]?) fun r1 =>
 a0a (at? r.2.1 r.2.2.1) fun r2 =>
 a0a ((r.2.1)[(Int.toNat r.2.2.1)]?) fun r3 =>
 a0a (r1r n (r.1,((List.set r.2.1 (Int.toNat r.2.2.1) x),r.2.2)) (1:Int)) fun r4 =>
 some (r1,(true,(r4.2.1,(r4.2.2.1,(r4.1,(IntKind.wrap .u64 (r4.2.2.2.2+1)))))))):=by kernel_rfl
theorem z1k (n:Nat) (r:f0s):k0g (n+1) r =
 tif ((true&&((decide ((0:Int)≤(((List.length r.2.1):Nat):Int)))&&(decide (((((List.length r.2.1):Nat):Int)*32)≤140737488355328))))) (
 tif ((decide ((0:Int)≤r.2.2.1))) (
 tif ((decide ((Int.toNat r.2.2.1)≤(List.length r.2.1)))) (
 tif ((decide (((0+(List.length (List.take ((List.length r.2.1)-(Int.toNat r.2.2.1)) (List.drop (Int.toNat r.2.2.1) r.2.1))))*32)≤140737488355328))) (
 tif (((decide ((0:Int)≤r.2.2.1))&&(decide (r.2.2.1≤(((List.length r.2.1):Nat):Int))))) (
 tif ((decide ((((List.length ((List.replicate 0 ((0:Int),((0:Int),((0:Int),false))))++(List.take ((List.length r.2.1)-(Int.toNat r.2.2.1)) (List.drop (Int.toNat r.2.2.1) r.2.1))))+(List.length (List.take ((Int.toNat r.2.2.1)-0) (List.drop 0 r.2.1))))*32)≤140737488355328))) (
 some ((((List.replicate 0 ((0:Int),((0:Int),((0:Int),false))))++(List.take ((List.length r.2.1)-(Int.toNat r.2.2.1)) (List.drop (Int.toNat r.2.2.1) r.2.1)))++(List.take ((Int.toNat r.2.2.1)-0) (List.drop 0 r.2.1))),r)) (
 none)) (
 none)) (
 none)) (
 none)) (
 none)) (
 none):=by kernel_rfl
theorem j1b (n:Nat) (a:c0j) (b:c0j):q0r (n+1) a b =
 a0a (l0z n a) fun r0 =>
 tif ((!(decide (r0=0)))) (
 some ((0,((0,(0,(0,false))),((0,(0,(0,false))),((0,0),(0,(0,0)))))),2)) (
 a0a (l0z n b) fun r1 =>
 tif ((!(decide (r1=0)))) (
 some ((0,((0,(0,(0,false))),((0,(0,(0,false))),((0,0),(0,(0,0)))))),2)) (
 a0a (p0l n a) fun r2 =>
 tif (r2) (
 some (b,0)) (
 a0a (p0l n b) fun r3 =>
 tif (r3) (
 some (a,0)) (
 a0a (n1a n a b) fun r4 =>
 some r4)))):=by kernel_rfl
theorem q1r (n:Nat) (e:a0t):j1a (n+1) e =
 some (1,(e,(e,((0,0),(0,(0,0)))))):=by kernel_rfl
theorem p1f (n:Nat) (i:Int) (n_:Int):g1f (n+1) i n_ =
 tif ((decide (i<0))) (
 some (0:Int)) (
 tif ((decide (n_<1))) (
 some (0:Int)) (
 tif ((decide (n_=0))) (
 none) (
 some (Int.tmod i n_)))):=by kernel_rfl
theorem wi_Of_eq (n:Nat) (t:Int) (w:Int):t1w (n+1) t w =
 a0a (m0j n t (0:Int) (35184372088831:Int)) fun r0 =>
 tif ((!r0)) (
 some (0,1)) (
 a0a (r1k n w) fun r1 =>
 tif ((!r1)) (
 some (0,1)) (
 tif ((decide (w=0))) (
 none) (
 some ((IntKind.wrap .i64 (Int.tdiv t w)),0)))):=by kernel_rfl
theorem j1r (n:Nat) (now:Int) (w:Int) (n_:Int):y0c (n+1) now w n_ =
 a0a (t1w n now w) fun r0 =>
 tif ((!(decide (r0.2=0)))) (
 some (0,1)) (
 a0a (j1q n n_ (1:Int) (4096:Int)) fun r1 =>
 tif ((!r1)) (
 some (0,1)) (
 some ((if (0:Int)<(IntKind.wrap .i64 ((IntKind.wrap .i64 (r0.1+1))-n_)) then (IntKind.wrap .i64 ((IntKind.wrap .i64 (r0.1+1))-n_)) else (0:Int)),0))):=by kernel_rfl
theorem e1y (n:Nat) (l:(List a0c)) (w:Int):j0e (n+1) l w =
 tif ((decide ((((List.length l):Nat):Int)=0))) (
 some (2:Int)) (
 tif ((decide ((4096:Int)<(((List.length l):Nat):Int)))) (
 some (2:Int)) (
 tif ((decide (w<1))) (
 some (2:Int)) (
 tif ((decide ((1099511627776:Int)<w))) (
 some (2:Int)) (
 a0a (e0v n a0b (l,(w,(l,((((List.length l):Nat):Int),(0,())))))) fun r0 =>
 b0y (fun y1 =>
 some (0:Int)) (fun z2 =>
 some z2) r0)))):=by kernel_rfl
theorem n0x (n f:Nat) (l:(List a0c)) (w:Int) (s23:(List a0c)) (s24:Int) (s25:Int):e0v n (f+1) (l,w,s23,s24,s25,()) =
 tif ((decide (s25<s24))) (
 a0a (at? s23 s25) fun r0 =>
 a0a (o0d n r0) fun r1 =>
 tif ((!r1)) (
 a0a (e1u n r0.1 (((List.length l):Nat):Int)) fun r2 =>
 tif ((!(decide (r2=s25)))) (
 some (.inr (2:Int))) (
 a0a (j0n n r0.2 w r0.1) fun r3 =>
 tif ((!r3)) (
 some (.inr (2:Int))) (
 e0v n f (l,(w,(s23,(s24,((IntKind.wrap .i64 (s25+1)),())))))))) (
 e0v n f (l,(w,(s23,(s24,((IntKind.wrap .i64 (s25+1)),()))))))) (
 some (.inl ())):=by kernel_rfl
theorem m0r (n:Nat) (s:(List a0c)) (f_:((a0c×Unit)→Option Bool)):f0k (n+1) s f_ =
 a0a (g0v n s f_) fun r0 =>
 some (decide ((0:Int)≤r0)):=by kernel_rfl
theorem t0l (n:Nat) (s:a0c) (p1:Int):j0s (n+1) s p1 =
 tif ((decide ((0:Int)<s.2.1))) (
 some (decide (p1≤s.1))) (
 some false):=by kernel_rfl
theorem j1c (n:Nat) (c:c0j):l0z (n+1) c =
 a0a (p0l n c) fun r0 =>
 tif (r0) (
 some (0:Int)) (
 a0a (v0u n c) fun r1 =>
 tif ((!r1)) (
 some (2:Int)) (
 a0a (y0a n (18446744073709551615:Int)) fun r2 =>
 a0a (u0p n r2 (IntKind.wrap .u64 (IntKind.wrap .i64 (c.1-1)))) fun r3 =>
 tif ((!(decide (r3.2=0)))) (
 some (2:Int)) (
 a0a (y0b n r3.1 c.2.2.2.1) fun r4 =>
 tif (r4) (
 some (2:Int)) (
 a0a (a1a n c.2.2.2.2.2.1 (IntKind.wrap .i64 (c.1-1))) fun r5 =>
 tif ((!r5)) (
 some (2:Int)) (
 a0a (a1a n c.2.2.2.2.1 (IntKind.wrap .i64 ((IntKind.wrap .i64 (c.1-1))-c.2.2.2.2.2.1))) fun r6 =>
 tif ((!r6)) (
 some (2:Int)) (
 a0a (a1a n c.2.2.2.2.2.2 (IntKind.wrap .i64 (c.2.2.1.1-c.2.1.1))) fun r7 =>
 tif ((!r7)) (
 some (2:Int)) (
 some (0:Int)))))))):=by kernel_rfl
theorem n1v (n:Nat) (l:(List a0c)) (w:Int) (i:Int) (c:c0j):s0t (n+1) l w i c =
 a0a (j0e n l w) fun r0 =>
 tif ((!(decide (r0=0)))) (
 some ([],2)) (
 a0a (j0n n c w i) fun r1 =>
 tif ((!r1)) (
 some ([],2)) (
 a0a (i0u n l) fun r2 =>
 a0a (e1u n i (((List.length r2):Nat):Int)) fun r3 =>
 a0a (at? r2 r3) fun r4 =>
 a0a ((r2)[(Int.toNat r3)]?) fun r5 =>
 some ((List.set r2 (Int.toNat r3) (i,c)),0))):=by kernel_rfl
theorem c1c (n:Nat) (s:r0b) (i:Int):f0m (n+1) s (1:Int) i =
 tif ((decide (s.1.2.1.1=0))) (
 none) (
 a0a (s0v n s.2.1 (IntKind.wrap .i64 (i*(IntKind.wrap .i64 (Int.tdiv s.1.2.1.2.1 s.1.2.1.1)))) (IntKind.wrap .i64 ((IntKind.wrap .i64 (i+1))*(IntKind.wrap .i64 (Int.tdiv s.1.2.1.2.1 s.1.2.1.1))))) fun r0 =>
 some (r0.1,(r0.2,s))):=by kernel_rfl
theorem c1b (n:Nat) (s:r0b) (i:Int):f0m (n+1) s (2:Int) i =
 tif ((decide (s.1.2.1.2.1=0))) (
 none) (
 a0a (s0v n s.2.2.1 (IntKind.wrap .i64 (i*(IntKind.wrap .i64 (Int.tdiv s.1.2.1.2.2 s.1.2.1.2.1)))) (IntKind.wrap .i64 ((IntKind.wrap .i64 (i+1))*(IntKind.wrap .i64 (Int.tdiv s.1.2.1.2.2 s.1.2.1.2.1))))) fun r0 =>
 some (r0.1,(r0.2,s))):=by kernel_rfl
theorem c1d (n:Nat) (l:(List a0t)):j0y (n+1) l =
 a0a (h0o n a0b (l,((((List.length l):Nat):Int),(0,())))) fun r0 =>
 b0y (fun y1 =>
 some true) (fun z2 =>
 some z2) r0:=by kernel_rfl
theorem l0w (n f:Nat) (s5:(List a0t)) (s6:Int) (s7:Int):h0o n (f+1) (s5,s6,s7,()) =
 tif ((decide (s7<s6))) (
 a0a (at? s5 s7) fun r0 =>
 a0a (c0z n r0) fun r1 =>
 tif ((!(decide (r1=0)))) (
 some (.inr false)) (
 h0o n f (s5,(s6,((IntKind.wrap .i64 (s7+1)),()))))) (
 some (.inl ())):=by kernel_rfl
theorem v0b (n:Nat) (room:Int):r0i (n+1) room =
 tif ((decide (room<1))) (
 some (none,1)) (
 tif ((decide ((65536:Int)<room))) (
 some (none,1)) (
 some ((some (room,([],(0,0)))),0))):=by kernel_rfl
theorem o1w (n:Nat) (r:f0s) (i:Int):r1r (n+1) r i =
 tif ((decide ((((List.length r.2.1):Nat):Int)=0))) (
 none) (
 some ((Int.tmod (IntKind.wrap .i64 (r.2.2.1+i)) (((List.length r.2.1):Nat):Int)),r)):=by kernel_rfl
theorem m1y (n:Nat) (c:c0j):p0l (n+1) c =
 some ((decide (c.1=0))&&((decide (c.2.1.1=0))&&((decide (c.2.1.2.1=0))&&((decide (c.2.1.2.2.1=0))&&((c.2.1.2.2.2==false)&&((decide (c.2.2.1.1=0))&&((decide (c.2.2.1.2.1=0))&&((decide (c.2.2.1.2.2.1=0))&&((c.2.2.1.2.2.2==false)&&((decide (c.2.2.2.1.1=0))&&((decide (c.2.2.2.1.2=0))&&((decide (c.2.2.2.2.1=0))&&((decide (c.2.2.2.2.2.1=0))&&(decide (c.2.2.2.2.2.2=0))))))))))))))):=by kernel_rfl
theorem m1z (n:Nat) (a:c0j) (b:c0j):n1a (n+1) a b =
 a0a (n0n n a.2.2.1 b.2.1) fun r0 =>
 tif ((!(decide (r0.2=0)))) (
 some ((0,((0,(0,(0,false))),((0,(0,(0,false))),((0,0),(0,(0,0)))))),r0.2)) (
 a0a (e1s n (a.2.2.2.1::(r0.1.2.2.2.1::(b.2.2.2.1::[])))) fun r1 =>
 some (((IntKind.wrap .i64 (a.1+b.1)),(a.2.1,(b.2.2.1,(r1.1,((IntKind.wrap .i64 (r0.1.2.2.2.2.1+(IntKind.wrap .i64 (a.2.2.2.2.1+b.2.2.2.2.1)))),((IntKind.wrap .i64 (r0.1.2.2.2.2.2.1+(IntKind.wrap .i64 (a.2.2.2.2.2.1+b.2.2.2.2.2.1)))),(IntKind.wrap .i64 (r0.1.2.2.2.2.2.2+(IntKind.wrap .i64 (a.2.2.2.2.2.2+b.2.2.2.2.2.2)))))))))),r1.2)):=by kernel_rfl
end Go.Proofs.YtfibfcjepngbmaaGreatDoor
