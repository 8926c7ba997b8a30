/- Trees, printed by program. -/
import Derived.Test.YtojobamheigpbaaGreatDoorTr0
import Derived.KernelRfl
set_option linter.unusedVariables false
namespace Go.Proofs.YtojobamheigpbaaGreatDoor
open Go.Flat
theorem k1a (n:Nat) (c:a0x) (l:(List a0p)) (q:TAsk):g1a (n+1) c l q =
 a0a (k0b n ) fun r0 =>
 tif ((!r0)) (
 some false) (
 a0a (i0w n c) fun r1 =>
 tif ((!r1)) (
 some true) (
 a0a (e0m n l) fun r2 =>
 tif ((!r2)) (
 some true) (
 a0a (m0x n q.1) fun r3 =>
 tif ((decide (r3=0))) (
 some true) (
 a0a (m0f n c) fun r4 =>
 a0a (r0z n ) fun r5 =>
 tif ((!(decide (r4.2=0)))) (
 some false) (
 a0a (f0m n a0b (q,(r4.1,(r5,(l,((((List.length l):Nat):Int),(0,()))))))) fun r6 =>
 b0u (fun y7 =>
 some true) (fun z8 =>
 some z8) r6))))):=by kernel_rfl
theorem n0r (n f:Nat) (q_:TAsk) (s:a0l) (b:((List (List UInt8))×(List (List UInt8×((List (List UInt8×List UInt8))×(List a0i)))))) (s46:(List a0p)) (s47:Int) (s48:Int):f0m n (f+1) (q_,s,b,s46,s47,s48,()) =
 tif ((decide (s48<s47))) (
 a0a (at? s46 s48) fun r0 =>
 a0a (i0y n r0 s) fun r1 =>
 a0a (h0e n b r0 r1.2) fun r2 =>
 tif ((!r2.1)) (
 some (.inr false)) (
 a0a (r0i n r1.1 q_) fun r3 =>
 tif ((!(decide (r3.2=0)))) (
 f0m n f (q_,(r1.1,(r2.2,(s46,(s47,((IntKind.wrap .i64 (s48+1)),()))))))) (
 a0a (u0x n r3.1.2.1) fun r4 =>
 a0a (d0b n r2.2 q_.1 q_.2.2.1 q_.2.2.2) fun r5 =>
 tif ((!((decide (r3.1.2.1.1=r5.1.1))&&((decide (r3.1.2.1.2.1.1=r5.1.2.1.1))&&((decide (r3.1.2.1.2.1.2.1=r5.1.2.1.2.1))&&((decide (r3.1.2.1.2.1.2.2.1=r5.1.2.1.2.2.1))&&((r3.1.2.1.2.1.2.2.2==r5.1.2.1.2.2.2)&&((decide (r3.1.2.1.2.2.1.1=r5.1.2.2.1.1))&&((decide (r3.1.2.1.2.2.1.2.1=r5.1.2.2.1.2.1))&&((decide (r3.1.2.1.2.2.1.2.2.1=r5.1.2.2.1.2.2.1))&&((r3.1.2.1.2.2.1.2.2.2==r5.1.2.2.1.2.2.2)&&((decide (r3.1.2.1.2.2.2.1.1=r5.1.2.2.2.1.1))&&((decide (r3.1.2.1.2.2.2.1.2=r5.1.2.2.2.1.2))&&((decide (r3.1.2.1.2.2.2.2.1=r5.1.2.2.2.2.1))&&((decide (r3.1.2.1.2.2.2.2.2.1=r5.1.2.2.2.2.2.1))&&(decide (r3.1.2.1.2.2.2.2.2.2=r5.1.2.2.2.2.2.2))))))))))))))))) (
 some (.inr false)) (
 tif ((!((decide (r3.1.2.2.1.1.1=r4.1.1.1))&&((decide (r3.1.2.2.1.1.2=r4.1.1.2))&&((decide (r3.1.2.2.1.2.1=r4.1.2.1))&&(decide (r3.1.2.2.1.2.2=r4.1.2.2))))))) (
 some (.inr false)) (
 tif ((!(decide (r3.1.2.2.2=r4.2)))) (
 some (.inr false)) (
 f0m n f (q_,(r1.1,(r5.2,(s46,(s47,((IntKind.wrap .i64 (s48+1)),())))))))))))) (
 some (.inl ())):=by kernel_rfl
theorem n1x (n:Nat) (c:a0x) (l:(List a0p)) (labels:(List (List UInt8×List UInt8))) (from_:Int) (to:Int):l1m (n+1) c l labels from_ to =
 a0a (k0b n ) fun r0 =>
 tif ((!r0)) (
 some false) (
 a0a (i0w n c) fun r1 =>
 tif ((!r1)) (
 some true) (
 a0a (e0m n l) fun r2 =>
 tif ((!r2)) (
 some true) (
 a0a (m0x n labels) fun r3 =>
 tif ((decide (r3=0))) (
 some true) (
 a0a (m0f n c) fun r4 =>
 a0a (r0z n ) fun r5 =>
 tif ((!(decide (r4.2=0)))) (
 some false) (
 a0a (j0v n a0b (labels,(from_,(to,(r4.1,(r5,(l,((((List.length l):Nat):Int),(0,()))))))))) fun r6 =>
 b0u (fun y7 =>
 a0a (n0m n y7.2.2.2.1 y7.2.1 y7.2.2.1) fun r8 =>
 tif ((!(decide (r8.2.2.2=0)))) (
 tif ((decide (r8.1=0))) (
 tif ((decide (r8.2.1=0))) (
 some (decide (r8.2.2.1=0))) (
 some false)) (
 some false)) (
 tif ((decide (r8.1<1))) (
 some false) (
 tif ((decide ((3:Int)<r8.1))) (
 some false) (
 tif ((decide (r8.2.1<y7.2.1))) (
 some false) (
 tif ((decide (y7.2.2.1<r8.2.2.1))) (
 some false) (
 tif ((decide (r8.2.2.1≤r8.2.1))) (
 some false) (
 a0a (j0u n a0b (y7.1,(y7.2.1,(y7.2.2.1,(y7.2.2.2.1,(y7.2.2.2.2.1,(r8.1,(r8.2.1,(r8.2.2.1,(1,())))))))))) fun r9 =>
 b0u (fun y10 =>
 a0a (r0i n y10.2.1 (y10.1,(y10.2.2.2.1,(y10.2.2.2.2.1,y10.2.2.2.2.2.1)))) fun r11 =>
 tif ((!(decide (r11.2=0)))) (
 some (decide (r11.2=8))) (
 a0a (d0b n y10.2.2.1 y10.1 y10.2.2.2.2.1 y10.2.2.2.2.2.1) fun r12 =>
 some ((decide (r11.1.2.1.1=r12.1.1))&&((decide (r11.1.2.1.2.1.1=r12.1.2.1.1))&&((decide (r11.1.2.1.2.1.2.1=r12.1.2.1.2.1))&&((decide (r11.1.2.1.2.1.2.2.1=r12.1.2.1.2.2.1))&&((r11.1.2.1.2.1.2.2.2==r12.1.2.1.2.2.2)&&((decide (r11.1.2.1.2.2.1.1=r12.1.2.2.1.1))&&((decide (r11.1.2.1.2.2.1.2.1=r12.1.2.2.1.2.1))&&((decide (r11.1.2.1.2.2.1.2.2.1=r12.1.2.2.1.2.2.1))&&((r11.1.2.1.2.2.1.2.2.2==r12.1.2.2.1.2.2.2)&&((decide (r11.1.2.1.2.2.2.1.1=r12.1.2.2.2.1.1))&&((decide (r11.1.2.1.2.2.2.1.2=r12.1.2.2.2.1.2))&&((decide (r11.1.2.1.2.2.2.2.1=r12.1.2.2.2.2.1))&&((decide (r11.1.2.1.2.2.2.2.2.1=r12.1.2.2.2.2.2.1))&&(decide (r11.1.2.1.2.2.2.2.2.2=r12.1.2.2.2.2.2.2))))))))))))))))) (fun z13 =>
 some z13) r9))))))) (fun z14 =>
 some z14) r6))))):=by kernel_rfl
theorem p0e (n f:Nat) (labels:(List (List UInt8×List UInt8))) (from_:Int) (to:Int) (s:a0l) (b:((List (List UInt8))×(List (List UInt8×((List (List UInt8×List UInt8))×(List a0i)))))) (s55:(List a0p)) (s56:Int) (s57:Int):j0v n (f+1) (labels,from_,to,s,b,s55,s56,s57,()) =
 tif ((decide (s57<s56))) (
 a0a (at? s55 s57) fun r0 =>
 a0a (i0y n r0 s) fun r1 =>
 a0a (h0e n b r0 r1.2) fun r2 =>
 tif ((!r2.1)) (
 some (.inr false)) (
 j0v n f (labels,(from_,(to,(r1.1,(r2.2,(s55,(s56,((IntKind.wrap .i64 (s57+1)),())))))))))) (
 some (.inl (labels,(from_,(to,(s,(b,()))))))):=by kernel_rfl
theorem p0d (n f:Nat) (labels:(List (List UInt8×List UInt8))) (from_:Int) (to:Int) (s:a0l) (b:((List (List UInt8))×(List (List UInt8×((List (List UInt8×List UInt8))×(List a0i)))))) (k:Int) (from2:Int) (to2:Int) (i:Int):j0u n (f+1) (labels,from_,to,s,b,k,from2,to2,i,()) =
 tif ((decide (i<k))) (
 a0a (v0h n s i from_ to) fun r0 =>
 tif ((!(decide (r0.2.2=3)))) (
 some (.inr false)) (
 j0u n f (labels,(from_,(to,(s,(b,(k,(from2,(to2,((IntKind.wrap .i64 (i+1)),()))))))))))) (
 some (.inl (labels,(s,(b,(k,(from2,(to2,())))))))):=by kernel_rfl
theorem j1z (n:Nat) (c:a0x) (l:(List a0p)) (ms:(List (Int×(List UInt8×List UInt8)))) (tier:Int) (from_:Int) (to:Int):f1z (n+1) c l ms tier from_ to =
 a0a (k0b n ) fun r0 =>
 tif ((!r0)) (
 some false) (
 a0a (i0w n c) fun r1 =>
 tif ((!r1)) (
 some true) (
 a0a (e0m n l) fun r2 =>
 tif ((!r2)) (
 some true) (
 a0a (z0n n ms) fun r3 =>
 tif ((decide (r3=0))) (
 some true) (
 a0a (m0f n c) fun r4 =>
 a0a (r0z n ) fun r5 =>
 tif ((!(decide (r4.2=0)))) (
 some false) (
 a0a (h0x n a0b (ms,(tier,(from_,(to,(r4.1,(r5,(l,((((List.length l):Nat):Int),(0,())))))))))) fun r6 =>
 b0u (fun y7 =>
 a0a (n1v n y7.2.2.2.2.1 y7.1 y7.2.1 y7.2.2.1 y7.2.2.2.1) fun r8 =>
 tif ((!(decide (r8.2=0)))) (
 some ((decide (r8.1.1=0))&&((decide (r8.1.2.1=0))&&((decide (r8.1.2.2.1=0))&&((decide (r8.1.2.2.2.1.1=0))&&((decide (r8.1.2.2.2.1.2=0))&&((decide (r8.1.2.2.2.2.1=0))&&((decide (r8.1.2.2.2.2.2.1=0))&&(decide (r8.1.2.2.2.2.2.2=0)))))))))) (
 a0a (s0a n y7.2.2.2.2.2.1) fun r9 =>
 a0a (e0d n a0b (y7.1,(y7.2.2.1,(y7.2.2.2.1,(r9.2,(r8.1,((r8.1.1,(0,(0,((0,0),(0,(0,0)))))),(r9.1,((((List.length r9.1):Nat):Int),(0,())))))))))) fun r10 =>
 b0u (fun y11 =>
 some ((decide (y11.1.1=y11.2.1.1))&&((decide (y11.1.2.1=y11.2.1.2.1))&&((decide (y11.1.2.2.1=y11.2.1.2.2.1))&&((decide (y11.1.2.2.2.1.1=y11.2.1.2.2.2.1.1))&&((decide (y11.1.2.2.2.1.2=y11.2.1.2.2.2.1.2))&&((decide (y11.1.2.2.2.2.1=y11.2.1.2.2.2.2.1))&&((decide (y11.1.2.2.2.2.2.1=y11.2.1.2.2.2.2.2.1))&&(decide (y11.1.2.2.2.2.2.2=y11.2.1.2.2.2.2.2.2)))))))))) (fun z12 =>
 some z12) r10)) (fun z13 =>
 some z13) r6))))):=by kernel_rfl
theorem n0q (n f:Nat) (ms:(List (Int×(List UInt8×List UInt8)))) (tier:Int) (from_:Int) (to:Int) (s:a0l) (b:((List (List UInt8))×(List (List UInt8×((List (List UInt8×List UInt8))×(List a0i)))))) (s55:(List a0p)) (s56:Int) (s57:Int):h0x n (f+1) (ms,tier,from_,to,s,b,s55,s56,s57,()) =
 tif ((decide (s57<s56))) (
 a0a (at? s55 s57) fun r0 =>
 a0a (i0y n r0 s) fun r1 =>
 a0a (h0e n b r0 r1.2) fun r2 =>
 tif ((!r2.1)) (
 some (.inr false)) (
 h0x n f (ms,(tier,(from_,(to,(r1.1,(r2.2,(s55,(s56,((IntKind.wrap .i64 (s57+1)),()))))))))))) (
 some (.inl (ms,(tier,(from_,(to,(s,(b,())))))))):=by kernel_rfl
theorem n0p (n f:Nat) (ms:(List (Int×(List UInt8×List UInt8)))) (from_:Int) (to:Int) (b:((List (List UInt8))×(List (List UInt8×((List (List UInt8×List UInt8))×(List a0i)))))) (got:h0s) (want:h0s) (s92:(List (List (List UInt8×List UInt8)))) (s93:Int) (s94:Int):e0d n (f+1) (ms,from_,to,b,got,want,s92,s93,s94,()) =
 tif ((decide (s94<s93))) (
 a0a (at? s92 s94) fun r0 =>
 a0a (d0b n b r0 from_ to) fun r1 =>
 tif ((decide (r1.1.1=0))) (
 e0d n f (ms,(from_,(to,(r1.2,(got,(want,(s92,(s93,((IntKind.wrap .i64 (s94+1)),())))))))))) (
 a0a (z0k n ms r0) fun r2 =>
 tif ((!r2)) (
 e0d n f (ms,(from_,(to,(r1.2,(got,(want,(s92,(s93,((IntKind.wrap .i64 (s94+1)),())))))))))) (
 a0a (x0s n want.2.2.2.1 r1.1.2.2.2.1) fun r3 =>
 tif ((!(decide (r3.2=0)))) (
 some (.inr false)) (
 e0d n f (ms,(from_,(to,(r1.2,(got,((want.1,((IntKind.wrap .i64 (want.2.1+1)),((IntKind.wrap .i64 (want.2.2.1+r1.1.1)),(r3.1,((IntKind.wrap .i64 (want.2.2.2.2.1+r1.1.2.2.2.2.1)),((IntKind.wrap .i64 (want.2.2.2.2.2.1+r1.1.2.2.2.2.2.1)),(IntKind.wrap .i64 (want.2.2.2.2.2.2+r1.1.2.2.2.2.2.2)))))))),(s92,(s93,((IntKind.wrap .i64 (s94+1)),()))))))))))))) (
 some (.inl (got,(want,())))):=by kernel_rfl
theorem g1b (n:Nat) (c:a0x) (l:(List a0p)) (w:j1r):c1r (n+1) c l w =
 a0a (s0t n ) fun r0 =>
 tif ((!r0)) (
 some false) (
 a0a (i0w n c) fun r1 =>
 tif ((!r1)) (
 some true) (
 a0a (e0m n l) fun r2 =>
 tif ((!r2)) (
 some true) (
 a0a (m0x n w.1.1) fun r3 =>
 tif ((decide (r3=0))) (
 some true) (
 a0a (m0f n c) fun r4 =>
 a0a (r0z n ) fun r5 =>
 tif ((!(decide (r4.2=0)))) (
 some false) (
 a0a (g0u n a0b (w,(r4.1,(r5,(l,((((List.length l):Nat):Int),(0,()))))))) fun r6 =>
 b0u (fun y7 =>
 a0a (s0s n y7.2.1 y7.1) fun r8 =>
 a0a (j0j n y7.1.2) fun r9 =>
 tif ((!(decide (r9=0)))) (
 tif ((!r8.1)) (
 some (decide (r8.2=2))) (
 some false)) (
 a0a (r0i n y7.2.1 y7.1.1) fun r10 =>
 tif ((!(decide (r10.2=0)))) (
 tif ((!r8.1)) (
 some (decide (r8.2=r10.2))) (
 some false)) (
 a0a (d0b n y7.2.2.1 y7.1.1.1 y7.1.1.2.2.1 y7.1.1.2.2.2) fun r11 =>
 tif ((decide (r11.1.2.2.2.2.2.2<1))) (
 tif ((!r8.1)) (
 some (decide (r8.2=12))) (
 some false)) (
 a0a (u0v n r11.1.2.2.2.1 (IntKind.wrap .u64 r11.1.2.2.2.2.2.2)) fun r12 =>
 a0a (p0o n r12.1 y7.1.2) fun r13 =>
 tif ((decide (r12.2=0))) (
 tif ((decide (r8.2=r13.2))) (
 tif ((decide (r13.2=0))) (
 some (r8.1==(!r13.1))) (
 some (r8.1==false))) (
 some false)) (
 some false))))) (fun z14 =>
 some z14) r6))))):=by kernel_rfl
theorem l0y (n f:Nat) (w_:j1r) (s:a0l) (b:((List (List UInt8))×(List (List UInt8×((List (List UInt8×List UInt8))×(List a0i)))))) (s52:(List a0p)) (s53:Int) (s54:Int):g0u n (f+1) (w_,s,b,s52,s53,s54,()) =
 tif ((decide (s54<s53))) (
 a0a (at? s52 s54) fun r0 =>
 a0a (i0y n r0 s) fun r1 =>
 a0a (h0e n b r0 r1.2) fun r2 =>
 tif ((!r2.1)) (
 some (.inr false)) (
 g0u n f (w_,(r1.1,(r2.2,(s52,(s53,((IntKind.wrap .i64 (s54+1)),())))))))) (
 some (.inl (w_,(s,(b,()))))):=by kernel_rfl
theorem n1w (n:Nat) (c:a0x):i0w (n+1) c =
 a0a (m0f n c) fun r0 =>
 tif ((decide (r0.2=0))) (
 tif ((decide ((((List.length r0.1.2.2.2):Nat):Int)≤8))) (
 tif ((decide (c.1≤60))) (
 tif ((decide (c.2.2.1.1≤40))) (
 tif ((decide (c.2.2.1.2.1≤40))) (
 some (decide (c.2.2.1.2.2≤40))) (
 some false)) (
 some false)) (
 some false)) (
 some false)) (
 some false):=by kernel_rfl
theorem d1o (n:Nat) (l:(List a0p)):e0m (n+1) l =
 tif ((decide ((40:Int)<(((List.length l):Nat):Int)))) (
 some false) (
 a0a (e0v n a0b (l,((((List.length l):Nat):Int),(0,())))) fun r0 =>
 b0u (fun y1 =>
 some true) (fun z2 =>
 some z2) r0):=by kernel_rfl
theorem l0x (n f:Nat) (s8:(List a0p)) (s9:Int) (s10:Int):e0v n (f+1) (s8,s9,s10,()) =
 tif ((decide (s10<s9))) (
 a0a (at? s8 s10) fun r0 =>
 a0a (m0x n r0.2.1.1) fun r1 =>
 tif ((decide (r1=0))) (
 some (.inr false)) (
 e0v n f (s8,(s9,((IntKind.wrap .i64 (s10+1)),()))))) (
 some (.inl ())):=by kernel_rfl
theorem f2f (n:Nat) (c:a0x):m0f (n+1) c =
 a0a (a1a n c) fun r0 =>
 tif ((!(decide (r0.2=0)))) (
 some (((0,((0,(0,0)),((0,(0,0)),(0,0)))),(0,(0,[]))),r0.2)) (
 tif (((decide ((0:Int)≤c.2.2.2.1))&&((decide (c.2.2.2.1≤c.2.2.2.1))&&(decide ((c.2.2.2.1*264)≤140737488355328))))) (
 some ((c,(0,(((-1):Int),(List.replicate (Int.toNat c.2.2.2.1) ([],(0,((0,(0,[])),(([],([],[])),(0,(0,((0,(0,(0,false))),((0,(0,(0,false))),((0,0),(0,(0,0))))))))))))))),0)) (
 none)):=by kernel_rfl
theorem r0y (n:Nat)  : r0z (n+1)  =
 some ([],[]):=by kernel_rfl
theorem n1y (n:Nat) (a:a0p) (s:a0l):i0y (n+1) a s =
 tif ((decide (a.1=0))) (
 a0a (f1q n s a.2.1.1 a.2.1.2) fun r0 =>
 tif ((decide (r0.2=0))) (
 some r0) (
 some (s,r0.2))) (
 tif ((decide (a.1=1))) (
 a0a (r1n n s a.2.2) fun r1 =>
 some (r1.1,0)) (
 tif ((decide (a.1=2))) (
 a0a (o1i n s) fun r2 =>
 tif ((decide (r2.2.2=0))) (
 some (r2.1,0)) (
 some (s,0))) (
 tif ((decide (a.1=3))) (
 a0a (w0t n s) fun r3 =>
 tif ((decide (r3.2=0))) (
 some (r3.1,0)) (
 some (s,0))) (
 some (s,0))))):=by kernel_rfl
theorem x0w (n:Nat) (b:((List (List UInt8))×(List (List UInt8×((List (List UInt8×List UInt8))×(List a0i)))))) (a:a0p) (why:Int):h0e (n+1) b a why =
 tif ((!(decide (a.1=0)))) (
 some (true,b)) (
 tif ((!(decide (why=0)))) (
 some (true,b)) (
 a0a (i0k n b a.2.1.1 a.2.1.2) fun r0 =>
 some ((decide (r0.1=0)),r0.2))):=by kernel_rfl
theorem e1l (n:Nat) (b:((List (List UInt8))×(List (List UInt8×((List (List UInt8×List UInt8))×(List a0i)))))):s0a (n+1) b =
 a0a (g0w n a0b (b,([],((((List.length b.1):Nat):Int),(0,()))))) fun r0 =>
 b0u (fun y1 =>
 some (y1.2.1,y1.1)) (fun z2 =>
 some z2) r0:=by kernel_rfl
theorem m0y (n f:Nat) (b:((List (List UInt8))×(List (List UInt8×((List (List UInt8×List UInt8))×(List a0i)))))) (out:(List (List (List UInt8×List UInt8)))) (s10:Int) (s11:Int):g0w n (f+1) (b,out,s10,s11,()) =
 tif ((decide (s11<s10))) (
 a0a (at? b.1 s11) fun r0 =>
 a0a ((b.1)[(Int.toNat s11)]?) fun r1 =>
 a0a (mget .str (.ref (.wrap (.pair (.slice (.wrap (.pair .str .str))) (.own (.wrap (.pair (.int .i64) (.pair (.int .u64) (.pair (.int .i64) .bool)))))))) b.2 r1 0) fun r2 =>
 a0a (f0b n r2.2.1) fun r3 =>
 tif ((decide ((((List.length out)+1)*24)≤140737488355328))) (
 g0w n f ((b.1,(mset .str (.ref (.wrap (.pair (.slice (.wrap (.pair .str .str))) (.own (.wrap (.pair (.int .i64) (.pair (.int .u64) (.pair (.int .i64) .bool)))))))) b.2 r2.1 r2.2)),((out++(r3::[])),(s10,((IntKind.wrap .i64 (s11+1)),()))))) (
 none)) (
 some (.inl (b,(out,())))):=by kernel_rfl
theorem v1m (n:Nat) (l:(List (List UInt8×List UInt8))):m0x (n+1) l =
 a0a (k0g n a0b (l,((((List.length l):Nat):Int),(0,())))) fun r0 =>
 b0u (fun y1 =>
 some (1:Int)) (fun z2 =>
 some z2) r0:=by kernel_rfl
theorem t0s (n f:Nat) (s5:(List (List UInt8×List UInt8))) (s6:Int) (s7:Int):k0g n (f+1) (s5,s6,s7,()) =
 tif ((decide (s7<s6))) (
 a0a (at? s5 s7) fun r0 =>
 tif ((decide (s7=40))) (
 some (.inr (0:Int))) (
 tif ((decide ((1000:Int)<(((List.length r0.1):Nat):Int)))) (
 some (.inr (0:Int))) (
 tif ((decide ((1000:Int)<(((List.length r0.2):Nat):Int)))) (
 some (.inr (0:Int))) (
 k0g n f (s5,(s6,((IntKind.wrap .i64 (s7+1)),()))))))) (
 some (.inl ())):=by kernel_rfl
theorem z1a (n:Nat) (s:a0l) (a:TAsk):r0i (n+1) s a =
 a0a (h1j n s a.1) fun r0 =>
 tif ((!(decide (r0=0)))) (
 some ((0,((0,((0,(0,(0,false))),((0,(0,(0,false))),((0,0),(0,(0,0)))))),(((0,0),(0,0)),0))),r0)) (
 a0a (u0w n s a.2.1 a.2.2.1 a.2.2.2) fun r1 =>
 tif ((!(decide (r1.2=0)))) (
 some ((0,((0,((0,(0,(0,false))),((0,(0,(0,false))),((0,0),(0,(0,0)))))),(((0,0),(0,0)),0))),r1.2)) (
 a0a (p1n n s a (IntKind.wrap .i64 (r1.1-1))) fun r2 =>
 tif ((!(decide (r2.2=0)))) (
 some ((0,((0,((0,(0,(0,false))),((0,(0,(0,false))),((0,0),(0,(0,0)))))),(((0,0),(0,0)),0))),r2.2)) (
 a0a (u0x n r2.1) fun r3 =>
 some ((r1.1,(r2.1,r3)),0)))):=by kernel_rfl
theorem p1q (n:Nat) (c:b0p):u0x (n+1) c =
 tif ((decide (c.2.2.2.2.2.2<1))) (
 some (((0,0),(0,0)),12)) (
 a0a (u0v n c.2.2.2.1 (IntKind.wrap .u64 c.2.2.2.2.2.2)) fun r0 =>
 some r0):=by kernel_rfl
theorem c1b (n:Nat) (b:((List (List UInt8))×(List (List UInt8×((List (List UInt8×List UInt8))×(List a0i)))))) (l:(List (List UInt8×List UInt8))) (from_:Int) (to:Int):d0b (n+1) b l from_ to =
 a0a (k0n n b l) fun r0 =>
 a0a (d0h n r0.1 (fun y1=>d0l n y1.1 from_ to)) fun r2 =>
 a0a (a2s n r2) fun r3 =>
 some (r3.1,r0.2):=by kernel_rfl
theorem l1h (n:Nat) (s:a0l) (from_:Int) (to:Int):n0m (n+1) s from_ to =
 a0a (p0a n a0b (from_,(to,(s,(3,(1,())))))) fun r0 =>
 b0u (fun y1 =>
 some (0,(0,(0,y1.1)))) (fun z2 =>
 some z2) r0:=by kernel_rfl
theorem g0h (n f:Nat) (from_:Int) (to:Int) (s_:a0l) (why:Int) (tier:Int):p0a n (f+1) (from_,to,s_,why,tier,()) =
 tif ((decide (why=3))) (
 tif ((decide (tier≤3))) (
 a0a (v0h n s_ tier from_ to) fun r0 =>
 tif ((decide (r0.2.2=0))) (
 some (.inr (tier,r0))) (
 p0a n f (from_,(to,(s_,(r0.2.2,((IntKind.wrap .i64 (tier+1)),()))))))) (
 some (.inl (why,())))) (
 some (.inl (why,()))):=by kernel_rfl
theorem s1h (n:Nat) (s:a0l) (tier:Int) (from_:Int) (to:Int):v0h (n+1) s tier from_ to =
 a0a (j1l n s tier from_ to) fun r0 =>
 tif ((!(decide (r0.2=0)))) (
 some (0,(0,r0.2))) (
 a0a (t0y n r0.1 from_) fun r1 =>
 tif ((decide (r0.1.1=0))) (
 none) (
 tif ((decide ((IntKind.wrap .i64 (Int.tdiv to r0.1.1))≤(if r1<r0.1.2.1 then r0.1.2.1 else r1)))) (
 some (0,(0,3))) (
 a0a (n0l n r0.1 (if r1<r0.1.2.1 then r0.1.2.1 else r1) (IntKind.wrap .i64 (Int.tdiv to r0.1.1))) fun r2 =>
 some r2))):=by kernel_rfl
theorem v1l (n:Nat) (l:(List (Int×(List UInt8×List UInt8)))):z0n (n+1) l =
 a0a (k0f n a0b (l,((((List.length l):Nat):Int),(0,())))) fun r0 =>
 b0u (fun y1 =>
 some (1:Int)) (fun z2 =>
 some z2) r0:=by kernel_rfl
theorem t0r (n f:Nat) (s5:(List (Int×(List UInt8×List UInt8)))) (s6:Int) (s7:Int):k0f n (f+1) (s5,s6,s7,()) =
 tif ((decide (s7<s6))) (
 a0a (at? s5 s7) fun r0 =>
 tif ((decide (s7=40))) (
 some (.inr (0:Int))) (
 tif ((decide ((1000:Int)<(((List.length r0.2.1):Nat):Int)))) (
 some (.inr (0:Int))) (
 tif ((decide ((1000:Int)<(((List.length r0.2.2):Nat):Int)))) (
 some (.inr (0:Int))) (
 k0f n f (s5,(s6,((IntKind.wrap .i64 (s7+1)),()))))))) (
 some (.inl ())):=by kernel_rfl
theorem x1g (n:Nat) (s:a0l) (ms:(List (Int×(List UInt8×List UInt8)))) (tier:Int) (from_:Int) (to:Int):n1v (n+1) s ms tier from_ to =
 a0a (w0q n s ms tier from_ to) fun r0 =>
 tif ((!(decide (r0.2.2=0)))) (
 some ((0,(0,(0,((0,0),(0,(0,0)))))),r0.2.2)) (
 a0a (l0w n a0b ((0,(0,(0,((0,0),(0,(0,0)))))),(r0.2.1,((r0.2.1,(0,(0,((0,0),(0,(0,0)))))),(r0.1,((((List.length r0.1):Nat):Int),(0,()))))))) fun r1 =>
 b0u (fun y2 =>
 some (y2.2.1,0)) (fun z3 =>
 some z3) r1):=by kernel_rfl
theorem v0y (n f:Nat) (s10:h0s) (k:Int) (sum:h0s) (s34:(List h0b)) (s35:Int) (s36:Int):l0w n (f+1) (s10,k,sum,s34,s35,s36,()) =
 tif ((decide (s36<s35))) (
 a0a (at? s34 s36) fun r0 =>
 a0a ((s34)[(Int.toNat s36)]?) fun r1 =>
 a0a (s1z n k r1.2.2.1) fun r2 =>
 a0a (x0v n sum r2) fun r3 =>
 tif ((!(decide (r3.2=0)))) (
 some (.inr ((0,(0,(0,((0,0),(0,(0,0)))))),r3.2))) (
 l0w n f (s10,(k,(r3.1,(s34,(s35,((IntKind.wrap .i64 (s36+1)),())))))))) (
 some (.inl (s10,(sum,())))):=by kernel_rfl
theorem v1h (n:Nat) (ms:(List (Int×(List UInt8×List UInt8)))) (l:(List (List UInt8×List UInt8))):z0k (n+1) ms l =
 a0a (c0x n ms (fun y0=>x0d n y0.1 l)) fun r1 =>
 some (!r1):=by kernel_rfl
theorem x1a (n:Nat) (a:(Int×Int)) (b:(Int×Int)):x0s (n+1) a b =
 tif (((decide ((0:Int)≤a.2))&&((decide ((0:Int)≤b.2))&&true))) (
 tif (((decide ((0:Int)≤a.1))&&((decide ((0:Int)≤b.1))&&((decide ((0:Int)≤(((a.2+b.2)+0) / (18446744073709551616:Int))))&&(decide ((((a.2+b.2)+0) / (18446744073709551616:Int))≤1)))))) (
 a0a (s0p n ((((a.1+b.1)+(((a.2+b.2)+0) / (18446744073709551616:Int))) % (18446744073709551616:Int)),(((a.2+b.2)+0) % (18446744073709551616:Int))) (((a.1+b.1)+(((a.2+b.2)+0) / (18446744073709551616:Int))) / (18446744073709551616:Int))) fun r0 =>
 some r0) (
 none)) (
 none):=by kernel_rfl
theorem s1t (n:Nat) (s:a0l) (w:j1r):s0s (n+1) s w =
 a0a (d0m n s) fun r0 =>
 tif ((!(decide (r0=0)))) (
 some (false,2)) (
 a0a (j0j n w.2) fun r1 =>
 tif ((!(decide (r1=0)))) (
 some (false,2)) (
 a0a (r0i n s w.1) fun r2 =>
 tif ((decide (r2.2=0))) (
 tif ((!(decide (r2.1.2.2.2=0)))) (
 some (false,r2.1.2.2.2)) (
 a0a (p0o n r2.1.2.2.1 w.2) fun r3 =>
 tif ((decide (r3.2=0))) (
 some ((!r3.1),r3.2)) (
 some (false,r3.2)))) (
 tif ((!(decide (r2.2=0)))) (
 some (false,r2.2)) (
 a0a (p0o n r2.1.2.2.1 w.2) fun r4 =>
 tif ((decide (r4.2=0))) (
 some ((!r4.1),r4.2)) (
 some (false,r4.2)))))):=by kernel_rfl
theorem k1l (n:Nat) (f_:f0s):j0j (n+1) f_ =
 a0a (j0h n f_.2) fun r0 =>
 tif (r0) (
 some (2:Int)) (
 a0a (y0v n f_.1 f_.2) fun r1 =>
 a0a (s0q n (1:Int)) fun r2 =>
 tif ((!((decide (r1.1=r2.1))&&(decide (r1.2=r2.2))))) (
 some (2:Int)) (
 some (0:Int))):=by kernel_rfl
theorem p1l (n:Nat) (inc:(Int×Int)) (ms:Int):u0v (n+1) inc ms =
 tif ((decide (ms=0))) (
 some (((0,0),(0,0)),12)) (
 a0a (l0l n inc (1000:Int)) fun r0 =>
 tif ((!(decide (r0.2=0)))) (
 some (((0,0),(0,0)),r0.2)) (
 a0a (s0q n ms) fun r1 =>
 a0a (t0i n r0.1 r1) fun r2 =>
 some r2)):=by kernel_rfl
theorem p1m (n:Nat) (a:f0s) (b:f0s):p0o (n+1) a b =
 a0a (j0j n a) fun r0 =>
 tif ((!(decide (r0=0)))) (
 some (false,2)) (
 a0a (j0j n b) fun r1 =>
 tif ((!(decide (r1=0)))) (
 some (false,2)) (
 a0a (r0g n a.1 b.2) fun r2 =>
 a0a (r0g n b.1 a.2) fun r3 =>
 tif ((!(decide (r2.2=0)))) (
 some (false,1)) (
 tif ((!(decide (r3.2=0)))) (
 some (false,1)) (
 a0a (j0y n r2.1 r3.1) fun r4 =>
 some (r4,0))))):=by kernel_rfl
theorem d1k (n:Nat) (c:a0x):a1a (n+1) c =
 a0a (d0d n c) fun r0 =>
 tif ((!(decide (r0=0)))) (
 some (0,r0)) (
 a0a (j1b n c) fun r1 =>
 a0a (c1d n c) fun r2 =>
 tif ((decide ((16777216:Int)<(IntKind.wrap .i64 ((IntKind.wrap .i64 (r1+1))+(IntKind.wrap .i64 (c.2.2.2.1*r2))))))) (
 some (0,1)) (
 some ((IntKind.wrap .i64 ((IntKind.wrap .i64 (r1+1))+(IntKind.wrap .i64 (c.2.2.2.1*r2)))),0))):=by kernel_rfl
theorem s1l (n:Nat) (s:a0l) (l:(List (List UInt8×List UInt8))) (e:a0i):f1q (n+1) s l e =
 a0a (w0v n s l e) fun r0 =>
 tif ((!(decide (r0.2.2=0)))) (
 some (((0,((0,(0,0)),((0,(0,0)),(0,0)))),(0,(0,[]))),r0.2.2)) (
 a0a (f1p n s r0.1 r0.2.1 l) fun r1 =>
 tif ((!(decide (r1.2=0)))) (
 some (((0,((0,(0,0)),((0,(0,0)),(0,0)))),(0,(0,[]))),r1.2)) (
 a0a (b1g n s.1 r1.1 e) fun r2 =>
 tif ((!(decide (r2.2=0)))) (
 some (((0,((0,(0,0)),((0,(0,0)),(0,0)))),(0,(0,[]))),r2.2)) (
 a0a (m0j n s.2.2.2) fun r3 =>
 a0a (at? r3 r0.1) fun r4 =>
 a0a ((r3)[(Int.toNat r0.1)]?) fun r5 =>
 some ((s.1,(s.2.1,(s.2.2.1,(List.set r3 (Int.toNat r0.1) r2.1)))),0)))):=by kernel_rfl
theorem a2m (n:Nat) (s:a0l) (now:Int):r1n (n+1) s now =
 tif ((decide (now≤s.2.1))) (
 some (s,false)) (
 tif ((decide ((35184372088832:Int)≤now))) (
 some (s,false)) (
 a0a (d0m n s) fun r0 =>
 tif ((!(decide (r0=0)))) (
 some (s,false)) (
 some ((s.1,(now,s.2.2)),true)))):=by kernel_rfl
theorem x1r (n:Nat) (s:a0l):o1i (n+1) s =
 a0a (d0m n s) fun r0 =>
 tif ((!(decide (r0=0)))) (
 some (((0,((0,(0,0)),((0,(0,0)),(0,0)))),(0,(0,[]))),(0,r0))) (
 a0a (g1l n s) fun r1 =>
 some ((s.1,(s.2.1,(s.2.1,s.2.2.2))),((((List.length r1):Nat):Int),0))):=by kernel_rfl
theorem k1c (n:Nat) (s:a0l):w0t (n+1) s =
 a0a (d0m n s) fun r0 =>
 tif ((!(decide (r0=0)))) (
 some (((0,((0,(0,0)),((0,(0,0)),(0,0)))),(0,(0,[]))),r0)) (
 tif (((decide ((0:Int)≤(((List.length s.2.2.2):Nat):Int)))&&((decide ((((List.length s.2.2.2):Nat):Int)≤(((List.length s.2.2.2):Nat):Int)))&&(decide (((((List.length s.2.2.2):Nat):Int)*264)≤140737488355328))))) (
 a0a (y0f n s) fun r1 =>
 a0a (g0p n a0b (s,(((0,((0,(0,0)),((0,(0,0)),(0,0)))),(0,(0,[]))),((List.replicate (Int.toNat (((List.length s.2.2.2):Nat):Int)) ([],(0,((0,(0,[])),(([],([],[])),(0,(0,((0,(0,(0,false))),((0,(0,(0,false))),((0,0),(0,(0,0)))))))))))),(r1,((((List.length r1):Nat):Int),(0,()))))))) fun r2 =>
 b0u (fun y3 =>
 some ((y3.1.1,(y3.1.2.1,(y3.1.2.2.1,y3.2.2.1))),0)) (fun z4 =>
 some z4) r2) (
 none)):=by kernel_rfl
theorem p0h (n f:Nat) (s_:a0l) (s2:a0l) (out:(List b0l)) (s24:(List Int)) (s25:Int) (s26:Int):g0p n (f+1) (s_,s2,out,s24,s25,s26,()) =
 tif ((decide (s26<s25))) (
 a0a (at? s24 s26) fun r0 =>
 a0a ((s24)[(Int.toNat s26)]?) fun r1 =>
 a0a (at? s_.2.2.2 r1) fun r2 =>
 a0a (b0z n a0b (s_,(s2,(out,(r1,(r2,(s24,(s25,(s26,(s_.1.2.1,(0,()))))))))))) fun r3 =>
 b0u (fun y4 =>
 a0a (at? y4.2.2.1 y4.2.2.2.1) fun r5 =>
 a0a ((y4.2.2.1)[(Int.toNat y4.2.2.2.1)]?) fun r6 =>
 g0p n f (y4.1,(y4.2.1,((List.set y4.2.2.1 (Int.toNat y4.2.2.2.1) y4.2.2.2.2.1),(y4.2.2.2.2.2.1,(y4.2.2.2.2.2.2.1,((IntKind.wrap .i64 (y4.2.2.2.2.2.2.2.1+1)),()))))))) (fun z7 =>
 some (.inr z7)) r3) (
 some (.inl (s_,(s2,(out,()))))):=by kernel_rfl
theorem v0o (n f:Nat) (s_:a0l) (s2:a0l) (out:(List b0l)) (i:Int) (x:b0l) (s24:(List Int)) (s25:Int) (s26:Int) (s37:(Int×(Int×Int))):b0z n (f+1) (s_,s2,out,i,x,s24,s25,s26,s37,0,()) =
 a0a (d0e n s_.2.1 s37.1 s_.1.2.2.1.1) fun r0 =>
 tif ((!(decide (r0.2=0)))) (
 some (.inr (((0,((0,(0,0)),((0,(0,0)),(0,0)))),(0,(0,[]))),r0.2))) (
 a0a (f0u n s_.1 x (0:Int) r0.1) fun r1 =>
 b0z n f (s_,(s2,(out,(i,((x.1,(x.2.1,(x.2.2.1,((r1,x.2.2.2.1.2),x.2.2.2.2)))),(s24,(s25,(s26,(s37,(1,()))))))))))):=by kernel_rfl
theorem v0n (n f:Nat) (s_:a0l) (s2:a0l) (out:(List b0l)) (i:Int) (x:b0l) (s24:(List Int)) (s25:Int) (s26:Int) (s37:(Int×(Int×Int))):b0z n (f+1) (s_,s2,out,i,x,s24,s25,s26,s37,1,()) =
 a0a (d0e n s_.2.1 s37.2.1 s_.1.2.2.1.2.1) fun r0 =>
 tif ((!(decide (r0.2=0)))) (
 some (.inr (((0,((0,(0,0)),((0,(0,0)),(0,0)))),(0,(0,[]))),r0.2))) (
 a0a (f0u n s_.1 x (1:Int) r0.1) fun r1 =>
 b0z n f (s_,(s2,(out,(i,((x.1,(x.2.1,(x.2.2.1,((x.2.2.2.1.1,(r1,x.2.2.2.1.2.2)),x.2.2.2.2)))),(s24,(s25,(s26,(s37,(2,()))))))))))):=by kernel_rfl
theorem v0m (n f:Nat) (s_:a0l) (s2:a0l) (out:(List b0l)) (i:Int) (x:b0l) (s24:(List Int)) (s25:Int) (s26:Int) (s37:(Int×(Int×Int))):b0z n (f+1) (s_,s2,out,i,x,s24,s25,s26,s37,2,()) =
 a0a (d0e n s_.2.1 s37.2.2 s_.1.2.2.1.2.2) fun r0 =>
 tif ((!(decide (r0.2=0)))) (
 some (.inr (((0,((0,(0,0)),((0,(0,0)),(0,0)))),(0,(0,[]))),r0.2))) (
 a0a (f0u n s_.1 x (2:Int) r0.1) fun r1 =>
 b0z n f (s_,(s2,(out,(i,((x.1,(x.2.1,(x.2.2.1,((x.2.2.2.1.1,(x.2.2.2.1.2.1,r1)),x.2.2.2.2)))),(s24,(s25,(s26,(s37,(3,()))))))))))):=by kernel_rfl
theorem v0l (n f:Nat) (s_:a0l) (s2:a0l) (out:(List b0l)) (i:Int) (x:b0l) (s24:(List Int)) (s25:Int) (s26:Int) (s37:(Int×(Int×Int))):b0z n (f+1) (s_,s2,out,i,x,s24,s25,s26,s37,3,()) =
 some (.inl (s_,(s2,(out,(i,(x,(s24,(s25,(s26,()))))))))):=by kernel_rfl
theorem e1k (n:Nat) (b:((List (List UInt8))×(List (List UInt8×((List (List UInt8×List UInt8))×(List a0i)))))) (l:(List (List UInt8×List UInt8))) (e:a0i):i0k (n+2) b l e =
 a0a (e0q (n+1) l) fun r0 =>
 tif ((!(decide (r0=0)))) (
 some (r0,b)) (
 a0a (c0s (n+1) e) fun r1 =>
 tif ((!(decide (r1=0)))) (
 some (r1,b)) (
 a0a (r0t n l) fun r2 =>
 tif ((!(decide (r2.2=0)))) (
 tif ((decide ((((List.length b.1)+1)*16)≤140737488355328))) (
 a0a (f0b (n+1) l) fun r3 =>
 some (0,((b.1++([]::[])),(mput .str (.ref (.wrap (.pair (.slice (.wrap (.pair .str .str))) (.own (.wrap (.pair (.int .i64) (.pair (.int .u64) (.pair (.int .i64) .bool)))))))) b.2 [] (r3,(e::[])))))) (
 none)) (
 v0s (mget .str (.ref (.wrap (.pair (.slice (.wrap (.pair .str .str))) (.own (.wrap (.pair (.int .i64) (.pair (.int .u64) (.pair (.int .i64) .bool)))))))) b.2 r2.1 0) (
 tif ((decide ((((List.length b.1)+1)*16)≤140737488355328))) (
 a0a (f0b (n+1) l) fun r4 =>
 some (0,((b.1++(r2.1::[])),(mput .str (.ref (.wrap (.pair (.slice (.wrap (.pair .str .str))) (.own (.wrap (.pair (.int .i64) (.pair (.int .u64) (.pair (.int .i64) .bool)))))))) b.2 r2.1 (r4,(e::[])))))) (
 none)) fun r5 =>
 a0a (at? r5.2.2 (IntKind.wrap .i64 ((((List.length r5.2.2):Nat):Int)-1))) fun r6 =>
 a0a ((r5.2.2)[(Int.toNat (IntKind.wrap .i64 ((((List.length r5.2.2):Nat):Int)-1)))]?) fun r7 =>
 a0a (h0p (n+1) r7 e) fun r8 =>
 tif ((!r8)) (
 some (9,(b.1,(mset .str (.ref (.wrap (.pair (.slice (.wrap (.pair .str .str))) (.own (.wrap (.pair (.int .i64) (.pair (.int .u64) (.pair (.int .i64) .bool)))))))) b.2 r5.1 r5.2)))) (
 tif ((decide ((((List.length r5.2.2)+1)*32)≤140737488355328))) (
 some (0,(b.1,(mset .str (.ref (.wrap (.pair (.slice (.wrap (.pair .str .str))) (.own (.wrap (.pair (.int .i64) (.pair (.int .u64) (.pair (.int .i64) .bool)))))))) b.2 r5.1 (r5.2.1,(r5.2.2++(e::[]))))))) (
 none))))):=by kernel_rfl
theorem t1m (n:Nat) (s:a0l):d0m (n+1) s =
 a0a (q0s n s) fun r0 =>
 tif ((!(decide (r0.2=0)))) (
 some (2:Int)) (
 a0a (o0n n r0.1) fun r1 =>
 tif ((!r1)) (
 some (2:Int)) (
 a0a (d0s n r0.1 (fun y2=>e0n n y2.1 r0.1)) fun r3 =>
 tif ((decide ((0:Int)≤r3))) (
 some (2:Int)) (
 some (0:Int)))):=by kernel_rfl
theorem b1d (n:Nat) (s:(List (List UInt8×List UInt8))):f0b (n+1) s =
 tif ((decide ((List.length s)=0))) (
 both (
 some []) (
 tif ((decide (((0+(List.length s))*32)≤140737488355328))) (
 some ([]++s)) (
 none))) (
 tif ((decide (((0+(List.length s))*32)≤140737488355328))) (
 some ([]++s)) (
 none)):=by kernel_rfl
theorem x1v (n:Nat) (s:a0l):e1t (n+1) s =
 a0a (q0s n s) fun r0 =>
 tif ((!(decide (r0.2=0)))) (
 some (0,r0.2)) (
 a0a (d0s n r0.1 (fun y1=>f0v n y1.1 r0.1)) fun r2 =>
 tif ((decide (r2<0))) (
 some (0,7)) (
 some (r2,0))):=by kernel_rfl
theorem u1n (n:Nat) (s:a0l) (l:(List (List UInt8×List UInt8))):h1j (n+1) s l =
 a0a (d0m n s) fun r0 =>
 tif ((!(decide (r0=0)))) (
 some r0) (
 a0a (e0q n l) fun r1 =>
 some r1):=by kernel_rfl
theorem p1p (n:Nat) (s:a0l) (tier:Int) (from_:Int) (to:Int):u0w (n+1) s tier from_ to =
 a0a (d0m n s) fun r0 =>
 tif ((!(decide (r0=0)))) (
 some (0,r0)) (
 tif ((decide (tier<0))) (
 some (0,1)) (
 tif ((decide ((3:Int)<tier))) (
 some (0,1)) (
 tif ((decide (tier=0))) (
 a0a (m0u n s from_ to) fun r1 =>
 some r1) (
 a0a (y0y n s tier from_ to) fun r2 =>
 tif ((!(decide (r2=0)))) (
 some (0,r2)) (
 some (tier,0)))))):=by kernel_rfl
theorem y1z (n:Nat) (s:a0l) (a:TAsk) (k:Int):p1n (n+1) s a k =
 a0a (e1u n s a.1) fun r0 =>
 tif ((!(decide (r0.2=0)))) (
 some ((0,((0,(0,(0,false))),((0,(0,(0,false))),((0,0),(0,(0,0)))))),0)) (
 tif ((decide (k=0))) (
 a0a (h0w n a.2.2.1 a.2.2.2 s.1.2.1.1) fun r1 =>
 tif ((!(decide (r1.2.2=0)))) (
 some ((0,((0,(0,(0,false))),((0,(0,(0,false))),((0,0),(0,(0,0)))))),r1.2.2)) (
 a0a (at? s.2.2.2 r0.1) fun r2 =>
 a0a (d0o n s.1 r2 k r1.1 r1.2.1) fun r3 =>
 some r3)) (
 tif ((decide (k=1))) (
 a0a (h0w n a.2.2.1 a.2.2.2 s.1.2.1.2.1) fun r4 =>
 tif ((!(decide (r4.2.2=0)))) (
 some ((0,((0,(0,(0,false))),((0,(0,(0,false))),((0,0),(0,(0,0)))))),r4.2.2)) (
 a0a (at? s.2.2.2 r0.1) fun r5 =>
 a0a (d0o n s.1 r5 k r4.1 r4.2.1) fun r6 =>
 some r6)) (
 tif ((decide (k=2))) (
 a0a (h0w n a.2.2.1 a.2.2.2 s.1.2.1.2.2) fun r7 =>
 tif ((!(decide (r7.2.2=0)))) (
 some ((0,((0,(0,(0,false))),((0,(0,(0,false))),((0,0),(0,(0,0)))))),r7.2.2)) (
 a0a (at? s.2.2.2 r0.1) fun r8 =>
 a0a (d0o n s.1 r8 k r7.1 r7.2.1) fun r9 =>
 some r9)) (
 none)))):=by kernel_rfl
theorem i2s (n:Nat) (l:(List a0i)):a2s (n+1) l =
 a0a (q0e n a0b (l,((0,((0,(0,(0,false))),((0,(0,(0,false))),((0,0),(0,(0,0)))))),(l,((((List.length l):Nat):Int),(0,())))))) fun r0 =>
 b0u (fun y1 =>
 a0a (n0h n a0b (y1.2.1,((0,((0,(0,(0,false))),((0,(0,(0,false))),((0,0),(0,(0,0)))))),(y1.1,((((List.length y1.1):Nat):Int),(0,())))))) fun r2 =>
 b0u (fun y3 =>
 some (y3.2.1,0)) (fun z4 =>
 some z4) r2) (fun z5 =>
 some z5) r0:=by kernel_rfl
theorem a1e (n f:Nat) (l:(List a0i)) (s2:b0p) (s12:(List a0i)) (s13:Int) (s14:Int):q0e n (f+1) (l,s2,s12,s13,s14,()) =
 tif ((decide (s14<s13))) (
 a0a (at? s12 s14) fun r0 =>
 a0a (c0s n r0) fun r1 =>
 tif ((!(decide (r1=0)))) (
 some (.inr ((0,((0,(0,(0,false))),((0,(0,(0,false))),((0,0),(0,(0,0)))))),r1))) (
 q0e n f (l,(s2,(s12,(s13,((IntKind.wrap .i64 (s14+1)),()))))))) (
 some (.inl (l,(s2,())))):=by kernel_rfl
theorem w0l (n f:Nat) (s2:b0p) (c:b0p) (s25:(List a0i)) (s26:Int) (s27:Int):n0h n (f+1) (s2,c,s25,s26,s27,()) =
 tif ((decide (s27<s26))) (
 a0a (at? s25 s27) fun r0 =>
 a0a (f1i n r0) fun r1 =>
 a0a (f0e n c r1) fun r2 =>
 tif ((!(decide (r2.2=0)))) (
 some (.inr ((0,((0,(0,(0,false))),((0,(0,(0,false))),((0,0),(0,(0,0)))))),r2.2))) (
 n0h n f (s2,(r2.1,(s25,(s26,((IntKind.wrap .i64 (s27+1)),()))))))) (
 some (.inl (s2,(c,())))):=by kernel_rfl
theorem s0n (n:Nat) (s:(List a0i)) (del:((a0i×Unit)→Option Bool)):d0h (n+1) s del =
 a0a (n0u n s del) fun r0 =>
 tif ((decide (r0=((-1):Int)))) (
 some s) (
 a0a (c0e n a0b (s,(del,(r0,((IntKind.wrap .i64 (r0+1)),()))))) fun r1 =>
 b0u (fun y2 =>
 tif ((decide ((0:Int)≤y2.2.1))) (
 tif ((decide ((Int.toNat y2.2.1)≤(List.length y2.1)))) (
 tif ((decide (((Int.toNat y2.2.1)+((List.length y2.1)-(Int.toNat y2.2.1)))≤(List.length y2.1)))) (
 tif (((decide ((0:Int)≤y2.2.1))&&(decide (y2.2.1≤(((List.length (Go.Flat.putRow y2.1 (Int.toNat y2.2.1) (List.replicate ((List.length y2.1)-(Int.toNat y2.2.1)) (0,(0,(0,false)))))):Nat):Int))))) (
 some (List.take ((Int.toNat y2.2.1)-0) (Go.Flat.putRow y2.1 (Int.toNat y2.2.1) (List.replicate ((List.length y2.1)-(Int.toNat y2.2.1)) (0,(0,(0,false))))))) (
 none)) (
 none)) (
 none)) (
 none)) (fun z3 =>
 some z3) r1):=by kernel_rfl
theorem g0q (n f:Nat) (s:(List a0i)) (del:((a0i×Unit)→Option Bool)) (i:Int) (j:Int):c0e n (f+1) (s,del,i,j,()) =
 tif ((decide (j<(((List.length s):Nat):Int)))) (
 a0a (at? s j) fun r0 =>
 a0a ((s)[(Int.toNat j)]?) fun r1 =>
 a0a (del (r1,())) fun r2 =>
 tif ((!r2)) (
 a0a (at? s i) fun r3 =>
 a0a ((s)[(Int.toNat i)]?) fun r4 =>
 c0e n f ((List.set s (Int.toNat i) r1),(del,((IntKind.wrap .i64 (i+1)),((IntKind.wrap .i64 (j+1)),()))))) (
 c0e n f (s,(del,(i,((IntKind.wrap .i64 (j+1)),())))))) (
 some (.inl (s,(i,())))):=by kernel_rfl
theorem x0f (n:Nat) (b:((List (List UInt8))×(List (List UInt8×((List (List UInt8×List UInt8))×(List a0i)))))) (l:(List (List UInt8×List UInt8))):k0n (n+2) b l =
 a0a (r0t n l) fun r0 =>
 tif ((!(decide (r0.2=0)))) (
 some ([],b)) (
 v0s (mget .str (.ref (.wrap (.pair (.slice (.wrap (.pair .str .str))) (.own (.wrap (.pair (.int .i64) (.pair (.int .u64) (.pair (.int .i64) .bool)))))))) b.2 r0.1 0) (
 some ([],b)) fun r1 =>
 a0a (o0s (n+1) r1.2.2) fun r2 =>
 some (r2,(b.1,(mset .str (.ref (.wrap (.pair (.slice (.wrap (.pair .str .str))) (.own (.wrap (.pair (.int .i64) (.pair (.int .u64) (.pair (.int .i64) .bool)))))))) b.2 r1.1 r1.2)))):=by kernel_rfl
theorem x0g (n:Nat) (e:a0i) (p1:Int) (p2:Int):d0l (n+1) e p1 p2 =
 tif ((decide (e.1<p1))) (
 some true) (
 some (decide (p2≤e.1))):=by kernel_rfl
theorem w1t (n:Nat) (s:a0l) (tier:Int) (from_:Int) (to:Int):j1l (n+1) s tier from_ to =
 a0a (d0m n s) fun r0 =>
 tif ((!(decide (r0=0)))) (
 some ((0,(0,(0,0))),r0)) (
 tif ((decide (tier<1))) (
 some ((0,(0,(0,0))),1)) (
 tif ((decide ((3:Int)<tier))) (
 some ((0,(0,(0,0))),1)) (
 tif ((decide (from_<0))) (
 some ((0,(0,(0,0))),1)) (
 tif ((decide ((35184372088832:Int)<to))) (
 some ((0,(0,(0,0))),1)) (
 tif ((decide (to≤from_))) (
 some ((0,(0,(0,0))),1)) (
 a0a (v0e n s (IntKind.wrap .i64 (tier-1))) fun r1 =>
 tif ((decide ((IntKind.wrap .i64 (tier-1))=0))) (
 some ((s.1.2.1.1,(r1.1,(from_,to))),r1.2.2)) (
 tif ((decide ((IntKind.wrap .i64 (tier-1))=1))) (
 some ((s.1.2.1.2.1,(r1.1,(from_,to))),r1.2.2)) (
 tif ((decide ((IntKind.wrap .i64 (tier-1))=2))) (
 some ((s.1.2.1.2.2,(r1.1,(from_,to))),r1.2.2)) (
 none))))))))):=by kernel_rfl
theorem j1k (n:Nat) (x:j0s) (t:Int):t0y (n+1) x t =
 tif ((decide (x.1=0))) (
 none) (
 some (IntKind.wrap .i64 (Int.tdiv (IntKind.wrap .i64 ((IntKind.wrap .i64 (t+x.1))-1)) x.1))):=by kernel_rfl
theorem a1h (n:Nat) (x:j0s) (i:Int) (j:Int):n0l (n+1) x i j =
 some ((IntKind.wrap .i64 (i*x.1)),((IntKind.wrap .i64 (j*x.1)),0)):=by kernel_rfl
theorem j1y (n:Nat) (s:a0l) (ms:(List (Int×(List UInt8×List UInt8)))) (tier:Int) (from_:Int) (to:Int):w0q (n+1) s ms tier from_ to =
 a0a (d0m n s) fun r0 =>
 tif ((!(decide (r0=0)))) (
 some ([],(0,2))) (
 a0a (x0c n ms) fun r1 =>
 tif ((!(decide (r1=0)))) (
 some ([],(0,2))) (
 a0a (u0w n s tier from_ to) fun r2 =>
 tif ((!(decide (r2.2=0)))) (
 some ([],(0,r2.2))) (
 a0a (y0f n s) fun r3 =>
 a0a (e0z n a0b (ms,(from_,(to,(s,(r2.1,([],(r3,((((List.length r3):Nat):Int),(0,())))))))))) fun r4 =>
 b0u (fun y5 =>
 some (y5.2.1,(y5.1,0))) (fun z6 =>
 some z6) r4))):=by kernel_rfl
theorem p0c (n f:Nat) (ms:(List (Int×(List UInt8×List UInt8)))) (from_:Int) (to:Int) (s_:a0l) (k:Int) (out:(List h0b)) (s41:(List Int)) (s42:Int) (s43:Int):e0z n (f+1) (ms,from_,to,s_,k,out,s41,s42,s43,()) =
 tif ((decide (s43<s42))) (
 a0a (at? s41 s43) fun r0 =>
 a0a ((s41)[(Int.toNat s43)]?) fun r1 =>
 a0a (at? s_.2.2.2 r1) fun r2 =>
 a0a (z0k n ms r2.1) fun r3 =>
 tif ((!r3)) (
 e0z n f (ms,(from_,(to,(s_,(k,(out,(s41,(s42,((IntKind.wrap .i64 (s43+1)),())))))))))) (
 a0a (r0i n s_ (r2.1,(k,(from_,to)))) fun r4 =>
 tif ((!(decide (r4.2=0)))) (
 some (.inr ([],(0,r4.2)))) (
 tif ((decide ((0:Int)<r4.1.2.1.1))) (
 tif ((decide ((((List.length out)+1)*184)≤140737488355328))) (
 e0z n f (ms,(from_,(to,(s_,(k,((out++((r2.1,r4.1)::[])),(s41,(s42,((IntKind.wrap .i64 (s43+1)),())))))))))) (
 none)) (
 e0z n f (ms,(from_,(to,(s_,(k,(out,(s41,(s42,((IntKind.wrap .i64 (s43+1)),()))))))))))))) (
 some (.inl (k,(out,())))):=by kernel_rfl
theorem t1a (n:Nat) (a:h0s) (b:h0s):x0v (n+1) a b =
 tif ((!(decide (a.1=b.1)))) (
 some ((0,(0,(0,((0,0),(0,(0,0)))))),2)) (
 a0a (x0s n a.2.2.2.1 b.2.2.2.1) fun r0 =>
 tif ((!(decide (r0.2=0)))) (
 some ((0,(0,(0,((0,0),(0,(0,0)))))),r0.2)) (
 some ((a.1,((IntKind.wrap .i64 (a.2.1+b.2.1)),((IntKind.wrap .i64 (a.2.2.1+b.2.2.1)),(r0.1,((IntKind.wrap .i64 (a.2.2.2.2.1+b.2.2.2.2.1)),((IntKind.wrap .i64 (a.2.2.2.2.2.1+b.2.2.2.2.2.1)),(IntKind.wrap .i64 (a.2.2.2.2.2.2+b.2.2.2.2.2.2)))))))),0))):=by kernel_rfl
theorem s1y (n:Nat) (tier:Int) (c:b0p):s1z (n+1) tier c =
 some (tier,(1,(c.1,c.2.2.2))):=by kernel_rfl
theorem n0n (n:Nat) (s:(List (Int×(List UInt8×List UInt8)))) (f_:(((Int×(List UInt8×List UInt8))×Unit)→Option Bool)):c0x (n+1) s f_ =
 a0a (k0w n s f_) fun r0 =>
 some (decide ((0:Int)≤r0)):=by kernel_rfl
theorem k1r (n:Nat) (m:(Int×(List UInt8×List UInt8))) (p1:(List (List UInt8×List UInt8))):x0d (n+1) m p1 =
 a0a (b1r n m p1) fun r0 =>
 some (!r0):=by kernel_rfl
theorem p1z (n:Nat) (m:(Int×(List UInt8×List UInt8))) (l:(List (List UInt8×List UInt8))):b1r (n+1) m l =
 a0a (x0e n l m.2.1) fun r0 =>
 tif ((decide (m.1=1))) (
 some (r0==m.2.2)) (
 tif ((decide (m.1=2))) (
 some (!(r0==m.2.2))) (
 tif ((decide (m.1=3))) (
 a0a (strings_HasPrefix n r0 m.2.2) fun r1 =>
 some r1) (
 some false))):=by kernel_rfl
theorem s1n (n:Nat) (a:(Int×Int)) (over:Int):s0p (n+1) a over =
 tif ((!(decide (over=0)))) (
 some ((0,0),1)) (
 some (a,0)):=by kernel_rfl
theorem p1h (n:Nat) (a:(Int×Int)):j0h (n+1) a =
 some ((decide (a.1=0))&&(decide (a.2=0))):=by kernel_rfl
theorem u1h (n:Nat) (a:(Int×Int)) (b:(Int×Int)):y0v (n+1) a b =
 a0a (j0h n a) fun r0 =>
 tif (r0) (
 some ((orI .u64 a.1 b.1),(orI .u64 a.2 b.2))) (
 a0a (j0h n b) fun r1 =>
 tif (r1) (
 some ((orI .u64 a.1 b.1),(orI .u64 a.2 b.2))) (
 a0a (g0b n a) fun r2 =>
 a0a (g0b n b) fun r3 =>
 a0a (g0b n a) fun r4 =>
 a0a (u0u n a r4) fun r5 =>
 a0a (d0a n a0b (r5,(b,((0,0),((if r3<r2 then r3 else r2),()))))) fun r6 =>
 b0u (fun y7 =>
 a0a (y0u n y7.1 y7.2.2.1) fun r8 =>
 some r8) (fun z9 =>
 some z9) r6)):=by kernel_rfl
theorem m0t (n f:Nat) (a_:(Int×Int)) (b_:(Int×Int)) (s4:(Int×Int)) (twos:Int):d0a n (f+1) (a_,b_,s4,twos,()) =
 a0a (j0h n b_) fun r0 =>
 tif ((!r0)) (
 a0a (g0b n b_) fun r1 =>
 a0a (u0u n b_ r1) fun r2 =>
 a0a (j0y n r2 a_) fun r3 =>
 tif (r3) (
 a0a (j0i n a_ r2) fun r4 =>
 d0a n f (r2,(r4,(s4,(twos,()))))) (
 a0a (j0i n r2 a_) fun r5 =>
 d0a n f (a_,(r5,(s4,(twos,())))))) (
 some (.inl (a_,(s4,(twos,()))))):=by kernel_rfl
theorem e2p (n:Nat) (n_:Int):s0q (n+1) n_ =
 some (0,n_):=by kernel_rfl
theorem n1o (n:Nat) (a:(Int×Int)) (n_:Int):l0l (n+1) a n_ =
 a0a (i0j n a.2 n_) fun r0 =>
 a0a (i0j n a.1 n_) fun r1 =>
 tif (((decide ((0:Int)≤r1.2))&&((decide ((0:Int)≤r0.1))&&true))) (
 a0a (s0p n ((((r1.2+r0.1)+0) % (18446744073709551616:Int)),r0.2) (orI .u64 r1.1 (((r1.2+r0.1)+0) / (18446744073709551616:Int)))) fun r2 =>
 some r2) (
 none):=by kernel_rfl
theorem g1z (n:Nat) (num:(Int×Int)) (den:(Int×Int)):t0i (n+1) num den =
 a0a (j0h n den) fun r0 =>
 tif (r0) (
 some (((0,0),(0,0)),1)) (
 a0a (y0v n num den) fun r1 =>
 a0a (r0f n num r1) fun r2 =>
 a0a (r0f n den r1) fun r3 =>
 some ((r2,r3),0)):=by kernel_rfl
theorem k1k (n:Nat) (a:(Int×Int)) (b:(Int×Int)):r0g (n+1) a b =
 tif ((!(decide (a.1=0)))) (
 tif ((!(decide (b.1=0)))) (
 some ((0,0),1)) (
 a0a (l0l n a b.2) fun r0 =>
 some r0)) (
 tif ((!(decide (a.1=0)))) (
 some ((0,0),1)) (
 a0a (l0l n b a.2) fun r1 =>
 some r1)):=by kernel_rfl
theorem s1p (n:Nat) (a:(Int×Int)) (b:(Int×Int)):j0y (n+1) a b =
 tif ((decide (a.1<b.1))) (
 some true) (
 tif ((decide (a.1=b.1))) (
 some (decide (a.2<b.2))) (
 some false)):=by kernel_rfl
theorem l1b (n:Nat) (e:a0i):c0s (n+1) e =
 tif ((decide (e.1<0))) (
 some (2:Int)) (
 tif ((decide ((35184372088832:Int)≤e.1))) (
 some (2:Int)) (
 tif ((decide (e.2.2.1<0))) (
 some (2:Int)) (
 tif ((decide (e.1<e.2.2.1))) (
 some (2:Int)) (
 tif (e.2.2.2) (
 tif ((!((decide (e.1=e.1))&&((decide (e.2.1=0))&&((decide (e.2.2.1=0))&&(e.2.2.2==true)))))) (
 some (2:Int)) (
 some (0:Int))) (
 some (0:Int)))))):=by kernel_rfl
theorem a1b (n:Nat) (c:a0x):d0d (n+1) c =
 a0a (f0r n c.1 (1:Int) (4096:Int)) fun r0 =>
 tif (r0) (
 a0a (f0r n c.2.2.2.1 (1:Int) (65536:Int)) fun r1 =>
 tif (r1) (
 a0a (f0r n c.2.2.2.2 (1:Int) (8192:Int)) fun r2 =>
 tif (r2) (
 a0a (i0n n c.2.1.1 (1:Int) (1099511627776:Int)) fun r3 =>
 tif (r3) (
 a0a (f0r n c.2.2.1.1 (1:Int) (4096:Int)) fun r4 =>
 tif (r4) (
 a0a (i0n n c.2.1.2.1 (1:Int) (1099511627776:Int)) fun r5 =>
 tif (r5) (
 a0a (f0r n c.2.2.1.2.1 (1:Int) (4096:Int)) fun r6 =>
 tif (r6) (
 a0a (i0n n c.2.1.2.2 (1:Int) (1099511627776:Int)) fun r7 =>
 tif (r7) (
 a0a (f0r n c.2.2.1.2.2 (1:Int) (4096:Int)) fun r8 =>
 tif (r8) (
 tif ((decide (c.2.1.1=0))) (
 none) (
 tif ((decide ((Int.tmod c.2.1.2.1 c.2.1.1)=0))) (
 tif ((decide (c.2.1.1=0))) (
 none) (
 tif ((decide ((IntKind.wrap .i64 (Int.tdiv c.2.1.2.1 c.2.1.1))≤c.2.2.1.1))) (
 tif ((decide (c.2.1.2.1=0))) (
 none) (
 tif ((decide ((Int.tmod c.2.1.2.2 c.2.1.2.1)=0))) (
 tif ((decide (c.2.1.2.1=0))) (
 none) (
 tif ((decide ((IntKind.wrap .i64 (Int.tdiv c.2.1.2.2 c.2.1.2.1))≤c.2.2.1.2.1))) (
 tif ((!(decide ((IntKind.wrap .i64 (Int.tdiv c.2.1.2.2 c.2.1.2.1))≤c.2.2.1.2.1)))) (
 some (2:Int)) (
 a0a (j0n n c) fun r9 =>
 tif ((decide (c.2.2.2.2≤r9))) (
 some (2:Int)) (
 some (0:Int)))) (
 tif ((!(decide ((IntKind.wrap .i64 (Int.tdiv c.2.1.2.2 c.2.1.2.1))≤c.2.2.1.2.1)))) (
 some (2:Int)) (
 a0a (j0n n c) fun r10 =>
 tif ((decide (c.2.2.2.2≤r10))) (
 some (2:Int)) (
 some (0:Int)))))) (
 some (2:Int)))) (
 tif ((!(decide ((IntKind.wrap .i64 (Int.tdiv c.2.1.2.1 c.2.1.1))≤c.2.2.1.1)))) (
 some (2:Int)) (
 a0a (j0n n c) fun r11 =>
 tif ((decide (c.2.2.2.2≤r11))) (
 some (2:Int)) (
 some (0:Int)))))) (
 some (2:Int)))) (
 tif ((!r8)) (
 some (2:Int)) (
 a0a (j0n n c) fun r12 =>
 tif ((decide (c.2.2.2.2≤r12))) (
 some (2:Int)) (
 some (0:Int))))) (
 some (2:Int))) (
 some (2:Int))) (
 some (2:Int))) (
 some (2:Int))) (
 some (2:Int))) (
 some (2:Int))) (
 some (2:Int))) (
 some (2:Int)):=by kernel_rfl
theorem w1g (n:Nat) (c:a0x):j1b (n+1) c =
 a0a (d0d n c) fun r0 =>
 tif ((!(decide (r0=0)))) (
 some (0:Int)) (
 a0a (c1e n c) fun r1 =>
 some (IntKind.wrap .i64 ((IntKind.wrap .i64 ((1:Int)+r1))+c.2.2.2.2))):=by kernel_rfl
theorem r1s (n:Nat) (c:a0x):c1d (n+1) c =
 a0a (d0d n c) fun r0 =>
 tif ((!(decide (r0=0)))) (
 some (0:Int)) (
 a0a (j0n n c) fun r1 =>
 some r1):=by kernel_rfl
theorem k1h (n:Nat) (s:a0l) (l:(List (List UInt8×List UInt8))) (e:a0i):w0v (n+1) s l e =
 a0a (d0m n s) fun r0 =>
 tif ((!(decide (r0=0)))) (
 some (0,(false,r0))) (
 a0a (e0q n l) fun r1 =>
 tif ((!(decide (r1=0)))) (
 some (0,(false,r1))) (
 a0a (c0s n e) fun r2 =>
 tif ((!(decide (r2=0)))) (
 some (0,(false,r2))) (
 a0a (b1h n s) fun r3 =>
 a0a (e1u n s l) fun r4 =>
 tif ((decide (e.1<r3.1))) (
 some (0,(false,9))) (
 tif ((decide (r3.2≤e.1))) (
 some (0,(false,9))) (
 tif ((decide (r4.2=0))) (
 a0a (at? s.2.2.2 r4.1) fun r5 =>
 tif ((decide (e.1≤r5.2.1))) (
 some (0,(false,9))) (
 tif ((decide (r4.2=0))) (
 some (r4.1,(false,0))) (
 tif (e.2.2.2) (
 some (0,(false,3))) (
 a0a (e1t n s) fun r6 =>
 some (r6.1,((decide (r6.2=0)),r6.2)))))) (
 tif ((decide (r4.2=0))) (
 some (r4.1,(false,0))) (
 tif (e.2.2.2) (
 some (0,(false,3))) (
 a0a (e1t n s) fun r7 =>
 some (r7.1,((decide (r7.2=0)),r7.2)))))))))):=by kernel_rfl
theorem j1u (n:Nat) (s:a0l) (i:Int) (fresh:Bool) (l:(List (List UInt8×List UInt8))):f1p (n+1) s i fresh l =
 tif (fresh) (
 a0a (u0s n s.1 l) fun r0 =>
 some r0) (
 a0a (at? s.2.2.2 i) fun r1 =>
 some (r1,0)):=by kernel_rfl
theorem p1a (n:Nat) (c:a0x) (s:b0l) (e:a0i):b1g (n+1) c s e =
 a0a (m0k n c s) fun r0 =>
 v0s (r0.1) (
 tif ((!(decide (r0.2=0)))) (
 some (([],(0,((0,(0,[])),(([],([],[])),(0,(0,((0,(0,(0,false))),((0,(0,(0,false))),((0,0),(0,(0,0))))))))))),2)) (
 a0a (c0s n e) fun r1 =>
 tif ((!(decide (r1=0)))) (
 some (([],(0,((0,(0,[])),(([],([],[])),(0,(0,((0,(0,(0,false))),((0,(0,(0,false))),((0,0),(0,(0,0))))))))))),2)) (
 tif ((decide (e.1≤s.2.1))) (
 some (([],(0,((0,(0,[])),(([],([],[])),(0,(0,((0,(0,(0,false))),((0,(0,(0,false))),((0,0),(0,(0,0))))))))))),9)) (
 tif ((decide (c.2.1.1=0))) (
 none) (
 none))))) fun r2 =>
 tif ((!(decide (r0.2=0)))) (
 some (([],(0,((0,(0,[])),(([],([],[])),(0,(0,((0,(0,(0,false))),((0,(0,(0,false))),((0,0),(0,(0,0))))))))))),2)) (
 a0a (c0s n e) fun r3 =>
 tif ((!(decide (r3=0)))) (
 some (([],(0,((0,(0,[])),(([],([],[])),(0,(0,((0,(0,(0,false))),((0,(0,(0,false))),((0,0),(0,(0,0))))))))))),2)) (
 tif ((decide (e.1≤s.2.1))) (
 some (([],(0,((0,(0,[])),(([],([],[])),(0,(0,((0,(0,(0,false))),((0,(0,(0,false))),((0,0),(0,(0,0))))))))))),9)) (
 tif ((decide (c.2.1.1=0))) (
 none) (
 a0a (o1o n r2 (IntKind.wrap .i64 (Int.tdiv e.1 c.2.1.1))) fun r4 =>
 tif ((!(decide (r4.1=0)))) (
 some (([],(0,((0,(0,[])),(([],([],[])),(0,(0,((0,(0,(0,false))),((0,(0,(0,false))),((0,0),(0,(0,0))))))))))),r4.1)) (
 a0a (k2m n r4.2 (IntKind.wrap .i64 (Int.tdiv e.1 c.2.1.1)) e) fun r5 =>
 tif ((!(decide (r5.1=0)))) (
 some (([],(0,((0,(0,[])),(([],([],[])),(0,(0,((0,(0,(0,false))),((0,(0,(0,false))),((0,0),(0,(0,0))))))))))),r5.1)) (
 some (r5.2.2,0))))))):=by kernel_rfl
theorem y0p (n:Nat) (s:(List b0l)):m0j (n+1) s =
 tif ((decide ((List.length s)=0))) (
 both (
 some []) (
 tif ((decide (((0+(List.length s))*264)≤140737488355328))) (
 some ([]++s)) (
 none))) (
 tif ((decide (((0+(List.length s))*264)≤140737488355328))) (
 some ([]++s)) (
 none)):=by kernel_rfl
theorem t1i (n:Nat) (s:a0l):g1l (n+1) s =
 a0a (d0m n s) fun r0 =>
 tif ((!(decide (r0=0)))) (
 some []) (
 a0a (y0f n s) fun r1 =>
 a0a (j0d n r1 (fun y2=>m0d n y2.1 s)) fun r3 =>
 some r3):=by kernel_rfl
theorem x1x (n:Nat) (s:a0l):y0f (n+1) s =
 a0a (q0s n s) fun r0 =>
 tif ((!(decide (r0.2=0)))) (
 some []) (
 a0a (j0a n a0b (r0.1,([],((((List.length r0.1.2.2.2):Nat):Int),(0,()))))) fun r1 =>
 b0u (fun y2 =>
 some y2.1) (fun z3 =>
 some z3) r1):=by kernel_rfl
theorem v0z (n f:Nat) (v:a0l) (out:(List Int)) (s17:Int) (s18:Int):j0a n (f+1) (v,out,s17,s18,()) =
 tif ((decide (s18<s17))) (
 a0a (d0t n v s18) fun r0 =>
 tif (r0) (
 tif ((decide ((((List.length out)+1)*8)≤140737488355328))) (
 j0a n f (v,((out++(s18::[])),(s17,((IntKind.wrap .i64 (s18+1)),()))))) (
 none)) (
 j0a n f (v,(out,(s17,((IntKind.wrap .i64 (s18+1)),())))))) (
 some (.inl (out,()))):=by kernel_rfl
theorem s1s (n:Nat) (now:Int) (w:Int) (n_:Int):d0e (n+1) now w n_ =
 a0a (e2s n now w) fun r0 =>
 tif ((!(decide (r0.2=0)))) (
 some (0,1)) (
 a0a (s1r n n_ (1:Int) (4096:Int)) fun r1 =>
 tif ((!r1)) (
 some (0,1)) (
 some ((if (0:Int)<(IntKind.wrap .i64 ((IntKind.wrap .i64 (r0.1+1))-n_)) then (IntKind.wrap .i64 ((IntKind.wrap .i64 (r0.1+1))-n_)) else (0:Int)),0))):=by kernel_rfl
theorem g1j (n:Nat) (c:a0x) (x:b0l) (oldest:Int):f0u (n+1) c x (0:Int) oldest =
 a0a (e0k n c x.2.1 (0:Int)) fun r0 =>
 a0a (e0o n x.2.2.2.1.1) fun r1 =>
 a0a (c0j n a0b (oldest,(r0.1,(r0.2,(r1,((((List.length r1):Nat):Int),(0,()))))))) fun r2 =>
 b0u (fun y3 =>
 some y3.1) (fun z4 =>
 some z4) r2:=by kernel_rfl
theorem g1i (n:Nat) (c:a0x) (x:b0l) (oldest:Int):f0u (n+1) c x (1:Int) oldest =
 a0a (e0k n c x.2.1 (1:Int)) fun r0 =>
 a0a (e0o n x.2.2.2.1.2.1) fun r1 =>
 a0a (c0j n a0b (oldest,(r0.1,(r0.2,(r1,((((List.length r1):Nat):Int),(0,()))))))) fun r2 =>
 b0u (fun y3 =>
 some y3.1) (fun z4 =>
 some z4) r2:=by kernel_rfl
theorem g1h (n:Nat) (c:a0x) (x:b0l) (oldest:Int):f0u (n+1) c x (2:Int) oldest =
 a0a (e0k n c x.2.1 (2:Int)) fun r0 =>
 a0a (e0o n x.2.2.2.1.2.2) fun r1 =>
 a0a (c0j n a0b (oldest,(r0.1,(r0.2,(r1,((((List.length r1):Nat):Int),(0,()))))))) fun r2 =>
 b0u (fun y3 =>
 some y3.1) (fun z4 =>
 some z4) r2:=by kernel_rfl
theorem s0j (n f:Nat) (oldest:Int) (from_:Int) (to:Int) (out:(List a0c)) (s28:Int) (s29:Int):c0j n (f+1) (oldest,from_,to,out,s28,s29,()) =
 tif ((decide (s29<s28))) (
 a0a (at? out s29) fun r0 =>
 a0a ((out)[(Int.toNat s29)]?) fun r1 =>
 tif ((decide (r1.1<oldest))) (
 tif ((decide (r1.1<from_))) (
 a0a (at? out s29) fun r2 =>
 a0a ((out)[(Int.toNat s29)]?) fun r3 =>
 c0j n f (oldest,(from_,(to,((List.set out (Int.toNat s29) (0,(0,((0,(0,(0,false))),((0,(0,(0,false))),((0,0),(0,(0,0)))))))),(s28,((IntKind.wrap .i64 (s29+1)),()))))))) (
 tif ((decide (to≤r1.1))) (
 a0a (at? out s29) fun r4 =>
 a0a ((out)[(Int.toNat s29)]?) fun r5 =>
 c0j n f (oldest,(from_,(to,((List.set out (Int.toNat s29) (0,(0,((0,(0,(0,false))),((0,(0,(0,false))),((0,0),(0,(0,0)))))))),(s28,((IntKind.wrap .i64 (s29+1)),()))))))) (
 c0j n f (oldest,(from_,(to,(out,(s28,((IntKind.wrap .i64 (s29+1)),()))))))))) (
 c0j n f (oldest,(from_,(to,(out,(s28,((IntKind.wrap .i64 (s29+1)),())))))))) (
 some (.inl (out,()))):=by kernel_rfl
theorem k1w (n:Nat) (l:(List (List UInt8×List UInt8))):e0q (n+1) l =
 tif ((decide ((((List.length l):Nat):Int)=0))) (
 some (8:Int)) (
 tif ((decide ((16:Int)<(((List.length l):Nat):Int)))) (
 some (8:Int)) (
 a0a (f0c n a0b (l,(256,(l,((((List.length l):Nat):Int),(0,())))))) fun r0 =>
 b0u (fun y1 =>
 some (0:Int)) (fun z2 =>
 some z2) r0)):=by kernel_rfl
theorem p0w (n f:Nat) (l:(List (List UInt8×List UInt8))) (left:Int) (s14:(List (List UInt8×List UInt8))) (s15:Int) (s16:Int):f0c n (f+1) (l,left,s14,s15,s16,()) =
 tif ((decide (s16<s15))) (
 a0a (at? s14 s16) fun r0 =>
 a0a (b1v n r0.1) fun r1 =>
 tif ((!r1)) (
 some (.inr (8:Int))) (
 tif ((decide ((128:Int)<(((List.length r0.2):Nat):Int)))) (
 some (.inr (8:Int))) (
 tif ((decide ((IntKind.wrap .i64 (left-(IntKind.wrap .i64 ((((List.length r0.1):Nat):Int)+(((List.length r0.2):Nat):Int)))))<0))) (
 some (.inr (8:Int))) (
 tif ((decide ((0:Int)<s16))) (
 a0a (at? l (IntKind.wrap .i64 (s16-1))) fun r2 =>
 tif ((!(Go.Op.bytesLess r2.1 r0.1))) (
 some (.inr (8:Int))) (
 f0c n f (l,((IntKind.wrap .i64 (left-(IntKind.wrap .i64 ((((List.length r0.1):Nat):Int)+(((List.length r0.2):Nat):Int))))),(s14,(s15,((IntKind.wrap .i64 (s16+1)),()))))))) (
 f0c n f (l,((IntKind.wrap .i64 (left-(IntKind.wrap .i64 ((((List.length r0.1):Nat):Int)+(((List.length r0.2):Nat):Int))))),(s14,(s15,((IntKind.wrap .i64 (s16+1)),())))))))))) (
 some (.inl ())):=by kernel_rfl
theorem i1x (n:Nat) (p:a0i) (c:a0i):h0p (n+1) p c =
 a0a (n0e n (p::(c::[]))) fun r0 =>
 tif (r0) (
 some (decide (p.1<c.1))) (
 some false):=by kernel_rfl
theorem x1u (n:Nat) (s:a0l):q0s (n+1) s =
 a0a (d0d n s.1) fun r0 =>
 tif ((!(decide (r0=0)))) (
 some (((0,((0,(0,0)),((0,(0,0)),(0,0)))),(0,(0,[]))),2)) (
 tif ((!(decide ((((List.length s.2.2.2):Nat):Int)=s.1.2.2.2.1)))) (
 some (((0,((0,(0,0)),((0,(0,0)),(0,0)))),(0,(0,[]))),2)) (
 some (s,0))):=by kernel_rfl
theorem a1z (n:Nat) (v:a0l):o0n (n+1) v =
 a0a (y0d n v.2.1) fun r0 =>
 tif (r0) (
 tif ((decide (v.2.2.1=((-1):Int)))) (
 some (decide (v.2.2.1≤v.2.1))) (
 a0a (y0d n v.2.2.1) fun r1 =>
 tif (r1) (
 some (decide (v.2.2.1≤v.2.1))) (
 some false))) (
 some false):=by kernel_rfl
theorem a1x (n:Nat) (v:a0l) (is:((Int×Unit)→Option Bool)):d0s (n+1) v is =
 a0a (c0g n a0b (is,((((List.length v.2.2.2):Nat):Int),(0,())))) fun r0 =>
 b0u (fun y1 =>
 some ((-1):Int)) (fun z2 =>
 some z2) r0:=by kernel_rfl
theorem k0u (n f:Nat) (is:((Int×Unit)→Option Bool)) (s9:Int) (s10:Int):c0g n (f+1) (is,s9,s10,()) =
 tif ((decide (s10<s9))) (
 a0a (is (s10,())) fun r0 =>
 tif (r0) (
 some (.inr s10)) (
 c0g n f (is,(s9,((IntKind.wrap .i64 (s10+1)),()))))) (
 some (.inl ())):=by kernel_rfl
theorem k1d (n:Nat) (i:Int) (p1:a0l):e0n (n+1) i p1 =
 a0a (o0m n p1 i) fun r0 =>
 some (!r0):=by kernel_rfl
theorem a1w (n:Nat) (v:a0l) (i:Int):o0m (n+1) v i =
 a0a (at? v.2.2.2 i) fun r0 =>
 a0a (y0e n r0) fun r1 =>
 tif (r1) (
 some true) (
 a0a (t0c n v.1 r0) fun r2 =>
 tif ((decide (r2=0))) (
 tif ((decide ((0:Int)≤r0.2.1))) (
 a0a (l0d n v) fun r3 =>
 tif ((decide (r0.2.1<(IntKind.wrap .i64 (r3+v.1.2.1.1))))) (
 a0a (q0r n v i) fun r4 =>
 some (!r4)) (
 some false)) (
 some false)) (
 some false)):=by kernel_rfl
theorem a1y (n:Nat) (v:a0l) (i:Int):d0t (n+1) v i =
 a0a (at? v.2.2.2 i) fun r0 =>
 a0a (y0e n r0) fun r1 =>
 tif ((!r1)) (
 tif ((decide (v.2.2.1=((-1):Int)))) (
 some true) (
 a0a (r0a n v.1 r0.2.1 v.2.2.1) fun r2 =>
 some (!r2))) (
 some false):=by kernel_rfl
theorem x1n (n:Nat) (l:(List a0c)):o1f (n+1) l =
 a0a (e0o n l) fun r0 =>
 a0a (i0g n r0 (fun y1=>s0v n y1.1)) fun r2 =>
 a0a (f0f n r2 (fun y3=>u0j n y3.1 y3.2.1)) fun r4 =>
 some r4:=by kernel_rfl
theorem k1g (n:Nat) (c:a0x) (last:Int) (now:Int):r0a (n+1) c last now =
 a0a (d0d n c) fun r0 =>
 tif ((decide (r0=0))) (
 a0a (f1u n last now c.2.1.1 c.2.2.1.1) fun r1 =>
 tif (r1) (
 a0a (f1u n last now c.2.1.2.1 c.2.2.1.2.1) fun r2 =>
 tif (r2) (
 a0a (f1u n last now c.2.1.2.2 c.2.2.1.2.2) fun r3 =>
 tif (r3) (
 some r3) (
 some r3)) (
 some r2)) (
 some r1)) (
 some (decide (r0=0))):=by kernel_rfl
theorem o1l (n:Nat) (i:Int) (p1:a0l):f0v (n+1) i p1 =
 a0a (d0t n p1 i) fun r0 =>
 some (!r0):=by kernel_rfl
theorem y0w (n:Nat) (s:a0l) (from_:Int) (to:Int):m0u (n+1) s from_ to =
 a0a (c0r n a0b (from_,(to,(s,(10,(1,())))))) fun r0 =>
 b0u (fun y1 =>
 some (0,y1.1)) (fun z2 =>
 some z2) r0:=by kernel_rfl
theorem k0e (n f:Nat) (from_:Int) (to:Int) (s_:a0l) (why:Int) (tier:Int):c0r n (f+1) (from_,to,s_,why,tier,()) =
 tif ((decide (tier≤3))) (
 a0a (y0y n s_ tier from_ to) fun r0 =>
 tif ((decide (r0=0))) (
 some (.inr (tier,0))) (
 tif ((decide (r0=10))) (
 c0r n f (from_,(to,(s_,(why,((IntKind.wrap .i64 (tier+1)),())))))) (
 tif ((decide (r0=11))) (
 c0r n f (from_,(to,(s_,(r0,((IntKind.wrap .i64 (tier+1)),())))))) (
 some (.inr (0,r0)))))) (
 some (.inl (why,()))):=by kernel_rfl
theorem u1l (n:Nat) (s:a0l) (tier:Int) (from_:Int) (to:Int):y0y (n+1) s tier from_ to =
 tif ((decide ((IntKind.wrap .i64 (tier-1))=0))) (
 a0a (h0w n from_ to s.1.2.1.1) fun r0 =>
 tif ((!(decide (r0.2.2=0)))) (
 some r0.2.2) (
 a0a (v0e n s (IntKind.wrap .i64 (tier-1))) fun r1 =>
 tif ((decide (r1.2.2=0))) (
 tif ((decide (r0.1<r1.1))) (
 some (11:Int)) (
 some r1.2.2)) (
 some r1.2.2))) (
 tif ((decide ((IntKind.wrap .i64 (tier-1))=1))) (
 a0a (h0w n from_ to s.1.2.1.2.1) fun r2 =>
 tif ((!(decide (r2.2.2=0)))) (
 some r2.2.2) (
 a0a (v0e n s (IntKind.wrap .i64 (tier-1))) fun r3 =>
 tif ((decide (r3.2.2=0))) (
 tif ((decide (r2.1<r3.1))) (
 some (11:Int)) (
 some r3.2.2)) (
 some r3.2.2))) (
 tif ((decide ((IntKind.wrap .i64 (tier-1))=2))) (
 a0a (h0w n from_ to s.1.2.1.2.2) fun r4 =>
 tif ((!(decide (r4.2.2=0)))) (
 some r4.2.2) (
 a0a (v0e n s (IntKind.wrap .i64 (tier-1))) fun r5 =>
 tif ((decide (r5.2.2=0))) (
 tif ((decide (r4.1<r5.1))) (
 some (11:Int)) (
 some r5.2.2)) (
 some r5.2.2))) (
 none))):=by kernel_rfl
theorem x1y (n:Nat) (s:a0l) (l:(List (List UInt8×List UInt8))):e1u (n+1) s l =
 a0a (q0s n s) fun r0 =>
 tif ((!(decide (r0.2=0)))) (
 some (0,r0.2)) (
 a0a (d0s n r0.1 (fun y1=>f0w n y1.1 s l r0.1)) fun r2 =>
 tif ((decide (r2<0))) (
 some (0,3)) (
 some (r2,0))):=by kernel_rfl
theorem e2q (n:Nat) (a:Int) (b:Int) (w:Int):h0w (n+1) a b w =
 a0a (n1r n w) fun r0 =>
 tif ((!r0)) (
 some (0,(0,1))) (
 tif ((decide (a<0))) (
 some (0,(0,1))) (
 tif ((decide ((35184372088832:Int)<b))) (
 some (0,(0,1))) (
 tif ((decide (b≤a))) (
 some (0,(0,1))) (
 tif ((decide (w=0))) (
 none) (
 tif ((!(decide ((Int.tmod a w)=0)))) (
 some (0,(0,10))) (
 tif ((decide (w=0))) (
 none) (
 tif ((!(decide ((Int.tmod b w)=0)))) (
 some (0,(0,10))) (
 tif ((decide (w=0))) (
 none) (
 tif ((decide (w=0))) (
 none) (
 some ((IntKind.wrap .i64 (Int.tdiv a w)),((IntKind.wrap .i64 (Int.tdiv b w)),0)))))))))))):=by kernel_rfl
theorem m0n (n:Nat) (c:a0x) (s:b0l) (k:Int) (i:Int) (j:Int):d0o (n+1) c s k i j =
 a0a (m0k n c s) fun r0 =>
 v0s (r0.1) (
 tif ((!(decide (r0.2=0)))) (
 some ((0,((0,(0,(0,false))),((0,(0,(0,false))),((0,0),(0,(0,0)))))),r0.2)) (
 tif ((decide (k<0))) (
 some ((0,((0,(0,(0,false))),((0,(0,(0,false))),((0,0),(0,(0,0)))))),1)) (
 tif ((decide ((3:Int)≤k))) (
 some ((0,((0,(0,(0,false))),((0,(0,(0,false))),((0,0),(0,(0,0)))))),1)) (
 tif ((decide (i<0))) (
 some ((0,((0,(0,(0,false))),((0,(0,(0,false))),((0,0),(0,(0,0)))))),1)) (
 tif ((decide (j<i))) (
 some ((0,((0,(0,(0,false))),((0,(0,(0,false))),((0,0),(0,(0,0)))))),1)) (
 none)))))) fun r1 =>
 tif ((!(decide (r0.2=0)))) (
 some ((0,((0,(0,(0,false))),((0,(0,(0,false))),((0,0),(0,(0,0)))))),r0.2)) (
 tif ((decide (k<0))) (
 some ((0,((0,(0,(0,false))),((0,(0,(0,false))),((0,0),(0,(0,0)))))),1)) (
 tif ((decide ((3:Int)≤k))) (
 some ((0,((0,(0,(0,false))),((0,(0,(0,false))),((0,0),(0,(0,0)))))),1)) (
 tif ((decide (i<0))) (
 some ((0,((0,(0,(0,false))),((0,(0,(0,false))),((0,0),(0,(0,0)))))),1)) (
 tif ((decide (j<i))) (
 some ((0,((0,(0,(0,false))),((0,(0,(0,false))),((0,0),(0,(0,0)))))),1)) (
 a0a (q0t n r1 k i j) fun r2 =>
 some r2))))):=by kernel_rfl
theorem r1w (n:Nat) (a:b0p) (b:b0p):f0e (n+1) a b =
 a0a (q0f n a) fun r0 =>
 tif ((!(decide (r0=0)))) (
 some ((0,((0,(0,(0,false))),((0,(0,(0,false))),((0,0),(0,(0,0)))))),2)) (
 a0a (q0f n b) fun r1 =>
 tif ((!(decide (r1=0)))) (
 some ((0,((0,(0,(0,false))),((0,(0,(0,false))),((0,0),(0,(0,0)))))),2)) (
 a0a (t0v n a) fun r2 =>
 tif (r2) (
 some (b,0)) (
 a0a (t0v n b) fun r3 =>
 tif (r3) (
 some (a,0)) (
 a0a (w1n n a b) fun r4 =>
 some r4)))):=by kernel_rfl
theorem a2p (n:Nat) (e:a0i):f1i (n+1) e =
 some (1,(e,(e,((0,0),(0,(0,0)))))):=by kernel_rfl
theorem s0z (n:Nat) (s:(List a0i)) (f_:((a0i×Unit)→Option Bool)):n0u (n+1) s f_ =
 a0a (c0l n a0b (s,(f_,((((List.length s):Nat):Int),(0,()))))) fun r0 =>
 b0u (fun y1 =>
 some ((-1):Int)) (fun z2 =>
 some z2) r0:=by kernel_rfl
theorem h0h (n f:Nat) (s:(List a0i)) (f_:((a0i×Unit)→Option Bool)) (s7:Int) (s8:Int):c0l n (f+1) (s,f_,s7,s8,()) =
 tif ((decide (s8<s7))) (
 a0a (at? s s8) fun r0 =>
 a0a (f_ (r0,())) fun r1 =>
 tif (r1) (
 some (.inr s8)) (
 c0l n f (s,(f_,(s7,((IntKind.wrap .i64 (s8+1)),())))))) (
 some (.inl ())):=by kernel_rfl
theorem b1e (n:Nat) (s:(List a0i)):o0s (n+1) s =
 tif ((decide ((List.length s)=0))) (
 both (
 some []) (
 tif ((decide (((0+(List.length s))*32)≤140737488355328))) (
 some ([]++s)) (
 none))) (
 tif ((decide (((0+(List.length s))*32)≤140737488355328))) (
 some ([]++s)) (
 none)):=by kernel_rfl
theorem a2n (n:Nat) (s:a0l) (k:Int):v0e (n+1) s k =
 a0a (w1f n s k) fun r0 =>
 tif ((!(decide (r0=0)))) (
 some (0,(0,r0))) (
 tif ((decide (k=0))) (
 tif ((decide (k=0))) (
 a0a (d0e n s.2.1 s.1.2.1.1 s.1.2.2.1.1) fun r1 =>
 tif ((decide (s.1.2.1.1=0))) (
 none) (
 some (r1.1,((IntKind.wrap .i64 (Int.tdiv s.2.1 s.1.2.1.1)),r1.2)))) (
 tif ((decide (k=1))) (
 a0a (d0e n s.2.1 s.1.2.1.1 s.1.2.2.1.2.1) fun r2 =>
 tif ((decide (s.1.2.1.1=0))) (
 none) (
 some (r2.1,((IntKind.wrap .i64 (Int.tdiv s.2.1 s.1.2.1.1)),r2.2)))) (
 tif ((decide (k=2))) (
 a0a (d0e n s.2.1 s.1.2.1.1 s.1.2.2.1.2.2) fun r3 =>
 tif ((decide (s.1.2.1.1=0))) (
 none) (
 some (r3.1,((IntKind.wrap .i64 (Int.tdiv s.2.1 s.1.2.1.1)),r3.2)))) (
 none)))) (
 tif ((decide (k=1))) (
 tif ((decide (k=0))) (
 a0a (d0e n s.2.1 s.1.2.1.2.1 s.1.2.2.1.1) fun r4 =>
 tif ((decide (s.1.2.1.2.1=0))) (
 none) (
 some (r4.1,((IntKind.wrap .i64 (Int.tdiv s.2.1 s.1.2.1.2.1)),r4.2)))) (
 tif ((decide (k=1))) (
 a0a (d0e n s.2.1 s.1.2.1.2.1 s.1.2.2.1.2.1) fun r5 =>
 tif ((decide (s.1.2.1.2.1=0))) (
 none) (
 some (r5.1,((IntKind.wrap .i64 (Int.tdiv s.2.1 s.1.2.1.2.1)),r5.2)))) (
 tif ((decide (k=2))) (
 a0a (d0e n s.2.1 s.1.2.1.2.1 s.1.2.2.1.2.2) fun r6 =>
 tif ((decide (s.1.2.1.2.1=0))) (
 none) (
 some (r6.1,((IntKind.wrap .i64 (Int.tdiv s.2.1 s.1.2.1.2.1)),r6.2)))) (
 none)))) (
 tif ((decide (k=2))) (
 tif ((decide (k=0))) (
 a0a (d0e n s.2.1 s.1.2.1.2.2 s.1.2.2.1.1) fun r7 =>
 tif ((decide (s.1.2.1.2.2=0))) (
 none) (
 some (r7.1,((IntKind.wrap .i64 (Int.tdiv s.2.1 s.1.2.1.2.2)),r7.2)))) (
 tif ((decide (k=1))) (
 a0a (d0e n s.2.1 s.1.2.1.2.2 s.1.2.2.1.2.1) fun r8 =>
 tif ((decide (s.1.2.1.2.2=0))) (
 none) (
 some (r8.1,((IntKind.wrap .i64 (Int.tdiv s.2.1 s.1.2.1.2.2)),r8.2)))) (
 tif ((decide (k=2))) (
 a0a (d0e n s.2.1 s.1.2.1.2.2 s.1.2.2.1.2.2) fun r9 =>
 tif ((decide (s.1.2.1.2.2=0))) (
 none) (
 some (r9.1,((IntKind.wrap .i64 (Int.tdiv s.2.1 s.1.2.1.2.2)),r9.2)))) (
 none)))) (
 none)))):=by kernel_rfl
theorem k1q (n:Nat) (l:(List (Int×(List UInt8×List UInt8)))):x0c (n+1) l =
 tif ((decide ((16:Int)<(((List.length l):Nat):Int)))) (
 some (2:Int)) (
 a0a (c0x n l (fun y0=>r0q n y0.1)) fun r1 =>
 tif (r1) (
 some (2:Int)) (
 some (0:Int))):=by kernel_rfl
theorem q0w (n:Nat) (s:(List (Int×(List UInt8×List UInt8)))) (f_:(((Int×(List UInt8×List UInt8))×Unit)→Option Bool)):k0w (n+1) s f_ =
 a0a (c0c n a0b (s,(f_,((((List.length s):Nat):Int),(0,()))))) fun r0 =>
 b0u (fun y1 =>
 some ((-1):Int)) (fun z2 =>
 some z2) r0:=by kernel_rfl
theorem g0i (n f:Nat) (s:(List (Int×(List UInt8×List UInt8)))) (f_:(((Int×(List UInt8×List UInt8))×Unit)→Option Bool)) (s7:Int) (s8:Int):c0c n (f+1) (s,f_,s7,s8,()) =
 tif ((decide (s8<s7))) (
 a0a (at? s s8) fun r0 =>
 a0a (f_ (r0,())) fun r1 =>
 tif (r1) (
 some (.inr s8)) (
 c0c n f (s,(f_,(s7,((IntKind.wrap .i64 (s8+1)),())))))) (
 some (.inl ())):=by kernel_rfl
theorem k1v (n:Nat) (l:(List (List UInt8×List UInt8))) (n_:List UInt8):x0e (n+1) l n_ =
 a0a (n0t n l (fun y0=>r0s n y0.1 n_)) fun r1 =>
 tif ((decide (r1<0))) (
 some []) (
 a0a (at? l r1) fun r2 =>
 some r2.2):=by kernel_rfl
theorem v0p (n:Nat) (s:List UInt8) (prefix_:List UInt8):strings_HasPrefix (n+1) s prefix_ =
 a0a (stringslite_HasPrefix n s prefix_) fun r0 =>
 some r0:=by kernel_rfl
theorem d1v (n:Nat) (a:(Int×Int)):g0b (n+1) a =
 tif ((decide (a.2=0))) (
 a0a (k0k n a.1) fun r0 =>
 some (IntKind.wrap .i64 ((64:Int)+r0))) (
 a0a (k0k n a.2) fun r1 =>
 some r1):=by kernel_rfl
theorem p1k (n:Nat) (a:(Int×Int)) (by_:Int):u0u (n+1) a by_ =
 tif ((decide ((64:Int)≤by_))) (
 tif ((decide ((IntKind.wrap .i64 (by_-64))<0))) (
 none) (
 some (0,(shrI .u64 a.1 (IntKind.wrap .i64 (by_-64)))))) (
 tif ((decide (by_<0))) (
 none) (
 tif ((decide (by_<0))) (
 none) (
 tif ((decide ((IntKind.wrap .i64 ((64:Int)-by_))<0))) (
 none) (
 some ((shrI .u64 a.1 by_),(orI .u64 (shrI .u64 a.2 by_) (shlI .u64 a.1 (IntKind.wrap .i64 ((64:Int)-by_))))))))):=by kernel_rfl
end Go.Proofs.YtojobamheigpbaaGreatDoor
