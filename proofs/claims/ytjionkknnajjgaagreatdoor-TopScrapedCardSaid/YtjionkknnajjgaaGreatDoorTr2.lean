/- Trees, printed by program. -/
import Derived.Test.YtjionkknnajjgaaGreatDoorTr0
import Derived.KernelRfl
set_option linter.unusedVariables false
namespace Go.Proofs.YtjionkknnajjgaaGreatDoor
open Go.Flat
theorem u0q (n:Nat) (c:c0g):f0o (n+1) c =
 a0a (f0d n c.1 (1:Int) (4096:Int)) fun r0 =>
 tif (r0) (
 a0a (f0d n c.2.2.2.1 (1:Int) (65536:Int)) fun r1 =>
 tif (r1) (
 a0a (f0d n c.2.2.2.2 (1:Int) (8192:Int)) fun r2 =>
 tif (r2) (
 a0a (g0z n c.2.1.1 (1:Int) (1099511627776:Int)) fun r3 =>
 tif (r3) (
 a0a (f0d n c.2.2.1.1 (1:Int) (4096:Int)) fun r4 =>
 tif (r4) (
 a0a (g0z n c.2.1.2.1 (1:Int) (1099511627776:Int)) fun r5 =>
 tif (r5) (
 a0a (f0d n c.2.2.1.2.1 (1:Int) (4096:Int)) fun r6 =>
 tif (r6) (
 a0a (g0z n c.2.1.2.2 (1:Int) (1099511627776:Int)) fun r7 =>
 tif (r7) (
 a0a (f0d n c.2.2.1.2.2 (1:Int) (4096:Int)) fun r8 =>
 tif (r8) (
 tif ((decide (c.2.1.1=0))) (
 none) (
 tif ((decide ((Int.tmod c.2.1.2.1 c.2.1.1)=0))) (
 tif ((decide (c.2.1.1=0))) (
 none) (
 tif ((decide ((IntKind.wrap .i64 (Int.tdiv c.2.1.2.1 c.2.1.1))≤c.2.2.1.1))) (
 tif ((decide (c.2.1.2.1=0))) (
 none) (
 tif ((decide ((Int.tmod c.2.1.2.2 c.2.1.2.1)=0))) (
 tif ((decide (c.2.1.2.1=0))) (
 none) (
 tif ((decide ((IntKind.wrap .i64 (Int.tdiv c.2.1.2.2 c.2.1.2.1))≤c.2.2.1.2.1))) (
 tif ((!(decide ((IntKind.wrap .i64 (Int.tdiv c.2.1.2.2 c.2.1.2.1))≤c.2.2.1.2.1)))) (
 some (2:Int)) (
 a0a (j0t n c) fun r9 =>
 tif ((decide (c.2.2.2.2≤r9))) (
 some (2:Int)) (
 some (0:Int)))) (
 tif ((!(decide ((IntKind.wrap .i64 (Int.tdiv c.2.1.2.2 c.2.1.2.1))≤c.2.2.1.2.1)))) (
 some (2:Int)) (
 a0a (j0t n c) fun r10 =>
 tif ((decide (c.2.2.2.2≤r10))) (
 some (2:Int)) (
 some (0:Int)))))) (
 some (2:Int)))) (
 tif ((!(decide ((IntKind.wrap .i64 (Int.tdiv c.2.1.2.1 c.2.1.1))≤c.2.2.1.1)))) (
 some (2:Int)) (
 a0a (j0t n c) fun r11 =>
 tif ((decide (c.2.2.2.2≤r11))) (
 some (2:Int)) (
 some (0:Int)))))) (
 some (2:Int)))) (
 tif ((!r8)) (
 some (2:Int)) (
 a0a (j0t n c) fun r12 =>
 tif ((decide (c.2.2.2.2≤r12))) (
 some (2:Int)) (
 some (0:Int))))) (
 some (2:Int))) (
 some (2:Int))) (
 some (2:Int))) (
 some (2:Int))) (
 some (2:Int))) (
 some (2:Int))) (
 some (2:Int))) (
 some (2:Int)):=by kernel_rfl
theorem n1i (n:Nat) (s:b0b):p0y (n+1) s =
 a0a (f0o n s.1) fun r0 =>
 tif ((!(decide (r0=0)))) (
 some (((0,((0,(0,0)),((0,(0,0)),(0,0)))),(0,(0,[]))),2)) (
 tif ((!(decide ((((List.length s.2.2.2):Nat):Int)=s.1.2.2.2.1)))) (
 some (((0,((0,(0,0)),((0,(0,0)),(0,0)))),(0,(0,[]))),2)) (
 some (s,0))):=by kernel_rfl
theorem v0c (n:Nat) (v:b0b):l0e (n+1) v =
 a0a (t0e n v.2.1) fun r0 =>
 tif (r0) (
 tif ((decide (v.2.2.1=((-1):Int)))) (
 some (decide (v.2.2.1≤v.2.1))) (
 a0a (t0e n v.2.2.1) fun r1 =>
 tif (r1) (
 some (decide (v.2.2.1≤v.2.1))) (
 some false))) (
 some false):=by kernel_rfl
theorem v0a (n:Nat) (v:b0b) (is:((Int×Unit)→Option Bool)):d0q (n+1) v is =
 a0a (c0d n a0c (is,((((List.length v.2.2.2):Nat):Int),(0,())))) fun r0 =>
 c0w (fun y1 =>
 some ((-1):Int)) (fun z2 =>
 some z2) r0:=by kernel_rfl
theorem i0x (n f:Nat) (is:((Int×Unit)→Option Bool)) (s9:Int) (s10:Int):c0d n (f+1) (is,s9,s10,()) =
 tif ((decide (s10<s9))) (
 a0a (is (s10,())) fun r0 =>
 tif (r0) (
 some (.inr s10)) (
 c0d n f (is,(s9,((IntKind.wrap .i64 (s10+1)),()))))) (
 some (.inl ())):=by kernel_rfl
theorem c1b (n:Nat) (i:Int) (p1:b0b):e0i (n+1) i p1 =
 a0a (l0d n p1 i) fun r0 =>
 some (!r0):=by kernel_rfl
theorem u0z (n:Nat) (v:b0b) (i:Int):l0d (n+1) v i =
 a0a (at? v.2.2.2 i) fun r0 =>
 a0a (t0f n r0) fun r1 =>
 tif (r1) (
 some true) (
 a0a (o0x n v.1 r0) fun r2 =>
 tif ((decide (r2=0))) (
 tif ((decide ((0:Int)≤r0.2.1))) (
 a0a (j0f n v) fun r3 =>
 tif ((decide (r0.2.1<(IntKind.wrap .i64 (r3+v.1.2.1.1))))) (
 a0a (n0i n v i) fun r4 =>
 some (!r4)) (
 some false)) (
 some false)) (
 some false)):=by kernel_rfl
theorem v0b (n:Nat) (v:b0b) (i:Int):e0o (n+1) v i =
 a0a (at? v.2.2.2 i) fun r0 =>
 a0a (t0f n r0) fun r1 =>
 tif ((!r1)) (
 tif ((decide (v.2.2.1=((-1):Int)))) (
 some true) (
 a0a (s0a n v.1 r0.2.1 v.2.2.1) fun r2 =>
 some (!r2))) (
 some false):=by kernel_rfl
theorem n1d (n:Nat) (l:(List a0d)):f1i (n+1) l =
 a0a (j0i n l) fun r0 =>
 a0a (g0r n r0 (fun y1=>o0q n y1.1)) fun r2 =>
 a0a (e0q n r2 (fun y3=>p0w n y3.1 y3.2.1)) fun r4 =>
 some r4:=by kernel_rfl
theorem c1f (n:Nat) (c:c0g) (last:Int) (now:Int):s0a (n+1) c last now =
 a0a (f0o n c) fun r0 =>
 tif ((decide (r0=0))) (
 a0a (z0h n last now c.2.1.1 c.2.2.1.1) fun r1 =>
 tif (r1) (
 a0a (z0h n last now c.2.1.2.1 c.2.2.1.2.1) fun r2 =>
 tif (r2) (
 a0a (z0h n last now c.2.1.2.2 c.2.2.1.2.2) fun r3 =>
 tif (r3) (
 some r3) (
 some r3)) (
 some r2)) (
 some r1)) (
 some (decide (r0=0))):=by kernel_rfl
theorem n1m (n:Nat) (s:b0b):f1o (n+1) s =
 a0a (p0y n s) fun r0 =>
 tif ((!(decide (r0.2=0)))) (
 some (0:Int)) (
 a0a (t0e n s.2.1) fun r1 =>
 tif ((!r1)) (
 some (0:Int)) (
 a0a (j0f n r0.1) fun r2 =>
 some r2)):=by kernel_rfl
theorem f1p (n:Nat) (i:Int) (p1:b0b) (p2:(List (List UInt8×List UInt8))) (p3:b0b):f0h (n+1) i p1 p2 p3 =
 a0a (at? p1.2.2.2 i) fun r0 =>
 a0a (m0i n r0.1 p2) fun r1 =>
 tif (r1) (
 a0a (e0o n p3 i) fun r2 =>
 some r2) (
 some false):=by kernel_rfl
theorem f1n (n:Nat) (i:Int) (p1:b0b):f0g (n+1) i p1 =
 a0a (e0o n p1 i) fun r0 =>
 some (!r0):=by kernel_rfl
theorem v0g (n:Nat) (s:(List (List UInt8×List UInt8))):l0i (n+1) s =
 tif ((decide ((List.length s)=0))) (
 both (
 some []) (
 tif ((decide (((0+(List.length s))*32)≤140737488355328))) (
 some ([]++s)) (
 none))) (
 tif ((decide (((0+(List.length s))*32)≤140737488355328))) (
 some ([]++s)) (
 none)):=by kernel_rfl
theorem h1o (n:Nat) (c:c0g):w0c (n+1) c =
 a0a (f0o n c) fun r0 =>
 tif ((!(decide (r0=0)))) (
 some ([],([],[]))) (
 a0a (s0w n c.2.2.1.1) fun r1 =>
 a0a (s0w n c.2.2.1.2.1) fun r2 =>
 a0a (s0w n c.2.2.1.2.2) fun r3 =>
 some (r1,(r2,r3))):=by kernel_rfl
theorem h1q (n:Nat) (c:c0g) (s:((List a0d)×((List a0d)×(List a0d)))):w0e (n+1) c s =
 a0a (u0l n c s) fun r0 =>
 a1l (r0.1) (
 some r0.2) fun r1 =>
 some r0.2:=by kernel_rfl
theorem k1i (n:Nat) (r:(Int×(Int×(List a0t)))) (room:Int):t0w (n+1) r room =
 tif ((decide (room<1))) (
 some (2:Int)) (
 tif ((decide ((4096:Int)<room))) (
 some (2:Int)) (
 tif ((decide (room<(((List.length r.2.2):Nat):Int)))) (
 some (2:Int)) (
 tif ((decide (r.1<0))) (
 some (2:Int)) (
 tif ((decide ((70368744177664:Int)<r.1))) (
 some (2:Int)) (
 a0a (v0l n r.2.2) fun r0 =>
 tif ((!r0)) (
 some (2:Int)) (
 a0a (d1r n r room) fun r1 =>
 tif ((!r1)) (
 some (2:Int)) (
 some (0:Int)))))))):=by kernel_rfl
theorem j1w (n:Nat) (s:c0l):z0q (n+1) s =
 tif ((decide ((((List.length s.2.2.2.1.2.2):Nat):Int)=0))) (
 tif (((decide (s.2.2.2.2.2.1=0))&&((decide (s.2.2.2.2.2.2.1=0))&&((decide (s.2.2.2.2.2.2.2.1.1=0))&&((decide (s.2.2.2.2.2.2.2.1.2.1=0))&&((decide (s.2.2.2.2.2.2.2.1.2.2.1=0))&&((s.2.2.2.2.2.2.2.1.2.2.2==false)&&((decide (s.2.2.2.2.2.2.2.2.1.1=0))&&((decide (s.2.2.2.2.2.2.2.2.1.2.1=0))&&((decide (s.2.2.2.2.2.2.2.2.1.2.2.1=0))&&((s.2.2.2.2.2.2.2.2.1.2.2.2==false)&&((decide (s.2.2.2.2.2.2.2.2.2.1.1=0))&&((decide (s.2.2.2.2.2.2.2.2.2.1.2=0))&&((decide (s.2.2.2.2.2.2.2.2.2.2.1=0))&&((decide (s.2.2.2.2.2.2.2.2.2.2.2.1=0))&&(decide (s.2.2.2.2.2.2.2.2.2.2.2.2=0))))))))))))))))) (
 a0a (d0m n s.2.2.2.2.1.1 (0:Int)) fun r0 =>
 tif ((!r0)) (
 a0a (d0m n s.2.2.2.2.1.2.1 (0:Int)) fun r1 =>
 tif ((!r1)) (
 a0a (d0m n s.2.2.2.2.1.2.2 (0:Int)) fun r2 =>
 some (!r2)) (
 some false)) (
 some false)) (
 some false)) (
 some false):=by kernel_rfl
theorem n1q (n:Nat) (s:c0l):y0m (n+1) s =
 a0a (y0o n s.2.2.2.1) fun r0 =>
 tif ((decide (r0.2=0))) (
 tif ((decide (r0.1.1=s.2.2.1))) (
 tif ((decide (s.2.2.2.2.2.2.2.2.1.1=s.2.2.1))) (
 a0a (k0b n s.2.2.2.2.2.2 s.1.2.1.1 s.2.2.2.2.2.1) fun r1 =>
 tif (r1) (
 tif ((decide (s.1.2.1.1=0))) (
 none) (
 a0a (d0m n s.2.2.2.2.1.1 (IntKind.wrap .i64 (Int.tdiv s.2.2.1 s.1.2.1.1))) fun r2 =>
 tif ((!r2)) (
 tif ((decide (s.1.2.1.2.1=0))) (
 none) (
 a0a (d0m n s.2.2.2.2.1.2.1 (IntKind.wrap .i64 (Int.tdiv s.2.2.1 s.1.2.1.2.1))) fun r3 =>
 tif ((!r3)) (
 tif ((decide (s.1.2.1.2.2=0))) (
 none) (
 a0a (d0m n s.2.2.2.2.1.2.2 (IntKind.wrap .i64 (Int.tdiv s.2.2.1 s.1.2.1.2.2))) fun r4 =>
 some (!r4))) (
 some false))) (
 some false))) (
 some false)) (
 some false)) (
 some false)) (
 some false):=by kernel_rfl
theorem h1p (n:Nat) (c:c0g) (s:((List a0d)×((List a0d)×(List a0d)))) (was:a0d) (j:Int):w0d (n+1) c s was j =
 a0a (u0l n c s) fun r0 =>
 a1l (r0.1) (
 tif ((!(decide (r0.2=0)))) (
 some (([],([],[])),r0.2)) (
 tif ((!((decide (was.1=0))&&((decide (was.2.1=0))&&((decide (was.2.2.1.1=0))&&((decide (was.2.2.1.2.1=0))&&((decide (was.2.2.1.2.2.1=0))&&((was.2.2.1.2.2.2==false)&&((decide (was.2.2.2.1.1=0))&&((decide (was.2.2.2.1.2.1=0))&&((decide (was.2.2.2.1.2.2.1=0))&&((was.2.2.2.1.2.2.2==false)&&((decide (was.2.2.2.2.1.1=0))&&((decide (was.2.2.2.2.1.2=0))&&((decide (was.2.2.2.2.2.1=0))&&((decide (was.2.2.2.2.2.2.1=0))&&(decide (was.2.2.2.2.2.2.2=0)))))))))))))))))) (
 a0a (k0b n was.2 c.2.1.1 was.1) fun r1 =>
 tif ((!r1)) (
 some (([],([],[])),2)) (
 tif (((decide (was.1=0))&&((decide (was.2.1=0))&&((decide (was.2.2.1.1=0))&&((decide (was.2.2.1.2.1=0))&&((decide (was.2.2.1.2.2.1=0))&&((was.2.2.1.2.2.2==false)&&((decide (was.2.2.2.1.1=0))&&((decide (was.2.2.2.1.2.1=0))&&((decide (was.2.2.2.1.2.2.1=0))&&((was.2.2.2.1.2.2.2==false)&&((decide (was.2.2.2.2.1.1=0))&&((decide (was.2.2.2.2.1.2=0))&&((decide (was.2.2.2.2.2.1=0))&&((decide (was.2.2.2.2.2.2.1=0))&&(decide (was.2.2.2.2.2.2.2=0))))))))))))))))) (
 some (s,0)) (
 tif ((decide (was.1=j))) (
 some (s,0)) (
 tif ((decide (j<was.1))) (
 some (([],([],[])),1)) (
 none))))) (
 tif (((decide (was.1=0))&&((decide (was.2.1=0))&&((decide (was.2.2.1.1=0))&&((decide (was.2.2.1.2.1=0))&&((decide (was.2.2.1.2.2.1=0))&&((was.2.2.1.2.2.2==false)&&((decide (was.2.2.2.1.1=0))&&((decide (was.2.2.2.1.2.1=0))&&((decide (was.2.2.2.1.2.2.1=0))&&((was.2.2.2.1.2.2.2==false)&&((decide (was.2.2.2.2.1.1=0))&&((decide (was.2.2.2.2.1.2=0))&&((decide (was.2.2.2.2.2.1=0))&&((decide (was.2.2.2.2.2.2.1=0))&&(decide (was.2.2.2.2.2.2.2=0))))))))))))))))) (
 some (s,0)) (
 tif ((decide (was.1=j))) (
 some (s,0)) (
 tif ((decide (j<was.1))) (
 some (([],([],[])),1)) (
 none)))))) fun r2 =>
 tif ((!(decide (r0.2=0)))) (
 some (([],([],[])),r0.2)) (
 tif ((!((decide (was.1=0))&&((decide (was.2.1=0))&&((decide (was.2.2.1.1=0))&&((decide (was.2.2.1.2.1=0))&&((decide (was.2.2.1.2.2.1=0))&&((was.2.2.1.2.2.2==false)&&((decide (was.2.2.2.1.1=0))&&((decide (was.2.2.2.1.2.1=0))&&((decide (was.2.2.2.1.2.2.1=0))&&((was.2.2.2.1.2.2.2==false)&&((decide (was.2.2.2.2.1.1=0))&&((decide (was.2.2.2.2.1.2=0))&&((decide (was.2.2.2.2.2.1=0))&&((decide (was.2.2.2.2.2.2.1=0))&&(decide (was.2.2.2.2.2.2.2=0)))))))))))))))))) (
 a0a (k0b n was.2 c.2.1.1 was.1) fun r3 =>
 tif ((!r3)) (
 some (([],([],[])),2)) (
 tif (((decide (was.1=0))&&((decide (was.2.1=0))&&((decide (was.2.2.1.1=0))&&((decide (was.2.2.1.2.1=0))&&((decide (was.2.2.1.2.2.1=0))&&((was.2.2.1.2.2.2==false)&&((decide (was.2.2.2.1.1=0))&&((decide (was.2.2.2.1.2.1=0))&&((decide (was.2.2.2.1.2.2.1=0))&&((was.2.2.2.1.2.2.2==false)&&((decide (was.2.2.2.2.1.1=0))&&((decide (was.2.2.2.2.1.2=0))&&((decide (was.2.2.2.2.2.1=0))&&((decide (was.2.2.2.2.2.2.1=0))&&(decide (was.2.2.2.2.2.2.2=0))))))))))))))))) (
 some (s,0)) (
 tif ((decide (was.1=j))) (
 some (s,0)) (
 tif ((decide (j<was.1))) (
 some (([],([],[])),1)) (
 a0a (o0a n r2 (0:Int) j) fun r4 =>
 tif ((!r4.1)) (
 some (([],([],[])),1)) (
 a0a (e0s n r4.2 (0:Int) was.1 was.2) fun r5 =>
 tif ((!(decide (r5.1=0)))) (
 some (([],([],[])),r5.1)) (
 a0a (h1s n r5.2 was.1 j) fun r6 =>
 some (r6.2,0)))))))) (
 tif (((decide (was.1=0))&&((decide (was.2.1=0))&&((decide (was.2.2.1.1=0))&&((decide (was.2.2.1.2.1=0))&&((decide (was.2.2.1.2.2.1=0))&&((was.2.2.1.2.2.2==false)&&((decide (was.2.2.2.1.1=0))&&((decide (was.2.2.2.1.2.1=0))&&((decide (was.2.2.2.1.2.2.1=0))&&((was.2.2.2.1.2.2.2==false)&&((decide (was.2.2.2.2.1.1=0))&&((decide (was.2.2.2.2.1.2=0))&&((decide (was.2.2.2.2.2.1=0))&&((decide (was.2.2.2.2.2.2.1=0))&&(decide (was.2.2.2.2.2.2.2=0))))))))))))))))) (
 some (s,0)) (
 tif ((decide (was.1=j))) (
 some (s,0)) (
 tif ((decide (j<was.1))) (
 some (([],([],[])),1)) (
 a0a (o0a n r2 (0:Int) j) fun r7 =>
 tif ((!r7.1)) (
 some (([],([],[])),1)) (
 a0a (e0s n r7.2 (0:Int) was.1 was.2) fun r8 =>
 tif ((!(decide (r8.1=0)))) (
 some (([],([],[])),r8.1)) (
 a0a (h1s n r8.2 was.1 j) fun r9 =>
 some (r9.2,0)))))))):=by kernel_rfl
theorem u1j (n:Nat) (r:(Int×(Int×(List a0t)))) (room:Int) (e:a0t):o1f (n+1) r room e =
 a0a (t0w n r room) fun r0 =>
 tif ((!(decide (r0=0)))) (
 some ((0,(0,[])),2)) (
 a0a (d0f n e) fun r1 =>
 tif ((!(decide (r1=0)))) (
 some ((0,(0,[])),2)) (
 a0a (y0o n r) fun r2 =>
 tif ((decide (r2.2=0))) (
 a0a (i0n n r2.1 e) fun r3 =>
 tif ((!r3)) (
 some ((0,(0,[])),9)) (
 tif ((decide ((((List.length r.2.2):Nat):Int)=room))) (
 tif ((decide (r.1=70368744177664))) (
 some ((0,(0,[])),1)) (
 a0a (n0r n r.2.2 room) fun r4 =>
 a1l (r4.1) (
 tif ((!(decide (r4.2=0)))) (
 some ((0,(0,[])),r4.2)) (
 none)) fun r5 =>
 tif ((!(decide (r4.2=0)))) (
 some ((0,(0,[])),r4.2)) (
 a0a (w0u n r5 e) fun r6 =>
 tif (r6.2.1) (
 a0a (k0t n r6.2.2) fun r7 =>
 some (((IntKind.wrap .i64 (r.1+1)),(r6.1.1,r7.1)),0)) (
 a0a (k0t n r6.2.2) fun r8 =>
 some ((r.1,(r.2.1,r8.1)),0))))) (
 a0a (n0r n r.2.2 room) fun r9 =>
 a1l (r9.1) (
 tif ((!(decide (r9.2=0)))) (
 some ((0,(0,[])),r9.2)) (
 none)) fun r10 =>
 tif ((!(decide (r9.2=0)))) (
 some ((0,(0,[])),r9.2)) (
 a0a (w0u n r10 e) fun r11 =>
 tif (r11.2.1) (
 a0a (k0t n r11.2.2) fun r12 =>
 some (((IntKind.wrap .i64 (r.1+1)),(r11.1.1,r12.1)),0)) (
 a0a (k0t n r11.2.2) fun r13 =>
 some ((r.1,(r.2.1,r13.1)),0)))))) (
 tif ((decide ((((List.length r.2.2):Nat):Int)=room))) (
 tif ((decide (r.1=70368744177664))) (
 some ((0,(0,[])),1)) (
 a0a (n0r n r.2.2 room) fun r14 =>
 a1l (r14.1) (
 tif ((!(decide (r14.2=0)))) (
 some ((0,(0,[])),r14.2)) (
 none)) fun r15 =>
 tif ((!(decide (r14.2=0)))) (
 some ((0,(0,[])),r14.2)) (
 a0a (w0u n r15 e) fun r16 =>
 tif (r16.2.1) (
 a0a (k0t n r16.2.2) fun r17 =>
 some (((IntKind.wrap .i64 (r.1+1)),(r16.1.1,r17.1)),0)) (
 a0a (k0t n r16.2.2) fun r18 =>
 some ((r.1,(r.2.1,r18.1)),0))))) (
 a0a (n0r n r.2.2 room) fun r19 =>
 a1l (r19.1) (
 tif ((!(decide (r19.2=0)))) (
 some ((0,(0,[])),r19.2)) (
 none)) fun r20 =>
 tif ((!(decide (r19.2=0)))) (
 some ((0,(0,[])),r19.2)) (
 a0a (w0u n r20 e) fun r21 =>
 tif (r21.2.1) (
 a0a (k0t n r21.2.2) fun r22 =>
 some (((IntKind.wrap .i64 (r.1+1)),(r21.1.1,r22.1)),0)) (
 a0a (k0t n r21.2.2) fun r23 =>
 some ((r.1,(r.2.1,r23.1)),0))))))):=by kernel_rfl
theorem p1v (n:Nat) (c:c0o) (e:a0t):i1v (n+1) c e =
 a0a (d0f n e) fun r0 =>
 tif ((!(decide (r0=0)))) (
 some ((0,((0,(0,(0,false))),((0,(0,(0,false))),((0,0),(0,(0,0)))))),r0)) (
 a0a (i1r n e) fun r1 =>
 a0a (q0o n c r1) fun r2 =>
 some r2):=by kernel_rfl
theorem v0f (n:Nat) (s1:(List a0t)) (s2:(List a0t)):l0h (n+1) s1 s2 =
 tif ((!(decide ((((List.length s1):Nat):Int)=(((List.length s2):Nat):Int))))) (
 some false) (
 a0a (f0j n a0c (s1,(s2,((((List.length s1):Nat):Int),(0,()))))) fun r0 =>
 c0w (fun y1 =>
 some true) (fun z2 =>
 some z2) r0):=by kernel_rfl
theorem j0b (n f:Nat) (s1:(List a0t)) (s2:(List a0t)) (s12:Int) (s13:Int):f0j n (f+1) (s1,s2,s12,s13,()) =
 tif ((decide (s13<s12))) (
 a0a (at? s1 s13) fun r0 =>
 a0a (at? s2 s13) fun r1 =>
 tif ((!((decide (r0.1=r1.1))&&((decide (r0.2.1=r1.2.1))&&((decide (r0.2.2.1=r1.2.2.1))&&(r0.2.2.2==r1.2.2.2)))))) (
 some (.inr false)) (
 f0j n f (s1,(s2,(s12,((IntKind.wrap .i64 (s13+1)),())))))) (
 some (.inl ())):=by kernel_rfl
theorem c1m (n:Nat) (c:Int):n0y (n+1) c =
 tif ((decide ((48:Int)≤c))) (
 some (decide (c≤57))) (
 some false):=by kernel_rfl
theorem n0l (n:Nat) (s:(List Int)) (f_:((Int×Unit)→Option Bool)):f0w (n+1) s f_ =
 a0a (m0a n s f_) fun r0 =>
 some (decide ((0:Int)≤r0)):=by kernel_rfl
theorem a1r (n:Nat) (c:Int):p0g (n+1) c =
 a0a (v0x n c) fun r0 =>
 some (!r0):=by kernel_rfl
theorem g1x (n:Nat) (c:Int):v0x (n+1) c =
 a0a (n0y n c) fun r0 =>
 tif (r0) (
 some true) (
 tif ((decide (c=95))) (
 some true) (
 tif ((decide ((97:Int)≤(orI .u8 c (32:Int))))) (
 some (decide ((orI .u8 c (32:Int))≤122))) (
 some false))):=by kernel_rfl
theorem x0r (n:Nat) (s:List UInt8) (substr:List UInt8):strings_Index (n+1) s substr =
 a0a (stringslite_Index n s substr) fun r0 =>
 some r0:=by kernel_rfl
theorem q0v (n:Nat) (x:Int):l0v (n+1) x =
 some (shrI .i64 (IntKind.wrap .i64 (x*78913)) (18:Int)):=by kernel_rfl
theorem u0d (n:Nat) (x:Int):g0u (n+1) x =
 tif ((decide ((4294967296:Int)≤x))) (
 tif ((decide ((65536:Int)≤(shrI .u64 x (32:Int))))) (
 tif ((decide ((256:Int)≤(shrI .u64 (shrI .u64 x (32:Int)) (16:Int))))) (
 a0a (at? f0p (IntKind.wrap .u8 (shrI .u64 (shrI .u64 (shrI .u64 x (32:Int)) (16:Int)) (8:Int)))) fun r0 =>
 some (IntKind.wrap .i64 ((56:Int)+(IntKind.wrap .i64 (((UInt8.toNat r0):Nat):Int))))) (
 a0a (at? f0p (IntKind.wrap .u8 (shrI .u64 (shrI .u64 x (32:Int)) (16:Int)))) fun r1 =>
 some (IntKind.wrap .i64 ((48:Int)+(IntKind.wrap .i64 (((UInt8.toNat r1):Nat):Int)))))) (
 tif ((decide ((256:Int)≤(shrI .u64 x (32:Int))))) (
 a0a (at? f0p (IntKind.wrap .u8 (shrI .u64 (shrI .u64 x (32:Int)) (8:Int)))) fun r2 =>
 some (IntKind.wrap .i64 ((40:Int)+(IntKind.wrap .i64 (((UInt8.toNat r2):Nat):Int))))) (
 a0a (at? f0p (IntKind.wrap .u8 (shrI .u64 x (32:Int)))) fun r3 =>
 some (IntKind.wrap .i64 ((32:Int)+(IntKind.wrap .i64 (((UInt8.toNat r3):Nat):Int))))))) (
 tif ((decide ((65536:Int)≤x))) (
 tif ((decide ((256:Int)≤(shrI .u64 x (16:Int))))) (
 a0a (at? f0p (IntKind.wrap .u8 (shrI .u64 (shrI .u64 x (16:Int)) (8:Int)))) fun r4 =>
 some (IntKind.wrap .i64 ((24:Int)+(IntKind.wrap .i64 (((UInt8.toNat r4):Nat):Int))))) (
 a0a (at? f0p (IntKind.wrap .u8 (shrI .u64 x (16:Int)))) fun r5 =>
 some (IntKind.wrap .i64 ((16:Int)+(IntKind.wrap .i64 (((UInt8.toNat r5):Nat):Int)))))) (
 tif ((decide ((256:Int)≤x))) (
 a0a (at? f0p (IntKind.wrap .u8 (shrI .u64 x (8:Int)))) fun r6 =>
 some (IntKind.wrap .i64 ((8:Int)+(IntKind.wrap .i64 (((UInt8.toNat r6):Nat):Int))))) (
 a0a (at? f0p (IntKind.wrap .u8 x)) fun r7 =>
 some (IntKind.wrap .i64 ((0:Int)+(IntKind.wrap .i64 (((UInt8.toNat r7):Nat):Int))))))):=by kernel_rfl
theorem q0w (n:Nat) (b:Bool):l0w (n+1) b =
 tif (b) (
 some (1:Int)) (
 some (0:Int)):=by kernel_rfl
theorem c1y (n:Nat) (n_:Int) (low:Int) (high:Int):f0d (n+1) n_ low high =
 tif ((decide (low≤n_))) (
 some (decide (n_≤high))) (
 some false):=by kernel_rfl
theorem y0g (n:Nat) (n_:Int) (low:Int) (high:Int):g0z (n+1) n_ low high =
 tif ((decide (low≤n_))) (
 some (decide (n_≤high))) (
 some false):=by kernel_rfl
theorem i1n (n:Nat) (c:c0g):j0t (n+1) c =
 a0a (j0u n c.1 (16:Int)) fun r0 =>
 a0a (j0u n c.2.2.1.1 (4:Int)) fun r1 =>
 a0a (j0u n c.2.2.1.2.1 (4:Int)) fun r2 =>
 a0a (j0u n c.2.2.1.2.2 (4:Int)) fun r3 =>
 some (IntKind.wrap .i64 ((IntKind.wrap .i64 ((IntKind.wrap .i64 ((IntKind.wrap .i64 ((1:Int)+r0))+r1))+r2))+r3)):=by kernel_rfl
theorem n1h (n:Nat) (t:Int):t0e (n+1) t =
 tif ((decide ((0:Int)≤t))) (
 some (decide (t<35184372088832))) (
 some false):=by kernel_rfl
theorem j1t (n:Nat) (s:b0j):t0f (n+1) s =
 a0a (e0x n s ([],(0,((0,(0,[])),(([],([],[])),(0,(0,((0,(0,(0,false))),((0,(0,(0,false))),((0,0),(0,(0,0)))))))))))) fun r0 =>
 some r0:=by kernel_rfl
theorem z0y (n:Nat) (c:c0g) (s:b0j):o0x (n+1) c s =
 a0a (n0o n c s) fun r0 =>
 a1l (r0.1) (
 some r0.2) fun r1 =>
 some r0.2:=by kernel_rfl
theorem x0p (n:Nat) (v:b0b):j0f (n+1) v =
 tif ((decide (v.1.2.1.1=0))) (
 none) (
 some (IntKind.wrap .i64 (v.2.1-(Int.tmod v.2.1 v.1.2.1.1)))):=by kernel_rfl
theorem x0o (n:Nat) (v:b0b) (i:Int):n0i (n+1) v i =
 a0a (d0q n v (fun y0=>e0w n y0.1 i v)) fun r1 =>
 tif ((decide (r1<i))) (
 a0a (e0o n v i) fun r2 =>
 some r2) (
 some false):=by kernel_rfl
theorem o0v (n:Nat) (s:(List a0d)) (del:((a0d×Unit)→Option Bool)):g0r (n+1) s del =
 a0a (h0m n s del) fun r0 =>
 tif ((decide (r0=((-1):Int)))) (
 some s) (
 a0a (c0k n a0c (s,(del,(r0,((IntKind.wrap .i64 (r0+1)),()))))) fun r1 =>
 c0w (fun y2 =>
 tif ((decide ((0:Int)≤y2.2.1))) (
 tif ((decide ((Int.toNat y2.2.1)≤(List.length y2.1)))) (
 tif ((decide (((Int.toNat y2.2.1)+((List.length y2.1)-(Int.toNat y2.2.1)))≤(List.length y2.1)))) (
 tif (((decide ((0:Int)≤y2.2.1))&&(decide (y2.2.1≤(((List.length (Go.Flat.putRow y2.1 (Int.toNat y2.2.1) (List.replicate ((List.length y2.1)-(Int.toNat y2.2.1)) (0,(0,((0,(0,(0,false))),((0,(0,(0,false))),((0,0),(0,(0,0)))))))))):Nat):Int))))) (
 some (List.take ((Int.toNat y2.2.1)-0) (Go.Flat.putRow y2.1 (Int.toNat y2.2.1) (List.replicate ((List.length y2.1)-(Int.toNat y2.2.1)) (0,(0,((0,(0,(0,false))),((0,(0,(0,false))),((0,0),(0,(0,0))))))))))) (
 none)) (
 none)) (
 none)) (
 none)) (fun z3 =>
 some z3) r1):=by kernel_rfl
theorem g0l (n f:Nat) (s:(List a0d)) (del:((a0d×Unit)→Option Bool)) (i:Int) (j:Int):c0k n (f+1) (s,del,i,j,()) =
 tif ((decide (j<(((List.length s):Nat):Int)))) (
 a0a (at? s j) fun r0 =>
 a0a ((s)[(Int.toNat j)]?) fun r1 =>
 a0a (del (r1,())) fun r2 =>
 tif ((!r2)) (
 a0a (at? s i) fun r3 =>
 a0a ((s)[(Int.toNat i)]?) fun r4 =>
 c0k n f ((List.set s (Int.toNat i) r1),(del,((IntKind.wrap .i64 (i+1)),((IntKind.wrap .i64 (j+1)),()))))) (
 c0k n f (s,(del,(i,((IntKind.wrap .i64 (j+1)),())))))) (
 some (.inl (s,(i,())))):=by kernel_rfl
theorem x0u (n:Nat) (s:(List a0d)):j0i (n+1) s =
 tif ((decide ((List.length s)=0))) (
 both (
 some []) (
 tif ((decide (((0+(List.length s))*120)≤140737488355328))) (
 some ([]++s)) (
 none))) (
 tif ((decide (((0+(List.length s))*120)≤140737488355328))) (
 some ([]++s)) (
 none)):=by kernel_rfl
theorem j1k (n:Nat) (s:a0d):o0q (n+1) s =
 some ((decide (s.1=0))&&((decide (s.2.1=0))&&((decide (s.2.2.1.1=0))&&((decide (s.2.2.1.2.1=0))&&((decide (s.2.2.1.2.2.1=0))&&((s.2.2.1.2.2.2==false)&&((decide (s.2.2.2.1.1=0))&&((decide (s.2.2.2.1.2.1=0))&&((decide (s.2.2.2.1.2.2.1=0))&&((s.2.2.2.1.2.2.2==false)&&((decide (s.2.2.2.2.1.1=0))&&((decide (s.2.2.2.2.1.2=0))&&((decide (s.2.2.2.2.2.1=0))&&((decide (s.2.2.2.2.2.2.1=0))&&(decide (s.2.2.2.2.2.2.2=0)))))))))))))))):=by kernel_rfl
theorem l0f (n:Nat) (x:(List a0d)) (cmp:((a0d×(a0d×Unit))→Option Int)):e0q (n+1) x cmp =
 a0a (y1e n x (((List.length x):Nat):Int) cmp) fun r0 =>
 some r0:=by kernel_rfl
theorem f1h (n:Nat) (a:a0d) (b:a0d):p0w (n+1) a b =
 a0a (h0w n a.1 b.1) fun r0 =>
 some r0:=by kernel_rfl
theorem r0c (n:Nat) (x:Int) (y:Int):h0w (n+1) x y =
 a0a (k0n n x) fun r0 =>
 a0a (k0n n y) fun r1 =>
 tif (r0) (
 tif (r1) (
 some (0:Int)) (
 some ((-1):Int))) (
 tif (r1) (
 some (1:Int)) (
 tif ((decide (x<y))) (
 some ((-1):Int)) (
 tif ((decide (y<x))) (
 some (1:Int)) (
 some (0:Int))))):=by kernel_rfl
theorem s1w (n:Nat) (t:Int) (now:Int) (w:Int) (n_:Int):z0h (n+1) t now w n_ =
 a0a (s1v n t w) fun r0 =>
 a0a (z0g n now w n_) fun r1 =>
 tif ((decide (r0.2=0))) (
 tif ((decide (r1.2=0))) (
 some (decide (r0.1<r1.1))) (
 some false)) (
 some false):=by kernel_rfl
theorem n1a (n:Nat) (n_:Int):s0w (n+1) n_ =
 tif ((decide (n_<1))) (
 some []) (
 tif ((decide ((4096:Int)<n_))) (
 some []) (
 tif (((decide ((0:Int)≤n_))&&((decide (n_≤n_))&&(decide ((n_*120)≤140737488355328))))) (
 some (List.replicate (Int.toNat n_) (0,(0,((0,(0,(0,false))),((0,(0,(0,false))),((0,0),(0,(0,0))))))))) (
 none))):=by kernel_rfl
theorem l1w (n:Nat) (c:c0g) (s:((List a0d)×((List a0d)×(List a0d)))):u0l (n+1) c s =
 a0a (f0o n c) fun r0 =>
 tif ((!(decide (r0=0)))) (
 some (none,r0)) (
 tif ((!(decide ((((List.length s.1):Nat):Int)=c.2.2.1.1)))) (
 some (none,2)) (
 a0a (j0n n s.1 c.2.1.1) fun r1 =>
 tif ((!(decide (r1=0)))) (
 some (none,2)) (
 tif ((!(decide ((((List.length s.2.1):Nat):Int)=c.2.2.1.2.1)))) (
 some (none,2)) (
 a0a (j0n n s.2.1 c.2.1.2.1) fun r2 =>
 tif ((!(decide (r2=0)))) (
 some (none,2)) (
 tif ((!(decide ((((List.length s.2.2):Nat):Int)=c.2.2.1.2.2)))) (
 some (none,2)) (
 a0a (j0n n s.2.2 c.2.1.2.2) fun r3 =>
 tif ((!(decide (r3=0)))) (
 some (none,2)) (
 some ((some (c,s)),0)))))))):=by kernel_rfl
theorem g1d (n:Nat) (l:(List a0t)):v0l (n+1) l =
 a0a (f0l n a0c (l,(l,((((List.length l):Nat):Int),(0,()))))) fun r0 =>
 c0w (fun y1 =>
 some true) (fun z2 =>
 some z2) r0:=by kernel_rfl
theorem o0l (n f:Nat) (l:(List a0t)) (s5:(List a0t)) (s6:Int) (s7:Int):f0l n (f+1) (l,s5,s6,s7,()) =
 tif ((decide (s7<s6))) (
 a0a (at? s5 s7) fun r0 =>
 a0a (d0f n r0) fun r1 =>
 tif ((!(decide (r1=0)))) (
 some (.inr false)) (
 tif ((decide ((0:Int)<s7))) (
 a0a (at? l (IntKind.wrap .i64 (s7-1))) fun r2 =>
 a0a (i0n n r2 r0) fun r3 =>
 tif ((!r3)) (
 some (.inr false)) (
 f0l n f (l,(s5,(s6,((IntKind.wrap .i64 (s7+1)),())))))) (
 f0l n f (l,(s5,(s6,((IntKind.wrap .i64 (s7+1)),()))))))) (
 some (.inl ())):=by kernel_rfl
theorem g1e (n:Nat) (r:(Int×(Int×(List a0t)))) (room:Int):d1r (n+1) r room =
 tif ((decide (r.1=0))) (
 some (decide (r.2.1=0))) (
 tif ((decide ((((List.length r.2.2):Nat):Int)=room))) (
 tif ((decide ((0:Int)≤r.2.1))) (
 a0a (at? r.2.2 (0:Int)) fun r0 =>
 some (decide (r.2.1<r0.1))) (
 some false)) (
 some false)):=by kernel_rfl
theorem x0v (n:Nat) (l:(List a0d)) (i:Int):d0m (n+1) l i =
 a0a (f0x n l (fun y0=>k0g n y0.1 i)) fun r1 =>
 some r1:=by kernel_rfl
theorem o1g (n:Nat) (r:(Int×(Int×(List a0t)))):y0o (n+1) r =
 tif ((decide ((((List.length r.2.2):Nat):Int)=0))) (
 some ((0,(0,(0,false))),3)) (
 a0a (at? r.2.2 (IntKind.wrap .i64 ((((List.length r.2.2):Nat):Int)-1))) fun r0 =>
 some (r0,0)):=by kernel_rfl
theorem j1o (n:Nat) (c:c0o) (w:Int) (i:Int):k0b (n+1) c w i =
 tif ((decide (c.1=0))) (
 some false) (
 a0a (m0r n c) fun r0 =>
 tif ((!(decide (r0=0)))) (
 some false) (
 a0a (e0v n a0c (w,(i,((c.2.1.1,c.2.2.1.1),(0,()))))) fun r1 =>
 c0w (fun y2 =>
 some true) (fun z3 =>
 some z3) r1)):=by kernel_rfl
theorem k0a (n f:Nat) (w:Int) (i:Int) (s25:(Int×Int)) (s26:Int):e0v n (f+1) (w,i,s25,s26,()) =
 tif ((decide (s26<2))) (
 tif ((decide (s26=0))) (
 a0a (s1v n s25.1 w) fun r0 =>
 tif ((!(decide (r0.2=0)))) (
 some (.inr false)) (
 tif ((!(decide (r0.1=i)))) (
 some (.inr false)) (
 e0v n f (w,(i,(s25,((IntKind.wrap .i64 (s26+1)),()))))))) (
 tif ((decide (s26=1))) (
 a0a (s1v n s25.2 w) fun r1 =>
 tif ((!(decide (r1.2=0)))) (
 some (.inr false)) (
 tif ((!(decide (r1.1=i)))) (
 some (.inr false)) (
 e0v n f (w,(i,(s25,((IntKind.wrap .i64 (s26+1)),()))))))) (
 none))) (
 some (.inl ())):=by kernel_rfl
theorem y0e (n:Nat) (s:r0d) (i:Int):o0a (n+1) s (0:Int) i =
 tif ((decide ((0:Int)≤i))) (
 tif ((decide (s.1.2.1.1=0))) (
 none) (
 some ((decide (i≤(IntKind.wrap .i64 (Int.tdiv (35184372088831:Int) s.1.2.1.1)))),s))) (
 some (false,s)):=by kernel_rfl
theorem h1y (n:Nat) (s:r0d) (i:Int) (c:c0o):e0s (n+1) s (0:Int) i c =
 a0a (s0v n s.2.1 s.1.2.1.1 i c) fun r0 =>
 tif ((decide (r0.2=0))) (
 some (r0.2,(s.1,(r0.1,s.2.2)))) (
 some (r0.2,s)):=by kernel_rfl
theorem h1w (n:Nat) (s:r0d) (i:Int) (c:c0o):e0s (n+1) s (1:Int) i c =
 a0a (s0v n s.2.2.1 s.1.2.1.2.1 i c) fun r0 =>
 tif ((decide (r0.2=0))) (
 some (r0.2,(s.1,(s.2.1,(r0.1,s.2.2.2))))) (
 some (r0.2,s)):=by kernel_rfl
theorem h1u (n:Nat) (s:r0d) (i:Int) (c:c0o):e0s (n+1) s (2:Int) i c =
 a0a (s0v n s.2.2.2 s.1.2.1.2.2 i c) fun r0 =>
 tif ((decide (r0.2=0))) (
 some (r0.2,(s.1,(s.2.1,(s.2.2.1,r0.1))))) (
 some (r0.2,s)):=by kernel_rfl
theorem v1x (n:Nat) (s:r0d) (i:Int) (j:Int):h1s (n+1) s i j =
 tif ((decide (s.1.2.1.2.1=0))) (
 none) (
 tif ((decide (s.1.2.1.2.1=0))) (
 none) (
 tif ((decide ((IntKind.wrap .i64 (Int.tdiv (IntKind.wrap .i64 (i*s.1.2.1.1)) s.1.2.1.2.1))=(IntKind.wrap .i64 (Int.tdiv (IntKind.wrap .i64 (j*s.1.2.1.1)) s.1.2.1.2.1))))) (
 tif ((decide (s.1.2.1.2.2=0))) (
 none) (
 tif ((decide (s.1.2.1.2.2=0))) (
 none) (
 tif ((decide ((IntKind.wrap .i64 (Int.tdiv (IntKind.wrap .i64 (i*s.1.2.1.1)) s.1.2.1.2.2))=(IntKind.wrap .i64 (Int.tdiv (IntKind.wrap .i64 (j*s.1.2.1.1)) s.1.2.1.2.2))))) (
 some s) (
 a0a (g0b n s (2:Int) (IntKind.wrap .i64 (Int.tdiv (IntKind.wrap .i64 (i*s.1.2.1.1)) s.1.2.1.2.2))) fun r0 =>
 tif ((decide (r0.2.1=0))) (
 tif ((decide ((0:Int)<r0.1.1))) (
 a0a (e0s n r0.2.2 (2:Int) (IntKind.wrap .i64 (Int.tdiv (IntKind.wrap .i64 (i*s.1.2.1.1)) s.1.2.1.2.2)) r0.1) fun r1 =>
 some r1.2) (
 some r0.2.2)) (
 some r0.2.2))))) (
 a0a (g0b n s (1:Int) (IntKind.wrap .i64 (Int.tdiv (IntKind.wrap .i64 (i*s.1.2.1.1)) s.1.2.1.2.1))) fun r2 =>
 tif ((decide (r2.2.1=0))) (
 tif ((decide ((0:Int)<r2.1.1))) (
 a0a (e0s n r2.2.2 (1:Int) (IntKind.wrap .i64 (Int.tdiv (IntKind.wrap .i64 (i*s.1.2.1.1)) s.1.2.1.2.1)) r2.1) fun r3 =>
 tif ((decide (r3.2.1.2.1.2.2=0))) (
 none) (
 tif ((decide (r3.2.1.2.1.2.2=0))) (
 none) (
 tif ((decide ((IntKind.wrap .i64 (Int.tdiv (IntKind.wrap .i64 (i*r3.2.1.2.1.1)) r3.2.1.2.1.2.2))=(IntKind.wrap .i64 (Int.tdiv (IntKind.wrap .i64 (j*r3.2.1.2.1.1)) r3.2.1.2.1.2.2))))) (
 some r3.2) (
 a0a (g0b n r3.2 (2:Int) (IntKind.wrap .i64 (Int.tdiv (IntKind.wrap .i64 (i*r3.2.1.2.1.1)) r3.2.1.2.1.2.2))) fun r4 =>
 tif ((decide (r4.2.1=0))) (
 tif ((decide ((0:Int)<r4.1.1))) (
 a0a (e0s n r4.2.2 (2:Int) (IntKind.wrap .i64 (Int.tdiv (IntKind.wrap .i64 (i*r3.2.1.2.1.1)) r3.2.1.2.1.2.2)) r4.1) fun r5 =>
 some r5.2) (
 some r4.2.2)) (
 some r4.2.2))))) (
 tif ((decide (r2.2.2.1.2.1.2.2=0))) (
 none) (
 tif ((decide (r2.2.2.1.2.1.2.2=0))) (
 none) (
 tif ((decide ((IntKind.wrap .i64 (Int.tdiv (IntKind.wrap .i64 (i*r2.2.2.1.2.1.1)) r2.2.2.1.2.1.2.2))=(IntKind.wrap .i64 (Int.tdiv (IntKind.wrap .i64 (j*r2.2.2.1.2.1.1)) r2.2.2.1.2.1.2.2))))) (
 some r2.2.2) (
 a0a (g0b n r2.2.2 (2:Int) (IntKind.wrap .i64 (Int.tdiv (IntKind.wrap .i64 (i*r2.2.2.1.2.1.1)) r2.2.2.1.2.1.2.2))) fun r6 =>
 tif ((decide (r6.2.1=0))) (
 tif ((decide ((0:Int)<r6.1.1))) (
 a0a (e0s n r6.2.2 (2:Int) (IntKind.wrap .i64 (Int.tdiv (IntKind.wrap .i64 (i*r2.2.2.1.2.1.1)) r2.2.2.1.2.1.2.2)) r6.1) fun r7 =>
 some r7.2) (
 some r6.2.2)) (
 some r6.2.2)))))) (
 tif ((decide (r2.2.2.1.2.1.2.2=0))) (
 none) (
 tif ((decide (r2.2.2.1.2.1.2.2=0))) (
 none) (
 tif ((decide ((IntKind.wrap .i64 (Int.tdiv (IntKind.wrap .i64 (i*r2.2.2.1.2.1.1)) r2.2.2.1.2.1.2.2))=(IntKind.wrap .i64 (Int.tdiv (IntKind.wrap .i64 (j*r2.2.2.1.2.1.1)) r2.2.2.1.2.1.2.2))))) (
 some r2.2.2) (
 a0a (g0b n r2.2.2 (2:Int) (IntKind.wrap .i64 (Int.tdiv (IntKind.wrap .i64 (i*r2.2.2.1.2.1.1)) r2.2.2.1.2.1.2.2))) fun r8 =>
 tif ((decide (r8.2.1=0))) (
 tif ((decide ((0:Int)<r8.1.1))) (
 a0a (e0s n r8.2.2 (2:Int) (IntKind.wrap .i64 (Int.tdiv (IntKind.wrap .i64 (i*r2.2.2.1.2.1.1)) r2.2.2.1.2.1.2.2)) r8.1) fun r9 =>
 some r9.2) (
 some r8.2.2)) (
 some r8.2.2)))))))):=by kernel_rfl
theorem b1a (n:Nat) (p:a0t) (c:a0t):i0n (n+1) p c =
 a0a (k0m n (p::(c::[]))) fun r0 =>
 tif (r0) (
 some (decide (p.1<c.1))) (
 some false):=by kernel_rfl
theorem o1d (n:Nat) (l:(List a0t)) (room:Int):n0r (n+1) l room =
 a0a (r0m n room) fun r0 =>
 a1l (r0.1) (
 tif ((!(decide (r0.2=0)))) (
 some (none,r0.2)) (
 none)) fun r1 =>
 tif ((!(decide (r0.2=0)))) (
 some (none,r0.2)) (
 a0a (n0q n a0c (r1,(l,((((List.length l):Nat):Int),(0,()))))) fun r2 =>
 c0w (fun y3 =>
 some ((some y3.1),0)) (fun z4 =>
 some z4) r2):=by kernel_rfl
theorem r0o (n f:Nat) (q:g0j) (s18:(List a0t)) (s19:Int) (s20:Int):n0q n (f+1) (q,s18,s19,s20,()) =
 tif ((decide (s20<s19))) (
 a0a (at? s18 s20) fun r0 =>
 a0a (w0u n q r0) fun r1 =>
 n0q n f (r1.2.2,(s18,(s19,((IntKind.wrap .i64 (s20+1)),()))))) (
 some (.inl (q,()))):=by kernel_rfl
theorem k1e (n:Nat) (r:g0j) (x:a0t):w0u (n+1) r x =
 tif ((decide ((((List.length r.2.1):Nat):Int)<r.1))) (
 tif ((decide ((((List.length r.2.1)+1)*32)≤140737488355328))) (
 some ((0,(0,(0,false))),(false,(r.1,((r.2.1++(x::[])),r.2.2))))) (
 none)) (
 a0a (at? r.2.1 r.2.2.1) fun r0 =>
 a0a ((r.2.1)[(Int.toNat r.2.2.1)]?) fun r1 =>
 a0a (at? r.2.1 r.2.2.1) fun r2 =>
 a0a ((r.2.1)[(Int.toNat r.2.2.1)]?) fun r3 =>
 a0a (q1q n (r.1,((List.set r.2.1 (Int.toNat r.2.2.1) x),r.2.2)) (1:Int)) fun r4 =>
 some (r1,(true,(r4.2.1,(r4.2.2.1,(r4.1,(IntKind.wrap .u64 (r4.2.2.2.2+1)))))))):=by kernel_rfl
theorem y1o (n:Nat) (r:g0j):k0t (n+1) r =
 tif ((true&&((decide ((0:Int)≤(((List.length r.2.1):Nat):Int)))&&(decide (((((List.length r.2.1):Nat):Int)*32)≤140737488355328))))) (
 tif ((decide ((0:Int)≤r.2.2.1))) (
 tif ((decide ((Int.toNat r.2.2.1)≤(List.length r.2.1)))) (
 tif ((decide (((0+(List.length (List.take ((List.length r.2.1)-(Int.toNat r.2.2.1)) (List.drop (Int.toNat r.2.2.1) r.2.1))))*32)≤140737488355328))) (
 tif (((decide ((0:Int)≤r.2.2.1))&&(decide (r.2.2.1≤(((List.length r.2.1):Nat):Int))))) (
 tif ((decide ((((List.length ((List.replicate 0 ((0:Int),((0:Int),((0:Int),false))))++(List.take ((List.length r.2.1)-(Int.toNat r.2.2.1)) (List.drop (Int.toNat r.2.2.1) r.2.1))))+(List.length (List.take ((Int.toNat r.2.2.1)-0) (List.drop 0 r.2.1))))*32)≤140737488355328))) (
 some ((((List.replicate 0 ((0:Int),((0:Int),((0:Int),false))))++(List.take ((List.length r.2.1)-(Int.toNat r.2.2.1)) (List.drop (Int.toNat r.2.2.1) r.2.1)))++(List.take ((Int.toNat r.2.2.1)-0) (List.drop 0 r.2.1))),r)) (
 none)) (
 none)) (
 none)) (
 none)) (
 none)) (
 none):=by kernel_rfl
theorem i1s (n:Nat) (a:c0o) (b:c0o):q0o (n+1) a b =
 a0a (m0r n a) fun r0 =>
 tif ((!(decide (r0=0)))) (
 some ((0,((0,(0,(0,false))),((0,(0,(0,false))),((0,0),(0,(0,0)))))),2)) (
 a0a (m0r n b) fun r1 =>
 tif ((!(decide (r1=0)))) (
 some ((0,((0,(0,(0,false))),((0,(0,(0,false))),((0,0),(0,(0,0)))))),2)) (
 a0a (p0n n a) fun r2 =>
 tif (r2) (
 some (b,0)) (
 a0a (p0n n b) fun r3 =>
 tif (r3) (
 some (a,0)) (
 a0a (m1h n a b) fun r4 =>
 some r4)))):=by kernel_rfl
theorem p1s (n:Nat) (e:a0t):i1r (n+1) e =
 some (1,(e,(e,((0,0),(0,(0,0)))))):=by kernel_rfl
theorem r0a (n:Nat) (s:(List Int)) (f_:((Int×Unit)→Option Bool)):m0a (n+1) s f_ =
 a0a (c0t n a0c (s,(f_,((((List.length s):Nat):Int),(0,()))))) fun r0 =>
 c0w (fun y1 =>
 some ((-1):Int)) (fun z2 =>
 some z2) r0:=by kernel_rfl
theorem g0o (n f:Nat) (s:(List Int)) (f_:((Int×Unit)→Option Bool)) (s7:Int) (s8:Int):c0t n (f+1) (s,f_,s7,s8,()) =
 tif ((decide (s8<s7))) (
 a0a (at? s s8) fun r0 =>
 a0a (f_ (r0,())) fun r1 =>
 tif (r1) (
 some (.inr s8)) (
 c0t n f (s,(f_,(s7,((IntKind.wrap .i64 (s8+1)),())))))) (
 some (.inl ())):=by kernel_rfl
theorem i1o (n:Nat) (n_:Int) (by_:Int):j0u (n+1) n_ by_ =
 tif ((decide (by_=0))) (
 none) (
 some (IntKind.wrap .i64 (Int.tdiv (IntKind.wrap .i64 ((IntKind.wrap .i64 (n_+by_))-1)) by_))):=by kernel_rfl
theorem t0d (n:Nat) (k:Int) (p1:Int) (p2:b0b):e0w (n+1) k p1 p2 =
 tif ((decide (k=p1))) (
 some true) (
 a0a (e0o n p2 k) fun r0 =>
 tif (r0) (
 a0a (at? p2.2.2.2 k) fun r1 =>
 a0a (at? p2.2.2.2 p1) fun r2 =>
 a0a (m0i n r1.1 r2.1) fun r3 =>
 some r3) (
 some false)):=by kernel_rfl
theorem i0z (n:Nat) (s:(List a0d)) (f_:((a0d×Unit)→Option Bool)):h0m (n+1) s f_ =
 a0a (c0u n a0c (s,(f_,((((List.length s):Nat):Int),(0,()))))) fun r0 =>
 c0w (fun y1 =>
 some ((-1):Int)) (fun z2 =>
 some z2) r0:=by kernel_rfl
theorem g0p (n f:Nat) (s:(List a0d)) (f_:((a0d×Unit)→Option Bool)) (s7:Int) (s8:Int):c0u n (f+1) (s,f_,s7,s8,()) =
 tif ((decide (s8<s7))) (
 a0a (at? s s8) fun r0 =>
 a0a (f_ (r0,())) fun r1 =>
 tif (r1) (
 some (.inr s8)) (
 c0u n f (s,(f_,(s7,((IntKind.wrap .i64 (s8+1)),())))))) (
 some (.inl ())):=by kernel_rfl
theorem t1r (n:Nat) (data:(List a0d)) (n_:Int) (cmp:((a0d×(a0d×Unit))→Option Int)):y1e (n+1) data n_ cmp =
 a0a (l0y n a0c (data,(n_,(cmp,(20,(0,(20,()))))))) fun r0 =>
 c0w (fun y1 =>
 a0a (f1w n y1.1 y1.2.2.2.2.1 y1.2.1 y1.2.2.1) fun r2 =>
 a0a (j0o n a0c (r2,(y1.2.1,(y1.2.2.1,(y1.2.2.2.1,()))))) fun r3 =>
 c0w (fun y4 =>
 some y4.1) (fun z5 =>
 some z5) r3) (fun z6 =>
 some z6) r0:=by kernel_rfl
theorem t0o (n f:Nat) (data:(List a0d)) (n_:Int) (cmp:((a0d×(a0d×Unit))→Option Int)) (blockSize:Int) (a:Int) (b:Int):l0y n (f+1) (data,n_,cmp,blockSize,a,b,()) =
 tif ((decide (b≤n_))) (
 a0a (f1w n data a b cmp) fun r0 =>
 l0y n f (r0,(n_,(cmp,(blockSize,(b,((IntKind.wrap .i64 (b+blockSize)),()))))))) (
 some (.inl (data,(n_,(cmp,(blockSize,(a,()))))))):=by kernel_rfl
theorem t0n (n f:Nat) (data:(List a0d)) (n_:Int) (cmp:((a0d×(a0d×Unit))→Option Int)) (blockSize:Int):j0o n (f+1) (data,n_,cmp,blockSize,()) =
 tif ((decide (blockSize<n_))) (
 a0a (q0b n a0c (data,(n_,(cmp,(blockSize,(0,((IntKind.wrap .i64 ((2:Int)*blockSize)),()))))))) fun r0 =>
 c0w (fun y1 =>
 tif ((decide ((IntKind.wrap .i64 (y1.2.2.2.2.1+y1.2.2.2.1))<y1.2.1))) (
 a0a (b0l n y1.1 y1.2.2.2.2.1 (IntKind.wrap .i64 (y1.2.2.2.2.1+y1.2.2.2.1)) y1.2.1 y1.2.2.1) fun r2 =>
 j0o n f (r2,(y1.2.1,(y1.2.2.1,((IntKind.wrap .i64 (y1.2.2.2.1*2)),()))))) (
 j0o n f (y1.1,(y1.2.1,(y1.2.2.1,((IntKind.wrap .i64 (y1.2.2.2.1*2)),())))))) (fun z3 =>
 some (.inr z3)) r0) (
 some (.inl (data,()))):=by kernel_rfl
theorem t0m (n f:Nat) (data:(List a0d)) (n_:Int) (cmp:((a0d×(a0d×Unit))→Option Int)) (blockSize:Int) (a:Int) (b:Int):q0b n (f+1) (data,n_,cmp,blockSize,a,b,()) =
 tif ((decide (b≤n_))) (
 a0a (b0l n data a (IntKind.wrap .i64 (a+blockSize)) b cmp) fun r0 =>
 q0b n f (r0,(n_,(cmp,(blockSize,(b,((IntKind.wrap .i64 (b+(IntKind.wrap .i64 ((2:Int)*blockSize)))),()))))))) (
 some (.inl (data,(n_,(cmp,(blockSize,(a,()))))))):=by kernel_rfl
theorem l0b (n:Nat) (x:Int):k0n (n+1) x =
 some (!(decide (x=x))):=by kernel_rfl
theorem wi_Of_eq (n:Nat) (t:Int) (w:Int):s1v (n+1) t w =
 a0a (m0y n t (0:Int) (35184372088831:Int)) fun r0 =>
 tif ((!r0)) (
 some (0,1)) (
 a0a (q1g n w) fun r1 =>
 tif ((!r1)) (
 some (0,1)) (
 tif ((decide (w=0))) (
 none) (
 some ((IntKind.wrap .i64 (Int.tdiv t w)),0)))):=by kernel_rfl
theorem j1i (n:Nat) (now:Int) (w:Int) (n_:Int):z0g (n+1) now w n_ =
 a0a (s1v n now w) fun r0 =>
 tif ((!(decide (r0.2=0)))) (
 some (0,1)) (
 a0a (j1h n n_ (1:Int) (4096:Int)) fun r1 =>
 tif ((!r1)) (
 some (0,1)) (
 some ((if (0:Int)<(IntKind.wrap .i64 ((IntKind.wrap .i64 (r0.1+1))-n_)) then (IntKind.wrap .i64 ((IntKind.wrap .i64 (r0.1+1))-n_)) else (0:Int)),0))):=by kernel_rfl
theorem f1g (n:Nat) (l:(List a0d)) (w:Int):j0n (n+1) l w =
 tif ((decide ((((List.length l):Nat):Int)=0))) (
 some (2:Int)) (
 tif ((decide ((4096:Int)<(((List.length l):Nat):Int)))) (
 some (2:Int)) (
 tif ((decide (w<1))) (
 some (2:Int)) (
 tif ((decide ((1099511627776:Int)<w))) (
 some (2:Int)) (
 a0a (f0f n a0c (l,(w,(l,((((List.length l):Nat):Int),(0,())))))) fun r0 =>
 c0w (fun y1 =>
 some (0:Int)) (fun z2 =>
 some z2) r0)))):=by kernel_rfl
theorem o0i (n f:Nat) (l:(List a0d)) (w:Int) (s23:(List a0d)) (s24:Int) (s25:Int):f0f n (f+1) (l,w,s23,s24,s25,()) =
 tif ((decide (s25<s24))) (
 a0a (at? s23 s25) fun r0 =>
 a0a (o0q n r0) fun r1 =>
 tif ((!r1)) (
 a0a (f1c n r0.1 (((List.length l):Nat):Int)) fun r2 =>
 tif ((!(decide (r2=s25)))) (
 some (.inr (2:Int))) (
 a0a (k0b n r0.2 w r0.1) fun r3 =>
 tif ((!r3)) (
 some (.inr (2:Int))) (
 f0f n f (l,(w,(s23,(s24,((IntKind.wrap .i64 (s25+1)),())))))))) (
 f0f n f (l,(w,(s23,(s24,((IntKind.wrap .i64 (s25+1)),()))))))) (
 some (.inl ())):=by kernel_rfl
theorem n0m (n:Nat) (s:(List a0d)) (f_:((a0d×Unit)→Option Bool)):f0x (n+1) s f_ =
 a0a (h0m n s f_) fun r0 =>
 some (decide ((0:Int)≤r0)):=by kernel_rfl
theorem t0t (n:Nat) (s:a0d) (p1:Int):k0g (n+1) s p1 =
 tif ((decide ((0:Int)<s.2.1))) (
 some (decide (p1≤s.1))) (
 some false):=by kernel_rfl
theorem i1t (n:Nat) (c:c0o):m0r (n+1) c =
 a0a (p0n n c) fun r0 =>
 tif (r0) (
 some (0:Int)) (
 a0a (w0i n c) fun r1 =>
 tif ((!r1)) (
 some (2:Int)) (
 a0a (z0e n (18446744073709551615:Int)) fun r2 =>
 a0a (u0u n r2 (IntKind.wrap .u64 (IntKind.wrap .i64 (c.1-1)))) fun r3 =>
 tif ((!(decide (r3.2=0)))) (
 some (2:Int)) (
 a0a (z0f n r3.1 c.2.2.2.1) fun r4 =>
 tif (r4) (
 some (2:Int)) (
 a0a (b1g n c.2.2.2.2.2.1 (IntKind.wrap .i64 (c.1-1))) fun r5 =>
 tif ((!r5)) (
 some (2:Int)) (
 a0a (b1g n c.2.2.2.2.1 (IntKind.wrap .i64 ((IntKind.wrap .i64 (c.1-1))-c.2.2.2.2.2.1))) fun r6 =>
 tif ((!r6)) (
 some (2:Int)) (
 a0a (b1g n c.2.2.2.2.2.2 (IntKind.wrap .i64 (c.2.2.1.1-c.2.1.1))) fun r7 =>
 tif ((!r7)) (
 some (2:Int)) (
 some (0:Int)))))))):=by kernel_rfl
theorem m1z (n:Nat) (l:(List a0d)) (w:Int) (i:Int) (c:c0o):s0v (n+1) l w i c =
 a0a (j0n n l w) fun r0 =>
 tif ((!(decide (r0=0)))) (
 some ([],2)) (
 a0a (k0b n c w i) fun r1 =>
 tif ((!r1)) (
 some ([],2)) (
 a0a (j0i n l) fun r2 =>
 a0a (f1c n i (((List.length r2):Nat):Int)) fun r3 =>
 a0a (at? r2 r3) fun r4 =>
 a0a ((r2)[(Int.toNat r3)]?) fun r5 =>
 some ((List.set r2 (Int.toNat r3) (i,c)),0))):=by kernel_rfl
theorem c1s (n:Nat) (s:r0d) (i:Int):g0b (n+1) s (1:Int) i =
 tif ((decide (s.1.2.1.1=0))) (
 none) (
 a0a (s0x n s.2.1 (IntKind.wrap .i64 (i*(IntKind.wrap .i64 (Int.tdiv s.1.2.1.2.1 s.1.2.1.1)))) (IntKind.wrap .i64 ((IntKind.wrap .i64 (i+1))*(IntKind.wrap .i64 (Int.tdiv s.1.2.1.2.1 s.1.2.1.1))))) fun r0 =>
 some (r0.1,(r0.2,s))):=by kernel_rfl
theorem c1r (n:Nat) (s:r0d) (i:Int):g0b (n+1) s (2:Int) i =
 tif ((decide (s.1.2.1.2.1=0))) (
 none) (
 a0a (s0x n s.2.2.1 (IntKind.wrap .i64 (i*(IntKind.wrap .i64 (Int.tdiv s.1.2.1.2.2 s.1.2.1.2.1)))) (IntKind.wrap .i64 ((IntKind.wrap .i64 (i+1))*(IntKind.wrap .i64 (Int.tdiv s.1.2.1.2.2 s.1.2.1.2.1))))) fun r0 =>
 some (r0.1,(r0.2,s))):=by kernel_rfl
theorem c1t (n:Nat) (l:(List a0t)):k0m (n+1) l =
 a0a (i0c n a0c (l,((((List.length l):Nat):Int),(0,())))) fun r0 =>
 c0w (fun y1 =>
 some true) (fun z2 =>
 some z2) r0:=by kernel_rfl
theorem m0n (n f:Nat) (s5:(List a0t)) (s6:Int) (s7:Int):i0c n (f+1) (s5,s6,s7,()) =
 tif ((decide (s7<s6))) (
 a0a (at? s5 s7) fun r0 =>
 a0a (d0f n r0) fun r1 =>
 tif ((!(decide (r1=0)))) (
 some (.inr false)) (
 i0c n f (s5,(s6,((IntKind.wrap .i64 (s7+1)),()))))) (
 some (.inl ())):=by kernel_rfl
theorem v0k (n:Nat) (room:Int):r0m (n+1) room =
 tif ((decide (room<1))) (
 some (none,1)) (
 tif ((decide ((65536:Int)<room))) (
 some (none,1)) (
 some ((some (room,([],(0,0)))),0))):=by kernel_rfl
theorem o1c (n:Nat) (r:g0j) (i:Int):q1q (n+1) r i =
 tif ((decide ((((List.length r.2.1):Nat):Int)=0))) (
 none) (
 some ((Int.tmod (IntKind.wrap .i64 (r.2.2.1+i)) (((List.length r.2.1):Nat):Int)),r)):=by kernel_rfl
theorem m1f (n:Nat) (c:c0o):p0n (n+1) c =
 some ((decide (c.1=0))&&((decide (c.2.1.1=0))&&((decide (c.2.1.2.1=0))&&((decide (c.2.1.2.2.1=0))&&((c.2.1.2.2.2==false)&&((decide (c.2.2.1.1=0))&&((decide (c.2.2.1.2.1=0))&&((decide (c.2.2.1.2.2.1=0))&&((c.2.2.1.2.2.2==false)&&((decide (c.2.2.2.1.1=0))&&((decide (c.2.2.2.1.2=0))&&((decide (c.2.2.2.2.1=0))&&((decide (c.2.2.2.2.2.1=0))&&(decide (c.2.2.2.2.2.2=0))))))))))))))):=by kernel_rfl
theorem m1g (n:Nat) (a:c0o) (b:c0o):m1h (n+1) a b =
 a0a (o0b n a.2.2.1 b.2.1) fun r0 =>
 tif ((!(decide (r0.2=0)))) (
 some ((0,((0,(0,(0,false))),((0,(0,(0,false))),((0,0),(0,(0,0)))))),r0.2)) (
 a0a (e1z n (a.2.2.2.1::(r0.1.2.2.2.1::(b.2.2.2.1::[])))) fun r1 =>
 some (((IntKind.wrap .i64 (a.1+b.1)),(a.2.1,(b.2.2.1,(r1.1,((IntKind.wrap .i64 (r0.1.2.2.2.2.1+(IntKind.wrap .i64 (a.2.2.2.2.1+b.2.2.2.2.1)))),((IntKind.wrap .i64 (r0.1.2.2.2.2.2.1+(IntKind.wrap .i64 (a.2.2.2.2.2.1+b.2.2.2.2.2.1)))),(IntKind.wrap .i64 (r0.1.2.2.2.2.2.2+(IntKind.wrap .i64 (a.2.2.2.2.2.2+b.2.2.2.2.2.2)))))))))),r1.2)):=by kernel_rfl
theorem t1u (n:Nat) (data:(List a0d)) (a:Int) (b:Int) (cmp:((a0d×(a0d×Unit))→Option Int)):f1w (n+1) data a b cmp =
 a0a (q0d n a0c (data,(a,(b,(cmp,((IntKind.wrap .i64 (a+1)),())))))) fun r0 =>
 c0w (fun y1 =>
 some y1.1) (fun z2 =>
 some z2) r0:=by kernel_rfl
theorem t0q (n f:Nat) (data:(List a0d)) (a:Int) (b:Int) (cmp:((a0d×(a0d×Unit))→Option Int)) (i:Int):q0d n (f+1) (data,a,b,cmp,i,()) =
 tif ((decide (i<b))) (
 a0a (q0c n a0c (data,(a,(b,(cmp,(i,(i,()))))))) fun r0 =>
 c0w (fun y1 =>
 q0d n f (y1.1,(y1.2.1,(y1.2.2.1,(y1.2.2.2.1,((IntKind.wrap .i64 (y1.2.2.2.2.1+1)),())))))) (fun z2 =>
 some (.inr z2)) r0) (
 some (.inl (data,()))):=by kernel_rfl
theorem t0p (n f:Nat) (data:(List a0d)) (a:Int) (b:Int) (cmp:((a0d×(a0d×Unit))→Option Int)) (i:Int) (j:Int):q0c n (f+1) (data,a,b,cmp,i,j,()) =
 tif ((decide (a<j))) (
 a0a (at? data j) fun r0 =>
 a0a ((data)[(Int.toNat j)]?) fun r1 =>
 a0a (at? data (IntKind.wrap .i64 (j-1))) fun r2 =>
 a0a ((data)[(Int.toNat (IntKind.wrap .i64 (j-1)))]?) fun r3 =>
 a0a (cmp (r1,(r3,()))) fun r4 =>
 tif ((decide (r4<0))) (
 a0a (at? data (IntKind.wrap .i64 (j-1))) fun r5 =>
 a0a ((data)[(Int.toNat (IntKind.wrap .i64 (j-1)))]?) fun r6 =>
 a0a (at? data j) fun r7 =>
 a0a ((data)[(Int.toNat j)]?) fun r8 =>
 a0a (at? data j) fun r9 =>
 a0a ((data)[(Int.toNat j)]?) fun r10 =>
 a0a (at? (List.set data (Int.toNat j) r6) (IntKind.wrap .i64 (j-1))) fun r11 =>
 a0a (((List.set data (Int.toNat j) r6))[(Int.toNat (IntKind.wrap .i64 (j-1)))]?) fun r12 =>
 q0c n f ((List.set (List.set data (Int.toNat j) r6) (Int.toNat (IntKind.wrap .i64 (j-1))) r8),(a,(b,(cmp,(i,((IntKind.wrap .i64 (j-1)),()))))))) (
 some (.inl (data,(a,(b,(cmp,(i,())))))))) (
 some (.inl (data,(a,(b,(cmp,(i,()))))))):=by kernel_rfl
end Go.Proofs.YtjionkknnajjgaaGreatDoor
