/- Trees, printed by program. -/
import Derived.Test.YtgkpkajaepphjaaGreatDoorTr0
import Derived.KernelRfl
set_option linter.unusedVariables false
namespace Go.Proofs.YtgkpkajaepphjaaGreatDoor
open Go.Flat
theorem c1g (n:Nat) (s:a0m) (ms:(List (Int×(List UInt8×List UInt8)))) (tier:Int) (from_:Int) (to:Int) (n_:Int):w0y (n+1) s ms tier from_ to n_ =
 a0b (a1r n s) fun r0 =>
 tif ((decide (r0=0))) (
 a0b (u0n n ) fun r1 =>
 some r1) (
 a0b (a1t n ms) fun r2 =>
 tif ((decide (r2=0))) (
 a0b (u0n n ) fun r3 =>
 some r3) (
 a0b (y0h n s ms tier from_ to) fun r4 =>
 a0b (l2d n s ms tier from_ to) fun r5 =>
 a0b (n0j n s ms tier from_ to) fun r6 =>
 a0b (t0j n s ms tier from_ to) fun r7 =>
 a0b (n0i n s ms tier from_ to n_) fun r8 =>
 a0b (a2m n s ms tier from_ to n_) fun r9 =>
 tif ((!((decide (r4.1.1=r5.1.1))&&((decide (r4.1.2.1=r5.1.2.1))&&((decide (r4.1.2.2.1=r5.1.2.2.1))&&((decide (r4.1.2.2.2.1.1=r5.1.2.2.2.1.1))&&((decide (r4.1.2.2.2.1.2=r5.1.2.2.2.1.2))&&((decide (r4.1.2.2.2.2.1=r5.1.2.2.2.2.1))&&((decide (r4.1.2.2.2.2.2.1=r5.1.2.2.2.2.2.1))&&(decide (r4.1.2.2.2.2.2.2=r5.1.2.2.2.2.2.2))))))))))) (
 some false) (
 tif ((!(decide (r4.2=r5.2)))) (
 some false) (
 tif ((!(decide ((((List.length r6.1):Nat):Int)=(((List.length r7.1):Nat):Int))))) (
 some false) (
 tif ((!(decide (r6.2=r7.2.2)))) (
 some false) (
 tif ((!(decide ((((List.length r8.1):Nat):Int)=(((List.length r9.1):Nat):Int))))) (
 some false) (
 tif ((!(decide (r8.2=r9.2)))) (
 some false) (
 a0b (g0j n a0d (r6.1,(r7.1,(r8.1,(r9.1,((((List.length r6.1):Nat):Int),(0,()))))))) fun r10 =>
 b0d (fun y11 =>
 a0b (g0i n a0d (y11.1,(y11.2.1,((((List.length y11.1):Nat):Int),(0,()))))) fun r12 =>
 b0d (fun y13 =>
 a0b (u0n n ) fun r14 =>
 some r14) (fun z15 =>
 some z15) r12) (fun z16 =>
 some z16) r10)))))))):=by kernel_rfl
theorem l0f (n f:Nat) (l:(List x0d)) (m:(List a0a)) (x:(List (List (List UInt8×List UInt8)))) (y:(List (List (List UInt8×List UInt8)))) (s127:Int) (s128:Int):g0j n (f+1) (l,m,x,y,s127,s128,()) =
 tif ((decide (s128<s127))) (
 a0b (at? l s128) fun r0 =>
 a0b (at? m s128) fun r1 =>
 tif ((!((decide (r0.1=r1.2.1))&&((decide (r0.2.1.1=r1.2.2.1.1))&&((decide (r0.2.1.2.1.1=r1.2.2.1.2.1.1))&&((decide (r0.2.1.2.1.2.1=r1.2.2.1.2.1.2.1))&&((decide (r0.2.1.2.1.2.2.1=r1.2.2.1.2.1.2.2.1))&&((r0.2.1.2.1.2.2.2==r1.2.2.1.2.1.2.2.2)&&((decide (r0.2.1.2.2.1.1=r1.2.2.1.2.2.1.1))&&((decide (r0.2.1.2.2.1.2.1=r1.2.2.1.2.2.1.2.1))&&((decide (r0.2.1.2.2.1.2.2.1=r1.2.2.1.2.2.1.2.2.1))&&((r0.2.1.2.2.1.2.2.2==r1.2.2.1.2.2.1.2.2.2)&&((decide (r0.2.1.2.2.2.1.1=r1.2.2.1.2.2.2.1.1))&&((decide (r0.2.1.2.2.2.1.2=r1.2.2.1.2.2.2.1.2))&&((decide (r0.2.1.2.2.2.2.1=r1.2.2.1.2.2.2.2.1))&&((decide (r0.2.1.2.2.2.2.2.1=r1.2.2.1.2.2.2.2.2.1))&&((decide (r0.2.1.2.2.2.2.2.2=r1.2.2.1.2.2.2.2.2.2))&&((decide (r0.2.2.1.1.1=r1.2.2.2.1.1.1))&&((decide (r0.2.2.1.1.2=r1.2.2.2.1.1.2))&&((decide (r0.2.2.1.2.1=r1.2.2.2.1.2.1))&&((decide (r0.2.2.1.2.2=r1.2.2.2.1.2.2))&&(decide (r0.2.2.2=r1.2.2.2.2))))))))))))))))))))))) (
 some (.inr false)) (
 g0j n f (l,(m,(x,(y,(s127,((IntKind.wrap .i64 (s128+1)),())))))))) (
 some (.inl (x,(y,())))):=by kernel_rfl
theorem l0e (n f:Nat) (x:(List (List (List UInt8×List UInt8)))) (y:(List (List (List UInt8×List UInt8)))) (s143:Int) (s144:Int):g0i n (f+1) (x,y,s143,s144,()) =
 tif ((decide (s144<s143))) (
 a0b (at? x s144) fun r0 =>
 a0b (at? y s144) fun r1 =>
 a0b (i0y n r0 r1) fun r2 =>
 tif ((!r2)) (
 some (.inr false)) (
 g0i n f (x,(y,(s143,((IntKind.wrap .i64 (s144+1)),())))))) (
 some (.inl ())):=by kernel_rfl
theorem x1s (n:Nat) (s:a0m):a1r (n+1) s =
 tif ((decide ((8:Int)<(((List.length s.2.2.2):Nat):Int)))) (
 some (0:Int)) (
 a0b (l0g n a0d (s.2.2.2,((((List.length s.2.2.2):Nat):Int),(0,())))) fun r0 =>
 b0d (fun y1 =>
 some (1:Int)) (fun z2 =>
 some z2) r0):=by kernel_rfl
theorem u0o (n f:Nat) (s10:(List a0z)) (s11:Int) (s12:Int):l0g n (f+1) (s10,s11,s12,()) =
 tif ((decide (s12<s11))) (
 a0b (at? s10 s12) fun r0 =>
 a0b (a1s n r0) fun r1 =>
 tif ((decide (r1=0))) (
 some (.inr (0:Int))) (
 l0g n f (s10,(s11,((IntKind.wrap .i64 (s12+1)),()))))) (
 some (.inl ())):=by kernel_rfl
theorem x1w (n:Nat) (l:(List (List UInt8×List UInt8))):a1u (n+1) l =
 a0b (l0i n a0d (l,((((List.length l):Nat):Int),(0,())))) fun r0 =>
 b0d (fun y1 =>
 some (1:Int)) (fun z2 =>
 some z2) r0:=by kernel_rfl
theorem u0q (n f:Nat) (s5:(List (List UInt8×List UInt8))) (s6:Int) (s7:Int):l0i n (f+1) (s5,s6,s7,()) =
 tif ((decide (s7<s6))) (
 a0b (at? s5 s7) fun r0 =>
 tif ((decide (s7=40))) (
 some (.inr (0:Int))) (
 tif ((decide ((1000:Int)<(((List.length r0.1):Nat):Int)))) (
 some (.inr (0:Int))) (
 tif ((decide ((1000:Int)<(((List.length r0.2):Nat):Int)))) (
 some (.inr (0:Int))) (
 l0i n f (s5,(s6,((IntKind.wrap .i64 (s7+1)),()))))))) (
 some (.inl ())):=by kernel_rfl
theorem u1x (n:Nat) (s:a0m):f0d (n+1) s =
 a0b (y0n n s) fun r0 =>
 tif ((!(decide (r0.2=0)))) (
 some (2:Int)) (
 a0b (p0c n r0.1) fun r1 =>
 tif ((!r1)) (
 some (2:Int)) (
 a0b (f0x n r0.1 (fun y2=>f0l n y2.1 r0.1)) fun r3 =>
 tif ((decide ((0:Int)≤r3))) (
 some (2:Int)) (
 some (0:Int)))):=by kernel_rfl
theorem x0k (n:Nat) (s:a0m) (a:TAsk):a1b (n+1) s a =
 a0b (u0d n s a.1) fun r0 =>
 tif ((!(decide (r0=0)))) (
 some ((0,((0,((0,(0,(0,false))),((0,(0,(0,false))),((0,0),(0,(0,0)))))),(((0,0),(0,0)),0))),r0)) (
 a0b (m0s n s a.2.1 a.2.2.1 a.2.2.2) fun r1 =>
 tif ((!(decide (r1.2=0)))) (
 some ((0,((0,((0,(0,(0,false))),((0,(0,(0,false))),((0,0),(0,(0,0)))))),(((0,0),(0,0)),0))),r1.2)) (
 a0b (a1a n s a (IntKind.wrap .i64 (r1.1-1))) fun r2 =>
 tif ((!(decide (r2.2=0)))) (
 some ((0,((0,((0,(0,(0,false))),((0,(0,(0,false))),((0,0),(0,(0,0)))))),(((0,0),(0,0)),0))),r2.2)) (
 a0b (q0k n r2.1) fun r3 =>
 some ((r1.1,(r2.1,r3)),0)))):=by kernel_rfl
theorem r0x (n:Nat) (s:a0m) (tier:Int) (from_:Int) (to:Int):m0s (n+1) s tier from_ to =
 a0b (f0d n s) fun r0 =>
 tif ((!(decide (r0=0)))) (
 some (0,r0)) (
 tif ((decide (tier<0))) (
 some (0,1)) (
 tif ((decide ((3:Int)<tier))) (
 some (0,1)) (
 tif ((decide (tier=0))) (
 a0b (o0a n s from_ to) fun r1 =>
 some r1) (
 a0b (q0j n s tier from_ to) fun r2 =>
 tif ((!(decide (r2=0)))) (
 some (0,r2)) (
 some (tier,0)))))):=by kernel_rfl
theorem d2e (n:Nat) (l:(List b0k)):t1x (n+1) l =
 a0b (o0i n a0d ((0,((0,(0,(0,false))),((0,(0,(0,false))),((0,0),(0,(0,0)))))),((0,((0,(0,(0,false))),((0,(0,(0,false))),((0,0),(0,(0,0)))))),(l,((((List.length l):Nat):Int),(0,())))))) fun r0 =>
 b0d (fun y1 =>
 some (y1.2.1,0)) (fun z2 =>
 some z2) r0:=by kernel_rfl
theorem x0c (n f:Nat) (s2:b0k) (c:b0k) (s9:(List b0k)) (s10:Int) (s11:Int):o0i n (f+1) (s2,c,s9,s10,s11,()) =
 tif ((decide (s11<s10))) (
 a0b (at? s9 s11) fun r0 =>
 a0b (i0z n c r0) fun r1 =>
 tif ((!(decide (r1.2=0)))) (
 some (.inr ((0,((0,(0,(0,false))),((0,(0,(0,false))),((0,0),(0,(0,0)))))),r1.2))) (
 o0i n f (s2,(r1.1,(s9,(s10,((IntKind.wrap .i64 (s11+1)),()))))))) (
 some (.inl (s2,(c,())))):=by kernel_rfl
theorem z1c (n:Nat) (l:(List (Int×Int))):p1o (n+1) l =
 a0b (r0e n a0d ((0,0),((0,0),(l,((((List.length l):Nat):Int),(0,())))))) fun r0 =>
 b0d (fun y1 =>
 some (y1.2.1,0)) (fun z2 =>
 some z2) r0:=by kernel_rfl
theorem w0d (n f:Nat) (s2:(Int×Int)) (a:(Int×Int)) (s9:(List (Int×Int))) (s10:Int) (s11:Int):r0e n (f+1) (s2,a,s9,s10,s11,()) =
 tif ((decide (s11<s10))) (
 a0b (at? s9 s11) fun r0 =>
 a0b (e1j n a r0) fun r1 =>
 tif ((!(decide (r1.2=0)))) (
 some (.inr ((0,0),r1.2))) (
 r0e n f (s2,(r1.1,(s9,(s10,((IntKind.wrap .i64 (s11+1)),()))))))) (
 some (.inl (s2,(a,())))):=by kernel_rfl
theorem u1h (n:Nat) (a:(Int×Int)) (b:(Int×Int)):n0g (n+1) a b =
 tif ((decide (a.1<b.1))) (
 some true) (
 tif ((decide (a.1=b.1))) (
 some (decide (a.2<b.2))) (
 some false)):=by kernel_rfl
theorem p1n (n:Nat) (a:(Int×Int)) (n_:Int):u0x (n+1) a n_ =
 a0b (j0r n a.2 n_) fun r0 =>
 a0b (j0r n a.1 n_) fun r1 =>
 tif (((decide ((0:Int)≤r1.2))&&((decide ((0:Int)≤r0.1))&&true))) (
 a0b (s0s n ((((r1.2+r0.1)+0) % (18446744073709551616:Int)),r0.2) (orI .u64 r1.1 (((r1.2+r0.1)+0) / (18446744073709551616:Int)))) fun r2 =>
 some r2) (
 none):=by kernel_rfl
theorem x1v (n:Nat) (l:(List (Int×(List UInt8×List UInt8)))):a1t (n+1) l =
 a0b (l0h n a0d (l,((((List.length l):Nat):Int),(0,())))) fun r0 =>
 b0d (fun y1 =>
 some (1:Int)) (fun z2 =>
 some z2) r0:=by kernel_rfl
theorem u0p (n f:Nat) (s5:(List (Int×(List UInt8×List UInt8)))) (s6:Int) (s7:Int):l0h n (f+1) (s5,s6,s7,()) =
 tif ((decide (s7<s6))) (
 a0b (at? s5 s7) fun r0 =>
 tif ((decide (s7=40))) (
 some (.inr (0:Int))) (
 tif ((decide ((1000:Int)<(((List.length r0.2.1):Nat):Int)))) (
 some (.inr (0:Int))) (
 tif ((decide ((1000:Int)<(((List.length r0.2.2):Nat):Int)))) (
 some (.inr (0:Int))) (
 l0h n f (s5,(s6,((IntKind.wrap .i64 (s7+1)),()))))))) (
 some (.inl ())):=by kernel_rfl
theorem f1k (n:Nat) (s:a0m) (ms:(List (Int×(List UInt8×List UInt8)))) (tier:Int) (from_:Int) (to:Int):y0h (n+1) s ms tier from_ to =
 a0b (i0h n s ms tier from_ to) fun r0 =>
 tif ((!(decide (r0.2.2=0)))) (
 some ((0,(0,(0,((0,0),(0,(0,0)))))),r0.2.2)) (
 a0b (g0n n a0d ((0,(0,(0,((0,0),(0,(0,0)))))),(r0.2.1,((r0.2.1,(0,(0,((0,0),(0,(0,0)))))),(r0.1,((((List.length r0.1):Nat):Int),(0,()))))))) fun r1 =>
 b0d (fun y2 =>
 some (y2.2.1,0)) (fun z3 =>
 some z3) r1):=by kernel_rfl
theorem h0w (n f:Nat) (s10:f0h) (k:Int) (sum:f0h) (s34:(List a0a)) (s35:Int) (s36:Int):g0n n (f+1) (s10,k,sum,s34,s35,s36,()) =
 tif ((decide (s36<s35))) (
 a0b (at? s34 s36) fun r0 =>
 a0b ((s34)[(Int.toNat s36)]?) fun r1 =>
 a0b (y0g n k r1.2.2.1) fun r2 =>
 a0b (k0x n sum r2) fun r3 =>
 tif ((!(decide (r3.2=0)))) (
 some (.inr ((0,(0,(0,((0,0),(0,(0,0)))))),r3.2))) (
 g0n n f (s10,(k,(r3.1,(s34,(s35,((IntKind.wrap .i64 (s36+1)),())))))))) (
 some (.inl (s10,(sum,())))):=by kernel_rfl
theorem l2c (n:Nat) (s:a0m) (ms:(List (Int×(List UInt8×List UInt8)))) (tier:Int) (from_:Int) (to:Int):l2d (n+1) s ms tier from_ to =
 a0b (t0j n s ms tier from_ to) fun r0 =>
 tif ((!(decide (r0.2.2=0)))) (
 some ((0,(0,(0,((0,0),(0,(0,0)))))),r0.2.2)) (
 a0b (t0k n a0d ((0,(0,(0,((0,0),(0,(0,0)))))),(r0.2.1,((r0.2.1,(0,(0,((0,0),(0,(0,0)))))),(r0.1,((((List.length r0.1):Nat):Int),(0,()))))))) fun r1 =>
 b0d (fun y2 =>
 some (y2.2.1,0)) (fun z3 =>
 some z3) r1):=by kernel_rfl
theorem d1e (n f:Nat) (s10:f0h) (k:Int) (t:f0h) (s37:(List a0a)) (s38:Int) (s39:Int):t0k n (f+1) (s10,k,t,s37,s38,s39,()) =
 tif ((decide (s39<s38))) (
 a0b (at? s37 s39) fun r0 =>
 a0b (r1a n t (k,(1,(r0.2.2.1.1,r0.2.2.1.2.2.2)))) fun r1 =>
 tif ((!(decide (r1.2=0)))) (
 some (.inr ((0,(0,(0,((0,0),(0,(0,0)))))),r1.2))) (
 t0k n f (s10,(k,(r1.1,(s37,(s38,((IntKind.wrap .i64 (s39+1)),())))))))) (
 some (.inl (s10,(t,())))):=by kernel_rfl
theorem w0e (n:Nat) (s:a0m) (ms:(List (Int×(List UInt8×List UInt8)))) (tier:Int) (from_:Int) (to:Int):n0j (n+1) s ms tier from_ to =
 a0b (i0h n s ms tier from_ to) fun r0 =>
 a0b (f0w n a0d (r0.2.2,([],(r0.1,((((List.length r0.1):Nat):Int),(0,())))))) fun r1 =>
 b0d (fun y2 =>
 some (y2.2.1,y2.1)) (fun z3 =>
 some z3) r1:=by kernel_rfl
theorem g0y (n f:Nat) (why:Int) (out:(List x0d)) (s28:(List a0a)) (s29:Int) (s30:Int):f0w n (f+1) (why,out,s28,s29,s30,()) =
 tif ((decide (s30<s29))) (
 a0b (at? s28 s30) fun r0 =>
 a0b ((s28)[(Int.toNat s30)]?) fun r1 =>
 tif ((decide ((((List.length out)+1)*160)≤140737488355328))) (
 f0w n f (why,((out++(r1.2::[])),(s28,(s29,((IntKind.wrap .i64 (s30+1)),())))))) (
 none)) (
 some (.inl (why,(out,())))):=by kernel_rfl
theorem v1q (n:Nat) (s:a0m) (ms:(List (Int×(List UInt8×List UInt8)))) (tier:Int) (from_:Int) (to:Int):t0j (n+1) s ms tier from_ to =
 a0b (q0a n s) fun r0 =>
 tif ((!(decide (r0=0)))) (
 some ([],(0,2))) (
 a0b (g1m n ms) fun r1 =>
 tif ((!(decide (r1=0)))) (
 some ([],(0,2))) (
 a0b (e1r n s tier from_ to) fun r2 =>
 tif ((!(decide (r2.2=0)))) (
 some ([],(0,r2.2))) (
 a0b (r1e n s) fun r3 =>
 a0b (i0t n a0d (ms,(from_,(to,(s,(r2.1,([],(r3,((((List.length r3):Nat):Int),(0,())))))))))) fun r4 =>
 b0d (fun y5 =>
 some (y5.2.1,(y5.1,0))) (fun z6 =>
 some z6) r4))):=by kernel_rfl
theorem t0i (n f:Nat) (ms:(List (Int×(List UInt8×List UInt8)))) (from_:Int) (to:Int) (s_:a0m) (k:Int) (out:(List a0a)) (s41:(List Int)) (s42:Int) (s43:Int):i0t n (f+1) (ms,from_,to,s_,k,out,s41,s42,s43,()) =
 tif ((decide (s43<s42))) (
 a0b (at? s41 s43) fun r0 =>
 a0b (at? s_.2.2.2 r0) fun r1 =>
 a0b (b2q n ms r1.1) fun r2 =>
 tif ((!r2)) (
 i0t n f (ms,(from_,(to,(s_,(k,(out,(s41,(s42,((IntKind.wrap .i64 (s43+1)),())))))))))) (
 a0b (l2f n s_ (r1.1,(k,(from_,to)))) fun r3 =>
 tif ((!(decide (r3.2=0)))) (
 some (.inr ([],(0,r3.2)))) (
 tif ((decide ((0:Int)<r3.1.2.1.1))) (
 tif ((decide ((((List.length out)+1)*184)≤140737488355328))) (
 i0t n f (ms,(from_,(to,(s_,(k,((out++((r1.1,r3.1)::[])),(s41,(s42,((IntKind.wrap .i64 (s43+1)),())))))))))) (
 none)) (
 i0t n f (ms,(from_,(to,(s_,(k,(out,(s41,(s42,((IntKind.wrap .i64 (s43+1)),()))))))))))))) (
 some (.inl (k,(out,())))):=by kernel_rfl
theorem s0u (n:Nat) (s:a0m) (ms:(List (Int×(List UInt8×List UInt8)))) (tier:Int) (from_:Int) (to:Int) (n_:Int):n0i (n+1) s ms tier from_ to n_ =
 a0b (i0h n s ms tier from_ to) fun r0 =>
 tif ((!(decide (r0.2.2=0)))) (
 some ([],r0.2.2)) (
 tif ((decide (n_<0))) (
 some ([],1)) (
 a0b (e0m n r0.1 (fun y1=>u0z n y1.1 y1.2.1)) fun r2 =>
 tif (((decide ((0:Int)≤(if (((List.length r2):Nat):Int)<n_ then (((List.length r2):Nat):Int) else n_)))&&(decide ((if (((List.length r2):Nat):Int)<n_ then (((List.length r2):Nat):Int) else n_)≤(((List.length r2):Nat):Int))))) (
 a0b (i0o n a0d ([],((List.take ((Int.toNat (if (((List.length r2):Nat):Int)<n_ then (((List.length r2):Nat):Int) else n_))-0) r2),(((((Int.toNat (if (((List.length r2):Nat):Int)<n_ then (((List.length r2):Nat):Int) else n_))-0):Nat):Int),(0,()))))) fun r3 =>
 b0d (fun y4 =>
 some (y4.1,0)) (fun z5 =>
 some z5) r3) (
 none))):=by kernel_rfl
theorem j0b (n f:Nat) (out:(List (List (List UInt8×List UInt8)))) (s44:(List a0a)) (s45:Int) (s46:Int):i0o n (f+1) (out,s44,s45,s46,()) =
 tif ((decide (s46<s45))) (
 a0b (at? s44 s46) fun r0 =>
 a0b ((s44)[(Int.toNat s46)]?) fun r1 =>
 tif ((decide ((((List.length out)+1)*24)≤140737488355328))) (
 i0o n f ((out++(r1.1::[])),(s44,(s45,((IntKind.wrap .i64 (s46+1)),()))))) (
 none)) (
 some (.inl (out,()))):=by kernel_rfl
theorem h2c (n:Nat) (s:a0m) (ms:(List (Int×(List UInt8×List UInt8)))) (tier:Int) (from_:Int) (to:Int) (n_:Int):a2m (n+1) s ms tier from_ to n_ =
 a0b (t0j n s ms tier from_ to) fun r0 =>
 tif ((!(decide (r0.2.2=0)))) (
 some ([],r0.2.2)) (
 tif ((decide (n_<0))) (
 some ([],1)) (
 tif (((decide ((0:Int)≤(((List.length r0.1):Nat):Int)))&&((decide ((((List.length r0.1):Nat):Int)≤(((List.length r0.1):Nat):Int)))&&(decide (((((List.length r0.1):Nat):Int)*1)≤140737488355328))))) (
 a0b (v0k n a0d (n_,(r0.1,([],((List.replicate (Int.toNat (((List.length r0.1):Nat):Int)) false),()))))) fun r1 =>
 b0d (fun y2 =>
 some (y2.1,0)) (fun z3 =>
 some z3) r1) (
 none))):=by kernel_rfl
theorem z0d (n f:Nat) (n_:Int) (l:(List a0a)) (out:(List (List (List UInt8×List UInt8)))) (done:(List Bool)):v0k n (f+1) (n_,l,out,done,()) =
 tif ((decide ((((List.length out):Nat):Int)<n_))) (
 tif ((decide ((((List.length out):Nat):Int)<(((List.length l):Nat):Int)))) (
 a0b (i0j n a0d (n_,(l,(out,(done,(((-1):Int),(l,((((List.length l):Nat):Int),(0,()))))))))) fun r0 =>
 b0d (fun y1 =>
 a0b (at? y1.2.2.2.1 y1.2.2.2.2.1) fun r2 =>
 a0b ((y1.2.2.2.1)[(Int.toNat y1.2.2.2.2.1)]?) fun r3 =>
 a0b (at? y1.2.1 y1.2.2.2.2.1) fun r4 =>
 tif ((decide ((((List.length y1.2.2.1)+1)*24)≤140737488355328))) (
 v0k n f (y1.1,(y1.2.1,((y1.2.2.1++(r4.1::[])),((List.set y1.2.2.2.1 (Int.toNat y1.2.2.2.2.1) true),()))))) (
 none)) (fun z5 =>
 some (.inr z5)) r0) (
 some (.inl (out,())))) (
 some (.inl (out,()))):=by kernel_rfl
theorem w0m (n f:Nat) (n_:Int) (l:(List a0a)) (out:(List (List (List UInt8×List UInt8)))) (done:(List Bool)) (at_:Int) (s51:(List a0a)) (s52:Int) (s53:Int):i0j n (f+1) (n_,l,out,done,at_,s51,s52,s53,()) =
 tif ((decide (s53<s52))) (
 a0b (at? s51 s53) fun r0 =>
 a0b (at? done s53) fun r1 =>
 a0b ((done)[(Int.toNat s53)]?) fun r2 =>
 tif ((!r2)) (
 tif ((decide (at_<0))) (
 i0j n f (n_,(l,(out,(done,(s53,(s51,(s52,((IntKind.wrap .i64 (s53+1)),()))))))))) (
 a0b (at? l at_) fun r3 =>
 a0b (j0o n r3.2.2.1.2.2.2.1 r0.2.2.1.2.2.2.1) fun r4 =>
 tif (r4) (
 i0j n f (n_,(l,(out,(done,(s53,(s51,(s52,((IntKind.wrap .i64 (s53+1)),()))))))))) (
 i0j n f (n_,(l,(out,(done,(at_,(s51,(s52,((IntKind.wrap .i64 (s53+1)),()))))))))))) (
 i0j n f (n_,(l,(out,(done,(at_,(s51,(s52,((IntKind.wrap .i64 (s53+1)),())))))))))) (
 some (.inl (n_,(l,(out,(done,(at_,()))))))):=by kernel_rfl
theorem a1q (n:Nat) (a:(List (List UInt8×List UInt8))) (b:(List (List UInt8×List UInt8))):i0y (n+1) a b =
 a0b (p0f n a b) fun r0 =>
 some r0:=by kernel_rfl
theorem u1o (n:Nat) (a:f0h) (b:f0h):k0x (n+1) a b =
 tif ((!(decide (a.1=b.1)))) (
 some ((0,(0,(0,((0,0),(0,(0,0)))))),2)) (
 a0b (e1j n a.2.2.2.1 b.2.2.2.1) fun r0 =>
 tif ((!(decide (r0.2=0)))) (
 some ((0,(0,(0,((0,0),(0,(0,0)))))),r0.2)) (
 some ((a.1,((IntKind.wrap .i64 (a.2.1+b.2.1)),((IntKind.wrap .i64 (a.2.2.1+b.2.2.1)),(r0.1,((IntKind.wrap .i64 (a.2.2.2.2.1+b.2.2.2.2.1)),((IntKind.wrap .i64 (a.2.2.2.2.2.1+b.2.2.2.2.2.1)),(IntKind.wrap .i64 (a.2.2.2.2.2.2+b.2.2.2.2.2.2)))))))),0))):=by kernel_rfl
theorem h2d (n:Nat) (a:f0h) (b:f0h):r1a (n+1) a b =
 tif ((!(decide (a.1=b.1)))) (
 some ((0,(0,(0,((0,0),(0,(0,0)))))),2)) (
 a0b (l0o n a.2.2.2.1 b.2.2.2.1) fun r0 =>
 tif ((!(decide (r0.2=0)))) (
 some ((0,(0,(0,((0,0),(0,(0,0)))))),r0.2)) (
 some ((a.1,((IntKind.wrap .i64 (a.2.1+b.2.1)),((IntKind.wrap .i64 (a.2.2.1+b.2.2.1)),(r0.1,((IntKind.wrap .i64 (a.2.2.2.2.1+b.2.2.2.2.1)),((IntKind.wrap .i64 (a.2.2.2.2.2.1+b.2.2.2.2.2.1)),(IntKind.wrap .i64 (a.2.2.2.2.2.2+b.2.2.2.2.2.2)))))))),0))):=by kernel_rfl
theorem k1a (n:Nat) (l:(List (Int×(List UInt8×List UInt8)))):o0c (n+1) l =
 tif ((decide ((16:Int)<(((List.length l):Nat):Int)))) (
 some (2:Int)) (
 a0b (d0o n l (fun y0=>s0d n y0.1)) fun r1 =>
 tif (r1) (
 some (2:Int)) (
 some (0:Int))):=by kernel_rfl
theorem x1t (n:Nat) (s:a0z):a1s (n+1) s =
 a0b (a1u n s.1) fun r0 =>
 tif ((decide (r0=0))) (
 some (0:Int)) (
 tif ((decide ((60:Int)<(((List.length s.2.2.1.2.2):Nat):Int)))) (
 some (0:Int)) (
 a0b (i1o n s.2.2.2.1) fun r1 =>
 some r1)):=by kernel_rfl
theorem c1x (n:Nat) (s:a0m) (l:(List (List UInt8×List UInt8))) (es:(List a0x)):s0r (n+1) s l es =
 a0b (d0r n a0d (l,(es,(s,(((0,((0,(0,0)),((0,(0,0)),(0,0)))),(0,(0,[]))),(es,((((List.length es):Nat):Int),(0,())))))))) fun r0 =>
 b0d (fun y1 =>
 some (y1.2.1,((((List.length y1.1):Nat):Int),0))) (fun z2 =>
 some z2) r0:=by kernel_rfl
theorem e0d (n f:Nat) (l:(List (List UInt8×List UInt8))) (es:(List a0x)) (s_:a0m) (s6:a0m) (s13:(List a0x)) (s14:Int) (s15:Int):d0r n (f+1) (l,es,s_,s6,s13,s14,s15,()) =
 tif ((decide (s15<s14))) (
 a0b (at? s13 s15) fun r0 =>
 a0b (n0e n s_ l r0) fun r1 =>
 tif ((!(decide (r1.2=0)))) (
 some (.inr (s_,(s15,r1.2)))) (
 d0r n f (l,(es,(r1.1,(s6,(s13,(s14,((IntKind.wrap .i64 (s15+1)),()))))))))) (
 some (.inl (es,(s_,(s6,()))))):=by kernel_rfl
theorem v1v (n:Nat) (s:a0m):q0a (n+1) s =
 a0b (p0y n s) fun r0 =>
 tif ((!r0)) (
 some (2:Int)) (
 a0b (z0f n s.2.1) fun r1 =>
 tif ((!r1)) (
 some (2:Int)) (
 tif ((!(decide (s.2.2.1=((-1):Int))))) (
 a0b (z0f n s.2.2.1) fun r2 =>
 tif ((!r2)) (
 some (2:Int)) (
 tif ((decide (s.2.1<s.2.2.1))) (
 some (2:Int)) (
 a0b (z0h n s) fun r3 =>
 a0b (d0x n a0d (s,((IntKind.wrap .i64 (r3+s.1.2.1.1)),(s.2.2.2,((((List.length s.2.2.2):Nat):Int),(0,())))))) fun r4 =>
 b0d (fun y5 =>
 some (0:Int)) (fun z6 =>
 some z6) r4))) (
 tif ((decide (s.2.1<s.2.2.1))) (
 some (2:Int)) (
 a0b (z0h n s) fun r7 =>
 a0b (d0x n a0d (s,((IntKind.wrap .i64 (r7+s.1.2.1.1)),(s.2.2.2,((((List.length s.2.2.2):Nat):Int),(0,())))))) fun r8 =>
 b0d (fun y9 =>
 some (0:Int)) (fun z10 =>
 some z10) r8)))):=by kernel_rfl
theorem t0n (n f:Nat) (s_:a0m) (end_:Int) (s42:(List a0z)) (s43:Int) (s44:Int):d0x n (f+1) (s_,end_,s42,s43,s44,()) =
 tif ((decide (s44<s43))) (
 a0b (at? s42 s44) fun r0 =>
 a0b (z0i n r0) fun r1 =>
 tif (r1) (
 d0x n f (s_,(end_,(s42,(s43,((IntKind.wrap .i64 (s44+1)),())))))) (
 a0b (n0w n s_.1 r0) fun r2 =>
 tif ((!(decide (r2=0)))) (
 some (.inr (2:Int))) (
 tif ((decide (r0.2.1<0))) (
 some (.inr (2:Int))) (
 tif ((decide (end_≤r0.2.1))) (
 some (.inr (2:Int))) (
 tif (((decide ((0:Int)≤s44))&&(decide (s44≤(((List.length s_.2.2.2):Nat):Int))))) (
 a0b (d0p n a0d (s_,(end_,(s44,(r0,(s42,(s43,(s44,((((List.length (List.drop 0 (List.take (Int.toNat s44) s_.2.2.2))):Nat):Int),((0:Int),())))))))))) fun r3 =>
 b0d (fun y4 =>
 d0x n f (y4.1,(y4.2.1,(y4.2.2.1,(y4.2.2.2.1,((IntKind.wrap .i64 (y4.2.2.2.2.1+1)),())))))) (fun z5 =>
 some (.inr z5)) r3) (
 none)))))) (
 some (.inl ())):=by kernel_rfl
theorem s0o (n f:Nat) (s_:a0m) (end_:Int) (i:Int) (x:a0z) (s42:(List a0z)) (s43:Int) (s44:Int) (s71:Int) (s72:Int):d0p n (f+1) (s_,end_,i,x,s42,s43,s44,s71,s72,()) =
 tif ((decide (s72<s71))) (
 a0b (p0z n s_ i) fun r0 =>
 tif (r0) (
 a0b (p0z n s_ s72) fun r1 =>
 tif (r1) (
 a0b (at? s_.2.2.2 s72) fun r2 =>
 a0b (z0t n r2.1 x.1) fun r3 =>
 tif (r3) (
 some (.inr (2:Int))) (
 d0p n f (s_,(end_,(i,(x,(s42,(s43,(s44,(s71,((IntKind.wrap .i64 (s72+1)),()))))))))))) (
 d0p n f (s_,(end_,(i,(x,(s42,(s43,(s44,(s71,((IntKind.wrap .i64 (s72+1)),()))))))))))) (
 d0p n f (s_,(end_,(i,(x,(s42,(s43,(s44,(s71,((IntKind.wrap .i64 (s72+1)),()))))))))))) (
 some (.inl (s_,(end_,(s42,(s43,(s44,()))))))):=by kernel_rfl
end Go.Proofs.YtgkpkajaepphjaaGreatDoor
