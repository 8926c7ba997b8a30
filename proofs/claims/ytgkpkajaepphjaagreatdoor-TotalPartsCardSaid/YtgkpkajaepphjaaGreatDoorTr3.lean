/- Trees, printed by program. -/
import Derived.Test.YtgkpkajaepphjaaGreatDoorTr0
import Derived.KernelRfl
set_option linter.unusedVariables false
namespace Go.Proofs.YtgkpkajaepphjaaGreatDoor
open Go.Flat
theorem a1b (n:Nat) (a:f0k) (b:f0k):w0q (n+1) a b =
 a0b (d0x n a b) fun r0 =>
 a0b (v1s n a b) fun r1 =>
 a0b (d0x n b a) fun r2 =>
 a0b (w0p n ) fun r3 =>
 tif (r3) (
 tif (((decide (r0.1.1=r1.1.1))&&((decide (r0.1.2.1=r1.1.2.1))&&((decide (r0.1.2.2.1=r1.1.2.2.1))&&((decide (r0.1.2.2.2.1.1=r1.1.2.2.2.1.1))&&((decide (r0.1.2.2.2.1.2=r1.1.2.2.2.1.2))&&((decide (r0.1.2.2.2.2.1=r1.1.2.2.2.2.1))&&((decide (r0.1.2.2.2.2.2.1=r1.1.2.2.2.2.2.1))&&(decide (r0.1.2.2.2.2.2.2=r1.1.2.2.2.2.2.2)))))))))) (
 tif ((decide (r0.2=r1.2))) (
 tif (((decide (r0.1.1=r2.1.1))&&((decide (r0.1.2.1=r2.1.2.1))&&((decide (r0.1.2.2.1=r2.1.2.2.1))&&((decide (r0.1.2.2.2.1.1=r2.1.2.2.2.1.1))&&((decide (r0.1.2.2.2.1.2=r2.1.2.2.2.1.2))&&((decide (r0.1.2.2.2.2.1=r2.1.2.2.2.2.1))&&((decide (r0.1.2.2.2.2.2.1=r2.1.2.2.2.2.2.1))&&(decide (r0.1.2.2.2.2.2.2=r2.1.2.2.2.2.2.2)))))))))) (
 some (decide (r0.2=r2.2))) (
 some false)) (
 some false)) (
 some false)) (
 some false):=by kernel_rfl
theorem y0l (n:Nat) (s:a0m) (m:(Int×(List UInt8×List UInt8))) (tier:Int) (from_:Int) (to:Int):t0o (n+1) s m tier from_ to =
 a0b (w0p n ) fun r0 =>
 tif ((!r0)) (
 some false) (
 a0b (w0r n s) fun r1 =>
 tif ((decide (r1=0))) (
 some true) (
 a0b (c0p n s) fun r2 =>
 tif ((!(decide (r2=0)))) (
 some true) (
 a0b (i0n n (m::[])) fun r3 =>
 tif ((!(decide (r3=0)))) (
 some true) (
 tif ((decide (m.1=3))) (
 some true) (
 tif ((decide (m.1=2))) (
 a0b (c0u n s [] tier from_ to) fun r4 =>
 a0b (c0u n s (m::[]) tier from_ to) fun r5 =>
 a0b (c0u n s ((1,m.2)::[]) tier from_ to) fun r6 =>
 a0b (a1i n s) fun r7 =>
 a0b (c0u n r7.1 [] tier from_ to) fun r8 =>
 tif ((!(decide (r4.2=r5.2)))) (
 some false) (
 tif ((!(decide (r4.2=r6.2)))) (
 some false) (
 tif ((!(decide (r4.2=r8.2)))) (
 some false) (
 tif ((!(decide (r7.2.2=0)))) (
 some false) (
 tif ((!((decide (r8.1.1=r4.1.1))&&((decide (r8.1.2.1=r4.1.2.1))&&((decide (r8.1.2.2.1=r4.1.2.2.1))&&((decide (r8.1.2.2.2.1.1=r4.1.2.2.2.1.1))&&((decide (r8.1.2.2.2.1.2=r4.1.2.2.2.1.2))&&((decide (r8.1.2.2.2.2.1=r4.1.2.2.2.2.1))&&((decide (r8.1.2.2.2.2.2.1=r4.1.2.2.2.2.2.1))&&(decide (r8.1.2.2.2.2.2.2=r4.1.2.2.2.2.2.2))))))))))) (
 some false) (
 tif ((!(decide (r4.2=0)))) (
 some ((decide (r4.1.1=0))&&((decide (r4.1.2.1=0))&&((decide (r4.1.2.2.1=0))&&((decide (r4.1.2.2.2.1.1=0))&&((decide (r4.1.2.2.2.1.2=0))&&((decide (r4.1.2.2.2.2.1=0))&&((decide (r4.1.2.2.2.2.2.1=0))&&(decide (r4.1.2.2.2.2.2.2=0)))))))))) (
 a0b (d0x n r5.1 r6.1) fun r9 =>
 a0b (c0u n s (m::((1,m.2)::[])) tier from_ to) fun r10 =>
 a0b (g0y n s tier from_ to) fun r11 =>
 tif ((decide (r9.2=0))) (
 tif (((decide (r9.1.1=r4.1.1))&&((decide (r9.1.2.1=r4.1.2.1))&&((decide (r9.1.2.2.1=r4.1.2.2.1))&&((decide (r9.1.2.2.2.1.1=r4.1.2.2.2.1.1))&&((decide (r9.1.2.2.2.1.2=r4.1.2.2.2.1.2))&&((decide (r9.1.2.2.2.2.1=r4.1.2.2.2.2.1))&&((decide (r9.1.2.2.2.2.2.1=r4.1.2.2.2.2.2.1))&&(decide (r9.1.2.2.2.2.2.2=r4.1.2.2.2.2.2.2)))))))))) (
 tif ((decide (r10.2=0))) (
 tif (((decide (r10.1.1=r11.1))&&((decide (r10.1.2.1=0))&&((decide (r10.1.2.2.1=0))&&((decide (r10.1.2.2.2.1.1=0))&&((decide (r10.1.2.2.2.1.2=0))&&((decide (r10.1.2.2.2.2.1=0))&&((decide (r10.1.2.2.2.2.2.1=0))&&(decide (r10.1.2.2.2.2.2.2=0)))))))))) (
 some (decide (r11.2=0))) (
 some false)) (
 some false)) (
 some false)) (
 some false)))))))) (
 a0b (c0u n s [] tier from_ to) fun r12 =>
 a0b (c0u n s (m::[]) tier from_ to) fun r13 =>
 a0b (c0u n s ((2,m.2)::[]) tier from_ to) fun r14 =>
 a0b (a1i n s) fun r15 =>
 a0b (c0u n r15.1 [] tier from_ to) fun r16 =>
 tif ((!(decide (r12.2=r13.2)))) (
 some false) (
 tif ((!(decide (r12.2=r14.2)))) (
 some false) (
 tif ((!(decide (r12.2=r16.2)))) (
 some false) (
 tif ((!(decide (r15.2.2=0)))) (
 some false) (
 tif ((!((decide (r16.1.1=r12.1.1))&&((decide (r16.1.2.1=r12.1.2.1))&&((decide (r16.1.2.2.1=r12.1.2.2.1))&&((decide (r16.1.2.2.2.1.1=r12.1.2.2.2.1.1))&&((decide (r16.1.2.2.2.1.2=r12.1.2.2.2.1.2))&&((decide (r16.1.2.2.2.2.1=r12.1.2.2.2.2.1))&&((decide (r16.1.2.2.2.2.2.1=r12.1.2.2.2.2.2.1))&&(decide (r16.1.2.2.2.2.2.2=r12.1.2.2.2.2.2.2))))))))))) (
 some false) (
 tif ((!(decide (r12.2=0)))) (
 some ((decide (r12.1.1=0))&&((decide (r12.1.2.1=0))&&((decide (r12.1.2.2.1=0))&&((decide (r12.1.2.2.2.1.1=0))&&((decide (r12.1.2.2.2.1.2=0))&&((decide (r12.1.2.2.2.2.1=0))&&((decide (r12.1.2.2.2.2.2.1=0))&&(decide (r12.1.2.2.2.2.2.2=0)))))))))) (
 a0b (d0x n r13.1 r14.1) fun r17 =>
 a0b (c0u n s (m::((2,m.2)::[])) tier from_ to) fun r18 =>
 a0b (g0y n s tier from_ to) fun r19 =>
 tif ((decide (r17.2=0))) (
 tif (((decide (r17.1.1=r12.1.1))&&((decide (r17.1.2.1=r12.1.2.1))&&((decide (r17.1.2.2.1=r12.1.2.2.1))&&((decide (r17.1.2.2.2.1.1=r12.1.2.2.2.1.1))&&((decide (r17.1.2.2.2.1.2=r12.1.2.2.2.1.2))&&((decide (r17.1.2.2.2.2.1=r12.1.2.2.2.2.1))&&((decide (r17.1.2.2.2.2.2.1=r12.1.2.2.2.2.2.1))&&(decide (r17.1.2.2.2.2.2.2=r12.1.2.2.2.2.2.2)))))))))) (
 tif ((decide (r18.2=0))) (
 tif (((decide (r18.1.1=r19.1))&&((decide (r18.1.2.1=0))&&((decide (r18.1.2.2.1=0))&&((decide (r18.1.2.2.2.1.1=0))&&((decide (r18.1.2.2.2.1.2=0))&&((decide (r18.1.2.2.2.2.1=0))&&((decide (r18.1.2.2.2.2.2.1=0))&&(decide (r18.1.2.2.2.2.2.2=0)))))))))) (
 some (decide (r19.2=0))) (
 some false)) (
 some false)) (
 some false)) (
 some false))))))))))))):=by kernel_rfl
theorem s1y (n:Nat) (s:a0m):w0r (n+1) s =
 tif ((decide ((8:Int)<(((List.length s.2.2.2):Nat):Int)))) (
 some (0:Int)) (
 a0b (j0g n a0c (s.2.2.2,((((List.length s.2.2.2):Nat):Int),(0,())))) fun r0 =>
 b0s (fun y1 =>
 some (1:Int)) (fun z2 =>
 some z2) r0):=by kernel_rfl
theorem r0p (n f:Nat) (s10:(List b0a)) (s11:Int) (s12:Int):j0g n (f+1) (s10,s11,s12,()) =
 tif ((decide (s12<s11))) (
 a0b (at? s10 s12) fun r0 =>
 a0b (w0s n r0) fun r1 =>
 tif ((decide (r1=0))) (
 some (.inr (0:Int))) (
 j0g n f (s10,(s11,((IntKind.wrap .i64 (s12+1)),()))))) (
 some (.inl ())):=by kernel_rfl
theorem t1b (n:Nat) (l:(List (List UInt8×List UInt8))):w0t (n+1) l =
 a0b (j0h n a0c (l,((((List.length l):Nat):Int),(0,())))) fun r0 =>
 b0s (fun y1 =>
 some (1:Int)) (fun z2 =>
 some z2) r0:=by kernel_rfl
theorem r0q (n f:Nat) (s5:(List (List UInt8×List UInt8))) (s6:Int) (s7:Int):j0h n (f+1) (s5,s6,s7,()) =
 tif ((decide (s7<s6))) (
 a0b (at? s5 s7) fun r0 =>
 tif ((decide (s7=40))) (
 some (.inr (0:Int))) (
 tif ((decide ((1000:Int)<(((List.length r0.1):Nat):Int)))) (
 some (.inr (0:Int))) (
 tif ((decide ((1000:Int)<(((List.length r0.2):Nat):Int)))) (
 some (.inr (0:Int))) (
 j0h n f (s5,(s6,((IntKind.wrap .i64 (s7+1)),()))))))) (
 some (.inl ())):=by kernel_rfl
theorem q1k (n:Nat) (s:a0m):c0p (n+1) s =
 a0b (v0a n s) fun r0 =>
 tif ((!(decide (r0.2=0)))) (
 some (2:Int)) (
 a0b (m0m n r0.1) fun r1 =>
 tif ((!r1)) (
 some (2:Int)) (
 a0b (e0o n r0.1 (fun y2=>e0e n y2.1 r0.1)) fun r3 =>
 tif ((decide ((0:Int)≤r3))) (
 some (2:Int)) (
 some (0:Int)))):=by kernel_rfl
theorem u0a (n:Nat) (s:a0m) (a:TAsk):w0d (n+1) s a =
 a0b (r0f n s a.1) fun r0 =>
 tif ((!(decide (r0=0)))) (
 some ((0,((0,((0,(0,(0,false))),((0,(0,(0,false))),((0,0),(0,(0,0)))))),(((0,0),(0,0)),0))),r0)) (
 a0b (g0y n s a.2.1 a.2.2.1 a.2.2.2) fun r1 =>
 tif ((!(decide (r1.2=0)))) (
 some ((0,((0,((0,(0,(0,false))),((0,(0,(0,false))),((0,0),(0,(0,0)))))),(((0,0),(0,0)),0))),r1.2)) (
 a0b (w0c n s a (IntKind.wrap .i64 (r1.1-1))) fun r2 =>
 tif ((!(decide (r2.2=0)))) (
 some ((0,((0,((0,(0,(0,false))),((0,(0,(0,false))),((0,0),(0,(0,0)))))),(((0,0),(0,0)),0))),r2.2)) (
 a0b (n0s n r2.1) fun r3 =>
 some ((r1.1,(r2.1,r3)),0)))):=by kernel_rfl
theorem p0c (n:Nat) (s:a0m) (tier:Int) (from_:Int) (to:Int):g0y (n+1) s tier from_ to =
 a0b (c0p n s) fun r0 =>
 tif ((!(decide (r0=0)))) (
 some (0,r0)) (
 tif ((decide (tier<0))) (
 some (0,1)) (
 tif ((decide ((3:Int)<tier))) (
 some (0,1)) (
 tif ((decide (tier=0))) (
 a0b (l0n n s from_ to) fun r1 =>
 some r1) (
 a0b (n0r n s tier from_ to) fun r2 =>
 tif ((!(decide (r2=0)))) (
 some (0,r2)) (
 some (tier,0)))))):=by kernel_rfl
theorem x1s (n:Nat) (l:(List b0h)):p1i (n+1) l =
 a0b (l0t n a0c ((0,((0,(0,(0,false))),((0,(0,(0,false))),((0,0),(0,(0,0)))))),((0,((0,(0,(0,false))),((0,(0,(0,false))),((0,0),(0,(0,0)))))),(l,((((List.length l):Nat):Int),(0,())))))) fun r0 =>
 b0s (fun y1 =>
 some (y1.2.1,0)) (fun z2 =>
 some z2) r0:=by kernel_rfl
theorem t0s (n f:Nat) (s2:b0h) (c:b0h) (s9:(List b0h)) (s10:Int) (s11:Int):l0t n (f+1) (s2,c,s9,s10,s11,()) =
 tif ((decide (s11<s10))) (
 a0b (at? s9 s11) fun r0 =>
 a0b (h0a n c r0) fun r1 =>
 tif ((!(decide (r1.2=0)))) (
 some (.inr ((0,((0,(0,(0,false))),((0,(0,(0,false))),((0,0),(0,(0,0)))))),r1.2))) (
 l0t n f (s2,(r1.1,(s9,(s10,((IntKind.wrap .i64 (s11+1)),()))))))) (
 some (.inl (s2,(c,())))):=by kernel_rfl
theorem u1k (n:Nat) (l:(List (Int×Int))):l1n (n+1) l =
 a0b (o0j n a0c ((0,0),((0,0),(l,((((List.length l):Nat):Int),(0,())))))) fun r0 =>
 b0s (fun y1 =>
 some (y1.2.1,0)) (fun z2 =>
 some z2) r0:=by kernel_rfl
theorem s0x (n f:Nat) (s2:(Int×Int)) (a:(Int×Int)) (s9:(List (Int×Int))) (s10:Int) (s11:Int):o0j n (f+1) (s2,a,s9,s10,s11,()) =
 tif ((decide (s11<s10))) (
 a0b (at? s9 s11) fun r0 =>
 a0b (a1f n a r0) fun r1 =>
 tif ((!(decide (r1.2=0)))) (
 some (.inr ((0,0),r1.2))) (
 o0j n f (s2,(r1.1,(s9,(s10,((IntKind.wrap .i64 (s11+1)),()))))))) (
 some (.inl (s2,(a,())))):=by kernel_rfl
theorem p1r (n:Nat) (a:(Int×Int)) (b:(Int×Int)):k0v (n+1) a b =
 tif ((decide (a.1<b.1))) (
 some true) (
 tif ((decide (a.1=b.1))) (
 some (decide (a.2<b.2))) (
 some false)):=by kernel_rfl
theorem l1m (n:Nat) (a:(Int×Int)) (n_:Int):r0x (n+1) a n_ =
 a0b (h0v n a.2 n_) fun r0 =>
 a0b (h0v n a.1 n_) fun r1 =>
 tif (((decide ((0:Int)≤r1.2))&&((decide ((0:Int)≤r0.1))&&true))) (
 a0b (p0z n ((((r1.2+r0.1)+0) % (18446744073709551616:Int)),r0.2) (orI .u64 r1.1 (((r1.2+r0.1)+0) / (18446744073709551616:Int)))) fun r2 =>
 some r2) (
 none):=by kernel_rfl
theorem b1h (n:Nat) (s:a0m) (ms:(List (Int×(List UInt8×List UInt8)))) (tier:Int) (from_:Int) (to:Int):c0u (n+1) s ms tier from_ to =
 a0b (g0j n s ms tier from_ to) fun r0 =>
 tif ((!(decide (r0.2.2=0)))) (
 some ((0,(0,(0,((0,0),(0,(0,0)))))),r0.2.2)) (
 a0b (f0b n a0c ((0,(0,(0,((0,0),(0,(0,0)))))),(r0.2.1,((r0.2.1,(0,(0,((0,0),(0,(0,0)))))),(r0.1,((((List.length r0.1):Nat):Int),(0,()))))))) fun r1 =>
 b0s (fun y2 =>
 some (y2.2.1,0)) (fun z3 =>
 some z3) r1):=by kernel_rfl
theorem g0a (n f:Nat) (s10:f0k) (k:Int) (sum:f0k) (s34:(List a0f)) (s35:Int) (s36:Int):f0b n (f+1) (s10,k,sum,s34,s35,s36,()) =
 tif ((decide (s36<s35))) (
 a0b (at? s34 s36) fun r0 =>
 a0b ((s34)[(Int.toNat s36)]?) fun r1 =>
 a0b (u0r n k r1.2.2.1) fun r2 =>
 a0b (d0x n sum r2) fun r3 =>
 tif ((!(decide (r3.2=0)))) (
 some (.inr ((0,(0,(0,((0,0),(0,(0,0)))))),r3.2))) (
 f0b n f (s10,(k,(r3.1,(s34,(s35,((IntKind.wrap .i64 (s36+1)),())))))))) (
 some (.inl (s10,(sum,())))):=by kernel_rfl
theorem e1y (n:Nat) (s:a0m) (ms:(List (Int×(List UInt8×List UInt8)))) (tier:Int) (from_:Int) (to:Int):t0u (n+1) s ms tier from_ to =
 a0b (g0j n s ms tier from_ to) fun r0 =>
 a0b (f0z n a0c (r0.2.2,([],(r0.1,((((List.length r0.1):Nat):Int),(0,())))))) fun r1 =>
 b0s (fun y2 =>
 some (y2.2.1,y2.1)) (fun z3 =>
 some z3) r1:=by kernel_rfl
theorem m0z (n f:Nat) (why:Int) (out:(List e1v)) (s28:(List a0f)) (s29:Int) (s30:Int):f0z n (f+1) (why,out,s28,s29,s30,()) =
 tif ((decide (s30<s29))) (
 a0b (at? s28 s30) fun r0 =>
 a0b ((s28)[(Int.toNat s30)]?) fun r1 =>
 tif ((decide ((((List.length out)+1)*160)≤140737488355328))) (
 f0z n f (why,((out++(r1.2::[])),(s28,(s29,((IntKind.wrap .i64 (s30+1)),())))))) (
 none)) (
 some (.inl (why,(out,())))):=by kernel_rfl
theorem z0a (n:Nat) (s:a0m) (ms:(List (Int×(List UInt8×List UInt8)))) (tier:Int) (from_:Int) (to:Int) (n_:Int):q0b (n+1) s ms tier from_ to n_ =
 a0b (g0j n s ms tier from_ to) fun r0 =>
 tif ((!(decide (r0.2.2=0)))) (
 some ([],r0.2.2)) (
 tif ((decide (n_<0))) (
 some ([],1)) (
 a0b (i0c n r0.1 (fun y1=>k1e n y1.1 y1.2.1)) fun r2 =>
 tif (((decide ((0:Int)≤(if (((List.length r2):Nat):Int)<n_ then (((List.length r2):Nat):Int) else n_)))&&(decide ((if (((List.length r2):Nat):Int)<n_ then (((List.length r2):Nat):Int) else n_)≤(((List.length r2):Nat):Int))))) (
 a0b (j0c n a0c ([],((List.take ((Int.toNat (if (((List.length r2):Nat):Int)<n_ then (((List.length r2):Nat):Int) else n_))-0) r2),(((((Int.toNat (if (((List.length r2):Nat):Int)<n_ then (((List.length r2):Nat):Int) else n_))-0):Nat):Int),(0,()))))) fun r3 =>
 b0s (fun y4 =>
 some (y4.1,0)) (fun z5 =>
 some z5) r3) (
 none))):=by kernel_rfl
theorem q0a (n f:Nat) (out:(List (List (List UInt8×List UInt8)))) (s44:(List a0f)) (s45:Int) (s46:Int):j0c n (f+1) (out,s44,s45,s46,()) =
 tif ((decide (s46<s45))) (
 a0b (at? s44 s46) fun r0 =>
 a0b ((s44)[(Int.toNat s46)]?) fun r1 =>
 tif ((decide ((((List.length out)+1)*24)≤140737488355328))) (
 j0c n f ((out++(r1.1::[])),(s44,(s45,((IntKind.wrap .i64 (s46+1)),()))))) (
 none)) (
 some (.inl (out,()))):=by kernel_rfl
theorem w0o (n:Nat) (a:(List (List UInt8×List UInt8))) (b:(List (List UInt8×List UInt8))):i0o (n+1) a b =
 a0b (m0o n a b) fun r0 =>
 some r0:=by kernel_rfl
theorem q1a (n:Nat) (a:f0k) (b:f0k):d0x (n+1) a b =
 tif ((!(decide (a.1=b.1)))) (
 some ((0,(0,(0,((0,0),(0,(0,0)))))),2)) (
 a0b (a1f n a.2.2.2.1 b.2.2.2.1) fun r0 =>
 tif ((!(decide (r0.2=0)))) (
 some ((0,(0,(0,((0,0),(0,(0,0)))))),r0.2)) (
 some ((a.1,((IntKind.wrap .i64 (a.2.1+b.2.1)),((IntKind.wrap .i64 (a.2.2.1+b.2.2.1)),(r0.1,((IntKind.wrap .i64 (a.2.2.2.2.1+b.2.2.2.2.1)),((IntKind.wrap .i64 (a.2.2.2.2.2.1+b.2.2.2.2.2.1)),(IntKind.wrap .i64 (a.2.2.2.2.2.2+b.2.2.2.2.2.2)))))))),0))):=by kernel_rfl
theorem b2x (n:Nat) (a:f0k) (b:f0k):v1s (n+1) a b =
 tif ((!(decide (a.1=b.1)))) (
 some ((0,(0,(0,((0,0),(0,(0,0)))))),2)) (
 a0b (j0l n a.2.2.2.1 b.2.2.2.1) fun r0 =>
 tif ((!(decide (r0.2=0)))) (
 some ((0,(0,(0,((0,0),(0,(0,0)))))),r0.2)) (
 some ((a.1,((IntKind.wrap .i64 (a.2.1+b.2.1)),((IntKind.wrap .i64 (a.2.2.1+b.2.2.1)),(r0.1,((IntKind.wrap .i64 (a.2.2.2.2.1+b.2.2.2.2.1)),((IntKind.wrap .i64 (a.2.2.2.2.2.1+b.2.2.2.2.2.1)),(IntKind.wrap .i64 (a.2.2.2.2.2.2+b.2.2.2.2.2.2)))))))),0))):=by kernel_rfl
theorem f1o (n:Nat) (l:(List (Int×(List UInt8×List UInt8)))):i0n (n+1) l =
 tif ((decide ((16:Int)<(((List.length l):Nat):Int)))) (
 some (2:Int)) (
 a0b (c0w n l (fun y0=>p0i n y0.1)) fun r1 =>
 tif (r1) (
 some (2:Int)) (
 some (0:Int))):=by kernel_rfl
theorem u1u (n:Nat) (s:a0m):a1i (n+1) s =
 a0b (c0p n s) fun r0 =>
 tif ((!(decide (r0=0)))) (
 some (((0,((0,(0,0)),((0,(0,0)),(0,0)))),(0,(0,[]))),(0,r0))) (
 a0b (b1l n s) fun r1 =>
 some ((s.1,(s.2.1,(s.2.1,s.2.2.2))),((((List.length r1):Nat):Int),0))):=by kernel_rfl
theorem s1z (n:Nat) (s:b0a):w0s (n+1) s =
 a0b (w0t n s.1) fun r0 =>
 tif ((decide (r0=0))) (
 some (0:Int)) (
 tif ((decide ((60:Int)<(((List.length s.2.2.1.2.2):Nat):Int)))) (
 some (0:Int)) (
 a0b (d1v n s.2.2.2.1) fun r1 =>
 some r1)):=by kernel_rfl
theorem y0z (n:Nat) (s:a0m) (l:(List (List UInt8×List UInt8))) (es:(List a0u)):p0y (n+1) s l es =
 a0b (c0y n a0c (l,(es,(s,(((0,((0,(0,0)),((0,(0,0)),(0,0)))),(0,(0,[]))),(es,((((List.length es):Nat):Int),(0,())))))))) fun r0 =>
 b0s (fun y1 =>
 some (y1.2.1,((((List.length y1.1):Nat):Int),0))) (fun z2 =>
 some z2) r0:=by kernel_rfl
theorem d0f (n f:Nat) (l:(List (List UInt8×List UInt8))) (es:(List a0u)) (s_:a0m) (s6:a0m) (s13:(List a0u)) (s14:Int) (s15:Int):c0y n (f+1) (l,es,s_,s6,s13,s14,s15,()) =
 tif ((decide (s15<s14))) (
 a0b (at? s13 s15) fun r0 =>
 a0b (k0t n s_ l r0) fun r1 =>
 tif ((!(decide (r1.2=0)))) (
 some (.inr (s_,(s15,r1.2)))) (
 c0y n f (l,(es,(r1.1,(s6,(s13,(s14,((IntKind.wrap .i64 (s15+1)),()))))))))) (
 some (.inl (es,(s_,(s6,()))))):=by kernel_rfl
end Go.Proofs.YtgkpkajaepphjaaGreatDoor
