/- Trees, printed by program. -/
import Derived.Test.YtgkpkajaepphjaaGreatDoorTr0
import Derived.KernelRfl
set_option linter.unusedVariables false
namespace Go.Proofs.YtgkpkajaepphjaaGreatDoor
open Go.Flat
theorem l2e (n:Nat) (s:a0m) (a:TAsk):l2f (n+1) s a =
 a0b (q0a n s) fun r0 =>
 tif ((!(decide (r0=0)))) (
 some ((0,((0,((0,(0,(0,false))),((0,(0,(0,false))),((0,0),(0,(0,0)))))),(((0,0),(0,0)),0))),2)) (
 a0b (t0y n a.1) fun r1 =>
 tif ((!(decide (r1=0)))) (
 some ((0,((0,((0,(0,(0,false))),((0,(0,(0,false))),((0,0),(0,(0,0)))))),(((0,0),(0,0)),0))),r1)) (
 a0b (e1r n s a.2.1 a.2.2.1 a.2.2.2) fun r2 =>
 tif ((!(decide (r2.2=0)))) (
 some ((0,((0,((0,(0,(0,false))),((0,(0,(0,false))),((0,0),(0,(0,0)))))),(((0,0),(0,0)),0))),r2.2)) (
 a0b (r1f n s a.1) fun r3 =>
 tif ((decide (r3.2=0))) (
 tif ((decide ((IntKind.wrap .i64 (r2.1-1))=0))) (
 a0b (g0h n a.2.2.1 a.2.2.2 s.1.2.1.1) fun r4 =>
 a0b (at? s.2.2.2 r3.1) fun r5 =>
 a0b (g0s n s.1 r5 (IntKind.wrap .i64 (r2.1-1)) r4.1 r4.2.1) fun r6 =>
 tif ((!(decide (r6.2=0)))) (
 some ((0,((0,((0,(0,(0,false))),((0,(0,(0,false))),((0,0),(0,(0,0)))))),(((0,0),(0,0)),0))),r6.2)) (
 a0b (o0n n r6.1) fun r7 =>
 some ((r2.1,(r6.1,r7)),0))) (
 tif ((decide ((IntKind.wrap .i64 (r2.1-1))=1))) (
 a0b (g0h n a.2.2.1 a.2.2.2 s.1.2.1.2.1) fun r8 =>
 a0b (at? s.2.2.2 r3.1) fun r9 =>
 a0b (g0s n s.1 r9 (IntKind.wrap .i64 (r2.1-1)) r8.1 r8.2.1) fun r10 =>
 tif ((!(decide (r10.2=0)))) (
 some ((0,((0,((0,(0,(0,false))),((0,(0,(0,false))),((0,0),(0,(0,0)))))),(((0,0),(0,0)),0))),r10.2)) (
 a0b (o0n n r10.1) fun r11 =>
 some ((r2.1,(r10.1,r11)),0))) (
 tif ((decide ((IntKind.wrap .i64 (r2.1-1))=2))) (
 a0b (g0h n a.2.2.1 a.2.2.2 s.1.2.1.2.2) fun r12 =>
 a0b (at? s.2.2.2 r3.1) fun r13 =>
 a0b (g0s n s.1 r13 (IntKind.wrap .i64 (r2.1-1)) r12.1 r12.2.1) fun r14 =>
 tif ((!(decide (r14.2=0)))) (
 some ((0,((0,((0,(0,(0,false))),((0,(0,(0,false))),((0,0),(0,(0,0)))))),(((0,0),(0,0)),0))),r14.2)) (
 a0b (o0n n r14.1) fun r15 =>
 some ((r2.1,(r14.1,r15)),0))) (
 none)))) (
 a0b (o0n n (0,((0,(0,(0,false))),((0,(0,(0,false))),((0,0),(0,(0,0))))))) fun r16 =>
 some ((r2.1,((0,((0,(0,(0,false))),((0,(0,(0,false))),((0,0),(0,(0,0)))))),r16)),0))))):=by kernel_rfl
theorem z1r (n:Nat) (s:a0m):y0n (n+1) s =
 a0b (k0l n s.1) fun r0 =>
 tif ((!(decide (r0=0)))) (
 some (((0,((0,(0,0)),((0,(0,0)),(0,0)))),(0,(0,[]))),2)) (
 tif ((!(decide ((((List.length s.2.2.2):Nat):Int)=s.1.2.2.2.1)))) (
 some (((0,((0,(0,0)),((0,(0,0)),(0,0)))),(0,(0,[]))),2)) (
 some (s,0))):=by kernel_rfl
theorem b1i (n:Nat) (v:a0m):p0c (n+1) v =
 a0b (e1m n v.2.1) fun r0 =>
 tif (r0) (
 tif ((decide (v.2.2.1=((-1):Int)))) (
 some (decide (v.2.2.1≤v.2.1))) (
 a0b (e1m n v.2.2.1) fun r1 =>
 tif (r1) (
 some (decide (v.2.2.1≤v.2.1))) (
 some false))) (
 some false):=by kernel_rfl
theorem b1g (n:Nat) (v:a0m) (is:((Int×Unit)→Option Bool)):f0x (n+1) v is =
 a0b (c0y n a0d (is,((((List.length v.2.2.2):Nat):Int),(0,())))) fun r0 =>
 b0d (fun y1 =>
 some ((-1):Int)) (fun z2 =>
 some z2) r0:=by kernel_rfl
theorem l0v (n f:Nat) (is:((Int×Unit)→Option Bool)) (s9:Int) (s10:Int):c0y n (f+1) (is,s9,s10,()) =
 tif ((decide (s10<s9))) (
 a0b (is (s10,())) fun r0 =>
 tif (r0) (
 some (.inr s10)) (
 c0y n f (is,(s9,((IntKind.wrap .i64 (s10+1)),()))))) (
 some (.inl ())):=by kernel_rfl
theorem j1l (n:Nat) (i:Int) (p1:a0m):f0l (n+1) i p1 =
 a0b (p0b n p1 i) fun r0 =>
 some (!r0):=by kernel_rfl
theorem b1f (n:Nat) (v:a0m) (i:Int):p0b (n+1) v i =
 a0b (at? v.2.2.2 i) fun r0 =>
 a0b (y0o n r0) fun r1 =>
 tif (r1) (
 some true) (
 a0b (t0c n v.1 r0) fun r2 =>
 tif ((decide (r2=0))) (
 tif ((decide ((0:Int)≤r0.2.1))) (
 a0b (r0i n v) fun r3 =>
 tif ((decide (r0.2.1<(IntKind.wrap .i64 (r3+v.1.2.1.1))))) (
 a0b (r0h n v i) fun r4 =>
 some (!r4)) (
 some false)) (
 some false)) (
 some false)):=by kernel_rfl
theorem u0c (n:Nat) (s:a0m) (l:(List (List UInt8×List UInt8))):u0d (n+1) s l =
 a0b (f0d n s) fun r0 =>
 tif ((!(decide (r0=0)))) (
 some r0) (
 a0b (g0v n l) fun r1 =>
 some r1):=by kernel_rfl
theorem x0j (n:Nat) (s:a0m) (a:TAsk) (k:Int):a1a (n+1) s a k =
 a0b (j0c n s a.1) fun r0 =>
 tif ((!(decide (r0.2=0)))) (
 some ((0,((0,(0,(0,false))),((0,(0,(0,false))),((0,0),(0,(0,0)))))),0)) (
 tif ((decide (k=0))) (
 a0b (h0p n a.2.2.1 a.2.2.2 s.1.2.1.1) fun r1 =>
 tif ((!(decide (r1.2.2=0)))) (
 some ((0,((0,(0,(0,false))),((0,(0,(0,false))),((0,0),(0,(0,0)))))),r1.2.2)) (
 a0b (at? s.2.2.2 r0.1) fun r2 =>
 a0b (d0g n s.1 r2 k r1.1 r1.2.1) fun r3 =>
 some r3)) (
 tif ((decide (k=1))) (
 a0b (h0p n a.2.2.1 a.2.2.2 s.1.2.1.2.1) fun r4 =>
 tif ((!(decide (r4.2.2=0)))) (
 some ((0,((0,(0,(0,false))),((0,(0,(0,false))),((0,0),(0,(0,0)))))),r4.2.2)) (
 a0b (at? s.2.2.2 r0.1) fun r5 =>
 a0b (d0g n s.1 r5 k r4.1 r4.2.1) fun r6 =>
 some r6)) (
 tif ((decide (k=2))) (
 a0b (h0p n a.2.2.1 a.2.2.2 s.1.2.1.2.2) fun r7 =>
 tif ((!(decide (r7.2.2=0)))) (
 some ((0,((0,(0,(0,false))),((0,(0,(0,false))),((0,0),(0,(0,0)))))),r7.2.2)) (
 a0b (at? s.2.2.2 r0.1) fun r8 =>
 a0b (d0g n s.1 r8 k r7.1 r7.2.1) fun r9 =>
 some r9)) (
 none)))):=by kernel_rfl
theorem r1u (n:Nat) (c:b0k):q0k (n+1) c =
 tif ((decide (c.2.2.2.2.2.2<1))) (
 some (((0,0),(0,0)),12)) (
 a0b (b1o n c.2.2.2.1 (IntKind.wrap .u64 c.2.2.2.2.2.2)) fun r0 =>
 some r0):=by kernel_rfl
theorem f2u (n:Nat) (n_:Int):n0f (n+1) n_ =
 some (0,n_):=by kernel_rfl
theorem z0y (n:Nat) (s:a0m) (from_:Int) (to:Int):o0a (n+1) s from_ to =
 a0b (d0i n a0d (from_,(to,(s,(10,(1,())))))) fun r0 =>
 b0d (fun y1 =>
 some (0,y1.1)) (fun z2 =>
 some z2) r0:=by kernel_rfl
theorem l0d (n f:Nat) (from_:Int) (to:Int) (s_:a0m) (why:Int) (tier:Int):d0i n (f+1) (from_,to,s_,why,tier,()) =
 tif ((decide (tier≤3))) (
 a0b (q0j n s_ tier from_ to) fun r0 =>
 tif ((decide (r0=0))) (
 some (.inr (tier,0))) (
 tif ((decide (r0=10))) (
 d0i n f (from_,(to,(s_,(why,((IntKind.wrap .i64 (tier+1)),())))))) (
 tif ((decide (r0=11))) (
 d0i n f (from_,(to,(s_,(r0,((IntKind.wrap .i64 (tier+1)),())))))) (
 some (.inr (0,r0)))))) (
 some (.inl (why,()))):=by kernel_rfl
theorem u0b (n:Nat) (s:a0m) (tier:Int) (from_:Int) (to:Int):q0j (n+1) s tier from_ to =
 tif ((decide ((IntKind.wrap .i64 (tier-1))=0))) (
 a0b (h0p n from_ to s.1.2.1.1) fun r0 =>
 tif ((!(decide (r0.2.2=0)))) (
 some r0.2.2) (
 a0b (s0k n s (IntKind.wrap .i64 (tier-1))) fun r1 =>
 tif ((decide (r1.2.2=0))) (
 tif ((decide (r0.1<r1.1))) (
 some (11:Int)) (
 some r1.2.2)) (
 some r1.2.2))) (
 tif ((decide ((IntKind.wrap .i64 (tier-1))=1))) (
 a0b (h0p n from_ to s.1.2.1.2.1) fun r2 =>
 tif ((!(decide (r2.2.2=0)))) (
 some r2.2.2) (
 a0b (s0k n s (IntKind.wrap .i64 (tier-1))) fun r3 =>
 tif ((decide (r3.2.2=0))) (
 tif ((decide (r2.1<r3.1))) (
 some (11:Int)) (
 some r3.2.2)) (
 some r3.2.2))) (
 tif ((decide ((IntKind.wrap .i64 (tier-1))=2))) (
 a0b (h0p n from_ to s.1.2.1.2.2) fun r4 =>
 tif ((!(decide (r4.2.2=0)))) (
 some r4.2.2) (
 a0b (s0k n s (IntKind.wrap .i64 (tier-1))) fun r5 =>
 tif ((decide (r5.2.2=0))) (
 tif ((decide (r4.1<r5.1))) (
 some (11:Int)) (
 some r5.2.2)) (
 some r5.2.2))) (
 none))):=by kernel_rfl
theorem f2v (n:Nat) (a:Int) (b:Int) (w:Int):h0p (n+1) a b w =
 a0b (p1q n w) fun r0 =>
 tif ((!r0)) (
 some (0,(0,1))) (
 tif ((decide (a<0))) (
 some (0,(0,1))) (
 tif ((decide ((35184372088832:Int)<b))) (
 some (0,(0,1))) (
 tif ((decide (b≤a))) (
 some (0,(0,1))) (
 tif ((decide (w=0))) (
 none) (
 tif ((!(decide ((Int.tmod a w)=0)))) (
 some (0,(0,10))) (
 tif ((decide (w=0))) (
 none) (
 tif ((!(decide ((Int.tmod b w)=0)))) (
 some (0,(0,10))) (
 tif ((decide (w=0))) (
 none) (
 tif ((decide (w=0))) (
 none) (
 some ((IntKind.wrap .i64 (Int.tdiv a w)),((IntKind.wrap .i64 (Int.tdiv b w)),0)))))))))))):=by kernel_rfl
theorem z1t (n:Nat) (s:a0m) (l:(List (List UInt8×List UInt8))):j0c (n+1) s l =
 a0b (y0n n s) fun r0 =>
 tif ((!(decide (r0.2=0)))) (
 some (0,r0.2)) (
 a0b (f0x n r0.1 (fun y1=>h0a n y1.1 s l r0.1)) fun r2 =>
 tif ((decide (r2<0))) (
 some (0,3)) (
 some (r2,0))):=by kernel_rfl
theorem a2v (n:Nat) (s:a0m) (l:(List (List UInt8×List UInt8))):r1f (n+1) s l =
 a0b (p0y n s) fun r0 =>
 tif ((!r0)) (
 some (0,2)) (
 a0b (f0b n a0d (l,(s,(s.2.2.2,((((List.length s.2.2.2):Nat):Int),(0,())))))) fun r1 =>
 b0d (fun y2 =>
 some (0,3)) (fun z3 =>
 some z3) r1):=by kernel_rfl
theorem w0o (n f:Nat) (l:(List (List UInt8×List UInt8))) (s_:a0m) (s12:(List a0z)) (s13:Int) (s14:Int):f0b n (f+1) (l,s_,s12,s13,s14,()) =
 tif ((decide (s14<s13))) (
 a0b (at? s12 s14) fun r0 =>
 a0b (p0z n s_ s14) fun r1 =>
 tif (r1) (
 a0b (z0t n r0.1 l) fun r2 =>
 tif (r2) (
 some (.inr (s14,0))) (
 f0b n f (l,(s_,(s12,(s13,((IntKind.wrap .i64 (s14+1)),()))))))) (
 f0b n f (l,(s_,(s12,(s13,((IntKind.wrap .i64 (s14+1)),()))))))) (
 some (.inl ())):=by kernel_rfl
theorem g1d (n:Nat) (c:b0e) (s:a0z) (k:Int) (i:Int):r1h (n+1) c s k i =
 a0b (n0w n c s) fun r0 =>
 tif ((!(decide (r0=0)))) (
 some ((0,((0,(0,(0,false))),((0,(0,(0,false))),((0,0),(0,(0,0)))))),2)) (
 tif ((decide (k<0))) (
 some ((0,((0,(0,(0,false))),((0,(0,(0,false))),((0,0),(0,(0,0)))))),1)) (
 tif ((decide ((2:Int)<k))) (
 some ((0,((0,(0,(0,false))),((0,(0,(0,false))),((0,0),(0,(0,0)))))),1)) (
 tif ((decide (i<0))) (
 some ((0,((0,(0,(0,false))),((0,(0,(0,false))),((0,0),(0,(0,0)))))),1)) (
 a0b (l0n n c s k i) fun r1 =>
 some r1)))):=by kernel_rfl
theorem e1g (n:Nat) (p:a0x) (c:a0x):s0i (n+1) p c =
 a0b (o0e n (p::(c::[]))) fun r0 =>
 tif ((!r0)) (
 some ((0,((0,(0,(0,false))),((0,(0,(0,false))),((0,0),(0,(0,0)))))),2)) (
 tif ((decide (c.1≤p.1))) (
 some ((0,((0,(0,(0,false))),((0,(0,(0,false))),((0,0),(0,(0,0)))))),9)) (
 tif (c.2.2.2) (
 some ((0,((0,(0,(0,false))),((0,(0,(0,false))),((0,0),(0,(0,0)))))),0)) (
 tif ((decide (p.1<c.2.2.1))) (
 a0b (v0v n c (IntKind.wrap .i64 (c.1-c.2.2.1))) fun r1 =>
 some (r1,0)) (
 tif (p.2.2.2) (
 some ((0,((0,(0,(0,false))),((0,(0,(0,false))),((0,0),(0,(1,0)))))),0)) (
 tif ((decide (c.2.1<p.2.1))) (
 a0b (v0v n c (IntKind.wrap .i64 (c.1-p.1))) fun r2 =>
 some (r2,0)) (
 a0b (n0f n (IntKind.wrap .u64 (c.2.1-p.2.1))) fun r3 =>
 some ((0,((0,(0,(0,false))),((0,(0,(0,false))),(r3,(0,(0,(IntKind.wrap .i64 (c.1-p.1)))))))),0))))))):=by kernel_rfl
theorem z1e (n:Nat) (a:(Int×Int)) (b:(Int×Int)):e1j (n+1) a b =
 tif (((decide ((0:Int)≤a.2))&&((decide ((0:Int)≤b.2))&&true))) (
 tif (((decide ((0:Int)≤a.1))&&((decide ((0:Int)≤b.1))&&((decide ((0:Int)≤(((a.2+b.2)+0) / (18446744073709551616:Int))))&&(decide ((((a.2+b.2)+0) / (18446744073709551616:Int))≤1)))))) (
 a0b (s0s n ((((a.1+b.1)+(((a.2+b.2)+0) / (18446744073709551616:Int))) % (18446744073709551616:Int)),(((a.2+b.2)+0) % (18446744073709551616:Int))) (((a.1+b.1)+(((a.2+b.2)+0) / (18446744073709551616:Int))) / (18446744073709551616:Int))) fun r0 =>
 some r0) (
 none)) (
 none):=by kernel_rfl
theorem h2p (n:Nat) (l:(List b0k)):b2l (n+1) l =
 a0b (q0h n a0d ((0,((0,(0,(0,false))),((0,(0,(0,false))),((0,0),(0,(0,0)))))),((0,((0,(0,(0,false))),((0,(0,(0,false))),((0,0),(0,(0,0)))))),(l,((((List.length l):Nat):Int),(0,())))))) fun r0 =>
 b0d (fun y1 =>
 some (y1.2.1,0)) (fun z2 =>
 some z2) r0:=by kernel_rfl
theorem z0r (n f:Nat) (s2:b0k) (c:b0k) (s9:(List b0k)) (s10:Int) (s11:Int):q0h n (f+1) (s2,c,s9,s10,s11,()) =
 tif ((decide (s11<s10))) (
 a0b (at? s9 s11) fun r0 =>
 a0b (l0c n c r0) fun r1 =>
 tif ((!(decide (r1.2=0)))) (
 some (.inr ((0,((0,(0,(0,false))),((0,(0,(0,false))),((0,0),(0,(0,0)))))),r1.2))) (
 q0h n f (s2,(r1.1,(s9,(s10,((IntKind.wrap .i64 (s11+1)),()))))))) (
 some (.inl (s2,(c,())))):=by kernel_rfl
theorem h2y (n:Nat) (a:(Int×Int)) (b:(Int×Int)):g1q (n+1) a b =
 a0b (j0o n a b) fun r0 =>
 tif (r0) (
 some ((0,0),1)) (
 a0b (i0b n a) fun r1 =>
 a0b (i0b n b) fun r2 =>
 tif ((decide (16=((((((((((((((((1+1)+1)+1)+1)+1)+1)+1)+1)+1)+1)+1)+1)+1)+1)+1) / 1)))) (
 tif ((decide (16=((((((((((((((((1+1)+1)+1)+1)+1)+1)+1)+1)+1)+1)+1)+1)+1)+1)+1) / 1)))) (
 a0b (m0r n a0d ((0,0),((r1.1::(r1.2.1::(r1.2.2.1::(r1.2.2.2.1::(r1.2.2.2.2.1::(r1.2.2.2.2.2.1::(r1.2.2.2.2.2.2.1::(r1.2.2.2.2.2.2.2.1::(r1.2.2.2.2.2.2.2.2.1::(r1.2.2.2.2.2.2.2.2.2.1::(r1.2.2.2.2.2.2.2.2.2.2.1::(r1.2.2.2.2.2.2.2.2.2.2.2.1::(r1.2.2.2.2.2.2.2.2.2.2.2.2.1::(r1.2.2.2.2.2.2.2.2.2.2.2.2.2.1::(r1.2.2.2.2.2.2.2.2.2.2.2.2.2.2.1::(r1.2.2.2.2.2.2.2.2.2.2.2.2.2.2.2::[])))))))))))))))),((r2.1::(r2.2.1::(r2.2.2.1::(r2.2.2.2.1::(r2.2.2.2.2.1::(r2.2.2.2.2.2.1::(r2.2.2.2.2.2.2.1::(r2.2.2.2.2.2.2.2.1::(r2.2.2.2.2.2.2.2.2.1::(r2.2.2.2.2.2.2.2.2.2.1::(r2.2.2.2.2.2.2.2.2.2.2.1::(r2.2.2.2.2.2.2.2.2.2.2.2.1::(r2.2.2.2.2.2.2.2.2.2.2.2.2.1::(r2.2.2.2.2.2.2.2.2.2.2.2.2.2.1::(r2.2.2.2.2.2.2.2.2.2.2.2.2.2.2.1::(r2.2.2.2.2.2.2.2.2.2.2.2.2.2.2.2::[])))))))))))))))),(0,(0,())))))) fun r3 =>
 b0d (fun y4 =>
 a0b ((y4.2.1)[0]?) fun r5 =>
 a0b ((y4.2.1)[1]?) fun r6 =>
 a0b ((y4.2.1)[2]?) fun r7 =>
 a0b ((y4.2.1)[3]?) fun r8 =>
 a0b ((y4.2.1)[4]?) fun r9 =>
 a0b ((y4.2.1)[5]?) fun r10 =>
 a0b ((y4.2.1)[6]?) fun r11 =>
 a0b ((y4.2.1)[7]?) fun r12 =>
 a0b ((y4.2.1)[8]?) fun r13 =>
 a0b ((y4.2.1)[9]?) fun r14 =>
 a0b ((y4.2.1)[10]?) fun r15 =>
 a0b ((y4.2.1)[11]?) fun r16 =>
 a0b ((y4.2.1)[12]?) fun r17 =>
 a0b ((y4.2.1)[13]?) fun r18 =>
 a0b ((y4.2.1)[14]?) fun r19 =>
 a0b ((y4.2.1)[15]?) fun r20 =>
 a0b (d1j n (r5,(r6,(r7,(r8,(r9,(r10,(r11,(r12,(r13,(r14,(r15,(r16,(r17,(r18,(r19,r20)))))))))))))))) fun r21 =>
 some (r21,0)) (fun z22 =>
 some z22) r3) (
 none)) (
 none)):=by kernel_rfl
theorem z0w (n f:Nat) (s4:(Int×Int)) (x:(List Int)) (y:(List Int)) (owed:Int) (s19:Int):m0r n (f+1) (s4,x,y,owed,s19,()) =
 tif ((decide (s19<16))) (
 tif (((decide ((0:Int)≤s19))&&((decide (s19<16))&&(decide (s19<(((List.length x):Nat):Int)))))) (
 a0b ((x)[(Int.toNat s19)]?) fun r0 =>
 tif (((decide ((0:Int)≤s19))&&((decide (s19<16))&&(decide (s19<(((List.length y):Nat):Int)))))) (
 a0b ((y)[(Int.toNat s19)]?) fun r1 =>
 tif ((decide ((IntKind.wrap .i64 ((IntKind.wrap .i64 (r0-r1))-owed))<0))) (
 tif (((decide ((0:Int)≤s19))&&((decide (s19<16))&&(decide (s19<(((List.length x):Nat):Int)))))) (
 a0b ((x)[(Int.toNat s19)]?) fun r2 =>
 m0r n f (s4,((List.set x (Int.toNat s19) (IntKind.wrap .i64 ((IntKind.wrap .i64 ((IntKind.wrap .i64 (r0-r1))-owed))+256))),(y,(1,((IntKind.wrap .i64 (s19+1)),())))))) (
 none)) (
 tif (((decide ((0:Int)≤s19))&&((decide (s19<16))&&(decide (s19<(((List.length x):Nat):Int)))))) (
 a0b ((x)[(Int.toNat s19)]?) fun r3 =>
 m0r n f (s4,((List.set x (Int.toNat s19) (IntKind.wrap .i64 ((IntKind.wrap .i64 (r0-r1))-owed))),(y,(0,((IntKind.wrap .i64 (s19+1)),())))))) (
 none))) (
 none)) (
 none)) (
 some (.inl (s4,(x,())))):=by kernel_rfl
theorem b2z (n:Nat) (a:(Int×Int)) (b:(Int×Int)):j0o (n+1) a b =
 a0b (i0b n a) fun r0 =>
 a0b (i0b n b) fun r1 =>
 tif ((!(decide (r0.2.2.2.2.2.2.2.2.2.2.2.2.2.2.2=r1.2.2.2.2.2.2.2.2.2.2.2.2.2.2.2)))) (
 some (decide (r0.2.2.2.2.2.2.2.2.2.2.2.2.2.2.2<r1.2.2.2.2.2.2.2.2.2.2.2.2.2.2.2))) (
 tif ((!(decide (r0.2.2.2.2.2.2.2.2.2.2.2.2.2.2.1=r1.2.2.2.2.2.2.2.2.2.2.2.2.2.2.1)))) (
 some (decide (r0.2.2.2.2.2.2.2.2.2.2.2.2.2.2.1<r1.2.2.2.2.2.2.2.2.2.2.2.2.2.2.1))) (
 tif ((!(decide (r0.2.2.2.2.2.2.2.2.2.2.2.2.2.1=r1.2.2.2.2.2.2.2.2.2.2.2.2.2.1)))) (
 some (decide (r0.2.2.2.2.2.2.2.2.2.2.2.2.2.1<r1.2.2.2.2.2.2.2.2.2.2.2.2.2.1))) (
 tif ((!(decide (r0.2.2.2.2.2.2.2.2.2.2.2.2.1=r1.2.2.2.2.2.2.2.2.2.2.2.2.1)))) (
 some (decide (r0.2.2.2.2.2.2.2.2.2.2.2.2.1<r1.2.2.2.2.2.2.2.2.2.2.2.2.1))) (
 tif ((!(decide (r0.2.2.2.2.2.2.2.2.2.2.2.1=r1.2.2.2.2.2.2.2.2.2.2.2.1)))) (
 some (decide (r0.2.2.2.2.2.2.2.2.2.2.2.1<r1.2.2.2.2.2.2.2.2.2.2.2.1))) (
 tif ((!(decide (r0.2.2.2.2.2.2.2.2.2.2.1=r1.2.2.2.2.2.2.2.2.2.2.1)))) (
 some (decide (r0.2.2.2.2.2.2.2.2.2.2.1<r1.2.2.2.2.2.2.2.2.2.2.1))) (
 tif ((!(decide (r0.2.2.2.2.2.2.2.2.2.1=r1.2.2.2.2.2.2.2.2.2.1)))) (
 some (decide (r0.2.2.2.2.2.2.2.2.2.1<r1.2.2.2.2.2.2.2.2.2.1))) (
 tif ((!(decide (r0.2.2.2.2.2.2.2.2.1=r1.2.2.2.2.2.2.2.2.1)))) (
 some (decide (r0.2.2.2.2.2.2.2.2.1<r1.2.2.2.2.2.2.2.2.1))) (
 tif ((!(decide (r0.2.2.2.2.2.2.2.1=r1.2.2.2.2.2.2.2.1)))) (
 some (decide (r0.2.2.2.2.2.2.2.1<r1.2.2.2.2.2.2.2.1))) (
 tif ((!(decide (r0.2.2.2.2.2.2.1=r1.2.2.2.2.2.2.1)))) (
 some (decide (r0.2.2.2.2.2.2.1<r1.2.2.2.2.2.2.1))) (
 tif ((!(decide (r0.2.2.2.2.2.1=r1.2.2.2.2.2.1)))) (
 some (decide (r0.2.2.2.2.2.1<r1.2.2.2.2.2.1))) (
 tif ((!(decide (r0.2.2.2.2.1=r1.2.2.2.2.1)))) (
 some (decide (r0.2.2.2.2.1<r1.2.2.2.2.1))) (
 tif ((!(decide (r0.2.2.2.1=r1.2.2.2.1)))) (
 some (decide (r0.2.2.2.1<r1.2.2.2.1))) (
 tif ((!(decide (r0.2.2.1=r1.2.2.1)))) (
 some (decide (r0.2.2.1<r1.2.2.1))) (
 tif ((!(decide (r0.2.1=r1.2.1)))) (
 some (decide (r0.2.1<r1.2.1))) (
 tif ((!(decide (r0.1=r1.1)))) (
 some (decide (r0.1<r1.1))) (
 some false)))))))))))))))):=by kernel_rfl
theorem w1r (n:Nat) (a:(Int×Int)) (n_:Int):n0z (n+1) a n_ =
 a0b (d0y n a0d (n_,(a,((0,0),((0,0),(false,())))))) fun r0 =>
 b0d (fun y1 =>
 some (y1.2.1,0)) (fun z2 =>
 some z2) r0:=by kernel_rfl
theorem j0n (n f:Nat) (n_:Int) (a_:(Int×Int)) (s4:(Int×Int)) (out:(Int×Int)) (over:Bool):d0y n (f+1) (n_,a_,s4,out,over,()) =
 tif ((decide ((0:Int)<n_))) (
 tif ((decide ((Int.tmod n_ (2:Int))=1))) (
 tif (over) (
 some (.inr ((0,0),1))) (
 a0b (l0o n out a_) fun r0 =>
 tif ((!(decide (r0.2=0)))) (
 some (.inr ((0,0),r0.2))) (
 a0b (l0o n a_ a_) fun r1 =>
 tif (over) (
 d0y n f ((IntKind.wrap .u64 (Int.tdiv n_ (2:Int))),(r1.1,(s4,(r0.1,(true,())))))) (
 d0y n f ((IntKind.wrap .u64 (Int.tdiv n_ (2:Int))),(r1.1,(s4,(r0.1,((!(decide (r1.2=0))),()))))))))) (
 a0b (l0o n a_ a_) fun r2 =>
 tif (over) (
 d0y n f ((IntKind.wrap .u64 (Int.tdiv n_ (2:Int))),(r2.1,(s4,(out,(true,())))))) (
 d0y n f ((IntKind.wrap .u64 (Int.tdiv n_ (2:Int))),(r2.1,(s4,(out,((!(decide (r2.2=0))),())))))))) (
 some (.inl (s4,(out,())))):=by kernel_rfl
theorem t1v (n:Nat) (a:b0k) (b:b0k):i0z (n+1) a b =
 a0b (q0x n a) fun r0 =>
 tif ((!(decide (r0=0)))) (
 some ((0,((0,(0,(0,false))),((0,(0,(0,false))),((0,0),(0,(0,0)))))),2)) (
 a0b (q0x n b) fun r1 =>
 tif ((!(decide (r1=0)))) (
 some ((0,((0,(0,(0,false))),((0,(0,(0,false))),((0,0),(0,(0,0)))))),2)) (
 a0b (u0t n a) fun r2 =>
 tif (r2) (
 some (b,0)) (
 a0b (u0t n b) fun r3 =>
 tif (r3) (
 some (a,0)) (
 a0b (y1t n a b) fun r4 =>
 some r4)))):=by kernel_rfl
theorem a1o (n:Nat) (x:Int) (y:Int):j0r (n+1) x y =
 some ((IntKind.wrap .u64 ((IntKind.wrap .u64 ((IntKind.wrap .u64 ((shrI .u64 x (32:Int))*(shrI .u64 y (32:Int))))+(shrI .u64 (IntKind.wrap .u64 ((IntKind.wrap .u64 ((shrI .u64 x (32:Int))*(andI .u64 y (4294967295:Int))))+(shrI .u64 (IntKind.wrap .u64 ((andI .u64 x (4294967295:Int))*(andI .u64 y (4294967295:Int)))) (32:Int)))) (32:Int))))+(shrI .u64 (IntKind.wrap .u64 ((andI .u64 (IntKind.wrap .u64 ((IntKind.wrap .u64 ((shrI .u64 x (32:Int))*(andI .u64 y (4294967295:Int))))+(shrI .u64 (IntKind.wrap .u64 ((andI .u64 x (4294967295:Int))*(andI .u64 y (4294967295:Int)))) (32:Int)))) (4294967295:Int))+(IntKind.wrap .u64 ((andI .u64 x (4294967295:Int))*(shrI .u64 y (32:Int)))))) (32:Int)))),(IntKind.wrap .u64 (x*y))):=by kernel_rfl
theorem u1f (n:Nat) (a:(Int×Int)) (over:Int):s0s (n+1) a over =
 tif ((!(decide (over=0)))) (
 some ((0,0),1)) (
 some (a,0)):=by kernel_rfl
theorem o0z (n:Nat) (s:a0m) (ms:(List (Int×(List UInt8×List UInt8)))) (tier:Int) (from_:Int) (to:Int):i0h (n+1) s ms tier from_ to =
 a0b (f0d n s) fun r0 =>
 tif ((!(decide (r0=0)))) (
 some ([],(0,2))) (
 a0b (o0c n ms) fun r1 =>
 tif ((!(decide (r1=0)))) (
 some ([],(0,2))) (
 a0b (m0s n s tier from_ to) fun r2 =>
 tif ((!(decide (r2.2=0)))) (
 some ([],(0,r2.2))) (
 a0b (e1o n s) fun r3 =>
 a0b (c0j n a0d (ms,(from_,(to,(s,(r2.1,([],(r3,((((List.length r3):Nat):Int),(0,())))))))))) fun r4 =>
 b0d (fun y5 =>
 some (y5.2.1,(y5.1,0))) (fun z6 =>
 some z6) r4))):=by kernel_rfl
theorem c0q (n f:Nat) (ms:(List (Int×(List UInt8×List UInt8)))) (from_:Int) (to:Int) (s_:a0m) (k:Int) (out:(List a0a)) (s41:(List Int)) (s42:Int) (s43:Int):c0j n (f+1) (ms,from_,to,s_,k,out,s41,s42,s43,()) =
 tif ((decide (s43<s42))) (
 a0b (at? s41 s43) fun r0 =>
 a0b ((s41)[(Int.toNat s43)]?) fun r1 =>
 a0b (at? s_.2.2.2 r1) fun r2 =>
 a0b (o0d n ms r2.1) fun r3 =>
 tif ((!r3)) (
 c0j n f (ms,(from_,(to,(s_,(k,(out,(s41,(s42,((IntKind.wrap .i64 (s43+1)),())))))))))) (
 a0b (a1b n s_ (r2.1,(k,(from_,to)))) fun r4 =>
 tif ((!(decide (r4.2=0)))) (
 some (.inr ([],(0,r4.2)))) (
 tif ((decide ((0:Int)<r4.1.2.1.1))) (
 tif ((decide ((((List.length out)+1)*184)≤140737488355328))) (
 c0j n f (ms,(from_,(to,(s_,(k,((out++((r2.1,r4.1)::[])),(s41,(s42,((IntKind.wrap .i64 (s43+1)),())))))))))) (
 none)) (
 c0j n f (ms,(from_,(to,(s_,(k,(out,(s41,(s42,((IntKind.wrap .i64 (s43+1)),()))))))))))))) (
 some (.inl (k,(out,())))):=by kernel_rfl
theorem u1n (n:Nat) (tier:Int) (c:b0k):y0g (n+1) tier c =
 some (tier,(1,(c.1,c.2.2.2))):=by kernel_rfl
theorem w1j (n:Nat) (l:(List (Int×(List UInt8×List UInt8)))):g1m (n+1) l =
 tif ((decide ((16:Int)<(((List.length l):Nat):Int)))) (
 some (2:Int)) (
 a0b (o0q n a0d (l,((((List.length l):Nat):Int),(0,())))) fun r0 =>
 b0d (fun y1 =>
 some (0:Int)) (fun z2 =>
 some z2) r0):=by kernel_rfl
theorem t0v (n f:Nat) (s8:(List (Int×(List UInt8×List UInt8)))) (s9:Int) (s10:Int):o0q n (f+1) (s8,s9,s10,()) =
 tif ((decide (s10<s9))) (
 a0b (at? s8 s10) fun r0 =>
 tif ((decide (r0.1<1))) (
 some (.inr (2:Int))) (
 tif ((decide ((3:Int)<r0.1))) (
 some (.inr (2:Int))) (
 a0b (t0y n (r0.2::[])) fun r1 =>
 tif ((!(decide (r1=0)))) (
 some (.inr (2:Int))) (
 o0q n f (s8,(s9,((IntKind.wrap .i64 (s10+1)),()))))))) (
 some (.inl ())):=by kernel_rfl
theorem a2n (n:Nat) (s:a0m) (tier:Int) (from_:Int) (to:Int):e1r (n+1) s tier from_ to =
 a0b (q0a n s) fun r0 =>
 tif ((!(decide (r0=0)))) (
 some (0,2)) (
 tif ((decide (tier<0))) (
 some (0,1)) (
 tif ((decide ((3:Int)<tier))) (
 some (0,1)) (
 tif ((decide ((0:Int)<tier))) (
 a0b (r1c n s tier from_ to) fun r1 =>
 tif ((!(decide (r1=0)))) (
 some (0,r1)) (
 some (tier,0))) (
 a0b (l0b n a0d (from_,(to,(s,(false,(1,())))))) fun r2 =>
 b0d (fun y3 =>
 tif (y3.1) (
 some (0,11)) (
 some (0,10))) (fun z4 =>
 some z4) r2)))):=by kernel_rfl
theorem t0l (n f:Nat) (from_:Int) (to:Int) (s_:a0m) (expired:Bool) (k:Int):l0b n (f+1) (from_,to,s_,expired,k,()) =
 tif ((decide (k≤3))) (
 a0b (r1c n s_ k from_ to) fun r0 =>
 tif ((decide (r0=0))) (
 some (.inr (k,0))) (
 tif ((decide (r0=1))) (
 some (.inr (0,r0))) (
 tif (expired) (
 l0b n f (from_,(to,(s_,(true,((IntKind.wrap .i64 (k+1)),())))))) (
 l0b n f (from_,(to,(s_,((decide (r0=11)),((IntKind.wrap .i64 (k+1)),()))))))))) (
 some (.inl (expired,()))):=by kernel_rfl
theorem a2u (n:Nat) (s:a0m):r1e (n+1) s =
 a0b (p0y n s) fun r0 =>
 tif ((!r0)) (
 some []) (
 a0b (k0j n a0d (s,([],((((List.length s.2.2.2):Nat):Int),(0,()))))) fun r1 =>
 b0d (fun y2 =>
 some y2.1) (fun z3 =>
 some z3) r1):=by kernel_rfl
theorem w0n (n f:Nat) (s_:a0m) (out:(List Int)) (s10:Int) (s11:Int):k0j n (f+1) (s_,out,s10,s11,()) =
 tif ((decide (s11<s10))) (
 a0b (p0z n s_ s11) fun r0 =>
 tif (r0) (
 tif ((decide ((((List.length out)+1)*8)≤140737488355328))) (
 k0j n f (s_,((out++(s11::[])),(s10,((IntKind.wrap .i64 (s11+1)),()))))) (
 none)) (
 k0j n f (s_,(out,(s10,((IntKind.wrap .i64 (s11+1)),())))))) (
 some (.inl (out,()))):=by kernel_rfl
theorem h2q (n:Nat) (ms:(List (Int×(List UInt8×List UInt8)))) (l:(List (List UInt8×List UInt8))):b2q (n+1) ms l =
 a0b (v0n n a0d (l,(ms,((((List.length ms):Nat):Int),(0,()))))) fun r0 =>
 b0d (fun y1 =>
 some true) (fun z2 =>
 some z2) r0:=by kernel_rfl
theorem z0s (n f:Nat) (l:(List (List UInt8×List UInt8))) (s7:(List (Int×(List UInt8×List UInt8)))) (s8:Int) (s9:Int):v0n n (f+1) (l,s7,s8,s9,()) =
 tif ((decide (s9<s8))) (
 a0b (at? s7 s9) fun r0 =>
 a0b (r1n n r0 l) fun r1 =>
 tif ((!r1)) (
 some (.inr false)) (
 v0n n f (l,(s7,(s8,((IntKind.wrap .i64 (s9+1)),())))))) (
 some (.inl ())):=by kernel_rfl
theorem p0d (n:Nat) (x:(List a0a)) (cmp:((a0a×(a0a×Unit))→Option Int)):e0m (n+1) x cmp =
 a0b (g0q n x (((List.length x):Nat):Int) cmp) fun r0 =>
 some r0:=by kernel_rfl
theorem p1x (n:Nat) (a:a0a) (b:a0a):u0z (n+1) a b =
 a0b (g0k n b.2.2.1.2.2.2.1.1 a.2.2.1.2.2.2.1.1) fun r0 =>
 a0b (g0k n b.2.2.1.2.2.2.1.2 a.2.2.1.2.2.2.1.2) fun r1 =>
 a0b (c1n n (r0::(r1::[]))) fun r2 =>
 some r2:=by kernel_rfl
theorem b1j (n:Nat) (s1:(List (List UInt8×List UInt8))) (s2:(List (List UInt8×List UInt8))):p0f (n+1) s1 s2 =
 tif ((!(decide ((((List.length s1):Nat):Int)=(((List.length s2):Nat):Int))))) (
 some false) (
 a0b (h0b n a0d (s1,(s2,((((List.length s1):Nat):Int),(0,()))))) fun r0 =>
 b0d (fun y1 =>
 some true) (fun z2 =>
 some z2) r0):=by kernel_rfl
theorem l0y (n f:Nat) (s1:(List (List UInt8×List UInt8))) (s2:(List (List UInt8×List UInt8))) (s12:Int) (s13:Int):h0b n (f+1) (s1,s2,s12,s13,()) =
 tif ((decide (s13<s12))) (
 a0b (at? s1 s13) fun r0 =>
 a0b (at? s2 s13) fun r1 =>
 tif ((!((r0.1==r1.1)&&(r0.2==r1.2)))) (
 some (.inr false)) (
 h0b n f (s1,(s2,(s12,((IntKind.wrap .i64 (s13+1)),())))))) (
 some (.inl ())):=by kernel_rfl
theorem i2a (n:Nat) (a:(Int×Int)) (b:(Int×Int)):l0o (n+1) a b =
 a0b (i0b n a) fun r0 =>
 a0b (i0b n b) fun r1 =>
 tif ((decide ((0:Int)<(IntKind.wrap .i64 (Int.tdiv (IntKind.wrap .i64 ((IntKind.wrap .i64 (r0.2.2.2.2.2.2.2.2.2.2.2.2.2.2.2+r1.2.2.2.2.2.2.2.2.2.2.2.2.2.2.2))+(IntKind.wrap .i64 (Int.tdiv (IntKind.wrap .i64 ((IntKind.wrap .i64 (r0.2.2.2.2.2.2.2.2.2.2.2.2.2.2.1+r1.2.2.2.2.2.2.2.2.2.2.2.2.2.2.1))+(IntKind.wrap .i64 (Int.tdiv (IntKind.wrap .i64 ((IntKind.wrap .i64 (r0.2.2.2.2.2.2.2.2.2.2.2.2.2.1+r1.2.2.2.2.2.2.2.2.2.2.2.2.2.1))+(IntKind.wrap .i64 (Int.tdiv (IntKind.wrap .i64 ((IntKind.wrap .i64 (r0.2.2.2.2.2.2.2.2.2.2.2.2.1+r1.2.2.2.2.2.2.2.2.2.2.2.2.1))+(IntKind.wrap .i64 (Int.tdiv (IntKind.wrap .i64 ((IntKind.wrap .i64 (r0.2.2.2.2.2.2.2.2.2.2.2.1+r1.2.2.2.2.2.2.2.2.2.2.2.1))+(IntKind.wrap .i64 (Int.tdiv (IntKind.wrap .i64 ((IntKind.wrap .i64 (r0.2.2.2.2.2.2.2.2.2.2.1+r1.2.2.2.2.2.2.2.2.2.2.1))+(IntKind.wrap .i64 (Int.tdiv (IntKind.wrap .i64 ((IntKind.wrap .i64 (r0.2.2.2.2.2.2.2.2.2.1+r1.2.2.2.2.2.2.2.2.2.1))+(IntKind.wrap .i64 (Int.tdiv (IntKind.wrap .i64 ((IntKind.wrap .i64 (r0.2.2.2.2.2.2.2.2.1+r1.2.2.2.2.2.2.2.2.1))+(IntKind.wrap .i64 (Int.tdiv (IntKind.wrap .i64 ((IntKind.wrap .i64 (r0.2.2.2.2.2.2.2.1+r1.2.2.2.2.2.2.2.1))+(IntKind.wrap .i64 (Int.tdiv (IntKind.wrap .i64 ((IntKind.wrap .i64 (r0.2.2.2.2.2.2.1+r1.2.2.2.2.2.2.1))+(IntKind.wrap .i64 (Int.tdiv (IntKind.wrap .i64 ((IntKind.wrap .i64 (r0.2.2.2.2.2.1+r1.2.2.2.2.2.1))+(IntKind.wrap .i64 (Int.tdiv (IntKind.wrap .i64 ((IntKind.wrap .i64 (r0.2.2.2.2.1+r1.2.2.2.2.1))+(IntKind.wrap .i64 (Int.tdiv (IntKind.wrap .i64 ((IntKind.wrap .i64 (r0.2.2.2.1+r1.2.2.2.1))+(IntKind.wrap .i64 (Int.tdiv (IntKind.wrap .i64 ((IntKind.wrap .i64 (r0.2.2.1+r1.2.2.1))+(IntKind.wrap .i64 (Int.tdiv (IntKind.wrap .i64 ((IntKind.wrap .i64 (r0.2.1+r1.2.1))+(IntKind.wrap .i64 (Int.tdiv (IntKind.wrap .i64 ((IntKind.wrap .i64 (r0.1+r1.1))+0)) (256:Int))))) (256:Int))))) (256:Int))))) (256:Int))))) (256:Int))))) (256:Int))))) (256:Int))))) (256:Int))))) (256:Int))))) (256:Int))))) (256:Int))))) (256:Int))))) (256:Int))))) (256:Int))))) (256:Int))))) (256:Int)))))) (
 some ((0,0),1)) (
 a0b (d1j n ((Int.tmod (IntKind.wrap .i64 ((IntKind.wrap .i64 (r0.1+r1.1))+0)) (256:Int)),((Int.tmod (IntKind.wrap .i64 ((IntKind.wrap .i64 (r0.2.1+r1.2.1))+(IntKind.wrap .i64 (Int.tdiv (IntKind.wrap .i64 ((IntKind.wrap .i64 (r0.1+r1.1))+0)) (256:Int))))) (256:Int)),((Int.tmod (IntKind.wrap .i64 ((IntKind.wrap .i64 (r0.2.2.1+r1.2.2.1))+(IntKind.wrap .i64 (Int.tdiv (IntKind.wrap .i64 ((IntKind.wrap .i64 (r0.2.1+r1.2.1))+(IntKind.wrap .i64 (Int.tdiv (IntKind.wrap .i64 ((IntKind.wrap .i64 (r0.1+r1.1))+0)) (256:Int))))) (256:Int))))) (256:Int)),((Int.tmod (IntKind.wrap .i64 ((IntKind.wrap .i64 (r0.2.2.2.1+r1.2.2.2.1))+(IntKind.wrap .i64 (Int.tdiv (IntKind.wrap .i64 ((IntKind.wrap .i64 (r0.2.2.1+r1.2.2.1))+(IntKind.wrap .i64 (Int.tdiv (IntKind.wrap .i64 ((IntKind.wrap .i64 (r0.2.1+r1.2.1))+(IntKind.wrap .i64 (Int.tdiv (IntKind.wrap .i64 ((IntKind.wrap .i64 (r0.1+r1.1))+0)) (256:Int))))) (256:Int))))) (256:Int))))) (256:Int)),((Int.tmod (IntKind.wrap .i64 ((IntKind.wrap .i64 (r0.2.2.2.2.1+r1.2.2.2.2.1))+(IntKind.wrap .i64 (Int.tdiv (IntKind.wrap .i64 ((IntKind.wrap .i64 (r0.2.2.2.1+r1.2.2.2.1))+(IntKind.wrap .i64 (Int.tdiv (IntKind.wrap .i64 ((IntKind.wrap .i64 (r0.2.2.1+r1.2.2.1))+(IntKind.wrap .i64 (Int.tdiv (IntKind.wrap .i64 ((IntKind.wrap .i64 (r0.2.1+r1.2.1))+(IntKind.wrap .i64 (Int.tdiv (IntKind.wrap .i64 ((IntKind.wrap .i64 (r0.1+r1.1))+0)) (256:Int))))) (256:Int))))) (256:Int))))) (256:Int))))) (256:Int)),((Int.tmod (IntKind.wrap .i64 ((IntKind.wrap .i64 (r0.2.2.2.2.2.1+r1.2.2.2.2.2.1))+(IntKind.wrap .i64 (Int.tdiv (IntKind.wrap .i64 ((IntKind.wrap .i64 (r0.2.2.2.2.1+r1.2.2.2.2.1))+(IntKind.wrap .i64 (Int.tdiv (IntKind.wrap .i64 ((IntKind.wrap .i64 (r0.2.2.2.1+r1.2.2.2.1))+(IntKind.wrap .i64 (Int.tdiv (IntKind.wrap .i64 ((IntKind.wrap .i64 (r0.2.2.1+r1.2.2.1))+(IntKind.wrap .i64 (Int.tdiv (IntKind.wrap .i64 ((IntKind.wrap .i64 (r0.2.1+r1.2.1))+(IntKind.wrap .i64 (Int.tdiv (IntKind.wrap .i64 ((IntKind.wrap .i64 (r0.1+r1.1))+0)) (256:Int))))) (256:Int))))) (256:Int))))) (256:Int))))) (256:Int))))) (256:Int)),((Int.tmod (IntKind.wrap .i64 ((IntKind.wrap .i64 (r0.2.2.2.2.2.2.1+r1.2.2.2.2.2.2.1))+(IntKind.wrap .i64 (Int.tdiv (IntKind.wrap .i64 ((IntKind.wrap .i64 (r0.2.2.2.2.2.1+r1.2.2.2.2.2.1))+(IntKind.wrap .i64 (Int.tdiv (IntKind.wrap .i64 ((IntKind.wrap .i64 (r0.2.2.2.2.1+r1.2.2.2.2.1))+(IntKind.wrap .i64 (Int.tdiv (IntKind.wrap .i64 ((IntKind.wrap .i64 (r0.2.2.2.1+r1.2.2.2.1))+(IntKind.wrap .i64 (Int.tdiv (IntKind.wrap .i64 ((IntKind.wrap .i64 (r0.2.2.1+r1.2.2.1))+(IntKind.wrap .i64 (Int.tdiv (IntKind.wrap .i64 ((IntKind.wrap .i64 (r0.2.1+r1.2.1))+(IntKind.wrap .i64 (Int.tdiv (IntKind.wrap .i64 ((IntKind.wrap .i64 (r0.1+r1.1))+0)) (256:Int))))) (256:Int))))) (256:Int))))) (256:Int))))) (256:Int))))) (256:Int))))) (256:Int)),((Int.tmod (IntKind.wrap .i64 ((IntKind.wrap .i64 (r0.2.2.2.2.2.2.2.1+r1.2.2.2.2.2.2.2.1))+(IntKind.wrap .i64 (Int.tdiv (IntKind.wrap .i64 ((IntKind.wrap .i64 (r0.2.2.2.2.2.2.1+r1.2.2.2.2.2.2.1))+(IntKind.wrap .i64 (Int.tdiv (IntKind.wrap .i64 ((IntKind.wrap .i64 (r0.2.2.2.2.2.1+r1.2.2.2.2.2.1))+(IntKind.wrap .i64 (Int.tdiv (IntKind.wrap .i64 ((IntKind.wrap .i64 (r0.2.2.2.2.1+r1.2.2.2.2.1))+(IntKind.wrap .i64 (Int.tdiv (IntKind.wrap .i64 ((IntKind.wrap .i64 (r0.2.2.2.1+r1.2.2.2.1))+(IntKind.wrap .i64 (Int.tdiv (IntKind.wrap .i64 ((IntKind.wrap .i64 (r0.2.2.1+r1.2.2.1))+(IntKind.wrap .i64 (Int.tdiv (IntKind.wrap .i64 ((IntKind.wrap .i64 (r0.2.1+r1.2.1))+(IntKind.wrap .i64 (Int.tdiv (IntKind.wrap .i64 ((IntKind.wrap .i64 (r0.1+r1.1))+0)) (256:Int))))) (256:Int))))) (256:Int))))) (256:Int))))) (256:Int))))) (256:Int))))) (256:Int))))) (256:Int)),((Int.tmod (IntKind.wrap .i64 ((IntKind.wrap .i64 (r0.2.2.2.2.2.2.2.2.1+r1.2.2.2.2.2.2.2.2.1))+(IntKind.wrap .i64 (Int.tdiv (IntKind.wrap .i64 ((IntKind.wrap .i64 (r0.2.2.2.2.2.2.2.1+r1.2.2.2.2.2.2.2.1))+(IntKind.wrap .i64 (Int.tdiv (IntKind.wrap .i64 ((IntKind.wrap .i64 (r0.2.2.2.2.2.2.1+r1.2.2.2.2.2.2.1))+(IntKind.wrap .i64 (Int.tdiv (IntKind.wrap .i64 ((IntKind.wrap .i64 (r0.2.2.2.2.2.1+r1.2.2.2.2.2.1))+(IntKind.wrap .i64 (Int.tdiv (IntKind.wrap .i64 ((IntKind.wrap .i64 (r0.2.2.2.2.1+r1.2.2.2.2.1))+(IntKind.wrap .i64 (Int.tdiv (IntKind.wrap .i64 ((IntKind.wrap .i64 (r0.2.2.2.1+r1.2.2.2.1))+(IntKind.wrap .i64 (Int.tdiv (IntKind.wrap .i64 ((IntKind.wrap .i64 (r0.2.2.1+r1.2.2.1))+(IntKind.wrap .i64 (Int.tdiv (IntKind.wrap .i64 ((IntKind.wrap .i64 (r0.2.1+r1.2.1))+(IntKind.wrap .i64 (Int.tdiv (IntKind.wrap .i64 ((IntKind.wrap .i64 (r0.1+r1.1))+0)) (256:Int))))) (256:Int))))) (256:Int))))) (256:Int))))) (256:Int))))) (256:Int))))) (256:Int))))) (256:Int))))) (256:Int)),((Int.tmod (IntKind.wrap .i64 ((IntKind.wrap .i64 (r0.2.2.2.2.2.2.2.2.2.1+r1.2.2.2.2.2.2.2.2.2.1))+(IntKind.wrap .i64 (Int.tdiv (IntKind.wrap .i64 ((IntKind.wrap .i64 (r0.2.2.2.2.2.2.2.2.1+r1.2.2.2.2.2.2.2.2.1))+(IntKind.wrap .i64 (Int.tdiv (IntKind.wrap .i64 ((IntKind.wrap .i64 (r0.2.2.2.2.2.2.2.1+r1.2.2.2.2.2.2.2.1))+(IntKind.wrap .i64 (Int.tdiv (IntKind.wrap .i64 ((IntKind.wrap .i64 (r0.2.2.2.2.2.2.1+r1.2.2.2.2.2.2.1))+(IntKind.wrap .i64 (Int.tdiv (IntKind.wrap .i64 ((IntKind.wrap .i64 (r0.2.2.2.2.2.1+r1.2.2.2.2.2.1))+(IntKind.wrap .i64 (Int.tdiv (IntKind.wrap .i64 ((IntKind.wrap .i64 (r0.2.2.2.2.1+r1.2.2.2.2.1))+(IntKind.wrap .i64 (Int.tdiv (IntKind.wrap .i64 ((IntKind.wrap .i64 (r0.2.2.2.1+r1.2.2.2.1))+(IntKind.wrap .i64 (Int.tdiv (IntKind.wrap .i64 ((IntKind.wrap .i64 (r0.2.2.1+r1.2.2.1))+(IntKind.wrap .i64 (Int.tdiv (IntKind.wrap .i64 ((IntKind.wrap .i64 (r0.2.1+r1.2.1))+(IntKind.wrap .i64 (Int.tdiv (IntKind.wrap .i64 ((IntKind.wrap .i64 (r0.1+r1.1))+0)) (256:Int))))) (256:Int))))) (256:Int))))) (256:Int))))) (256:Int))))) (256:Int))))) (256:Int))))) (256:Int))))) (256:Int))))) (256:Int)),((Int.tmod (IntKind.wrap .i64 ((IntKind.wrap .i64 (r0.2.2.2.2.2.2.2.2.2.2.1+r1.2.2.2.2.2.2.2.2.2.2.1))+(IntKind.wrap .i64 (Int.tdiv (IntKind.wrap .i64 ((IntKind.wrap .i64 (r0.2.2.2.2.2.2.2.2.2.1+r1.2.2.2.2.2.2.2.2.2.1))+(IntKind.wrap .i64 (Int.tdiv (IntKind.wrap .i64 ((IntKind.wrap .i64 (r0.2.2.2.2.2.2.2.2.1+r1.2.2.2.2.2.2.2.2.1))+(IntKind.wrap .i64 (Int.tdiv (IntKind.wrap .i64 ((IntKind.wrap .i64 (r0.2.2.2.2.2.2.2.1+r1.2.2.2.2.2.2.2.1))+(IntKind.wrap .i64 (Int.tdiv (IntKind.wrap .i64 ((IntKind.wrap .i64 (r0.2.2.2.2.2.2.1+r1.2.2.2.2.2.2.1))+(IntKind.wrap .i64 (Int.tdiv (IntKind.wrap .i64 ((IntKind.wrap .i64 (r0.2.2.2.2.2.1+r1.2.2.2.2.2.1))+(IntKind.wrap .i64 (Int.tdiv (IntKind.wrap .i64 ((IntKind.wrap .i64 (r0.2.2.2.2.1+r1.2.2.2.2.1))+(IntKind.wrap .i64 (Int.tdiv (IntKind.wrap .i64 ((IntKind.wrap .i64 (r0.2.2.2.1+r1.2.2.2.1))+(IntKind.wrap .i64 (Int.tdiv (IntKind.wrap .i64 ((IntKind.wrap .i64 (r0.2.2.1+r1.2.2.1))+(IntKind.wrap .i64 (Int.tdiv (IntKind.wrap .i64 ((IntKind.wrap .i64 (r0.2.1+r1.2.1))+(IntKind.wrap .i64 (Int.tdiv (IntKind.wrap .i64 ((IntKind.wrap .i64 (r0.1+r1.1))+0)) (256:Int))))) (256:Int))))) (256:Int))))) (256:Int))))) (256:Int))))) (256:Int))))) (256:Int))))) (256:Int))))) (256:Int))))) (256:Int))))) (256:Int)),((Int.tmod (IntKind.wrap .i64 ((IntKind.wrap .i64 (r0.2.2.2.2.2.2.2.2.2.2.2.1+r1.2.2.2.2.2.2.2.2.2.2.2.1))+(IntKind.wrap .i64 (Int.tdiv (IntKind.wrap .i64 ((IntKind.wrap .i64 (r0.2.2.2.2.2.2.2.2.2.2.1+r1.2.2.2.2.2.2.2.2.2.2.1))+(IntKind.wrap .i64 (Int.tdiv (IntKind.wrap .i64 ((IntKind.wrap .i64 (r0.2.2.2.2.2.2.2.2.2.1+r1.2.2.2.2.2.2.2.2.2.1))+(IntKind.wrap .i64 (Int.tdiv (IntKind.wrap .i64 ((IntKind.wrap .i64 (r0.2.2.2.2.2.2.2.2.1+r1.2.2.2.2.2.2.2.2.1))+(IntKind.wrap .i64 (Int.tdiv (IntKind.wrap .i64 ((IntKind.wrap .i64 (r0.2.2.2.2.2.2.2.1+r1.2.2.2.2.2.2.2.1))+(IntKind.wrap .i64 (Int.tdiv (IntKind.wrap .i64 ((IntKind.wrap .i64 (r0.2.2.2.2.2.2.1+r1.2.2.2.2.2.2.1))+(IntKind.wrap .i64 (Int.tdiv (IntKind.wrap .i64 ((IntKind.wrap .i64 (r0.2.2.2.2.2.1+r1.2.2.2.2.2.1))+(IntKind.wrap .i64 (Int.tdiv (IntKind.wrap .i64 ((IntKind.wrap .i64 (r0.2.2.2.2.1+r1.2.2.2.2.1))+(IntKind.wrap .i64 (Int.tdiv (IntKind.wrap .i64 ((IntKind.wrap .i64 (r0.2.2.2.1+r1.2.2.2.1))+(IntKind.wrap .i64 (Int.tdiv (IntKind.wrap .i64 ((IntKind.wrap .i64 (r0.2.2.1+r1.2.2.1))+(IntKind.wrap .i64 (Int.tdiv (IntKind.wrap .i64 ((IntKind.wrap .i64 (r0.2.1+r1.2.1))+(IntKind.wrap .i64 (Int.tdiv (IntKind.wrap .i64 ((IntKind.wrap .i64 (r0.1+r1.1))+0)) (256:Int))))) (256:Int))))) (256:Int))))) (256:Int))))) (256:Int))))) (256:Int))))) (256:Int))))) (256:Int))))) (256:Int))))) (256:Int))))) (256:Int))))) (256:Int)),((Int.tmod (IntKind.wrap .i64 ((IntKind.wrap .i64 (r0.2.2.2.2.2.2.2.2.2.2.2.2.1+r1.2.2.2.2.2.2.2.2.2.2.2.2.1))+(IntKind.wrap .i64 (Int.tdiv (IntKind.wrap .i64 ((IntKind.wrap .i64 (r0.2.2.2.2.2.2.2.2.2.2.2.1+r1.2.2.2.2.2.2.2.2.2.2.2.1))+(IntKind.wrap .i64 (Int.tdiv (IntKind.wrap .i64 ((IntKind.wrap .i64 (r0.2.2.2.2.2.2.2.2.2.2.1+r1.2.2.2.2.2.2.2.2.2.2.1))+(IntKind.wrap .i64 (Int.tdiv (IntKind.wrap .i64 ((IntKind.wrap .i64 (r0.2.2.2.2.2.2.2.2.2.1+r1.2.2.2.2.2.2.2.2.2.1))+(IntKind.wrap .i64 (Int.tdiv (IntKind.wrap .i64 ((IntKind.wrap .i64 (r0.2.2.2.2.2.2.2.2.1+r1.2.2.2.2.2.2.2.2.1))+(IntKind.wrap .i64 (Int.tdiv (IntKind.wrap .i64 ((IntKind.wrap .i64 (r0.2.2.2.2.2.2.2.1+r1.2.2.2.2.2.2.2.1))+(IntKind.wrap .i64 (Int.tdiv (IntKind.wrap .i64 ((IntKind.wrap .i64 (r0.2.2.2.2.2.2.1+r1.2.2.2.2.2.2.1))+(IntKind.wrap .i64 (Int.tdiv (IntKind.wrap .i64 ((IntKind.wrap .i64 (r0.2.2.2.2.2.1+r1.2.2.2.2.2.1))+(IntKind.wrap .i64 (Int.tdiv (IntKind.wrap .i64 ((IntKind.wrap .i64 (r0.2.2.2.2.1+r1.2.2.2.2.1))+(IntKind.wrap .i64 (Int.tdiv (IntKind.wrap .i64 ((IntKind.wrap .i64 (r0.2.2.2.1+r1.2.2.2.1))+(IntKind.wrap .i64 (Int.tdiv (IntKind.wrap .i64 ((IntKind.wrap .i64 (r0.2.2.1+r1.2.2.1))+(IntKind.wrap .i64 (Int.tdiv (IntKind.wrap .i64 ((IntKind.wrap .i64 (r0.2.1+r1.2.1))+(IntKind.wrap .i64 (Int.tdiv (IntKind.wrap .i64 ((IntKind.wrap .i64 (r0.1+r1.1))+0)) (256:Int))))) (256:Int))))) (256:Int))))) (256:Int))))) (256:Int))))) (256:Int))))) (256:Int))))) (256:Int))))) (256:Int))))) (256:Int))))) (256:Int))))) (256:Int))))) (256:Int)),((Int.tmod (IntKind.wrap .i64 ((IntKind.wrap .i64 (r0.2.2.2.2.2.2.2.2.2.2.2.2.2.1+r1.2.2.2.2.2.2.2.2.2.2.2.2.2.1))+(IntKind.wrap .i64 (Int.tdiv (IntKind.wrap .i64 ((IntKind.wrap .i64 (r0.2.2.2.2.2.2.2.2.2.2.2.2.1+r1.2.2.2.2.2.2.2.2.2.2.2.2.1))+(IntKind.wrap .i64 (Int.tdiv (IntKind.wrap .i64 ((IntKind.wrap .i64 (r0.2.2.2.2.2.2.2.2.2.2.2.1+r1.2.2.2.2.2.2.2.2.2.2.2.1))+(IntKind.wrap .i64 (Int.tdiv (IntKind.wrap .i64 ((IntKind.wrap .i64 (r0.2.2.2.2.2.2.2.2.2.2.1+r1.2.2.2.2.2.2.2.2.2.2.1))+(IntKind.wrap .i64 (Int.tdiv (IntKind.wrap .i64 ((IntKind.wrap .i64 (r0.2.2.2.2.2.2.2.2.2.1+r1.2.2.2.2.2.2.2.2.2.1))+(IntKind.wrap .i64 (Int.tdiv (IntKind.wrap .i64 ((IntKind.wrap .i64 (r0.2.2.2.2.2.2.2.2.1+r1.2.2.2.2.2.2.2.2.1))+(IntKind.wrap .i64 (Int.tdiv (IntKind.wrap .i64 ((IntKind.wrap .i64 (r0.2.2.2.2.2.2.2.1+r1.2.2.2.2.2.2.2.1))+(IntKind.wrap .i64 (Int.tdiv (IntKind.wrap .i64 ((IntKind.wrap .i64 (r0.2.2.2.2.2.2.1+r1.2.2.2.2.2.2.1))+(IntKind.wrap .i64 (Int.tdiv (IntKind.wrap .i64 ((IntKind.wrap .i64 (r0.2.2.2.2.2.1+r1.2.2.2.2.2.1))+(IntKind.wrap .i64 (Int.tdiv (IntKind.wrap .i64 ((IntKind.wrap .i64 (r0.2.2.2.2.1+r1.2.2.2.2.1))+(IntKind.wrap .i64 (Int.tdiv (IntKind.wrap .i64 ((IntKind.wrap .i64 (r0.2.2.2.1+r1.2.2.2.1))+(IntKind.wrap .i64 (Int.tdiv (IntKind.wrap .i64 ((IntKind.wrap .i64 (r0.2.2.1+r1.2.2.1))+(IntKind.wrap .i64 (Int.tdiv (IntKind.wrap .i64 ((IntKind.wrap .i64 (r0.2.1+r1.2.1))+(IntKind.wrap .i64 (Int.tdiv (IntKind.wrap .i64 ((IntKind.wrap .i64 (r0.1+r1.1))+0)) (256:Int))))) (256:Int))))) (256:Int))))) (256:Int))))) (256:Int))))) (256:Int))))) (256:Int))))) (256:Int))))) (256:Int))))) (256:Int))))) (256:Int))))) (256:Int))))) (256:Int))))) (256:Int)),((Int.tmod (IntKind.wrap .i64 ((IntKind.wrap .i64 (r0.2.2.2.2.2.2.2.2.2.2.2.2.2.2.1+r1.2.2.2.2.2.2.2.2.2.2.2.2.2.2.1))+(IntKind.wrap .i64 (Int.tdiv (IntKind.wrap .i64 ((IntKind.wrap .i64 (r0.2.2.2.2.2.2.2.2.2.2.2.2.2.1+r1.2.2.2.2.2.2.2.2.2.2.2.2.2.1))+(IntKind.wrap .i64 (Int.tdiv (IntKind.wrap .i64 ((IntKind.wrap .i64 (r0.2.2.2.2.2.2.2.2.2.2.2.2.1+r1.2.2.2.2.2.2.2.2.2.2.2.2.1))+(IntKind.wrap .i64 (Int.tdiv (IntKind.wrap .i64 ((IntKind.wrap .i64 (r0.2.2.2.2.2.2.2.2.2.2.2.1+r1.2.2.2.2.2.2.2.2.2.2.2.1))+(IntKind.wrap .i64 (Int.tdiv (IntKind.wrap .i64 ((IntKind.wrap .i64 (r0.2.2.2.2.2.2.2.2.2.2.1+r1.2.2.2.2.2.2.2.2.2.2.1))+(IntKind.wrap .i64 (Int.tdiv (IntKind.wrap .i64 ((IntKind.wrap .i64 (r0.2.2.2.2.2.2.2.2.2.1+r1.2.2.2.2.2.2.2.2.2.1))+(IntKind.wrap .i64 (Int.tdiv (IntKind.wrap .i64 ((IntKind.wrap .i64 (r0.2.2.2.2.2.2.2.2.1+r1.2.2.2.2.2.2.2.2.1))+(IntKind.wrap .i64 (Int.tdiv (IntKind.wrap .i64 ((IntKind.wrap .i64 (r0.2.2.2.2.2.2.2.1+r1.2.2.2.2.2.2.2.1))+(IntKind.wrap .i64 (Int.tdiv (IntKind.wrap .i64 ((IntKind.wrap .i64 (r0.2.2.2.2.2.2.1+r1.2.2.2.2.2.2.1))+(IntKind.wrap .i64 (Int.tdiv (IntKind.wrap .i64 ((IntKind.wrap .i64 (r0.2.2.2.2.2.1+r1.2.2.2.2.2.1))+(IntKind.wrap .i64 (Int.tdiv (IntKind.wrap .i64 ((IntKind.wrap .i64 (r0.2.2.2.2.1+r1.2.2.2.2.1))+(IntKind.wrap .i64 (Int.tdiv (IntKind.wrap .i64 ((IntKind.wrap .i64 (r0.2.2.2.1+r1.2.2.2.1))+(IntKind.wrap .i64 (Int.tdiv (IntKind.wrap .i64 ((IntKind.wrap .i64 (r0.2.2.1+r1.2.2.1))+(IntKind.wrap .i64 (Int.tdiv (IntKind.wrap .i64 ((IntKind.wrap .i64 (r0.2.1+r1.2.1))+(IntKind.wrap .i64 (Int.tdiv (IntKind.wrap .i64 ((IntKind.wrap .i64 (r0.1+r1.1))+0)) (256:Int))))) (256:Int))))) (256:Int))))) (256:Int))))) (256:Int))))) (256:Int))))) (256:Int))))) (256:Int))))) (256:Int))))) (256:Int))))) (256:Int))))) (256:Int))))) (256:Int))))) (256:Int))))) (256:Int)),(Int.tmod (IntKind.wrap .i64 ((IntKind.wrap .i64 (r0.2.2.2.2.2.2.2.2.2.2.2.2.2.2.2+r1.2.2.2.2.2.2.2.2.2.2.2.2.2.2.2))+(IntKind.wrap .i64 (Int.tdiv (IntKind.wrap .i64 ((IntKind.wrap .i64 (r0.2.2.2.2.2.2.2.2.2.2.2.2.2.2.1+r1.2.2.2.2.2.2.2.2.2.2.2.2.2.2.1))+(IntKind.wrap .i64 (Int.tdiv (IntKind.wrap .i64 ((IntKind.wrap .i64 (r0.2.2.2.2.2.2.2.2.2.2.2.2.2.1+r1.2.2.2.2.2.2.2.2.2.2.2.2.2.1))+(IntKind.wrap .i64 (Int.tdiv (IntKind.wrap .i64 ((IntKind.wrap .i64 (r0.2.2.2.2.2.2.2.2.2.2.2.2.1+r1.2.2.2.2.2.2.2.2.2.2.2.2.1))+(IntKind.wrap .i64 (Int.tdiv (IntKind.wrap .i64 ((IntKind.wrap .i64 (r0.2.2.2.2.2.2.2.2.2.2.2.1+r1.2.2.2.2.2.2.2.2.2.2.2.1))+(IntKind.wrap .i64 (Int.tdiv (IntKind.wrap .i64 ((IntKind.wrap .i64 (r0.2.2.2.2.2.2.2.2.2.2.1+r1.2.2.2.2.2.2.2.2.2.2.1))+(IntKind.wrap .i64 (Int.tdiv (IntKind.wrap .i64 ((IntKind.wrap .i64 (r0.2.2.2.2.2.2.2.2.2.1+r1.2.2.2.2.2.2.2.2.2.1))+(IntKind.wrap .i64 (Int.tdiv (IntKind.wrap .i64 ((IntKind.wrap .i64 (r0.2.2.2.2.2.2.2.2.1+r1.2.2.2.2.2.2.2.2.1))+(IntKind.wrap .i64 (Int.tdiv (IntKind.wrap .i64 ((IntKind.wrap .i64 (r0.2.2.2.2.2.2.2.1+r1.2.2.2.2.2.2.2.1))+(IntKind.wrap .i64 (Int.tdiv (IntKind.wrap .i64 ((IntKind.wrap .i64 (r0.2.2.2.2.2.2.1+r1.2.2.2.2.2.2.1))+(IntKind.wrap .i64 (Int.tdiv (IntKind.wrap .i64 ((IntKind.wrap .i64 (r0.2.2.2.2.2.1+r1.2.2.2.2.2.1))+(IntKind.wrap .i64 (Int.tdiv (IntKind.wrap .i64 ((IntKind.wrap .i64 (r0.2.2.2.2.1+r1.2.2.2.2.1))+(IntKind.wrap .i64 (Int.tdiv (IntKind.wrap .i64 ((IntKind.wrap .i64 (r0.2.2.2.1+r1.2.2.2.1))+(IntKind.wrap .i64 (Int.tdiv (IntKind.wrap .i64 ((IntKind.wrap .i64 (r0.2.2.1+r1.2.2.1))+(IntKind.wrap .i64 (Int.tdiv (IntKind.wrap .i64 ((IntKind.wrap .i64 (r0.2.1+r1.2.1))+(IntKind.wrap .i64 (Int.tdiv (IntKind.wrap .i64 ((IntKind.wrap .i64 (r0.1+r1.1))+0)) (256:Int))))) (256:Int))))) (256:Int))))) (256:Int))))) (256:Int))))) (256:Int))))) (256:Int))))) (256:Int))))) (256:Int))))) (256:Int))))) (256:Int))))) (256:Int))))) (256:Int))))) (256:Int))))) (256:Int))))) (256:Int)))))))))))))))))) fun r2 =>
 some (r2,0)):=by kernel_rfl
theorem o0j (n:Nat) (s:(List (Int×(List UInt8×List UInt8)))) (f_:(((Int×(List UInt8×List UInt8))×Unit)→Option Bool)):d0o (n+1) s f_ =
 a0b (l0x n s f_) fun r0 =>
 some (decide ((0:Int)≤r0)):=by kernel_rfl
theorem e1e (n:Nat) (m:(Int×(List UInt8×List UInt8))):s0d (n+1) m =
 a0b (x0o n m) fun r0 =>
 some (!r0):=by kernel_rfl
theorem j1z (n:Nat) (m:(Int×(List UInt8×List UInt8))):x0o (n+1) m =
 tif ((!(decide (m.1=0)))) (
 tif ((decide (m.1<4))) (
 a0b (g0v n (m.2::[])) fun r0 =>
 some (decide (r0=0))) (
 some false)) (
 some false):=by kernel_rfl
theorem k0u (n:Nat) (s:a0m) (l:(List (List UInt8×List UInt8))) (e:a0x):n0e (n+1) s l e =
 a0b (i0i n s l e) fun r0 =>
 tif ((!(decide (r0.2.2=0)))) (
 some (((0,((0,(0,0)),((0,(0,0)),(0,0)))),(0,(0,[]))),r0.2.2)) (
 a0b (k0c n s r0.1 r0.2.1 l) fun r1 =>
 tif ((!(decide (r1.2=0)))) (
 some (((0,((0,(0,0)),((0,(0,0)),(0,0)))),(0,(0,[]))),r1.2)) (
 a0b (m0o n s.1 r1.1 e) fun r2 =>
 tif ((!(decide (r2.2=0)))) (
 some (((0,((0,(0,0)),((0,(0,0)),(0,0)))),(0,(0,[]))),r2.2)) (
 a0b (f0e n s.2.2.2) fun r3 =>
 a0b (at? r3 r0.1) fun r4 =>
 a0b ((r3)[(Int.toNat r0.1)]?) fun r5 =>
 some ((s.1,(s.2.1,(s.2.2.1,(List.set r3 (Int.toNat r0.1) r2.1)))),0)))):=by kernel_rfl
theorem x1u (n:Nat) (s:((List a0f)×((List a0f)×(List a0f)))):i1o (n+1) s =
 a0b (e0x n a0d (s,(0,()))) fun r0 =>
 b0d (fun y1 =>
 some (1:Int)) (fun z2 =>
 some z2) r0:=by kernel_rfl
theorem j0s (n f:Nat) (s_:((List a0f)×((List a0f)×(List a0f)))) (s4:Int):e0x n (f+1) (s_,s4,()) =
 tif ((decide (s4<3))) (
 tif ((decide (s4=0))) (
 tif ((decide ((40:Int)<(((List.length s_.1):Nat):Int)))) (
 some (.inr (0:Int))) (
 e0x n f (s_,((IntKind.wrap .i64 (s4+1)),())))) (
 tif ((decide (s4=1))) (
 tif ((decide ((40:Int)<(((List.length s_.2.1):Nat):Int)))) (
 some (.inr (0:Int))) (
 e0x n f (s_,((IntKind.wrap .i64 (s4+1)),())))) (
 tif ((decide (s4=2))) (
 tif ((decide ((40:Int)<(((List.length s_.2.2):Nat):Int)))) (
 some (.inr (0:Int))) (
 e0x n f (s_,((IntKind.wrap .i64 (s4+1)),())))) (
 none)))) (
 some (.inl ())):=by kernel_rfl
theorem q1u (n:Nat) (a:(Int×Int)):m0q (n+1) a =
 some ((decide (a.1=0))&&(decide (a.2=0))):=by kernel_rfl
theorem v1p (n:Nat) (a:(Int×Int)) (b:(Int×Int)):g1a (n+1) a b =
 a0b (m0q n a) fun r0 =>
 tif (r0) (
 some ((orI .u64 a.1 b.1),(orI .u64 a.2 b.2))) (
 a0b (m0q n b) fun r1 =>
 tif (r1) (
 some ((orI .u64 a.1 b.1),(orI .u64 a.2 b.2))) (
 a0b (h0g n a) fun r2 =>
 a0b (h0g n b) fun r3 =>
 a0b (h0g n a) fun r4 =>
 a0b (v0j n a r4) fun r5 =>
 a0b (d0w n a0d (r5,(b,((0,0),((if r3<r2 then r3 else r2),()))))) fun r6 =>
 b0d (fun y7 =>
 a0b (z0c n y7.1 y7.2.2.1) fun r8 =>
 some r8) (fun z9 =>
 some z9) r6)):=by kernel_rfl
theorem n0v (n f:Nat) (a_:(Int×Int)) (b_:(Int×Int)) (s4:(Int×Int)) (twos:Int):d0w n (f+1) (a_,b_,s4,twos,()) =
 a0b (m0q n b_) fun r0 =>
 tif ((!r0)) (
 a0b (h0g n b_) fun r1 =>
 a0b (v0j n b_ r1) fun r2 =>
 a0b (n0g n r2 a_) fun r3 =>
 tif (r3) (
 a0b (k0i n a_ r2) fun r4 =>
 d0w n f (r2,(r4,(s4,(twos,()))))) (
 a0b (k0i n r2 a_) fun r5 =>
 d0w n f (a_,(r5,(s4,(twos,())))))) (
 some (.inl (a_,(s4,(twos,()))))):=by kernel_rfl
theorem v1r (n:Nat) (s:a0m):p0y (n+1) s =
 a0b (j0m n s.1) fun r0 =>
 tif ((decide (r0=0))) (
 some (decide ((((List.length s.2.2.2):Nat):Int)=s.1.2.2.2.1))) (
 some false):=by kernel_rfl
theorem a2q (n:Nat) (t:Int):z0f (n+1) t =
 tif ((decide ((0:Int)≤t))) (
 some (decide (t<35184372088832))) (
 some false):=by kernel_rfl
theorem a2t (n:Nat) (s:a0m):z0h (n+1) s =
 a0b (p0y n s) fun r0 =>
 tif ((!r0)) (
 some (0:Int)) (
 a0b (z0f n s.2.1) fun r1 =>
 tif ((!r1)) (
 some (0:Int)) (
 tif ((decide (s.1.2.1.1=0))) (
 none) (
 some (IntKind.wrap .i64 ((IntKind.wrap .i64 (Int.tdiv s.2.1 s.1.2.1.1))*s.1.2.1.1))))):=by kernel_rfl
theorem v1u (n:Nat) (s:a0z):z0i (n+1) s =
 a0b (z0j n s ([],(0,((0,(0,[])),(([],([],[])),(0,(0,((0,(0,(0,false))),((0,(0,(0,false))),((0,0),(0,(0,0)))))))))))) fun r0 =>
 some r0:=by kernel_rfl
theorem v1x (n:Nat) (c:b0e) (s:a0z):n0w (n+1) c s =
 a0b (j0m n c) fun r0 =>
 tif ((!(decide (r0=0)))) (
 some (2:Int)) (
 a0b (t0y n s.1) fun r1 =>
 tif ((!(decide (r1=0)))) (
 some (2:Int)) (
 a0b (g1h n s.2.2.1 c.1) fun r2 =>
 tif ((!(decide (r2=0)))) (
 some (2:Int)) (
 a0b (g1e n c s.2.2.2.1) fun r3 =>
 tif ((!(decide (r3=0)))) (
 some (2:Int)) (
 tif ((decide (s.2.1=((-1):Int)))) (
 tif ((decide ((0:Int)<(((List.length s.2.2.1.2.2):Nat):Int)))) (
 some (2:Int)) (
 tif ((!((decide (s.2.2.2.2.1=0))&&((decide (s.2.2.2.2.2.1=0))&&((decide (s.2.2.2.2.2.2.1.1=0))&&((decide (s.2.2.2.2.2.2.1.2.1=0))&&((decide (s.2.2.2.2.2.2.1.2.2.1=0))&&((s.2.2.2.2.2.2.1.2.2.2==false)&&((decide (s.2.2.2.2.2.2.2.1.1=0))&&((decide (s.2.2.2.2.2.2.2.1.2.1=0))&&((decide (s.2.2.2.2.2.2.2.1.2.2.1=0))&&((s.2.2.2.2.2.2.2.1.2.2.2==false)&&((decide (s.2.2.2.2.2.2.2.2.1.1=0))&&((decide (s.2.2.2.2.2.2.2.2.1.2=0))&&((decide (s.2.2.2.2.2.2.2.2.2.1=0))&&((decide (s.2.2.2.2.2.2.2.2.2.2.1=0))&&(decide (s.2.2.2.2.2.2.2.2.2.2.2=0)))))))))))))))))) (
 some (2:Int)) (
 a0b (g0t n a0d (s,(0,()))) fun r4 =>
 b0d (fun y5 =>
 some (0:Int)) (fun z6 =>
 some z6) r4))) (
 a0b (r1j n s.2.2.1) fun r7 =>
 tif ((!(decide (r7.2=0)))) (
 some (2:Int)) (
 tif ((!(decide (r7.1.1=s.2.1)))) (
 some (2:Int)) (
 a0b (e1s n s.2.2.2.2.2 c.2.1.1 s.2.2.2.2.1) fun r8 =>
 tif ((!r8)) (
 some (2:Int)) (
 tif ((!(decide (s.2.2.2.2.2.2.2.1.1=s.2.1)))) (
 some (2:Int)) (
 a0b (f0n n a0d (c,(s,(0,())))) fun r9 =>
 b0d (fun y10 =>
 some (0:Int)) (fun z11 =>
 some z11) r9))))))))):=by kernel_rfl
theorem j0k (n f:Nat) (s_:a0z) (k:Int):g0t n (f+1) (s_,k,()) =
 tif ((decide (k<3))) (
 tif ((decide (k=0))) (
 a0b (r0u n s_.2.2.2.1.1) fun r0 =>
 tif ((decide ((0:Int)<(((List.length r0):Nat):Int)))) (
 some (.inr (2:Int))) (
 g0t n f (s_,((IntKind.wrap .i64 (k+1)),())))) (
 tif ((decide (k=1))) (
 a0b (r0u n s_.2.2.2.1.2.1) fun r1 =>
 tif ((decide ((0:Int)<(((List.length r1):Nat):Int)))) (
 some (.inr (2:Int))) (
 g0t n f (s_,((IntKind.wrap .i64 (k+1)),())))) (
 tif ((decide (k=2))) (
 a0b (r0u n s_.2.2.2.1.2.2) fun r2 =>
 tif ((decide ((0:Int)<(((List.length r2):Nat):Int)))) (
 some (.inr (2:Int))) (
 g0t n f (s_,((IntKind.wrap .i64 (k+1)),())))) (
 none)))) (
 some (.inl ())):=by kernel_rfl
theorem i0g (n f:Nat) (c_:b0e) (s_:a0z) (k_:Int):f0n n (f+1) (c_,s_,k_,()) =
 tif ((decide (k_<3))) (
 tif ((decide (k_=0))) (
 a0b (r0u n s_.2.2.2.1.1) fun r0 =>
 a0b (c0n n a0d (c_,(s_,(k_,(r0,((((List.length r0):Nat):Int),(0,()))))))) fun r1 =>
 b0d (fun y2 =>
 f0n n f (y2.1,(y2.2.1,((IntKind.wrap .i64 (y2.2.2.1+1)),())))) (fun z3 =>
 some (.inr z3)) r1) (
 tif ((decide (k_=1))) (
 a0b (r0u n s_.2.2.2.1.2.1) fun r4 =>
 a0b (c0n n a0d (c_,(s_,(k_,(r4,((((List.length r4):Nat):Int),(0,()))))))) fun r5 =>
 b0d (fun y6 =>
 f0n n f (y6.1,(y6.2.1,((IntKind.wrap .i64 (y6.2.2.1+1)),())))) (fun z7 =>
 some (.inr z7)) r5) (
 tif ((decide (k_=2))) (
 a0b (r0u n s_.2.2.2.1.2.2) fun r8 =>
 a0b (c0n n a0d (c_,(s_,(k_,(r8,((((List.length r8):Nat):Int),(0,()))))))) fun r9 =>
 b0d (fun y10 =>
 f0n n f (y10.1,(y10.2.1,((IntKind.wrap .i64 (y10.2.2.1+1)),())))) (fun z11 =>
 some (.inr z11)) r9) (
 none)))) (
 some (.inl ())):=by kernel_rfl
theorem e0q (n f:Nat) (c_:b0e) (s_:a0z) (k_:Int) (s106:(List a0f)) (s107:Int) (s108:Int):c0n n (f+1) (c_,s_,k_,s106,s107,s108,()) =
 tif ((decide (s108<s107))) (
 a0b (at? s106 s108) fun r0 =>
 tif ((decide (k_=0))) (
 tif ((decide (c_.2.1.1=0))) (
 none) (
 tif ((decide ((IntKind.wrap .i64 (Int.tdiv s_.2.1 c_.2.1.1))≤r0.1))) (
 some (.inr (2:Int))) (
 c0n n f (c_,(s_,(k_,(s106,(s107,((IntKind.wrap .i64 (s108+1)),()))))))))) (
 tif ((decide (k_=1))) (
 tif ((decide (c_.2.1.2.1=0))) (
 none) (
 tif ((decide ((IntKind.wrap .i64 (Int.tdiv s_.2.1 c_.2.1.2.1))≤r0.1))) (
 some (.inr (2:Int))) (
 c0n n f (c_,(s_,(k_,(s106,(s107,((IntKind.wrap .i64 (s108+1)),()))))))))) (
 tif ((decide (k_=2))) (
 tif ((decide (c_.2.1.2.2=0))) (
 none) (
 tif ((decide ((IntKind.wrap .i64 (Int.tdiv s_.2.1 c_.2.1.2.2))≤r0.1))) (
 some (.inr (2:Int))) (
 c0n n f (c_,(s_,(k_,(s106,(s107,((IntKind.wrap .i64 (s108+1)),()))))))))) (
 none)))) (
 some (.inl (c_,(s_,(k_,()))))):=by kernel_rfl
theorem v1s (n:Nat) (s:a0m) (i:Int):p0z (n+1) s i =
 a0b (at? s.2.2.2 i) fun r0 =>
 a0b (z0i n r0) fun r1 =>
 tif ((!r1)) (
 tif ((decide (s.2.2.1=((-1):Int)))) (
 some true) (
 a0b (at? s.2.2.2 i) fun r2 =>
 a0b (r1g n s.1 r2.2.1 s.2.2.1) fun r3 =>
 some (!r3))) (
 some false):=by kernel_rfl
theorem b2u (n:Nat) (a:(List (List UInt8×List UInt8))) (b:(List (List UInt8×List UInt8))):z0t (n+1) a b =
 tif ((!(decide ((((List.length a):Nat):Int)=(((List.length b):Nat):Int))))) (
 some false) (
 a0b (n0y n a0d (a,(b,((((List.length a):Nat):Int),(0,()))))) fun r0 =>
 b0d (fun y1 =>
 some true) (fun z2 =>
 some z2) r0):=by kernel_rfl
theorem k0q (n f:Nat) (a:(List (List UInt8×List UInt8))) (b:(List (List UInt8×List UInt8))) (s12:Int) (s13:Int):n0y n (f+1) (a,b,s12,s13,()) =
 tif ((decide (s13<s12))) (
 a0b (at? a s13) fun r0 =>
 a0b (at? b s13) fun r1 =>
 tif ((!((r0.1==r1.1)&&(r0.2==r1.2)))) (
 some (.inr false)) (
 n0y n f (a,(b,(s12,((IntKind.wrap .i64 (s13+1)),())))))) (
 some (.inl ())):=by kernel_rfl
theorem h2u (n:Nat) (a:(Int×Int)) (b:(Int×Int)):b2w (n+1) a b =
 a0b (v0o n a0d (a,(b,((0,0),())))) fun r0 =>
 b0d (fun y1 =>
 some y1.1) (fun z2 =>
 some z2) r0:=by kernel_rfl
theorem r0v (n f:Nat) (a_:(Int×Int)) (b_:(Int×Int)) (s4:(Int×Int)):v0o n (f+1) (a_,b_,s4,()) =
 tif ((!((decide (b_.1=0))&&(decide (b_.2=0))))) (
 a0b (u0a n a_ b_) fun r0 =>
 v0o n f (b_,(r0.2,(s4,())))) (
 some (.inl (a_,(s4,())))):=by kernel_rfl
theorem w1m (n:Nat) (l:(List (List UInt8×List UInt8))):t0y (n+1) l =
 tif ((decide ((((List.length l):Nat):Int)<1))) (
 some (8:Int)) (
 tif ((decide ((16:Int)<(((List.length l):Nat):Int)))) (
 some (8:Int)) (
 a0b (i0w n a0d (l,(0,(l,((((List.length l):Nat):Int),(0,())))))) fun r0 =>
 b0d (fun y1 =>
 tif ((decide ((256:Int)<y1.1))) (
 some (8:Int)) (
 some (0:Int))) (fun z2 =>
 some z2) r0)):=by kernel_rfl
theorem t0x (n f:Nat) (l:(List (List UInt8×List UInt8))) (all:Int) (s14:(List (List UInt8×List UInt8))) (s15:Int) (s16:Int):i0w n (f+1) (l,all,s14,s15,s16,()) =
 tif ((decide (s16<s15))) (
 a0b (at? s14 s16) fun r0 =>
 a0b (r1o n r0.1) fun r1 =>
 tif ((!r1)) (
 some (.inr (8:Int))) (
 tif ((decide ((128:Int)<(((List.length r0.2):Nat):Int)))) (
 some (.inr (8:Int))) (
 tif ((decide ((0:Int)<s16))) (
 a0b (at? l (IntKind.wrap .i64 (s16-1))) fun r2 =>
 tif ((!(Go.Op.bytesLess r2.1 r0.1))) (
 some (.inr (8:Int))) (
 i0w n f (l,((IntKind.wrap .i64 (all+(IntKind.wrap .i64 ((((List.length r0.1):Nat):Int)+(((List.length r0.2):Nat):Int))))),(s14,(s15,((IntKind.wrap .i64 (s16+1)),()))))))) (
 i0w n f (l,((IntKind.wrap .i64 (all+(IntKind.wrap .i64 ((((List.length r0.1):Nat):Int)+(((List.length r0.2):Nat):Int))))),(s14,(s15,((IntKind.wrap .i64 (s16+1)),()))))))))) (
 some (.inl (all,()))):=by kernel_rfl
theorem b2i (n:Nat) (a:Int) (b:Int) (w:Int):g0h (n+1) a b w =
 a0b (g1j n w) fun r0 =>
 tif ((!r0)) (
 some (0,(0,1))) (
 tif ((decide (a<0))) (
 some (0,(0,1))) (
 tif ((decide ((35184372088832:Int)<b))) (
 some (0,(0,1))) (
 tif ((decide (b≤a))) (
 some (0,(0,1))) (
 tif ((decide (w=0))) (
 none) (
 tif ((!(decide ((Int.tmod a w)=0)))) (
 some (0,(0,10))) (
 tif ((decide (w=0))) (
 none) (
 tif ((!(decide ((Int.tmod b w)=0)))) (
 some (0,(0,10))) (
 tif ((decide (w=0))) (
 none) (
 tif ((decide (w=0))) (
 none) (
 some ((IntKind.wrap .i64 (Int.tdiv a w)),((IntKind.wrap .i64 (Int.tdiv b w)),0)))))))))))):=by kernel_rfl
theorem j1t (n:Nat) (c:b0e) (s:a0z) (i:Int) (j:Int):g0s (n+1) c s (0:Int) i j =
 a0b (n0w n c s) fun r0 =>
 tif ((!(decide (r0=0)))) (
 some ((0,((0,(0,(0,false))),((0,(0,(0,false))),((0,0),(0,(0,0)))))),2)) (
 tif ((decide (i<0))) (
 some ((0,((0,(0,(0,false))),((0,(0,(0,false))),((0,0),(0,(0,0)))))),1)) (
 tif ((decide (j<i))) (
 some ((0,((0,(0,(0,false))),((0,(0,(0,false))),((0,0),(0,(0,0)))))),1)) (
 tif ((decide (s.2.1=((-1):Int)))) (
 some ((0,((0,(0,(0,false))),((0,(0,(0,false))),((0,0),(0,(0,0)))))),0)) (
 tif ((decide (c.2.1.1=0))) (
 none) (
 a0b (r0t n s.2.2.2.1.1 i (if i<(if (IntKind.wrap .i64 (Int.tdiv s.2.1 c.2.1.1))<j then (IntKind.wrap .i64 (Int.tdiv s.2.1 c.2.1.1)) else j) then (if (IntKind.wrap .i64 (Int.tdiv s.2.1 c.2.1.1))<j then (IntKind.wrap .i64 (Int.tdiv s.2.1 c.2.1.1)) else j) else i)) fun r1 =>
 tif ((!(decide (r1.2=0)))) (
 some r1) (
 tif ((decide ((IntKind.wrap .i64 (Int.tdiv s.2.1 c.2.1.1))<i))) (
 some r1) (
 tif ((decide (j≤(IntKind.wrap .i64 (Int.tdiv s.2.1 c.2.1.1))))) (
 some r1) (
 a0b (l0n n c s (0:Int) (IntKind.wrap .i64 (Int.tdiv s.2.1 c.2.1.1))) fun r2 =>
 tif ((!(decide (r2.2=0)))) (
 some ((0,((0,(0,(0,false))),((0,(0,(0,false))),((0,0),(0,(0,0)))))),r2.2)) (
 a0b (l0c n r1.1 r2.1) fun r3 =>
 some r3))))))))):=by kernel_rfl
theorem j1s (n:Nat) (c:b0e) (s:a0z) (i:Int) (j:Int):g0s (n+1) c s (1:Int) i j =
 a0b (n0w n c s) fun r0 =>
 tif ((!(decide (r0=0)))) (
 some ((0,((0,(0,(0,false))),((0,(0,(0,false))),((0,0),(0,(0,0)))))),2)) (
 tif ((decide (i<0))) (
 some ((0,((0,(0,(0,false))),((0,(0,(0,false))),((0,0),(0,(0,0)))))),1)) (
 tif ((decide (j<i))) (
 some ((0,((0,(0,(0,false))),((0,(0,(0,false))),((0,0),(0,(0,0)))))),1)) (
 tif ((decide (s.2.1=((-1):Int)))) (
 some ((0,((0,(0,(0,false))),((0,(0,(0,false))),((0,0),(0,(0,0)))))),0)) (
 tif ((decide (c.2.1.2.1=0))) (
 none) (
 a0b (r0t n s.2.2.2.1.2.1 i (if i<(if (IntKind.wrap .i64 (Int.tdiv s.2.1 c.2.1.2.1))<j then (IntKind.wrap .i64 (Int.tdiv s.2.1 c.2.1.2.1)) else j) then (if (IntKind.wrap .i64 (Int.tdiv s.2.1 c.2.1.2.1))<j then (IntKind.wrap .i64 (Int.tdiv s.2.1 c.2.1.2.1)) else j) else i)) fun r1 =>
 tif ((!(decide (r1.2=0)))) (
 some r1) (
 tif ((decide ((IntKind.wrap .i64 (Int.tdiv s.2.1 c.2.1.2.1))<i))) (
 some r1) (
 tif ((decide (j≤(IntKind.wrap .i64 (Int.tdiv s.2.1 c.2.1.2.1))))) (
 some r1) (
 a0b (l0n n c s (1:Int) (IntKind.wrap .i64 (Int.tdiv s.2.1 c.2.1.2.1))) fun r2 =>
 tif ((!(decide (r2.2=0)))) (
 some ((0,((0,(0,(0,false))),((0,(0,(0,false))),((0,0),(0,(0,0)))))),r2.2)) (
 a0b (l0c n r1.1 r2.1) fun r3 =>
 some r3))))))))):=by kernel_rfl
theorem j1r (n:Nat) (c:b0e) (s:a0z) (i:Int) (j:Int):g0s (n+1) c s (2:Int) i j =
 a0b (n0w n c s) fun r0 =>
 tif ((!(decide (r0=0)))) (
 some ((0,((0,(0,(0,false))),((0,(0,(0,false))),((0,0),(0,(0,0)))))),2)) (
 tif ((decide (i<0))) (
 some ((0,((0,(0,(0,false))),((0,(0,(0,false))),((0,0),(0,(0,0)))))),1)) (
 tif ((decide (j<i))) (
 some ((0,((0,(0,(0,false))),((0,(0,(0,false))),((0,0),(0,(0,0)))))),1)) (
 tif ((decide (s.2.1=((-1):Int)))) (
 some ((0,((0,(0,(0,false))),((0,(0,(0,false))),((0,0),(0,(0,0)))))),0)) (
 tif ((decide (c.2.1.2.2=0))) (
 none) (
 a0b (r0t n s.2.2.2.1.2.2 i (if i<(if (IntKind.wrap .i64 (Int.tdiv s.2.1 c.2.1.2.2))<j then (IntKind.wrap .i64 (Int.tdiv s.2.1 c.2.1.2.2)) else j) then (if (IntKind.wrap .i64 (Int.tdiv s.2.1 c.2.1.2.2))<j then (IntKind.wrap .i64 (Int.tdiv s.2.1 c.2.1.2.2)) else j) else i)) fun r1 =>
 tif ((!(decide (r1.2=0)))) (
 some r1) (
 tif ((decide ((IntKind.wrap .i64 (Int.tdiv s.2.1 c.2.1.2.2))<i))) (
 some r1) (
 tif ((decide (j≤(IntKind.wrap .i64 (Int.tdiv s.2.1 c.2.1.2.2))))) (
 some r1) (
 a0b (l0n n c s (2:Int) (IntKind.wrap .i64 (Int.tdiv s.2.1 c.2.1.2.2))) fun r2 =>
 tif ((!(decide (r2.2=0)))) (
 some ((0,((0,(0,(0,false))),((0,(0,(0,false))),((0,0),(0,(0,0)))))),r2.2)) (
 a0b (l0c n r1.1 r2.1) fun r3 =>
 some r3))))))))):=by kernel_rfl
end Go.Proofs.YtgkpkajaepphjaaGreatDoor
