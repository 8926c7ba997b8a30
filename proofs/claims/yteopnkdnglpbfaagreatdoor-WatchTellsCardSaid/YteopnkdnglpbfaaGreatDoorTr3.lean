/- Trees, printed by program. -/
import Derived.Test.YteopnkdnglpbfaaGreatDoorTr0
import Derived.KernelRfl
open Go.IntKind (wrap)
set_option linter.unusedVariables false
namespace Go.Proofs.YteopnkdnglpbfaaGreatDoor
open Go.Flat
theorem e1w (n:Nat) (p:b0d) (c:b0d):m0r (n+1) p c =
 a0a (m0b n (p::(c::[]))) fun r0 =>
 tif (r0) (
 some (decide (p.1<c.1))) (
 some false):=by kernel_rfl
theorem z0a (n:Nat) (s1:(List b0d)) (s2:(List b0d)):m0z (n+1) s1 s2 =
 tif (!((s1.length:Int)=(s2.length:Int))) (
 some false) (
 a0a (g0a n a0b (s1,(s2,((s1.length:Int),(0,()))))) fun r0 =>
 b0x (fun y1 =>
 some true) (fun z2 =>
 some z2) r0):=by kernel_rfl
theorem k0a (n f:Nat) (s1:(List b0d)) (s2:(List b0d)) (s12:Int) (s13:Int):g0a n (f+1) (s1,s2,s12,s13,()) =
 tif (s13<s12) (
 a0a (at? s1 s13) fun r0 =>
 a0a (at? s2 s13) fun r1 =>
 tif (!((decide (r0.1=r1.1))&&((decide (r0.2.1=r1.2.1))&&((decide (r0.2.2.1=r1.2.2.1))&&(r0.2.2.2==r1.2.2.2))))) (
 some (.inr false)) (
 g0a n f (s1,(s2,(s12,((wrap .i64 (s13+1)),())))))) (
 some (.inl ())):=by kernel_rfl
theorem c2s (n:Nat) (t:Int) (now:Int) (w:Int) (n_:Int):c1t (n+1) t now w n_ =
 a0a (c2r n t w) fun r0 =>
 a0a (f0d n now w n_) fun r1 =>
 tif (r0.2=0) (
 tif (r1.2=0) (
 some (decide (r0.1<r1.1))) (
 some false)) (
 some false):=by kernel_rfl
theorem t0p (n:Nat) (s:(List Int)) (f_:((Int×Unit)->Option Bool)):n0v (n+1) s f_ =
 a0a (d0d n a0b (s,(f_,((s.length:Int),(0,()))))) fun r0 =>
 b0x (fun y1 =>
 some ((-1):Int)) (fun z2 =>
 some z2) r0:=by kernel_rfl
theorem h0h (n f:Nat) (s:(List Int)) (f_:((Int×Unit)->Option Bool)) (s7:Int) (s8:Int):d0d n (f+1) (s,f_,s7,s8,()) =
 tif (s8<s7) (
 a0a (at? s s8) fun r0 =>
 a0a (f_ (r0,())) fun r1 =>
 tif (r1) (
 some (.inr s8)) (
 d0d n f (s,(f_,(s7,((wrap .i64 (s8+1)),())))))) (
 some (.inl ())):=by kernel_rfl
theorem wi_Of_eq (n:Nat) (t:Int) (w:Int):c2r (n+1) t w =
 a0a (p0a n t (0:Int) (35184372088831:Int)) fun r0 =>
 tif (!r0) (
 some (0,1)) (
 a0a (l1v n w) fun r1 =>
 tif (!r1) (
 some (0,1)) (
 tif (w=0) (
 none) (
 some ((wrap .i64 (Int.tdiv t w)),0)))):=by kernel_rfl
theorem q1q (n:Nat) (n_:Int) (low:Int) (high:Int):q1r (n+1) n_ low high =
 tif (low<=n_) (
 some (decide (n_<=high))) (
 some false):=by kernel_rfl
theorem w1c (n:Nat) (l:(List a0c)):m1c (n+1) l =
 a0a (p0k n l) fun r0 =>
 a0a (h0p n r0 (fun y1=>q0v n y1.1)) fun r2 =>
 a0a (f0k n r2 (fun y3=>s0u n y3.1 y3.2.1)) fun r4 =>
 some r4:=by kernel_rfl
theorem z1v (n:Nat) (l:(List b0v)):q1d (n+1) l =
 a0a (m0e n a0b ((0,((0,(0,(0,false))),((0,(0,(0,false))),((0,0),(0,(0,0)))))),((0,((0,(0,(0,false))),((0,(0,(0,false))),((0,0),(0,(0,0)))))),(l,((l.length:Int),(0,())))))) fun r0 =>
 b0x (fun y1 =>
 some (y1.2.1,0)) (fun z2 =>
 some z2) r0:=by kernel_rfl
theorem u0v (n f:Nat) (s2:b0v) (c:b0v) (s9:(List b0v)) (s10:Int) (s11:Int):m0e n (f+1) (s2,c,s9,s10,s11,()) =
 tif (s11<s10) (
 a0a (at? s9 s11) fun r0 =>
 a0a (h0e n c r0) fun r1 =>
 tif (!(r1.2=0)) (
 some (.inr ((0,((0,(0,(0,false))),((0,(0,(0,false))),((0,0),(0,(0,0)))))),r1.2))) (
 m0e n f (s2,(r1.1,(s9,(s10,((wrap .i64 (s11+1)),()))))))) (
 some (.inl (s2,(c,())))):=by kernel_rfl
theorem q1c (n:Nat) (c:b0v):o0t (n+1) c =
 a0a (s0p n c) fun r0 =>
 tif (r0) (
 some (0:Int)) (
 a0a (a1e n c) fun r1 =>
 tif (!r1) (
 some (2:Int)) (
 a0a (q0u n (18446744073709551615:Int)) fun r2 =>
 a0a (k0q n r2 (wrap .u64 (wrap .i64 (c.1-1)))) fun r3 =>
 tif (!(r3.2=0)) (
 some (2:Int)) (
 a0a (j0f n r3.1 c.2.2.2.1) fun r4 =>
 tif (r4) (
 some (2:Int)) (
 a0a (f1c n c.2.2.2.2.2.1 (wrap .i64 (c.1-1))) fun r5 =>
 tif (!r5) (
 some (2:Int)) (
 a0a (f1c n c.2.2.2.2.1 (wrap .i64 ((wrap .i64 (c.1-1))-c.2.2.2.2.2.1))) fun r6 =>
 tif (!r6) (
 some (2:Int)) (
 a0a (f1c n c.2.2.2.2.2.2 (wrap .i64 (c.2.2.1.1-c.2.1.1))) fun r7 =>
 tif (!r7) (
 some (2:Int)) (
 some (0:Int)))))))):=by kernel_rfl
theorem v1j (n:Nat) (c:b0v):s0p (n+1) c =
 some ((decide (c.1=0))&&((decide (c.2.1.1=0))&&((decide (c.2.1.2.1=0))&&((decide (c.2.1.2.2.1=0))&&((c.2.1.2.2.2==false)&&((decide (c.2.2.1.1=0))&&((decide (c.2.2.1.2.1=0))&&((decide (c.2.2.1.2.2.1=0))&&((c.2.2.1.2.2.2==false)&&((decide (c.2.2.2.1.1=0))&&((decide (c.2.2.2.1.2=0))&&((decide (c.2.2.2.2.1=0))&&((decide (c.2.2.2.2.2.1=0))&&(decide (c.2.2.2.2.2.2=0))))))))))))))):=by kernel_rfl
theorem v1k (n:Nat) (a:b0v) (b:b0v):v1l (n+1) a b =
 a0a (q0k n a.2.2.1 b.2.1) fun r0 =>
 tif (!(r0.2=0)) (
 some ((0,((0,(0,(0,false))),((0,(0,(0,false))),((0,0),(0,(0,0)))))),r0.2)) (
 a0a (l1s n (a.2.2.2.1::(r0.1.2.2.2.1::(b.2.2.2.1::[])))) fun r1 =>
 some (((wrap .i64 (a.1+b.1)),(a.2.1,(b.2.2.1,(r1.1,((wrap .i64 (r0.1.2.2.2.2.1+(wrap .i64 (a.2.2.2.2.1+b.2.2.2.2.1)))),((wrap .i64 (r0.1.2.2.2.2.2.1+(wrap .i64 (a.2.2.2.2.2.1+b.2.2.2.2.2.1)))),(wrap .i64 (r0.1.2.2.2.2.2.2+(wrap .i64 (a.2.2.2.2.2.2+b.2.2.2.2.2.2)))))))))),r1.2)):=by kernel_rfl
theorem m1z (n:Nat) (a:(Int×Int)):t0b (n+1) a =
 tif (!(a.1=0)) (
 a0a (d0q n a.1) fun r0 =>
 some (wrap .i64 ((64:Int)+r0))) (
 a0a (d0q n a.2) fun r1 =>
 some r1):=by kernel_rfl
theorem m1a (n:Nat) (l:(List a0c)) (w:Int):n0r (n+1) l w =
 tif ((l.length:Int)=0) (
 some (2:Int)) (
 tif ((4096:Int)<(l.length:Int)) (
 some (2:Int)) (
 tif (w<1) (
 some (2:Int)) (
 tif ((1099511627776:Int)<w) (
 some (2:Int)) (
 a0a (f0x n a0b (l,(w,(l,((l.length:Int),(0,())))))) fun r0 =>
 b0x (fun y1 =>
 some (0:Int)) (fun z2 =>
 some z2) r0)))):=by kernel_rfl
theorem q0p (n f:Nat) (l:(List a0c)) (w:Int) (s23:(List a0c)) (s24:Int) (s25:Int):f0x n (f+1) (l,w,s23,s24,s25,()) =
 tif (s25<s24) (
 a0a (at? s23 s25) fun r0 =>
 a0a (q0v n r0) fun r1 =>
 tif (!r1) (
 a0a (v1w n r0.1 (l.length:Int)) fun r2 =>
 tif (!(r2=s25)) (
 some (.inr (2:Int))) (
 a0a (v0z n r0.2 w r0.1) fun r3 =>
 tif (!r3) (
 some (.inr (2:Int))) (
 f0x n f (l,(w,(s23,(s24,((wrap .i64 (s25+1)),())))))))) (
 f0x n f (l,(w,(s23,(s24,((wrap .i64 (s25+1)),()))))))) (
 some (.inl ())):=by kernel_rfl
theorem p0j (n:Nat) (s:(List a0c)) (f_:((a0c×Unit)->Option Bool)):g0k (n+1) s f_ =
 a0a (i0m n s f_) fun r0 =>
 some (decide ((0:Int)<=r0)):=by kernel_rfl
theorem w0n (n:Nat) (s:a0c) (p1:Int):l0m (n+1) s p1 =
 tif ((0:Int)<s.2.1) (
 some (decide (p1<=s.1))) (
 some false):=by kernel_rfl
theorem j1n (n:Nat) (l:(List b0d)):m0b (n+1) l =
 a0a (j0e n a0b (l,((l.length:Int),(0,())))) fun r0 =>
 b0x (fun y1 =>
 some true) (fun z2 =>
 some z2) r0:=by kernel_rfl
theorem o0q (n f:Nat) (s5:(List b0d)) (s6:Int) (s7:Int):j0e n (f+1) (s5,s6,s7,()) =
 tif (s7<s6) (
 a0a (at? s5 s7) fun r0 =>
 a0a (m0c n r0) fun r1 =>
 tif (!(r1=0)) (
 some (.inr false)) (
 j0e n f (s5,(s6,((wrap .i64 (s7+1)),()))))) (
 some (.inl ())):=by kernel_rfl
theorem r0c (n:Nat) (s:(List a0c)) (del:((a0c×Unit)->Option Bool)):h0p (n+1) s del =
 a0a (i0m n s del) fun r0 =>
 tif (r0=((-1):Int)) (
 some s) (
 a0a (c0z n a0b (s,(del,(r0,((wrap .i64 (r0+1)),()))))) fun r1 =>
 b0x (fun y2 =>
 tif ((0:Int)<=y2.2.1) (
 tif ((Int.toNat y2.2.1)<=(List.length y2.1)) (
 tif (((Int.toNat y2.2.1)+((List.length y2.1)-(Int.toNat y2.2.1)))<=(List.length y2.1)) (
 tif (((0:Int)<=y2.2.1)&&(y2.2.1<=(((List.length (Go.Flat.putRow y2.1 (Int.toNat y2.2.1) (List.replicate ((List.length y2.1)-(Int.toNat y2.2.1)) (0,(0,((0,(0,(0,false))),((0,(0,(0,false))),((0,0),(0,(0,0)))))))))):Nat):Int))) (
 some (List.take ((Int.toNat y2.2.1)-0) (Go.Flat.putRow y2.1 (Int.toNat y2.2.1) (List.replicate ((List.length y2.1)-(Int.toNat y2.2.1)) (0,(0,((0,(0,(0,false))),((0,(0,(0,false))),((0,0),(0,(0,0))))))))))) (
 none)) (
 none)) (
 none)) (
 none)) (fun z3 =>
 some z3) r1):=by kernel_rfl
theorem g0x (n f:Nat) (s:(List a0c)) (del:((a0c×Unit)->Option Bool)) (i:Int) (j:Int):c0z n (f+1) (s,del,i,j,()) =
 tif (j<(s.length:Int)) (
 a0a (at? s j) fun r0 =>
 a0a ((s)[(Int.toNat j)]?) fun r1 =>
 a0a (del (r1,())) fun r2 =>
 tif (!r2) (
 a0a (at? s i) fun r3 =>
 a0a ((s)[(Int.toNat i)]?) fun r4 =>
 c0z n f ((List.set s (Int.toNat i) r1),(del,((wrap .i64 (i+1)),((wrap .i64 (j+1)),()))))) (
 c0z n f (s,(del,(i,((wrap .i64 (j+1)),())))))) (
 some (.inl (s,(i,())))):=by kernel_rfl
theorem b1q (n:Nat) (s:(List a0c)):p0k (n+1) s =
 tif ((List.length s)=0) (
 both (
 some []) (
 tif (((0+(List.length s))*120)<=140737488355328) (
 some ([]++s)) (
 none))) (
 tif (((0+(List.length s))*120)<=140737488355328) (
 some ([]++s)) (
 none)):=by kernel_rfl
theorem q1x (n:Nat) (s:a0c):q0v (n+1) s =
 some ((decide (s.1=0))&&((decide (s.2.1=0))&&((decide (s.2.2.1.1=0))&&((decide (s.2.2.1.2.1=0))&&((decide (s.2.2.1.2.2.1=0))&&((s.2.2.1.2.2.2==false)&&((decide (s.2.2.2.1.1=0))&&((decide (s.2.2.2.1.2.1=0))&&((decide (s.2.2.2.1.2.2.1=0))&&((s.2.2.2.1.2.2.2==false)&&((decide (s.2.2.2.2.1.1=0))&&((decide (s.2.2.2.2.1.2=0))&&((decide (s.2.2.2.2.2.1=0))&&((decide (s.2.2.2.2.2.2.1=0))&&(decide (s.2.2.2.2.2.2.2=0)))))))))))))))):=by kernel_rfl
theorem m0x (n:Nat) (x:(List a0c)) (cmp:((a0c×(a0c×Unit))->Option Int)):f0k (n+1) x cmp =
 a0a (h2i n x (x.length:Int) cmp) fun r0 =>
 some r0:=by kernel_rfl
theorem m1b (n:Nat) (a:a0c) (b:a0c):s0u (n+1) a b =
 a0a (i0v n a.1 b.1) fun r0 =>
 some r0:=by kernel_rfl
theorem t0q (n:Nat) (x:Int) (y:Int):i0v (n+1) x y =
 a0a (m0d n x) fun r0 =>
 a0a (m0d n y) fun r1 =>
 tif (r0) (
 tif (r1) (
 some (0:Int)) (
 some ((-1):Int))) (
 tif (r1) (
 some (1:Int)) (
 tif (x<y) (
 some ((-1):Int)) (
 tif (y<x) (
 some (1:Int)) (
 some (0:Int))))):=by kernel_rfl
theorem q1a (n:Nat) (c:b0v):a1e (n+1) c =
 tif (c.1=1) (
 tif ((decide (c.2.1.1=c.2.2.1.1))&&((decide (c.2.1.2.1=c.2.2.1.2.1))&&((decide (c.2.1.2.2.1=c.2.2.1.2.2.1))&&(c.2.1.2.2.2==c.2.2.1.2.2.2)))) (
 a0a (m0c n c.2.1) fun r0 =>
 some (decide (r0=0))) (
 some false)) (
 tif ((1:Int)<c.1) (
 a0a (m0r n c.2.1 c.2.2.1) fun r1 =>
 tif (r1) (
 some (decide ((wrap .i64 (c.1-1))<=(wrap .i64 (c.2.2.1.1-c.2.1.1))))) (
 some false)) (
 some false)):=by kernel_rfl
theorem f2w (n:Nat) (n_:Int) (most:Int):f1c (n+1) n_ most =
 tif ((0:Int)<=n_) (
 some (decide (n_<=most))) (
 some false):=by kernel_rfl
theorem b1u (n:Nat) (p:b0d) (c:b0d):q0k (n+1) p c =
 a0a (m0b n (p::(c::[]))) fun r0 =>
 tif (!r0) (
 some ((0,((0,(0,(0,false))),((0,(0,(0,false))),((0,0),(0,(0,0)))))),2)) (
 tif (c.1<=p.1) (
 some ((0,((0,(0,(0,false))),((0,(0,(0,false))),((0,0),(0,(0,0)))))),9)) (
 tif (c.2.2.2) (
 some ((0,((0,(0,(0,false))),((0,(0,(0,false))),((0,0),(0,(0,0)))))),0)) (
 tif (p.1<c.2.2.1) (
 a0a (t0l n c (wrap .i64 (c.1-c.2.2.1))) fun r1 =>
 some (r1,0)) (
 tif (p.2.2.2) (
 some ((0,((0,(0,(0,false))),((0,(0,(0,false))),((0,0),(0,(1,0)))))),0)) (
 tif (c.2.1<p.2.1) (
 a0a (t0l n c (wrap .i64 (c.1-p.1))) fun r2 =>
 some (r2,0)) (
 a0a (q0u n (wrap .u64 (c.2.1-p.2.1))) fun r3 =>
 some ((0,((0,(0,(0,false))),((0,(0,(0,false))),(r3,(0,(0,(wrap .i64 (c.1-p.1)))))))),0))))))):=by kernel_rfl
theorem v1s (n:Nat) (l:(List (Int×Int))):l1s (n+1) l =
 a0a (o0z n a0b ((0,0),((0,0),(l,((l.length:Int),(0,())))))) fun r0 =>
 b0x (fun y1 =>
 some (y1.2.1,0)) (fun z2 =>
 some z2) r0:=by kernel_rfl
theorem t0t (n f:Nat) (s2:(Int×Int)) (a:(Int×Int)) (s9:(List (Int×Int))) (s10:Int) (s11:Int):o0z n (f+1) (s2,a,s9,s10,s11,()) =
 tif (s11<s10) (
 a0a (at? s9 s11) fun r0 =>
 a0a (l1u n a r0) fun r1 =>
 tif (!(r1.2=0)) (
 some (.inr ((0,0),r1.2))) (
 o0z n f (s2,(r1.1,(s9,(s10,((wrap .i64 (s11+1)),()))))))) (
 some (.inl (s2,(a,())))):=by kernel_rfl
theorem y0a (n:Nat) (x:Int):d0q (n+1) x =
 tif ((4294967296:Int)<=x) (
 tif ((65536:Int)<=(shrI .u64 x (32:Int))) (
 tif ((256:Int)<=(shrI .u64 (shrI .u64 x (32:Int)) (16:Int))) (
 a0a (at? g0f (wrap .u8 (shrI .u64 (shrI .u64 (shrI .u64 x (32:Int)) (16:Int)) (8:Int)))) fun r0 =>
 some (wrap .i64 ((56:Int)+(wrap .i64 (((UInt8.toNat r0):Nat):Int))))) (
 a0a (at? g0f (wrap .u8 (shrI .u64 (shrI .u64 x (32:Int)) (16:Int)))) fun r1 =>
 some (wrap .i64 ((48:Int)+(wrap .i64 (((UInt8.toNat r1):Nat):Int)))))) (
 tif ((256:Int)<=(shrI .u64 x (32:Int))) (
 a0a (at? g0f (wrap .u8 (shrI .u64 (shrI .u64 x (32:Int)) (8:Int)))) fun r2 =>
 some (wrap .i64 ((40:Int)+(wrap .i64 (((UInt8.toNat r2):Nat):Int))))) (
 a0a (at? g0f (wrap .u8 (shrI .u64 x (32:Int)))) fun r3 =>
 some (wrap .i64 ((32:Int)+(wrap .i64 (((UInt8.toNat r3):Nat):Int))))))) (
 tif ((65536:Int)<=x) (
 tif ((256:Int)<=(shrI .u64 x (16:Int))) (
 a0a (at? g0f (wrap .u8 (shrI .u64 (shrI .u64 x (16:Int)) (8:Int)))) fun r4 =>
 some (wrap .i64 ((24:Int)+(wrap .i64 (((UInt8.toNat r4):Nat):Int))))) (
 a0a (at? g0f (wrap .u8 (shrI .u64 x (16:Int)))) fun r5 =>
 some (wrap .i64 ((16:Int)+(wrap .i64 (((UInt8.toNat r5):Nat):Int)))))) (
 tif ((256:Int)<=x) (
 a0a (at? g0f (wrap .u8 (shrI .u64 x (8:Int)))) fun r6 =>
 some (wrap .i64 ((8:Int)+(wrap .i64 (((UInt8.toNat r6):Nat):Int))))) (
 a0a (at? g0f (wrap .u8 x)) fun r7 =>
 some (wrap .i64 ((0:Int)+(wrap .i64 (((UInt8.toNat r7):Nat):Int))))))):=by kernel_rfl
theorem c2p (n:Nat) (i:Int) (n_:Int):v1w (n+1) i n_ =
 tif (i<0) (
 some (0:Int)) (
 tif (n_<1) (
 some (0:Int)) (
 tif (n_=0) (
 none) (
 some (Int.tmod i n_)))):=by kernel_rfl
theorem j0y (n:Nat) (s:(List a0c)) (f_:((a0c×Unit)->Option Bool)):i0m (n+1) s f_ =
 a0a (d0e n a0b (s,(f_,((s.length:Int),(0,()))))) fun r0 =>
 b0x (fun y1 =>
 some ((-1):Int)) (fun z2 =>
 some z2) r0:=by kernel_rfl
theorem h0m (n f:Nat) (s:(List a0c)) (f_:((a0c×Unit)->Option Bool)) (s7:Int) (s8:Int):d0e n (f+1) (s,f_,s7,s8,()) =
 tif (s8<s7) (
 a0a (at? s s8) fun r0 =>
 a0a (f_ (r0,())) fun r1 =>
 tif (r1) (
 some (.inr s8)) (
 d0e n f (s,(f_,(s7,((wrap .i64 (s8+1)),())))))) (
 some (.inl ())):=by kernel_rfl
theorem d2i (n:Nat) (data:(List a0c)) (n_:Int) (cmp:((a0c×(a0c×Unit))->Option Int)):h2i (n+1) data n_ cmp =
 a0a (n0t n a0b (data,(n_,(cmp,(20,(0,(20,()))))))) fun r0 =>
 b0x (fun y1 =>
 a0a (m1o n y1.1 y1.2.2.2.2.1 y1.2.1 y1.2.2.1) fun r2 =>
 a0a (k0r n a0b (r2,(y1.2.1,(y1.2.2.1,(y1.2.2.2.1,()))))) fun r3 =>
 b0x (fun y4 =>
 some y4.1) (fun z5 =>
 some z5) r3) (fun z6 =>
 some z6) r0:=by kernel_rfl
theorem w0k (n f:Nat) (data:(List a0c)) (n_:Int) (cmp:((a0c×(a0c×Unit))->Option Int)) (blockSize:Int) (a:Int) (b:Int):n0t n (f+1) (data,n_,cmp,blockSize,a,b,()) =
 tif (b<=n_) (
 a0a (m1o n data a b cmp) fun r0 =>
 n0t n f (r0,(n_,(cmp,(blockSize,(b,((wrap .i64 (b+blockSize)),()))))))) (
 some (.inl (data,(n_,(cmp,(blockSize,(a,()))))))):=by kernel_rfl
theorem w0j (n f:Nat) (data:(List a0c)) (n_:Int) (cmp:((a0c×(a0c×Unit))->Option Int)) (blockSize:Int):k0r n (f+1) (data,n_,cmp,blockSize,()) =
 tif (blockSize<n_) (
 a0a (s0y n a0b (data,(n_,(cmp,(blockSize,(0,((wrap .i64 ((2:Int)*blockSize)),()))))))) fun r0 =>
 b0x (fun y1 =>
 tif ((wrap .i64 (y1.2.2.2.2.1+y1.2.2.2.1))<y1.2.1) (
 a0a (b0z n y1.1 y1.2.2.2.2.1 (wrap .i64 (y1.2.2.2.2.1+y1.2.2.2.1)) y1.2.1 y1.2.2.1) fun r2 =>
 k0r n f (r2,(y1.2.1,(y1.2.2.1,((wrap .i64 (y1.2.2.2.1*2)),()))))) (
 k0r n f (y1.1,(y1.2.1,(y1.2.2.1,((wrap .i64 (y1.2.2.2.1*2)),())))))) (fun z3 =>
 some (.inr z3)) r0) (
 some (.inl (data,()))):=by kernel_rfl
theorem w0i (n f:Nat) (data:(List a0c)) (n_:Int) (cmp:((a0c×(a0c×Unit))->Option Int)) (blockSize:Int) (a:Int) (b:Int):s0y n (f+1) (data,n_,cmp,blockSize,a,b,()) =
 tif (b<=n_) (
 a0a (b0z n data a (wrap .i64 (a+blockSize)) b cmp) fun r0 =>
 s0y n f (r0,(n_,(cmp,(blockSize,(b,((wrap .i64 (b+(wrap .i64 ((2:Int)*blockSize)))),()))))))) (
 some (.inl (data,(n_,(cmp,(blockSize,(a,()))))))):=by kernel_rfl
theorem m0s (n:Nat) (x:Int):m0d (n+1) x =
 some (!(decide (x=x))):=by kernel_rfl
theorem p1k (n:Nat) (c:b0d) (seen:Int):t0l (n+1) c seen =
 a0a (q0u n c.2.1) fun r0 =>
 some (0,((0,(0,(0,false))),((0,(0,(0,false))),(r0,(1,(0,seen)))))):=by kernel_rfl
theorem v1u (n:Nat) (a:(Int×Int)) (b:(Int×Int)):l1u (n+1) a b =
 tif (((0:Int)<=a.2)&&(((0:Int)<=b.2)&&true)) (
 tif (((0:Int)<=a.1)&&(((0:Int)<=b.1)&&(((0:Int)<=(((a.2+b.2)+0) / (18446744073709551616:Int)))&&((((a.2+b.2)+0) / (18446744073709551616:Int))<=1)))) (
 a0a (q0t n ((((a.1+b.1)+(((a.2+b.2)+0) / (18446744073709551616:Int))) % (18446744073709551616:Int)),(((a.2+b.2)+0) % (18446744073709551616:Int))) (((a.1+b.1)+(((a.2+b.2)+0) / (18446744073709551616:Int))) / (18446744073709551616:Int))) fun r0 =>
 some r0) (
 none)) (
 none):=by kernel_rfl
theorem d2k (n:Nat) (data:(List a0c)) (a:Int) (b:Int) (cmp:((a0c×(a0c×Unit))->Option Int)):m1o (n+1) data a b cmp =
 a0a (t0a n a0b (data,(a,(b,(cmp,((wrap .i64 (a+1)),())))))) fun r0 =>
 b0x (fun y1 =>
 some y1.1) (fun z2 =>
 some z2) r0:=by kernel_rfl
theorem w0m (n f:Nat) (data:(List a0c)) (a:Int) (b:Int) (cmp:((a0c×(a0c×Unit))->Option Int)) (i:Int):t0a n (f+1) (data,a,b,cmp,i,()) =
 tif (i<b) (
 a0a (s0z n a0b (data,(a,(b,(cmp,(i,(i,()))))))) fun r0 =>
 b0x (fun y1 =>
 t0a n f (y1.1,(y1.2.1,(y1.2.2.1,(y1.2.2.2.1,((wrap .i64 (y1.2.2.2.2.1+1)),())))))) (fun z2 =>
 some (.inr z2)) r0) (
 some (.inl (data,()))):=by kernel_rfl
theorem w0l (n f:Nat) (data:(List a0c)) (a:Int) (b:Int) (cmp:((a0c×(a0c×Unit))->Option Int)) (i:Int) (j:Int):s0z n (f+1) (data,a,b,cmp,i,j,()) =
 tif (a<j) (
 a0a (at? data j) fun r0 =>
 a0a ((data)[(Int.toNat j)]?) fun r1 =>
 a0a (at? data (wrap .i64 (j-1))) fun r2 =>
 a0a ((data)[(Int.toNat (wrap .i64 (j-1)))]?) fun r3 =>
 a0a (cmp (r1,(r3,()))) fun r4 =>
 tif (r4<0) (
 a0a (at? data (wrap .i64 (j-1))) fun r5 =>
 a0a ((data)[(Int.toNat (wrap .i64 (j-1)))]?) fun r6 =>
 a0a (at? data j) fun r7 =>
 a0a ((data)[(Int.toNat j)]?) fun r8 =>
 a0a (at? data j) fun r9 =>
 a0a ((data)[(Int.toNat j)]?) fun r10 =>
 a0a (at? (List.set data (Int.toNat j) r6) (wrap .i64 (j-1))) fun r11 =>
 a0a ((List.set data (Int.toNat j) r6)[(Int.toNat (wrap .i64 (j-1)))]?) fun r12 =>
 s0z n f ((List.set (List.set data (Int.toNat j) r6) (Int.toNat (wrap .i64 (j-1))) r8),(a,(b,(cmp,(i,((wrap .i64 (j-1)),()))))))) (
 some (.inl (data,(a,(b,(cmp,(i,())))))))) (
 some (.inl (data,(a,(b,(cmp,(i,()))))))):=by kernel_rfl
theorem d2g (n:Nat) (data:(List a0c)) (a:Int) (m:Int) (b:Int) (cmp:((a0c×(a0c×Unit))->Option Int)):b0z (n+1) data a m b cmp =
 tif ((wrap .i64 (m-a))=1) (
 a0a (n0s n a0b (data,(a,(cmp,(m,(b,())))))) fun r0 =>
 b0x (fun y1 =>
 a0a (s0w n a0b (y1.1,(y1.2.2.1,(y1.2.1,())))) fun r2 =>
 b0x (fun y3 =>
 some y3.1) (fun z4 =>
 some z4) r2) (fun z5 =>
 some z5) r0) (
 tif ((wrap .i64 (b-m))=1) (
 a0a (l0k n a0b (data,(m,(cmp,(a,(m,())))))) fun r6 =>
 b0x (fun y7 =>
 a0a (p0h n a0b (y7.1,(y7.2.2.1,(y7.2.1,())))) fun r8 =>
 b0x (fun y9 =>
 some y9.1) (fun z10 =>
 some z10) r8) (fun z11 =>
 some z11) r6) (
 tif ((wrap .i64 (shrI .u64 (wrap .u64 (wrap .i64 (a+b))) (1:Int)))<m) (
 a0a (i0l n a0b (data,(a,(m,(b,(cmp,((wrap .i64 (shrI .u64 (wrap .u64 (wrap .i64 (a+b))) (1:Int))),((wrap .i64 ((wrap .i64 (shrI .u64 (wrap .u64 (wrap .i64 (a+b))) (1:Int)))+m)),((wrap .i64 ((wrap .i64 ((wrap .i64 (shrI .u64 (wrap .u64 (wrap .i64 (a+b))) (1:Int)))+m))-b)),((wrap .i64 (shrI .u64 (wrap .u64 (wrap .i64 (a+b))) (1:Int))),((wrap .i64 ((wrap .i64 ((wrap .i64 (shrI .u64 (wrap .u64 (wrap .i64 (a+b))) (1:Int)))+m))-1)),()))))))))))) fun r12 =>
 b0x (fun y13 =>
 tif (y13.2.2.2.2.2.2.2.1<y13.2.2.1) (
 tif (y13.2.2.1<(wrap .i64 (y13.2.2.2.2.2.2.1-y13.2.2.2.2.2.2.2.1))) (
 a0a (d1g n y13.1 y13.2.2.2.2.2.2.2.1 y13.2.2.1 (wrap .i64 (y13.2.2.2.2.2.2.1-y13.2.2.2.2.2.2.2.1)) y13.2.2.2.2.1) fun r14 =>
 tif (y13.2.1<y13.2.2.2.2.2.2.2.1) (
 tif (y13.2.2.2.2.2.2.2.1<y13.2.2.2.2.2.1) (
 a0a (b0z n r14 y13.2.1 y13.2.2.2.2.2.2.2.1 y13.2.2.2.2.2.1 y13.2.2.2.2.1) fun r15 =>
 tif (y13.2.2.2.2.2.1<(wrap .i64 (y13.2.2.2.2.2.2.1-y13.2.2.2.2.2.2.2.1))) (
 tif ((wrap .i64 (y13.2.2.2.2.2.2.1-y13.2.2.2.2.2.2.2.1))<y13.2.2.2.1) (
 a0a (b0z n r15 y13.2.2.2.2.2.1 (wrap .i64 (y13.2.2.2.2.2.2.1-y13.2.2.2.2.2.2.2.1)) y13.2.2.2.1 y13.2.2.2.2.1) fun r16 =>
 some r16) (
 some r15)) (
 some r15)) (
 tif (y13.2.2.2.2.2.1<(wrap .i64 (y13.2.2.2.2.2.2.1-y13.2.2.2.2.2.2.2.1))) (
 tif ((wrap .i64 (y13.2.2.2.2.2.2.1-y13.2.2.2.2.2.2.2.1))<y13.2.2.2.1) (
 a0a (b0z n r14 y13.2.2.2.2.2.1 (wrap .i64 (y13.2.2.2.2.2.2.1-y13.2.2.2.2.2.2.2.1)) y13.2.2.2.1 y13.2.2.2.2.1) fun r17 =>
 some r17) (
 some r14)) (
 some r14))) (
 tif (y13.2.2.2.2.2.1<(wrap .i64 (y13.2.2.2.2.2.2.1-y13.2.2.2.2.2.2.2.1))) (
 tif ((wrap .i64 (y13.2.2.2.2.2.2.1-y13.2.2.2.2.2.2.2.1))<y13.2.2.2.1) (
 a0a (b0z n r14 y13.2.2.2.2.2.1 (wrap .i64 (y13.2.2.2.2.2.2.1-y13.2.2.2.2.2.2.2.1)) y13.2.2.2.1 y13.2.2.2.2.1) fun r18 =>
 some r18) (
 some r14)) (
 some r14))) (
 tif (y13.2.1<y13.2.2.2.2.2.2.2.1) (
 tif (y13.2.2.2.2.2.2.2.1<y13.2.2.2.2.2.1) (
 a0a (b0z n y13.1 y13.2.1 y13.2.2.2.2.2.2.2.1 y13.2.2.2.2.2.1 y13.2.2.2.2.1) fun r19 =>
 tif (y13.2.2.2.2.2.1<(wrap .i64 (y13.2.2.2.2.2.2.1-y13.2.2.2.2.2.2.2.1))) (
 tif ((wrap .i64 (y13.2.2.2.2.2.2.1-y13.2.2.2.2.2.2.2.1))<y13.2.2.2.1) (
 a0a (b0z n r19 y13.2.2.2.2.2.1 (wrap .i64 (y13.2.2.2.2.2.2.1-y13.2.2.2.2.2.2.2.1)) y13.2.2.2.1 y13.2.2.2.2.1) fun r20 =>
 some r20) (
 some r19)) (
 some r19)) (
 tif (y13.2.2.2.2.2.1<(wrap .i64 (y13.2.2.2.2.2.2.1-y13.2.2.2.2.2.2.2.1))) (
 tif ((wrap .i64 (y13.2.2.2.2.2.2.1-y13.2.2.2.2.2.2.2.1))<y13.2.2.2.1) (
 a0a (b0z n y13.1 y13.2.2.2.2.2.1 (wrap .i64 (y13.2.2.2.2.2.2.1-y13.2.2.2.2.2.2.2.1)) y13.2.2.2.1 y13.2.2.2.2.1) fun r21 =>
 some r21) (
 some y13.1)) (
 some y13.1))) (
 tif (y13.2.2.2.2.2.1<(wrap .i64 (y13.2.2.2.2.2.2.1-y13.2.2.2.2.2.2.2.1))) (
 tif ((wrap .i64 (y13.2.2.2.2.2.2.1-y13.2.2.2.2.2.2.2.1))<y13.2.2.2.1) (
 a0a (b0z n y13.1 y13.2.2.2.2.2.1 (wrap .i64 (y13.2.2.2.2.2.2.1-y13.2.2.2.2.2.2.2.1)) y13.2.2.2.1 y13.2.2.2.2.1) fun r22 =>
 some r22) (
 some y13.1)) (
 some y13.1)))) (
 tif (y13.2.1<y13.2.2.2.2.2.2.2.1) (
 tif (y13.2.2.2.2.2.2.2.1<y13.2.2.2.2.2.1) (
 a0a (b0z n y13.1 y13.2.1 y13.2.2.2.2.2.2.2.1 y13.2.2.2.2.2.1 y13.2.2.2.2.1) fun r23 =>
 tif (y13.2.2.2.2.2.1<(wrap .i64 (y13.2.2.2.2.2.2.1-y13.2.2.2.2.2.2.2.1))) (
 tif ((wrap .i64 (y13.2.2.2.2.2.2.1-y13.2.2.2.2.2.2.2.1))<y13.2.2.2.1) (
 a0a (b0z n r23 y13.2.2.2.2.2.1 (wrap .i64 (y13.2.2.2.2.2.2.1-y13.2.2.2.2.2.2.2.1)) y13.2.2.2.1 y13.2.2.2.2.1) fun r24 =>
 some r24) (
 some r23)) (
 some r23)) (
 tif (y13.2.2.2.2.2.1<(wrap .i64 (y13.2.2.2.2.2.2.1-y13.2.2.2.2.2.2.2.1))) (
 tif ((wrap .i64 (y13.2.2.2.2.2.2.1-y13.2.2.2.2.2.2.2.1))<y13.2.2.2.1) (
 a0a (b0z n y13.1 y13.2.2.2.2.2.1 (wrap .i64 (y13.2.2.2.2.2.2.1-y13.2.2.2.2.2.2.2.1)) y13.2.2.2.1 y13.2.2.2.2.1) fun r25 =>
 some r25) (
 some y13.1)) (
 some y13.1))) (
 tif (y13.2.2.2.2.2.1<(wrap .i64 (y13.2.2.2.2.2.2.1-y13.2.2.2.2.2.2.2.1))) (
 tif ((wrap .i64 (y13.2.2.2.2.2.2.1-y13.2.2.2.2.2.2.2.1))<y13.2.2.2.1) (
 a0a (b0z n y13.1 y13.2.2.2.2.2.1 (wrap .i64 (y13.2.2.2.2.2.2.1-y13.2.2.2.2.2.2.2.1)) y13.2.2.2.1 y13.2.2.2.2.1) fun r26 =>
 some r26) (
 some y13.1)) (
 some y13.1)))) (fun z27 =>
 some z27) r12) (
 a0a (i0l n a0b (data,(a,(m,(b,(cmp,((wrap .i64 (shrI .u64 (wrap .u64 (wrap .i64 (a+b))) (1:Int))),((wrap .i64 ((wrap .i64 (shrI .u64 (wrap .u64 (wrap .i64 (a+b))) (1:Int)))+m)),(a,(m,((wrap .i64 ((wrap .i64 ((wrap .i64 (shrI .u64 (wrap .u64 (wrap .i64 (a+b))) (1:Int)))+m))-1)),()))))))))))) fun r28 =>
 b0x (fun y29 =>
 tif (y29.2.2.2.2.2.2.2.1<y29.2.2.1) (
 tif (y29.2.2.1<(wrap .i64 (y29.2.2.2.2.2.2.1-y29.2.2.2.2.2.2.2.1))) (
 a0a (d1g n y29.1 y29.2.2.2.2.2.2.2.1 y29.2.2.1 (wrap .i64 (y29.2.2.2.2.2.2.1-y29.2.2.2.2.2.2.2.1)) y29.2.2.2.2.1) fun r30 =>
 tif (y29.2.1<y29.2.2.2.2.2.2.2.1) (
 tif (y29.2.2.2.2.2.2.2.1<y29.2.2.2.2.2.1) (
 a0a (b0z n r30 y29.2.1 y29.2.2.2.2.2.2.2.1 y29.2.2.2.2.2.1 y29.2.2.2.2.1) fun r31 =>
 tif (y29.2.2.2.2.2.1<(wrap .i64 (y29.2.2.2.2.2.2.1-y29.2.2.2.2.2.2.2.1))) (
 tif ((wrap .i64 (y29.2.2.2.2.2.2.1-y29.2.2.2.2.2.2.2.1))<y29.2.2.2.1) (
 a0a (b0z n r31 y29.2.2.2.2.2.1 (wrap .i64 (y29.2.2.2.2.2.2.1-y29.2.2.2.2.2.2.2.1)) y29.2.2.2.1 y29.2.2.2.2.1) fun r32 =>
 some r32) (
 some r31)) (
 some r31)) (
 tif (y29.2.2.2.2.2.1<(wrap .i64 (y29.2.2.2.2.2.2.1-y29.2.2.2.2.2.2.2.1))) (
 tif ((wrap .i64 (y29.2.2.2.2.2.2.1-y29.2.2.2.2.2.2.2.1))<y29.2.2.2.1) (
 a0a (b0z n r30 y29.2.2.2.2.2.1 (wrap .i64 (y29.2.2.2.2.2.2.1-y29.2.2.2.2.2.2.2.1)) y29.2.2.2.1 y29.2.2.2.2.1) fun r33 =>
 some r33) (
 some r30)) (
 some r30))) (
 tif (y29.2.2.2.2.2.1<(wrap .i64 (y29.2.2.2.2.2.2.1-y29.2.2.2.2.2.2.2.1))) (
 tif ((wrap .i64 (y29.2.2.2.2.2.2.1-y29.2.2.2.2.2.2.2.1))<y29.2.2.2.1) (
 a0a (b0z n r30 y29.2.2.2.2.2.1 (wrap .i64 (y29.2.2.2.2.2.2.1-y29.2.2.2.2.2.2.2.1)) y29.2.2.2.1 y29.2.2.2.2.1) fun r34 =>
 some r34) (
 some r30)) (
 some r30))) (
 tif (y29.2.1<y29.2.2.2.2.2.2.2.1) (
 tif (y29.2.2.2.2.2.2.2.1<y29.2.2.2.2.2.1) (
 a0a (b0z n y29.1 y29.2.1 y29.2.2.2.2.2.2.2.1 y29.2.2.2.2.2.1 y29.2.2.2.2.1) fun r35 =>
 tif (y29.2.2.2.2.2.1<(wrap .i64 (y29.2.2.2.2.2.2.1-y29.2.2.2.2.2.2.2.1))) (
 tif ((wrap .i64 (y29.2.2.2.2.2.2.1-y29.2.2.2.2.2.2.2.1))<y29.2.2.2.1) (
 a0a (b0z n r35 y29.2.2.2.2.2.1 (wrap .i64 (y29.2.2.2.2.2.2.1-y29.2.2.2.2.2.2.2.1)) y29.2.2.2.1 y29.2.2.2.2.1) fun r36 =>
 some r36) (
 some r35)) (
 some r35)) (
 tif (y29.2.2.2.2.2.1<(wrap .i64 (y29.2.2.2.2.2.2.1-y29.2.2.2.2.2.2.2.1))) (
 tif ((wrap .i64 (y29.2.2.2.2.2.2.1-y29.2.2.2.2.2.2.2.1))<y29.2.2.2.1) (
 a0a (b0z n y29.1 y29.2.2.2.2.2.1 (wrap .i64 (y29.2.2.2.2.2.2.1-y29.2.2.2.2.2.2.2.1)) y29.2.2.2.1 y29.2.2.2.2.1) fun r37 =>
 some r37) (
 some y29.1)) (
 some y29.1))) (
 tif (y29.2.2.2.2.2.1<(wrap .i64 (y29.2.2.2.2.2.2.1-y29.2.2.2.2.2.2.2.1))) (
 tif ((wrap .i64 (y29.2.2.2.2.2.2.1-y29.2.2.2.2.2.2.2.1))<y29.2.2.2.1) (
 a0a (b0z n y29.1 y29.2.2.2.2.2.1 (wrap .i64 (y29.2.2.2.2.2.2.1-y29.2.2.2.2.2.2.2.1)) y29.2.2.2.1 y29.2.2.2.2.1) fun r38 =>
 some r38) (
 some y29.1)) (
 some y29.1)))) (
 tif (y29.2.1<y29.2.2.2.2.2.2.2.1) (
 tif (y29.2.2.2.2.2.2.2.1<y29.2.2.2.2.2.1) (
 a0a (b0z n y29.1 y29.2.1 y29.2.2.2.2.2.2.2.1 y29.2.2.2.2.2.1 y29.2.2.2.2.1) fun r39 =>
 tif (y29.2.2.2.2.2.1<(wrap .i64 (y29.2.2.2.2.2.2.1-y29.2.2.2.2.2.2.2.1))) (
 tif ((wrap .i64 (y29.2.2.2.2.2.2.1-y29.2.2.2.2.2.2.2.1))<y29.2.2.2.1) (
 a0a (b0z n r39 y29.2.2.2.2.2.1 (wrap .i64 (y29.2.2.2.2.2.2.1-y29.2.2.2.2.2.2.2.1)) y29.2.2.2.1 y29.2.2.2.2.1) fun r40 =>
 some r40) (
 some r39)) (
 some r39)) (
 tif (y29.2.2.2.2.2.1<(wrap .i64 (y29.2.2.2.2.2.2.1-y29.2.2.2.2.2.2.2.1))) (
 tif ((wrap .i64 (y29.2.2.2.2.2.2.1-y29.2.2.2.2.2.2.2.1))<y29.2.2.2.1) (
 a0a (b0z n y29.1 y29.2.2.2.2.2.1 (wrap .i64 (y29.2.2.2.2.2.2.1-y29.2.2.2.2.2.2.2.1)) y29.2.2.2.1 y29.2.2.2.2.1) fun r41 =>
 some r41) (
 some y29.1)) (
 some y29.1))) (
 tif (y29.2.2.2.2.2.1<(wrap .i64 (y29.2.2.2.2.2.2.1-y29.2.2.2.2.2.2.2.1))) (
 tif ((wrap .i64 (y29.2.2.2.2.2.2.1-y29.2.2.2.2.2.2.2.1))<y29.2.2.2.1) (
 a0a (b0z n y29.1 y29.2.2.2.2.2.1 (wrap .i64 (y29.2.2.2.2.2.2.1-y29.2.2.2.2.2.2.2.1)) y29.2.2.2.1 y29.2.2.2.2.1) fun r42 =>
 some r42) (
 some y29.1)) (
 some y29.1)))) (fun z43 =>
 some z43) r28))):=by kernel_rfl
theorem w0g (n f:Nat) (data:(List a0c)) (a:Int) (cmp:((a0c×(a0c×Unit))->Option Int)) (i:Int) (j:Int):n0s n (f+1) (data,a,cmp,i,j,()) =
 tif (i<j) (
 a0a (at? data (wrap .i64 (shrI .u64 (wrap .u64 (wrap .i64 (i+j))) (1:Int)))) fun r0 =>
 a0a ((data)[(Int.toNat (wrap .i64 (shrI .u64 (wrap .u64 (wrap .i64 (i+j))) (1:Int))))]?) fun r1 =>
 a0a (at? data a) fun r2 =>
 a0a ((data)[(Int.toNat a)]?) fun r3 =>
 a0a (cmp (r1,(r3,()))) fun r4 =>
 tif (r4<0) (
 n0s n f (data,(a,(cmp,((wrap .i64 ((wrap .i64 (shrI .u64 (wrap .u64 (wrap .i64 (i+j))) (1:Int)))+1)),(j,())))))) (
 n0s n f (data,(a,(cmp,(i,((wrap .i64 (shrI .u64 (wrap .u64 (wrap .i64 (i+j))) (1:Int))),()))))))) (
 some (.inl (data,(a,(i,()))))):=by kernel_rfl
theorem w0f (n f:Nat) (data:(List a0c)) (i:Int) (k:Int):s0w n (f+1) (data,i,k,()) =
 tif (k<(wrap .i64 (i-1))) (
 a0a (at? data (wrap .i64 (k+1))) fun r0 =>
 a0a ((data)[(Int.toNat (wrap .i64 (k+1)))]?) fun r1 =>
 a0a (at? data k) fun r2 =>
 a0a ((data)[(Int.toNat k)]?) fun r3 =>
 a0a (at? data k) fun r4 =>
 a0a ((data)[(Int.toNat k)]?) fun r5 =>
 a0a (at? (List.set data (Int.toNat k) r1) (wrap .i64 (k+1))) fun r6 =>
 a0a ((List.set data (Int.toNat k) r1)[(Int.toNat (wrap .i64 (k+1)))]?) fun r7 =>
 s0w n f ((List.set (List.set data (Int.toNat k) r1) (Int.toNat (wrap .i64 (k+1))) r3),(i,((wrap .i64 (k+1)),())))) (
 some (.inl (data,()))):=by kernel_rfl
theorem t0y (n f:Nat) (data:(List a0c)) (m:Int) (cmp:((a0c×(a0c×Unit))->Option Int)) (i_:Int) (j_:Int):l0k n (f+1) (data,m,cmp,i_,j_,()) =
 tif (i_<j_) (
 a0a (at? data m) fun r0 =>
 a0a ((data)[(Int.toNat m)]?) fun r1 =>
 a0a (at? data (wrap .i64 (shrI .u64 (wrap .u64 (wrap .i64 (i_+j_))) (1:Int)))) fun r2 =>
 a0a ((data)[(Int.toNat (wrap .i64 (shrI .u64 (wrap .u64 (wrap .i64 (i_+j_))) (1:Int))))]?) fun r3 =>
 a0a (cmp (r1,(r3,()))) fun r4 =>
 tif (!(r4<0)) (
 l0k n f (data,(m,(cmp,((wrap .i64 ((wrap .i64 (shrI .u64 (wrap .u64 (wrap .i64 (i_+j_))) (1:Int)))+1)),(j_,())))))) (
 l0k n f (data,(m,(cmp,(i_,((wrap .i64 (shrI .u64 (wrap .u64 (wrap .i64 (i_+j_))) (1:Int))),()))))))) (
 some (.inl (data,(m,(i_,()))))):=by kernel_rfl
theorem t0x (n f:Nat) (data:(List a0c)) (i_:Int) (k_:Int):p0h n (f+1) (data,i_,k_,()) =
 tif (i_<k_) (
 a0a (at? data (wrap .i64 (k_-1))) fun r0 =>
 a0a ((data)[(Int.toNat (wrap .i64 (k_-1)))]?) fun r1 =>
 a0a (at? data k_) fun r2 =>
 a0a ((data)[(Int.toNat k_)]?) fun r3 =>
 a0a (at? data k_) fun r4 =>
 a0a ((data)[(Int.toNat k_)]?) fun r5 =>
 a0a (at? (List.set data (Int.toNat k_) r1) (wrap .i64 (k_-1))) fun r6 =>
 a0a ((List.set data (Int.toNat k_) r1)[(Int.toNat (wrap .i64 (k_-1)))]?) fun r7 =>
 p0h n f ((List.set (List.set data (Int.toNat k_) r1) (Int.toNat (wrap .i64 (k_-1))) r3),(i_,((wrap .i64 (k_-1)),())))) (
 some (.inl (data,()))):=by kernel_rfl
theorem t0w (n f:Nat) (data:(List a0c)) (a:Int) (m:Int) (b:Int) (cmp:((a0c×(a0c×Unit))->Option Int)) (mid:Int) (n_:Int) (start:Int) (r:Int) (p:Int):i0l n (f+1) (data,a,m,b,cmp,mid,n_,start,r,p,()) =
 tif (start<r) (
 a0a (at? data (wrap .i64 (p-(wrap .i64 (shrI .u64 (wrap .u64 (wrap .i64 (start+r))) (1:Int)))))) fun r0 =>
 a0a ((data)[(Int.toNat (wrap .i64 (p-(wrap .i64 (shrI .u64 (wrap .u64 (wrap .i64 (start+r))) (1:Int))))))]?) fun r1 =>
 a0a (at? data (wrap .i64 (shrI .u64 (wrap .u64 (wrap .i64 (start+r))) (1:Int)))) fun r2 =>
 a0a ((data)[(Int.toNat (wrap .i64 (shrI .u64 (wrap .u64 (wrap .i64 (start+r))) (1:Int))))]?) fun r3 =>
 a0a (cmp (r1,(r3,()))) fun r4 =>
 tif (!(r4<0)) (
 i0l n f (data,(a,(m,(b,(cmp,(mid,(n_,((wrap .i64 ((wrap .i64 (shrI .u64 (wrap .u64 (wrap .i64 (start+r))) (1:Int)))+1)),(r,(p,()))))))))))) (
 i0l n f (data,(a,(m,(b,(cmp,(mid,(n_,(start,((wrap .i64 (shrI .u64 (wrap .u64 (wrap .i64 (start+r))) (1:Int))),(p,())))))))))))) (
 some (.inl (data,(a,(m,(b,(cmp,(mid,(n_,(start,())))))))))):=by kernel_rfl
theorem d2j (n:Nat) (data:(List a0c)) (a:Int) (m:Int) (b:Int) (cmp:((a0c×(a0c×Unit))->Option Int)):d1g (n+1) data a m b cmp =
 a0a (n0u n a0b (data,(m,(cmp,((wrap .i64 (m-a)),((wrap .i64 (b-m)),())))))) fun r0 =>
 b0x (fun y1 =>
 a0a (d1f n y1.1 (wrap .i64 (y1.2.1-y1.2.2.2.1)) y1.2.1 y1.2.2.2.1 y1.2.2.1) fun r2 =>
 some r2) (fun z3 =>
 some z3) r0:=by kernel_rfl
theorem m1n (n f:Nat) (data:(List a0c)) (m:Int) (cmp:((a0c×(a0c×Unit))->Option Int)) (i:Int) (j:Int):n0u n (f+1) (data,m,cmp,i,j,()) =
 tif (!(i=j)) (
 tif (j<i) (
 a0a (d1f n data (wrap .i64 (m-i)) m j cmp) fun r0 =>
 n0u n f (r0,(m,(cmp,((wrap .i64 (i-j)),(j,())))))) (
 a0a (d1f n data (wrap .i64 (m-i)) (wrap .i64 ((wrap .i64 (m+j))-i)) i cmp) fun r1 =>
 n0u n f (r1,(m,(cmp,(i,((wrap .i64 (j-i)),()))))))) (
 some (.inl (data,(m,(cmp,(i,())))))):=by kernel_rfl
theorem d2h (n:Nat) (data:(List a0c)) (a:Int) (b:Int) (n_:Int) (cmp:((a0c×(a0c×Unit))->Option Int)):d1f (n+1) data a b n_ cmp =
 a0a (s0x n a0b (data,(a,(b,(n_,(0,())))))) fun r0 =>
 b0x (fun y1 =>
 some y1.1) (fun z2 =>
 some z2) r0:=by kernel_rfl
theorem w0h (n f:Nat) (data:(List a0c)) (a:Int) (b:Int) (n_:Int) (i:Int):s0x n (f+1) (data,a,b,n_,i,()) =
 tif (i<n_) (
 a0a (at? data (wrap .i64 (b+i))) fun r0 =>
 a0a ((data)[(Int.toNat (wrap .i64 (b+i)))]?) fun r1 =>
 a0a (at? data (wrap .i64 (a+i))) fun r2 =>
 a0a ((data)[(Int.toNat (wrap .i64 (a+i)))]?) fun r3 =>
 a0a (at? data (wrap .i64 (a+i))) fun r4 =>
 a0a ((data)[(Int.toNat (wrap .i64 (a+i)))]?) fun r5 =>
 a0a (at? (List.set data (Int.toNat (wrap .i64 (a+i))) r1) (wrap .i64 (b+i))) fun r6 =>
 a0a ((List.set data (Int.toNat (wrap .i64 (a+i))) r1)[(Int.toNat (wrap .i64 (b+i)))]?) fun r7 =>
 s0x n f ((List.set (List.set data (Int.toNat (wrap .i64 (a+i))) r1) (Int.toNat (wrap .i64 (b+i))) r3),(a,(b,(n_,((wrap .i64 (i+1)),())))))) (
 some (.inl (data,()))):=by kernel_rfl
end Go.Proofs.YteopnkdnglpbfaaGreatDoor
