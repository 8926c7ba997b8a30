/- Trees, printed by program. -/
import Derived.Test.YtkajechaanmplaaGreatDoorTr0
import Derived.KernelRfl
set_option linter.unusedVariables false
namespace Go.Proofs.YtkajechaanmplaaGreatDoor
open Go.Flat
theorem j1t (n:Nat) (r:f0r) (x:a0m):w0d (n+1) r x =
 tif ((decide ((((List.length r.2.1):Nat):Int)<r.1))) (
 tif ((decide ((((List.length r.2.1)+1)*32)≤140737488355328))) (
 some ((0,(0,(0,false))),(false,(r.1,((r.2.1++(x::[])),r.2.2))))) (
 none)) (
 a0a (at? r.2.1 r.2.2.1) fun r0 =>
 a0a ((r.2.1)[(Int.toNat r.2.2.1)]?) fun r1 =>
 a0a (at? r.2.1 r.2.2.1) fun r2 =>
 a0a ((r.2.1)[(Int.toNat r.2.2.1)]?) fun r3 =>
 a0a (q1p n (r.1,((List.set r.2.1 (Int.toNat r.2.2.1) x),r.2.2)) (1:Int)) fun r4 =>
 some (r1,(true,(r4.2.1,(r4.2.2.1,(r4.1,(IntKind.wrap .u64 (r4.2.2.2.2+1)))))))):=by kernel_rfl
theorem y1d (n:Nat) (r:f0r):k0f (n+1) r =
 tif ((true&&((decide ((0:Int)≤(((List.length r.2.1):Nat):Int)))&&(decide (((((List.length r.2.1):Nat):Int)*32)≤140737488355328))))) (
 tif ((decide ((0:Int)≤r.2.2.1))) (
 tif ((decide ((Int.toNat r.2.2.1)≤(List.length r.2.1)))) (
 tif ((decide (((0+(List.length (List.take ((List.length r.2.1)-(Int.toNat r.2.2.1)) (List.drop (Int.toNat r.2.2.1) r.2.1))))*32)≤140737488355328))) (
 tif (((decide ((0:Int)≤r.2.2.1))&&(decide (r.2.2.1≤(((List.length r.2.1):Nat):Int))))) (
 tif ((decide ((((List.length ((List.replicate 0 ((0:Int),((0:Int),((0:Int),false))))++(List.take ((List.length r.2.1)-(Int.toNat r.2.2.1)) (List.drop (Int.toNat r.2.2.1) r.2.1))))+(List.length (List.take ((Int.toNat r.2.2.1)-0) (List.drop 0 r.2.1))))*32)≤140737488355328))) (
 some ((((List.replicate 0 ((0:Int),((0:Int),((0:Int),false))))++(List.take ((List.length r.2.1)-(Int.toNat r.2.2.1)) (List.drop (Int.toNat r.2.2.1) r.2.1)))++(List.take ((Int.toNat r.2.2.1)-0) (List.drop 0 r.2.1))),r)) (
 none)) (
 none)) (
 none)) (
 none)) (
 none)) (
 none):=by kernel_rfl
theorem i1d (n:Nat) (a:c0g) (b:c0g):q0a (n+1) a b =
 a0a (l0x n a) fun r0 =>
 tif ((!(decide (r0=0)))) (
 some ((0,((0,(0,(0,false))),((0,(0,(0,false))),((0,0),(0,(0,0)))))),2)) (
 a0a (l0x n b) fun r1 =>
 tif ((!(decide (r1=0)))) (
 some ((0,((0,(0,(0,false))),((0,(0,(0,false))),((0,0),(0,(0,0)))))),2)) (
 a0a (o0z n a) fun r2 =>
 tif (r2) (
 some (b,0)) (
 a0a (o0z n b) fun r3 =>
 tif (r3) (
 some (a,0)) (
 a0a (l1s n a b) fun r4 =>
 some r4)))):=by kernel_rfl
theorem p1l (n:Nat) (e:a0m):i1c (n+1) e =
 some (1,(e,(e,((0,0),(0,(0,0)))))):=by kernel_rfl
theorem m1y (n:Nat) (s:a0w):e1x (n+1) s =
 a0a (m0l n s) fun r0 =>
 tif ((!(decide (r0.2=0)))) (
 some (0:Int)) (
 a0a (s0p n s.2.1) fun r1 =>
 tif ((!r1)) (
 some (0:Int)) (
 a0a (i0r n r0.1) fun r2 =>
 some r2)):=by kernel_rfl
theorem e1y (n:Nat) (i:Int) (p1:a0w) (p2:(List (List UInt8×List UInt8))) (p3:a0w):e0y (n+1) i p1 p2 p3 =
 a0a (at? p1.2.2.2 i) fun r0 =>
 a0a (l0n n r0.1 p2) fun r1 =>
 tif (r1) (
 a0a (d0n n p3 i) fun r2 =>
 some r2) (
 some false):=by kernel_rfl
theorem e1v (n:Nat) (i:Int) (p1:a0w):e0x (n+1) i p1 =
 a0a (d0n n p1 i) fun r0 =>
 some (!r0):=by kernel_rfl
theorem m1v (n:Nat) (t:Int):s0p (n+1) t =
 tif ((decide ((0:Int)≤t))) (
 some (decide (t<35184372088832))) (
 some false):=by kernel_rfl
theorem y0w (n:Nat) (c:b0b) (s:c0f):o0h (n+1) c s =
 a0a (m0q n c s) fun r0 =>
 z0i (r0.1) (
 some r0.2) fun r1 =>
 some r0.2:=by kernel_rfl
theorem w0w (n:Nat) (v:a0w):i0r (n+1) v =
 tif ((decide (v.1.2.1.1=0))) (
 none) (
 some (IntKind.wrap .i64 (v.2.1-(Int.tmod v.2.1 v.1.2.1.1)))):=by kernel_rfl
theorem w0v (n:Nat) (v:a0w) (i:Int):m0k (n+1) v i =
 a0a (d0m n v (fun y0=>e0o n y0.1 i v)) fun r1 =>
 tif ((decide (r1<i))) (
 a0a (d0n n v i) fun r2 =>
 some r2) (
 some false):=by kernel_rfl
theorem r0h (n:Nat) (s:(List Int)) (f_:((Int×Unit)→Option Bool)):n0s (n+1) s f_ =
 a0a (c0y n a0b (s,(f_,((((List.length s):Nat):Int),(0,()))))) fun r0 =>
 c0t (fun y1 =>
 some ((-1):Int)) (fun z2 =>
 some z2) r0:=by kernel_rfl
theorem g0p (n f:Nat) (s:(List Int)) (f_:((Int×Unit)→Option Bool)) (s7:Int) (s8:Int):c0y n (f+1) (s,f_,s7,s8,()) =
 tif ((decide (s8<s7))) (
 a0a (at? s s8) fun r0 =>
 a0a (f_ (r0,())) fun r1 =>
 tif (r1) (
 some (.inr s8)) (
 c0y n f (s,(f_,(s7,((IntKind.wrap .i64 (s8+1)),())))))) (
 some (.inl ())):=by kernel_rfl
theorem a1r (n:Nat) (n_:Int) (low:Int) (high:Int):m0f (n+1) n_ low high =
 tif ((decide (low≤n_))) (
 some (decide (n_≤high))) (
 some false):=by kernel_rfl
theorem m1h (n:Nat) (w:Int):q1c (n+1) w =
 a0a (m0f n w (1:Int) (1099511627776:Int)) fun r0 =>
 some r0:=by kernel_rfl
theorem q0d (n:Nat) (s:(List Int)) (f_:((Int×Unit)→Option Bool)):l0f (n+1) s f_ =
 a0a (c0j n a0b (s,(f_,((((List.length s):Nat):Int),(0,()))))) fun r0 =>
 c0t (fun y1 =>
 some ((-1):Int)) (fun z2 =>
 some z2) r0:=by kernel_rfl
theorem f0z (n f:Nat) (s:(List Int)) (f_:((Int×Unit)→Option Bool)) (s7:Int) (s8:Int):c0j n (f+1) (s,f_,s7,s8,()) =
 tif ((decide (s8<s7))) (
 a0a (at? s s8) fun r0 =>
 a0a (f_ (r0,())) fun r1 =>
 tif (r1) (
 some (.inr s8)) (
 c0j n f (s,(f_,(s7,((IntKind.wrap .i64 (s8+1)),())))))) (
 some (.inl ())):=by kernel_rfl
theorem e1o (n:Nat) (l:(List a0c)) (w:Int):j0b (n+1) l w =
 tif ((decide ((((List.length l):Nat):Int)=0))) (
 some (2:Int)) (
 tif ((decide ((4096:Int)<(((List.length l):Nat):Int)))) (
 some (2:Int)) (
 tif ((decide (w<1))) (
 some (2:Int)) (
 tif ((decide ((1099511627776:Int)<w))) (
 some (2:Int)) (
 a0a (e0w n a0b (l,(w,(l,((((List.length l):Nat):Int),(0,())))))) fun r0 =>
 c0t (fun y1 =>
 some (0:Int)) (fun z2 =>
 some z2) r0)))):=by kernel_rfl
theorem n0q (n f:Nat) (l:(List a0c)) (w:Int) (s23:(List a0c)) (s24:Int) (s25:Int):e0w n (f+1) (l,w,s23,s24,s25,()) =
 tif ((decide (s25<s24))) (
 a0a (at? s23 s25) fun r0 =>
 a0a (n0z n r0) fun r1 =>
 tif ((!r1)) (
 a0a (e1i n r0.1 (((List.length l):Nat):Int)) fun r2 =>
 tif ((!(decide (r2=s25)))) (
 some (.inr (2:Int))) (
 a0a (j0m n r0.2 w r0.1) fun r3 =>
 tif ((!r3)) (
 some (.inr (2:Int))) (
 e0w n f (l,(w,(s23,(s24,((IntKind.wrap .i64 (s25+1)),())))))))) (
 e0w n f (l,(w,(s23,(s24,((IntKind.wrap .i64 (s25+1)),()))))))) (
 some (.inl ())):=by kernel_rfl
theorem m0o (n:Nat) (s:(List a0c)) (f_:((a0c×Unit)→Option Bool)):f0i (n+1) s f_ =
 a0a (g0s n s f_) fun r0 =>
 some (decide ((0:Int)≤r0)):=by kernel_rfl
theorem t0b (n:Nat) (s:a0c) (p1:Int):j0s (n+1) s p1 =
 tif ((decide ((0:Int)<s.2.1))) (
 some (decide (p1≤s.1))) (
 some false):=by kernel_rfl
theorem i1e (n:Nat) (c:c0g):l0x (n+1) c =
 a0a (o0z n c) fun r0 =>
 tif (r0) (
 some (0:Int)) (
 a0a (v0u n c) fun r1 =>
 tif ((!r1)) (
 some (2:Int)) (
 a0a (y0b n (18446744073709551615:Int)) fun r2 =>
 a0a (u0h n r2 (IntKind.wrap .u64 (IntKind.wrap .i64 (c.1-1)))) fun r3 =>
 tif ((!(decide (r3.2=0)))) (
 some (2:Int)) (
 a0a (y0c n r3.1 c.2.2.2.1) fun r4 =>
 tif (r4) (
 some (2:Int)) (
 a0a (a1d n c.2.2.2.2.2.1 (IntKind.wrap .i64 (c.1-1))) fun r5 =>
 tif ((!r5)) (
 some (2:Int)) (
 a0a (a1d n c.2.2.2.2.1 (IntKind.wrap .i64 ((IntKind.wrap .i64 (c.1-1))-c.2.2.2.2.2.1))) fun r6 =>
 tif ((!r6)) (
 some (2:Int)) (
 a0a (a1d n c.2.2.2.2.2.2 (IntKind.wrap .i64 (c.2.2.1.1-c.2.1.1))) fun r7 =>
 tif ((!r7)) (
 some (2:Int)) (
 some (0:Int)))))))):=by kernel_rfl
theorem m1m (n:Nat) (l:(List a0c)) (w:Int) (i:Int) (c:c0g):s0k (n+1) l w i c =
 a0a (j0b n l w) fun r0 =>
 tif ((!(decide (r0=0)))) (
 some ([],2)) (
 a0a (j0m n c w i) fun r1 =>
 tif ((!r1)) (
 some ([],2)) (
 a0a (i0s n l) fun r2 =>
 a0a (e1i n i (((List.length r2):Nat):Int)) fun r3 =>
 a0a (at? r2 r3) fun r4 =>
 a0a ((r2)[(Int.toNat r3)]?) fun r5 =>
 some ((List.set r2 (Int.toNat r3) (i,c)),0))):=by kernel_rfl
theorem b1m (n:Nat) (s:q0m) (i:Int):f0j (n+1) s (1:Int) i =
 tif ((decide (s.1.2.1.1=0))) (
 none) (
 a0a (s0m n s.2.1 (IntKind.wrap .i64 (i*(IntKind.wrap .i64 (Int.tdiv s.1.2.1.2.1 s.1.2.1.1)))) (IntKind.wrap .i64 ((IntKind.wrap .i64 (i+1))*(IntKind.wrap .i64 (Int.tdiv s.1.2.1.2.1 s.1.2.1.1))))) fun r0 =>
 some (r0.1,(r0.2,s))):=by kernel_rfl
theorem b1l (n:Nat) (s:q0m) (i:Int):f0j (n+1) s (2:Int) i =
 tif ((decide (s.1.2.1.2.1=0))) (
 none) (
 a0a (s0m n s.2.2.1 (IntKind.wrap .i64 (i*(IntKind.wrap .i64 (Int.tdiv s.1.2.1.2.2 s.1.2.1.2.1)))) (IntKind.wrap .i64 ((IntKind.wrap .i64 (i+1))*(IntKind.wrap .i64 (Int.tdiv s.1.2.1.2.2 s.1.2.1.2.1))))) fun r0 =>
 some (r0.1,(r0.2,s))):=by kernel_rfl
theorem u0w (n:Nat) (room:Int):q0w (n+1) room =
 tif ((decide (room<1))) (
 some (none,1)) (
 tif ((decide ((65536:Int)<room))) (
 some (none,1)) (
 some ((some (room,([],(0,0)))),0))):=by kernel_rfl
theorem n1v (n:Nat) (r:f0r) (i:Int):q1p (n+1) r i =
 tif ((decide ((((List.length r.2.1):Nat):Int)=0))) (
 none) (
 some ((Int.tmod (IntKind.wrap .i64 (r.2.2.1+i)) (((List.length r.2.1):Nat):Int)),r)):=by kernel_rfl
theorem l1q (n:Nat) (c:c0g):o0z (n+1) c =
 some ((decide (c.1=0))&&((decide (c.2.1.1=0))&&((decide (c.2.1.2.1=0))&&((decide (c.2.1.2.2.1=0))&&((c.2.1.2.2.2==false)&&((decide (c.2.2.1.1=0))&&((decide (c.2.2.1.2.1=0))&&((decide (c.2.2.1.2.2.1=0))&&((c.2.2.1.2.2.2==false)&&((decide (c.2.2.2.1.1=0))&&((decide (c.2.2.2.1.2=0))&&((decide (c.2.2.2.2.1=0))&&((decide (c.2.2.2.2.2.1=0))&&(decide (c.2.2.2.2.2.2=0))))))))))))))):=by kernel_rfl
theorem l1r (n:Nat) (a:c0g) (b:c0g):l1s (n+1) a b =
 a0a (n0g n a.2.2.1 b.2.1) fun r0 =>
 tif ((!(decide (r0.2=0)))) (
 some ((0,((0,(0,(0,false))),((0,(0,(0,false))),((0,0),(0,(0,0)))))),r0.2)) (
 a0a (e1g n (a.2.2.2.1::(r0.1.2.2.2.1::(b.2.2.2.1::[])))) fun r1 =>
 some (((IntKind.wrap .i64 (a.1+b.1)),(a.2.1,(b.2.2.1,(r1.1,((IntKind.wrap .i64 (r0.1.2.2.2.2.1+(IntKind.wrap .i64 (a.2.2.2.2.1+b.2.2.2.2.1)))),((IntKind.wrap .i64 (r0.1.2.2.2.2.2.1+(IntKind.wrap .i64 (a.2.2.2.2.2.1+b.2.2.2.2.2.1)))),(IntKind.wrap .i64 (r0.1.2.2.2.2.2.2+(IntKind.wrap .i64 (a.2.2.2.2.2.2+b.2.2.2.2.2.2)))))))))),r1.2)):=by kernel_rfl
theorem s0o (n:Nat) (k:Int) (p1:Int) (p2:a0w):e0o (n+1) k p1 p2 =
 tif ((decide (k=p1))) (
 some true) (
 a0a (d0n n p2 k) fun r0 =>
 tif (r0) (
 a0a (at? p2.2.2.2 k) fun r1 =>
 a0a (at? p2.2.2.2 p1) fun r2 =>
 a0a (l0n n r1.1 r2.1) fun r3 =>
 some r3) (
 some false)):=by kernel_rfl
theorem i1u (n:Nat) (s:a0c):n0z (n+1) s =
 some ((decide (s.1=0))&&((decide (s.2.1=0))&&((decide (s.2.2.1.1=0))&&((decide (s.2.2.1.2.1=0))&&((decide (s.2.2.1.2.2.1=0))&&((s.2.2.1.2.2.2==false)&&((decide (s.2.2.2.1.1=0))&&((decide (s.2.2.2.1.2.1=0))&&((decide (s.2.2.2.1.2.2.1=0))&&((s.2.2.2.1.2.2.2==false)&&((decide (s.2.2.2.2.1.1=0))&&((decide (s.2.2.2.2.1.2=0))&&((decide (s.2.2.2.2.2.1=0))&&((decide (s.2.2.2.2.2.2.1=0))&&(decide (s.2.2.2.2.2.2.2=0)))))))))))))))):=by kernel_rfl
theorem s1n (n:Nat) (i:Int) (n_:Int):e1i (n+1) i n_ =
 tif ((decide (i<0))) (
 some (0:Int)) (
 tif ((decide (n_<1))) (
 some (0:Int)) (
 tif ((decide (n_=0))) (
 none) (
 some (Int.tmod i n_)))):=by kernel_rfl
theorem i0k (n:Nat) (s:(List a0c)) (f_:((a0c×Unit)→Option Bool)):g0s (n+1) s f_ =
 a0a (c0k n a0b (s,(f_,((((List.length s):Nat):Int),(0,()))))) fun r0 =>
 c0t (fun y1 =>
 some ((-1):Int)) (fun z2 =>
 some z2) r0:=by kernel_rfl
theorem g0a (n f:Nat) (s:(List a0c)) (f_:((a0c×Unit)→Option Bool)) (s7:Int) (s8:Int):c0k n (f+1) (s,f_,s7,s8,()) =
 tif ((decide (s8<s7))) (
 a0a (at? s s8) fun r0 =>
 a0a (f_ (r0,())) fun r1 =>
 tif (r1) (
 some (.inr s8)) (
 c0k n f (s,(f_,(s7,((IntKind.wrap .i64 (s8+1)),())))))) (
 some (.inl ())):=by kernel_rfl
theorem i1b (n:Nat) (c:c0g):v0u (n+1) c =
 tif ((decide (c.1=1))) (
 tif (((decide (c.2.1.1=c.2.2.1.1))&&((decide (c.2.1.2.1=c.2.2.1.2.1))&&((decide (c.2.1.2.2.1=c.2.2.1.2.2.1))&&(c.2.1.2.2.2==c.2.2.1.2.2.2))))) (
 a0a (d0b n c.2.1) fun r0 =>
 some (decide (r0=0))) (
 some false)) (
 tif ((decide ((1:Int)<c.1))) (
 a0a (f0x n c.2.1 c.2.2.1) fun r1 =>
 tif (r1) (
 some (decide ((IntKind.wrap .i64 (c.1-1))≤(IntKind.wrap .i64 (c.2.2.1.1-c.2.1.1))))) (
 some false)) (
 some false)):=by kernel_rfl
theorem e1f (n:Nat) (a:(Int×Int)) (n_:Int):u0h (n+1) a n_ =
 a0a (g0f n a.2 n_) fun r0 =>
 a0a (g0f n a.1 n_) fun r1 =>
 tif (((decide ((0:Int)≤r1.2))&&((decide ((0:Int)≤r0.1))&&true))) (
 a0a (s0d n ((((r1.2+r0.1)+0) % (18446744073709551616:Int)),r0.2) (orI .u64 r1.1 (((r1.2+r0.1)+0) / (18446744073709551616:Int)))) fun r2 =>
 some r2) (
 none):=by kernel_rfl
theorem s1m (n:Nat) (n_:Int):y0b (n+1) n_ =
 some (0,n_):=by kernel_rfl
theorem i1p (n:Nat) (a:(Int×Int)) (b:(Int×Int)):y0c (n+1) a b =
 tif ((decide (a.1<b.1))) (
 some true) (
 tif ((decide (a.1=b.1))) (
 some (decide (a.2<b.2))) (
 some false)):=by kernel_rfl
theorem v1s (n:Nat) (n_:Int) (most:Int):a1d (n+1) n_ most =
 tif ((decide ((0:Int)≤n_))) (
 some (decide (n_≤most))) (
 some false):=by kernel_rfl
theorem i1x (n:Nat) (l:(List a0c)) (i:Int) (k:Int):s0m (n+1) l i k =
 tif ((decide (i<0))) (
 some ((0,((0,(0,(0,false))),((0,(0,(0,false))),((0,0),(0,(0,0)))))),1)) (
 tif ((decide (k<i))) (
 some ((0,((0,(0,(0,false))),((0,(0,(0,false))),((0,0),(0,(0,0)))))),1)) (
 a0a (e1q n l) fun r0 =>
 a0a (f0s n a0b (i,(k,((0,((0,(0,(0,false))),((0,(0,(0,false))),((0,0),(0,(0,0)))))),([],(r0,((((List.length r0):Nat):Int),(0,())))))))) fun r1 =>
 c0t (fun y2 =>
 a0a (i1f n y2.2.1) fun r3 =>
 some r3) (fun z4 =>
 some z4) r1)):=by kernel_rfl
theorem o0a (n f:Nat) (i:Int) (k:Int) (s6:c0g) (cells:(List c0g)) (s20:(List a0c)) (s21:Int) (s22:Int):f0s n (f+1) (i,k,s6,cells,s20,s21,s22,()) =
 tif ((decide (s22<s21))) (
 a0a (at? s20 s22) fun r0 =>
 tif ((decide (i≤r0.1))) (
 tif ((decide (r0.1<k))) (
 tif ((decide ((((List.length cells)+1)*112)≤140737488355328))) (
 f0s n f (i,(k,(s6,((cells++(r0.2::[])),(s20,(s21,((IntKind.wrap .i64 (s22+1)),())))))))) (
 none)) (
 f0s n f (i,(k,(s6,(cells,(s20,(s21,((IntKind.wrap .i64 (s22+1)),()))))))))) (
 f0s n f (i,(k,(s6,(cells,(s20,(s21,((IntKind.wrap .i64 (s22+1)),()))))))))) (
 some (.inl (s6,(cells,())))):=by kernel_rfl
theorem x0d (n:Nat) (p:a0m) (c:a0m):n0g (n+1) p c =
 a0a (j0y n (p::(c::[]))) fun r0 =>
 tif ((!r0)) (
 some ((0,((0,(0,(0,false))),((0,(0,(0,false))),((0,0),(0,(0,0)))))),2)) (
 tif ((decide (c.1≤p.1))) (
 some ((0,((0,(0,(0,false))),((0,(0,(0,false))),((0,0),(0,(0,0)))))),9)) (
 tif (c.2.2.2) (
 some ((0,((0,(0,(0,false))),((0,(0,(0,false))),((0,0),(0,(0,0)))))),0)) (
 tif ((decide (p.1<c.2.2.1))) (
 a0a (p0z n c (IntKind.wrap .i64 (c.1-c.2.2.1))) fun r1 =>
 some (r1,0)) (
 tif (p.2.2.2) (
 some ((0,((0,(0,(0,false))),((0,(0,(0,false))),((0,0),(0,(1,0)))))),0)) (
 tif ((decide (c.2.1<p.2.1))) (
 a0a (p0z n c (IntKind.wrap .i64 (c.1-p.1))) fun r2 =>
 some (r2,0)) (
 a0a (y0b n (IntKind.wrap .u64 (c.2.1-p.2.1))) fun r3 =>
 some ((0,((0,(0,(0,false))),((0,(0,(0,false))),(r3,(0,(0,(IntKind.wrap .i64 (c.1-p.1)))))))),0))))))):=by kernel_rfl
theorem m1f (n:Nat) (l:(List (Int×Int))):e1g (n+1) l =
 a0a (m0e n a0b ((0,0),((0,0),(l,((((List.length l):Nat):Int),(0,())))))) fun r0 =>
 c0t (fun y1 =>
 some (y1.2.1,0)) (fun z2 =>
 some z2) r0:=by kernel_rfl
theorem q0o (n f:Nat) (s2:(Int×Int)) (a:(Int×Int)) (s9:(List (Int×Int))) (s10:Int) (s11:Int):m0e n (f+1) (s2,a,s9,s10,s11,()) =
 tif ((decide (s11<s10))) (
 a0a (at? s9 s11) fun r0 =>
 a0a (e1h n a r0) fun r1 =>
 tif ((!(decide (r1.2=0)))) (
 some (.inr ((0,0),r1.2))) (
 m0e n f (s2,(r1.1,(s9,(s10,((IntKind.wrap .i64 (s11+1)),()))))))) (
 some (.inl (s2,(a,())))):=by kernel_rfl
theorem t0m (n:Nat) (x:Int) (y:Int):g0f (n+1) x y =
 some ((IntKind.wrap .u64 ((IntKind.wrap .u64 ((IntKind.wrap .u64 ((shrI .u64 x (32:Int))*(shrI .u64 y (32:Int))))+(shrI .u64 (IntKind.wrap .u64 ((IntKind.wrap .u64 ((shrI .u64 x (32:Int))*(andI .u64 y (4294967295:Int))))+(shrI .u64 (IntKind.wrap .u64 ((andI .u64 x (4294967295:Int))*(andI .u64 y (4294967295:Int)))) (32:Int)))) (32:Int))))+(shrI .u64 (IntKind.wrap .u64 ((andI .u64 (IntKind.wrap .u64 ((IntKind.wrap .u64 ((shrI .u64 x (32:Int))*(andI .u64 y (4294967295:Int))))+(shrI .u64 (IntKind.wrap .u64 ((andI .u64 x (4294967295:Int))*(andI .u64 y (4294967295:Int)))) (32:Int)))) (4294967295:Int))+(IntKind.wrap .u64 ((andI .u64 x (4294967295:Int))*(shrI .u64 y (32:Int)))))) (32:Int)))),(IntKind.wrap .u64 (x*y))):=by kernel_rfl
theorem i1o (n:Nat) (a:(Int×Int)) (over:Int):s0d (n+1) a over =
 tif ((!(decide (over=0)))) (
 some ((0,0),1)) (
 some (a,0)):=by kernel_rfl
theorem m1o (n:Nat) (l:(List a0c)):e1q (n+1) l =
 a0a (i0s n l) fun r0 =>
 a0a (g0d n r0 (fun y1=>n0z n y1.1)) fun r2 =>
 a0a (e0j n r2 (fun y3=>p0h n y3.1 y3.2.1)) fun r4 =>
 some r4:=by kernel_rfl
theorem p1n (n:Nat) (l:(List c0g)):i1f (n+1) l =
 a0a (k0b n a0b ((0,((0,(0,(0,false))),((0,(0,(0,false))),((0,0),(0,(0,0)))))),((0,((0,(0,(0,false))),((0,(0,(0,false))),((0,0),(0,(0,0)))))),(l,((((List.length l):Nat):Int),(0,())))))) fun r0 =>
 c0t (fun y1 =>
 some (y1.2.1,0)) (fun z2 =>
 some z2) r0:=by kernel_rfl
theorem r0d (n f:Nat) (s2:c0g) (c:c0g) (s9:(List c0g)) (s10:Int) (s11:Int):k0b n (f+1) (s2,c,s9,s10,s11,()) =
 tif ((decide (s11<s10))) (
 a0a (at? s9 s11) fun r0 =>
 a0a (q0a n c r0) fun r1 =>
 tif ((!(decide (r1.2=0)))) (
 some (.inr ((0,((0,(0,(0,false))),((0,(0,(0,false))),((0,0),(0,(0,0)))))),r1.2))) (
 k0b n f (s2,(r1.1,(s9,(s10,((IntKind.wrap .i64 (s11+1)),()))))))) (
 some (.inl (s2,(c,())))):=by kernel_rfl
theorem g1u (n:Nat) (c:a0m) (seen:Int):p0z (n+1) c seen =
 a0a (y0b n c.2.1) fun r0 =>
 some (0,((0,(0,(0,false))),((0,(0,(0,false))),(r0,(1,(0,seen)))))):=by kernel_rfl
theorem m1g (n:Nat) (a:(Int×Int)) (b:(Int×Int)):e1h (n+1) a b =
 tif (((decide ((0:Int)≤a.2))&&((decide ((0:Int)≤b.2))&&true))) (
 tif (((decide ((0:Int)≤a.1))&&((decide ((0:Int)≤b.1))&&((decide ((0:Int)≤(((a.2+b.2)+0) / (18446744073709551616:Int))))&&(decide ((((a.2+b.2)+0) / (18446744073709551616:Int))≤1)))))) (
 a0a (s0d n ((((a.1+b.1)+(((a.2+b.2)+0) / (18446744073709551616:Int))) % (18446744073709551616:Int)),(((a.2+b.2)+0) % (18446744073709551616:Int))) (((a.1+b.1)+(((a.2+b.2)+0) / (18446744073709551616:Int))) / (18446744073709551616:Int))) fun r0 =>
 some r0) (
 none)) (
 none):=by kernel_rfl
theorem o0e (n:Nat) (s:(List a0c)) (del:((a0c×Unit)→Option Bool)):g0d (n+1) s del =
 a0a (g0s n s del) fun r0 =>
 tif ((decide (r0=((-1):Int)))) (
 some s) (
 a0a (c0c n a0b (s,(del,(r0,((IntKind.wrap .i64 (r0+1)),()))))) fun r1 =>
 c0t (fun y2 =>
 tif ((decide ((0:Int)≤y2.2.1))) (
 tif ((decide ((Int.toNat y2.2.1)≤(List.length y2.1)))) (
 tif ((decide (((Int.toNat y2.2.1)+((List.length y2.1)-(Int.toNat y2.2.1)))≤(List.length y2.1)))) (
 tif (((decide ((0:Int)≤y2.2.1))&&(decide (y2.2.1≤(((List.length (Go.Flat.putRow y2.1 (Int.toNat y2.2.1) (List.replicate ((List.length y2.1)-(Int.toNat y2.2.1)) (0,(0,((0,(0,(0,false))),((0,(0,(0,false))),((0,0),(0,(0,0)))))))))):Nat):Int))))) (
 some (List.take ((Int.toNat y2.2.1)-0) (Go.Flat.putRow y2.1 (Int.toNat y2.2.1) (List.replicate ((List.length y2.1)-(Int.toNat y2.2.1)) (0,(0,((0,(0,(0,false))),((0,(0,(0,false))),((0,0),(0,(0,0))))))))))) (
 none)) (
 none)) (
 none)) (
 none)) (fun z3 =>
 some z3) r1):=by kernel_rfl
theorem f0t (n f:Nat) (s:(List a0c)) (del:((a0c×Unit)→Option Bool)) (i:Int) (j:Int):c0c n (f+1) (s,del,i,j,()) =
 tif ((decide (j<(((List.length s):Nat):Int)))) (
 a0a (at? s j) fun r0 =>
 a0a ((s)[(Int.toNat j)]?) fun r1 =>
 a0a (del (r1,())) fun r2 =>
 tif ((!r2)) (
 a0a (at? s i) fun r3 =>
 a0a ((s)[(Int.toNat i)]?) fun r4 =>
 c0c n f ((List.set s (Int.toNat i) r1),(del,((IntKind.wrap .i64 (i+1)),((IntKind.wrap .i64 (j+1)),()))))) (
 c0c n f (s,(del,(i,((IntKind.wrap .i64 (j+1)),())))))) (
 some (.inl (s,(i,())))):=by kernel_rfl
theorem k0q (n:Nat) (x:(List a0c)) (cmp:((a0c×(a0c×Unit))→Option Int)):e0j (n+1) x cmp =
 a0a (x1s n x (((List.length x):Nat):Int) cmp) fun r0 =>
 some r0:=by kernel_rfl
theorem e1p (n:Nat) (a:a0c) (b:a0c):p0h (n+1) a b =
 a0a (h0f n a.1 b.1) fun r0 =>
 some r0:=by kernel_rfl
theorem q0l (n:Nat) (x:Int) (y:Int):h0f (n+1) x y =
 a0a (k0a n x) fun r0 =>
 a0a (k0a n y) fun r1 =>
 tif (r0) (
 tif (r1) (
 some (0:Int)) (
 some ((-1):Int))) (
 tif (r1) (
 some (1:Int)) (
 tif ((decide (x<y))) (
 some ((-1):Int)) (
 tif ((decide (y<x))) (
 some (1:Int)) (
 some (0:Int))))):=by kernel_rfl
theorem t1c (n:Nat) (data:(List a0c)) (n_:Int) (cmp:((a0c×(a0c×Unit))→Option Int)):x1s (n+1) data n_ cmp =
 a0a (l0d n a0b (data,(n_,(cmp,(20,(0,(20,()))))))) fun r0 =>
 c0t (fun y1 =>
 a0a (f1e n y1.1 y1.2.2.2.2.1 y1.2.1 y1.2.2.1) fun r2 =>
 a0a (j0c n a0b (r2,(y1.2.1,(y1.2.2.1,(y1.2.2.2.1,()))))) fun r3 =>
 c0t (fun y4 =>
 some y4.1) (fun z5 =>
 some z5) r3) (fun z6 =>
 some z6) r0:=by kernel_rfl
theorem s0x (n f:Nat) (data:(List a0c)) (n_:Int) (cmp:((a0c×(a0c×Unit))→Option Int)) (blockSize:Int) (a:Int) (b:Int):l0d n (f+1) (data,n_,cmp,blockSize,a,b,()) =
 tif ((decide (b≤n_))) (
 a0a (f1e n data a b cmp) fun r0 =>
 l0d n f (r0,(n_,(cmp,(blockSize,(b,((IntKind.wrap .i64 (b+blockSize)),()))))))) (
 some (.inl (data,(n_,(cmp,(blockSize,(a,()))))))):=by kernel_rfl
theorem s0w (n f:Nat) (data:(List a0c)) (n_:Int) (cmp:((a0c×(a0c×Unit))→Option Int)) (blockSize:Int):j0c n (f+1) (data,n_,cmp,blockSize,()) =
 tif ((decide (blockSize<n_))) (
 a0a (p0l n a0b (data,(n_,(cmp,(blockSize,(0,((IntKind.wrap .i64 ((2:Int)*blockSize)),()))))))) fun r0 =>
 c0t (fun y1 =>
 tif ((decide ((IntKind.wrap .i64 (y1.2.2.2.2.1+y1.2.2.2.1))<y1.2.1))) (
 a0a (b0j n y1.1 y1.2.2.2.2.1 (IntKind.wrap .i64 (y1.2.2.2.2.1+y1.2.2.2.1)) y1.2.1 y1.2.2.1) fun r2 =>
 j0c n f (r2,(y1.2.1,(y1.2.2.1,((IntKind.wrap .i64 (y1.2.2.2.1*2)),()))))) (
 j0c n f (y1.1,(y1.2.1,(y1.2.2.1,((IntKind.wrap .i64 (y1.2.2.2.1*2)),())))))) (fun z3 =>
 some (.inr z3)) r0) (
 some (.inl (data,()))):=by kernel_rfl
theorem s0v (n f:Nat) (data:(List a0c)) (n_:Int) (cmp:((a0c×(a0c×Unit))→Option Int)) (blockSize:Int) (a:Int) (b:Int):p0l n (f+1) (data,n_,cmp,blockSize,a,b,()) =
 tif ((decide (b≤n_))) (
 a0a (b0j n data a (IntKind.wrap .i64 (a+blockSize)) b cmp) fun r0 =>
 p0l n f (r0,(n_,(cmp,(blockSize,(b,((IntKind.wrap .i64 (b+(IntKind.wrap .i64 ((2:Int)*blockSize)))),()))))))) (
 some (.inl (data,(n_,(cmp,(blockSize,(a,()))))))):=by kernel_rfl
theorem k0m (n:Nat) (x:Int):k0a (n+1) x =
 some (!(decide (x=x))):=by kernel_rfl
theorem t1f (n:Nat) (data:(List a0c)) (a:Int) (b:Int) (cmp:((a0c×(a0c×Unit))→Option Int)):f1e (n+1) data a b cmp =
 a0a (p0n n a0b (data,(a,(b,(cmp,((IntKind.wrap .i64 (a+1)),())))))) fun r0 =>
 c0t (fun y1 =>
 some y1.1) (fun z2 =>
 some z2) r0:=by kernel_rfl
theorem s0z (n f:Nat) (data:(List a0c)) (a:Int) (b:Int) (cmp:((a0c×(a0c×Unit))→Option Int)) (i:Int):p0n n (f+1) (data,a,b,cmp,i,()) =
 tif ((decide (i<b))) (
 a0a (p0m n a0b (data,(a,(b,(cmp,(i,(i,()))))))) fun r0 =>
 c0t (fun y1 =>
 p0n n f (y1.1,(y1.2.1,(y1.2.2.1,(y1.2.2.2.1,((IntKind.wrap .i64 (y1.2.2.2.2.1+1)),())))))) (fun z2 =>
 some (.inr z2)) r0) (
 some (.inl (data,()))):=by kernel_rfl
theorem s0y (n f:Nat) (data:(List a0c)) (a:Int) (b:Int) (cmp:((a0c×(a0c×Unit))→Option Int)) (i:Int) (j:Int):p0m n (f+1) (data,a,b,cmp,i,j,()) =
 tif ((decide (a<j))) (
 a0a (at? data j) fun r0 =>
 a0a ((data)[(Int.toNat j)]?) fun r1 =>
 a0a (at? data (IntKind.wrap .i64 (j-1))) fun r2 =>
 a0a ((data)[(Int.toNat (IntKind.wrap .i64 (j-1)))]?) fun r3 =>
 a0a (cmp (r1,(r3,()))) fun r4 =>
 tif ((decide (r4<0))) (
 a0a (at? data (IntKind.wrap .i64 (j-1))) fun r5 =>
 a0a ((data)[(Int.toNat (IntKind.wrap .i64 (j-1)))]?) fun r6 =>
 a0a (at? data j) fun r7 =>
 a0a ((data)[(Int.toNat j)]?) fun r8 =>
 a0a (at? data j) fun r9 =>
 a0a ((data)[(Int.toNat j)]?) fun r10 =>
 a0a (at? (List.set data (Int.toNat j) r6) (IntKind.wrap .i64 (j-1))) fun r11 =>
 a0a (((List.set data (Int.toNat j) r6))[(Int.toNat (IntKind.wrap .i64 (j-1)))]?) fun r12 =>
 p0m n f ((List.set (List.set data (Int.toNat j) r6) (Int.toNat (IntKind.wrap .i64 (j-1))) r8),(a,(b,(cmp,(i,((IntKind.wrap .i64 (j-1)),()))))))) (
 some (.inl (data,(a,(b,(cmp,(i,())))))))) (
 some (.inl (data,(a,(b,(cmp,(i,()))))))):=by kernel_rfl
theorem t1a (n:Nat) (data:(List a0c)) (a:Int) (m:Int) (b:Int) (cmp:((a0c×(a0c×Unit))→Option Int)):b0j (n+1) data a m b cmp =
 tif ((decide ((IntKind.wrap .i64 (m-a))=1))) (
 a0a (l0c n a0b (data,(a,(cmp,(m,(b,())))))) fun r0 =>
 c0t (fun y1 =>
 a0a (p0j n a0b (y1.1,(y1.2.2.1,(y1.2.1,())))) fun r2 =>
 c0t (fun y3 =>
 some y3.1) (fun z4 =>
 some z4) r2) (fun z5 =>
 some z5) r0) (
 tif ((decide ((IntKind.wrap .i64 (b-m))=1))) (
 a0a (j0p n a0b (data,(m,(cmp,(a,(m,())))))) fun r6 =>
 c0t (fun y7 =>
 a0a (m0m n a0b (y7.1,(y7.2.2.1,(y7.2.1,())))) fun r8 =>
 c0t (fun y9 =>
 some y9.1) (fun z10 =>
 some z10) r8) (fun z11 =>
 some z11) r6) (
 tif ((decide ((IntKind.wrap .i64 (shrI .u64 (IntKind.wrap .u64 (IntKind.wrap .i64 (a+b))) (1:Int)))<m))) (
 a0a (g0r n a0b (data,(a,(m,(b,(cmp,((IntKind.wrap .i64 (shrI .u64 (IntKind.wrap .u64 (IntKind.wrap .i64 (a+b))) (1:Int))),((IntKind.wrap .i64 ((IntKind.wrap .i64 (shrI .u64 (IntKind.wrap .u64 (IntKind.wrap .i64 (a+b))) (1:Int)))+m)),((IntKind.wrap .i64 ((IntKind.wrap .i64 ((IntKind.wrap .i64 (shrI .u64 (IntKind.wrap .u64 (IntKind.wrap .i64 (a+b))) (1:Int)))+m))-b)),((IntKind.wrap .i64 (shrI .u64 (IntKind.wrap .u64 (IntKind.wrap .i64 (a+b))) (1:Int))),((IntKind.wrap .i64 ((IntKind.wrap .i64 ((IntKind.wrap .i64 (shrI .u64 (IntKind.wrap .u64 (IntKind.wrap .i64 (a+b))) (1:Int)))+m))-1)),()))))))))))) fun r12 =>
 c0t (fun y13 =>
 tif ((decide (y13.2.2.2.2.2.2.2.1<y13.2.2.1))) (
 tif ((decide (y13.2.2.1<(IntKind.wrap .i64 (y13.2.2.2.2.2.2.1-y13.2.2.2.2.2.2.2.1))))) (
 a0a (y0r n y13.1 y13.2.2.2.2.2.2.2.1 y13.2.2.1 (IntKind.wrap .i64 (y13.2.2.2.2.2.2.1-y13.2.2.2.2.2.2.2.1)) y13.2.2.2.2.1) fun r14 =>
 tif ((decide (y13.2.1<y13.2.2.2.2.2.2.2.1))) (
 tif ((decide (y13.2.2.2.2.2.2.2.1<y13.2.2.2.2.2.1))) (
 a0a (b0j n r14 y13.2.1 y13.2.2.2.2.2.2.2.1 y13.2.2.2.2.2.1 y13.2.2.2.2.1) fun r15 =>
 tif ((decide (y13.2.2.2.2.2.1<(IntKind.wrap .i64 (y13.2.2.2.2.2.2.1-y13.2.2.2.2.2.2.2.1))))) (
 tif ((decide ((IntKind.wrap .i64 (y13.2.2.2.2.2.2.1-y13.2.2.2.2.2.2.2.1))<y13.2.2.2.1))) (
 a0a (b0j n r15 y13.2.2.2.2.2.1 (IntKind.wrap .i64 (y13.2.2.2.2.2.2.1-y13.2.2.2.2.2.2.2.1)) y13.2.2.2.1 y13.2.2.2.2.1) fun r16 =>
 some r16) (
 some r15)) (
 some r15)) (
 tif ((decide (y13.2.2.2.2.2.1<(IntKind.wrap .i64 (y13.2.2.2.2.2.2.1-y13.2.2.2.2.2.2.2.1))))) (
 tif ((decide ((IntKind.wrap .i64 (y13.2.2.2.2.2.2.1-y13.2.2.2.2.2.2.2.1))<y13.2.2.2.1))) (
 a0a (b0j n r14 y13.2.2.2.2.2.1 (IntKind.wrap .i64 (y13.2.2.2.2.2.2.1-y13.2.2.2.2.2.2.2.1)) y13.2.2.2.1 y13.2.2.2.2.1) fun r17 =>
 some r17) (
 some r14)) (
 some r14))) (
 tif ((decide (y13.2.2.2.2.2.1<(IntKind.wrap .i64 (y13.2.2.2.2.2.2.1-y13.2.2.2.2.2.2.2.1))))) (
 tif ((decide ((IntKind.wrap .i64 (y13.2.2.2.2.2.2.1-y13.2.2.2.2.2.2.2.1))<y13.2.2.2.1))) (
 a0a (b0j n r14 y13.2.2.2.2.2.1 (IntKind.wrap .i64 (y13.2.2.2.2.2.2.1-y13.2.2.2.2.2.2.2.1)) y13.2.2.2.1 y13.2.2.2.2.1) fun r18 =>
 some r18) (
 some r14)) (
 some r14))) (
 tif ((decide (y13.2.1<y13.2.2.2.2.2.2.2.1))) (
 tif ((decide (y13.2.2.2.2.2.2.2.1<y13.2.2.2.2.2.1))) (
 a0a (b0j n y13.1 y13.2.1 y13.2.2.2.2.2.2.2.1 y13.2.2.2.2.2.1 y13.2.2.2.2.1) fun r19 =>
 tif ((decide (y13.2.2.2.2.2.1<(IntKind.wrap .i64 (y13.2.2.2.2.2.2.1-y13.2.2.2.2.2.2.2.1))))) (
 tif ((decide ((IntKind.wrap .i64 (y13.2.2.2.2.2.2.1-y13.2.2.2.2.2.2.2.1))<y13.2.2.2.1))) (
 a0a (b0j n r19 y13.2.2.2.2.2.1 (IntKind.wrap .i64 (y13.2.2.2.2.2.2.1-y13.2.2.2.2.2.2.2.1)) y13.2.2.2.1 y13.2.2.2.2.1) fun r20 =>
 some r20) (
 some r19)) (
 some r19)) (
 tif ((decide (y13.2.2.2.2.2.1<(IntKind.wrap .i64 (y13.2.2.2.2.2.2.1-y13.2.2.2.2.2.2.2.1))))) (
 tif ((decide ((IntKind.wrap .i64 (y13.2.2.2.2.2.2.1-y13.2.2.2.2.2.2.2.1))<y13.2.2.2.1))) (
 a0a (b0j n y13.1 y13.2.2.2.2.2.1 (IntKind.wrap .i64 (y13.2.2.2.2.2.2.1-y13.2.2.2.2.2.2.2.1)) y13.2.2.2.1 y13.2.2.2.2.1) fun r21 =>
 some r21) (
 some y13.1)) (
 some y13.1))) (
 tif ((decide (y13.2.2.2.2.2.1<(IntKind.wrap .i64 (y13.2.2.2.2.2.2.1-y13.2.2.2.2.2.2.2.1))))) (
 tif ((decide ((IntKind.wrap .i64 (y13.2.2.2.2.2.2.1-y13.2.2.2.2.2.2.2.1))<y13.2.2.2.1))) (
 a0a (b0j n y13.1 y13.2.2.2.2.2.1 (IntKind.wrap .i64 (y13.2.2.2.2.2.2.1-y13.2.2.2.2.2.2.2.1)) y13.2.2.2.1 y13.2.2.2.2.1) fun r22 =>
 some r22) (
 some y13.1)) (
 some y13.1)))) (
 tif ((decide (y13.2.1<y13.2.2.2.2.2.2.2.1))) (
 tif ((decide (y13.2.2.2.2.2.2.2.1<y13.2.2.2.2.2.1))) (
 a0a (b0j n y13.1 y13.2.1 y13.2.2.2.2.2.2.2.1 y13.2.2.2.2.2.1 y13.2.2.2.2.1) fun r23 =>
 tif ((decide (y13.2.2.2.2.2.1<(IntKind.wrap .i64 (y13.2.2.2.2.2.2.1-y13.2.2.2.2.2.2.2.1))))) (
 tif ((decide ((IntKind.wrap .i64 (y13.2.2.2.2.2.2.1-y13.2.2.2.2.2.2.2.1))<y13.2.2.2.1))) (
 a0a (b0j n r23 y13.2.2.2.2.2.1 (IntKind.wrap .i64 (y13.2.2.2.2.2.2.1-y13.2.2.2.2.2.2.2.1)) y13.2.2.2.1 y13.2.2.2.2.1) fun r24 =>
 some r24) (
 some r23)) (
 some r23)) (
 tif ((decide (y13.2.2.2.2.2.1<(IntKind.wrap .i64 (y13.2.2.2.2.2.2.1-y13.2.2.2.2.2.2.2.1))))) (
 tif ((decide ((IntKind.wrap .i64 (y13.2.2.2.2.2.2.1-y13.2.2.2.2.2.2.2.1))<y13.2.2.2.1))) (
 a0a (b0j n y13.1 y13.2.2.2.2.2.1 (IntKind.wrap .i64 (y13.2.2.2.2.2.2.1-y13.2.2.2.2.2.2.2.1)) y13.2.2.2.1 y13.2.2.2.2.1) fun r25 =>
 some r25) (
 some y13.1)) (
 some y13.1))) (
 tif ((decide (y13.2.2.2.2.2.1<(IntKind.wrap .i64 (y13.2.2.2.2.2.2.1-y13.2.2.2.2.2.2.2.1))))) (
 tif ((decide ((IntKind.wrap .i64 (y13.2.2.2.2.2.2.1-y13.2.2.2.2.2.2.2.1))<y13.2.2.2.1))) (
 a0a (b0j n y13.1 y13.2.2.2.2.2.1 (IntKind.wrap .i64 (y13.2.2.2.2.2.2.1-y13.2.2.2.2.2.2.2.1)) y13.2.2.2.1 y13.2.2.2.2.1) fun r26 =>
 some r26) (
 some y13.1)) (
 some y13.1)))) (fun z27 =>
 some z27) r12) (
 a0a (g0r n a0b (data,(a,(m,(b,(cmp,((IntKind.wrap .i64 (shrI .u64 (IntKind.wrap .u64 (IntKind.wrap .i64 (a+b))) (1:Int))),((IntKind.wrap .i64 ((IntKind.wrap .i64 (shrI .u64 (IntKind.wrap .u64 (IntKind.wrap .i64 (a+b))) (1:Int)))+m)),(a,(m,((IntKind.wrap .i64 ((IntKind.wrap .i64 ((IntKind.wrap .i64 (shrI .u64 (IntKind.wrap .u64 (IntKind.wrap .i64 (a+b))) (1:Int)))+m))-1)),()))))))))))) fun r28 =>
 c0t (fun y29 =>
 tif ((decide (y29.2.2.2.2.2.2.2.1<y29.2.2.1))) (
 tif ((decide (y29.2.2.1<(IntKind.wrap .i64 (y29.2.2.2.2.2.2.1-y29.2.2.2.2.2.2.2.1))))) (
 a0a (y0r n y29.1 y29.2.2.2.2.2.2.2.1 y29.2.2.1 (IntKind.wrap .i64 (y29.2.2.2.2.2.2.1-y29.2.2.2.2.2.2.2.1)) y29.2.2.2.2.1) fun r30 =>
 tif ((decide (y29.2.1<y29.2.2.2.2.2.2.2.1))) (
 tif ((decide (y29.2.2.2.2.2.2.2.1<y29.2.2.2.2.2.1))) (
 a0a (b0j n r30 y29.2.1 y29.2.2.2.2.2.2.2.1 y29.2.2.2.2.2.1 y29.2.2.2.2.1) fun r31 =>
 tif ((decide (y29.2.2.2.2.2.1<(IntKind.wrap .i64 (y29.2.2.2.2.2.2.1-y29.2.2.2.2.2.2.2.1))))) (
 tif ((decide ((IntKind.wrap .i64 (y29.2.2.2.2.2.2.1-y29.2.2.2.2.2.2.2.1))<y29.2.2.2.1))) (
 a0a (b0j n r31 y29.2.2.2.2.2.1 (IntKind.wrap .i64 (y29.2.2.2.2.2.2.1-y29.2.2.2.2.2.2.2.1)) y29.2.2.2.1 y29.2.2.2.2.1) fun r32 =>
 some r32) (
 some r31)) (
 some r31)) (
 tif ((decide (y29.2.2.2.2.2.1<(IntKind.wrap .i64 (y29.2.2.2.2.2.2.1-y29.2.2.2.2.2.2.2.1))))) (
 tif ((decide ((IntKind.wrap .i64 (y29.2.2.2.2.2.2.1-y29.2.2.2.2.2.2.2.1))<y29.2.2.2.1))) (
 a0a (b0j n r30 y29.2.2.2.2.2.1 (IntKind.wrap .i64 (y29.2.2.2.2.2.2.1-y29.2.2.2.2.2.2.2.1)) y29.2.2.2.1 y29.2.2.2.2.1) fun r33 =>
 some r33) (
 some r30)) (
 some r30))) (
 tif ((decide (y29.2.2.2.2.2.1<(IntKind.wrap .i64 (y29.2.2.2.2.2.2.1-y29.2.2.2.2.2.2.2.1))))) (
 tif ((decide ((IntKind.wrap .i64 (y29.2.2.2.2.2.2.1-y29.2.2.2.2.2.2.2.1))<y29.2.2.2.1))) (
 a0a (b0j n r30 y29.2.2.2.2.2.1 (IntKind.wrap .i64 (y29.2.2.2.2.2.2.1-y29.2.2.2.2.2.2.2.1)) y29.2.2.2.1 y29.2.2.2.2.1) fun r34 =>
 some r34) (
 some r30)) (
 some r30))) (
 tif ((decide (y29.2.1<y29.2.2.2.2.2.2.2.1))) (
 tif ((decide (y29.2.2.2.2.2.2.2.1<y29.2.2.2.2.2.1))) (
 a0a (b0j n y29.1 y29.2.1 y29.2.2.2.2.2.2.2.1 y29.2.2.2.2.2.1 y29.2.2.2.2.1) fun r35 =>
 tif ((decide (y29.2.2.2.2.2.1<(IntKind.wrap .i64 (y29.2.2.2.2.2.2.1-y29.2.2.2.2.2.2.2.1))))) (
 tif ((decide ((IntKind.wrap .i64 (y29.2.2.2.2.2.2.1-y29.2.2.2.2.2.2.2.1))<y29.2.2.2.1))) (
 a0a (b0j n r35 y29.2.2.2.2.2.1 (IntKind.wrap .i64 (y29.2.2.2.2.2.2.1-y29.2.2.2.2.2.2.2.1)) y29.2.2.2.1 y29.2.2.2.2.1) fun r36 =>
 some r36) (
 some r35)) (
 some r35)) (
 tif ((decide (y29.2.2.2.2.2.1<(IntKind.wrap .i64 (y29.2.2.2.2.2.2.1-y29.2.2.2.2.2.2.2.1))))) (
 tif ((decide ((IntKind.wrap .i64 (y29.2.2.2.2.2.2.1-y29.2.2.2.2.2.2.2.1))<y29.2.2.2.1))) (
 a0a (b0j n y29.1 y29.2.2.2.2.2.1 (IntKind.wrap .i64 (y29.2.2.2.2.2.2.1-y29.2.2.2.2.2.2.2.1)) y29.2.2.2.1 y29.2.2.2.2.1) fun r37 =>
 some r37) (
 some y29.1)) (
 some y29.1))) (
 tif ((decide (y29.2.2.2.2.2.1<(IntKind.wrap .i64 (y29.2.2.2.2.2.2.1-y29.2.2.2.2.2.2.2.1))))) (
 tif ((decide ((IntKind.wrap .i64 (y29.2.2.2.2.2.2.1-y29.2.2.2.2.2.2.2.1))<y29.2.2.2.1))) (
 a0a (b0j n y29.1 y29.2.2.2.2.2.1 (IntKind.wrap .i64 (y29.2.2.2.2.2.2.1-y29.2.2.2.2.2.2.2.1)) y29.2.2.2.1 y29.2.2.2.2.1) fun r38 =>
 some r38) (
 some y29.1)) (
 some y29.1)))) (
 tif ((decide (y29.2.1<y29.2.2.2.2.2.2.2.1))) (
 tif ((decide (y29.2.2.2.2.2.2.2.1<y29.2.2.2.2.2.1))) (
 a0a (b0j n y29.1 y29.2.1 y29.2.2.2.2.2.2.2.1 y29.2.2.2.2.2.1 y29.2.2.2.2.1) fun r39 =>
 tif ((decide (y29.2.2.2.2.2.1<(IntKind.wrap .i64 (y29.2.2.2.2.2.2.1-y29.2.2.2.2.2.2.2.1))))) (
 tif ((decide ((IntKind.wrap .i64 (y29.2.2.2.2.2.2.1-y29.2.2.2.2.2.2.2.1))<y29.2.2.2.1))) (
 a0a (b0j n r39 y29.2.2.2.2.2.1 (IntKind.wrap .i64 (y29.2.2.2.2.2.2.1-y29.2.2.2.2.2.2.2.1)) y29.2.2.2.1 y29.2.2.2.2.1) fun r40 =>
 some r40) (
 some r39)) (
 some r39)) (
 tif ((decide (y29.2.2.2.2.2.1<(IntKind.wrap .i64 (y29.2.2.2.2.2.2.1-y29.2.2.2.2.2.2.2.1))))) (
 tif ((decide ((IntKind.wrap .i64 (y29.2.2.2.2.2.2.1-y29.2.2.2.2.2.2.2.1))<y29.2.2.2.1))) (
 a0a (b0j n y29.1 y29.2.2.2.2.2.1 (IntKind.wrap .i64 (y29.2.2.2.2.2.2.1-y29.2.2.2.2.2.2.2.1)) y29.2.2.2.1 y29.2.2.2.2.1) fun r41 =>
 some r41) (
 some y29.1)) (
 some y29.1))) (
 tif ((decide (y29.2.2.2.2.2.1<(IntKind.wrap .i64 (y29.2.2.2.2.2.2.1-y29.2.2.2.2.2.2.2.1))))) (
 tif ((decide ((IntKind.wrap .i64 (y29.2.2.2.2.2.2.1-y29.2.2.2.2.2.2.2.1))<y29.2.2.2.1))) (
 a0a (b0j n y29.1 y29.2.2.2.2.2.1 (IntKind.wrap .i64 (y29.2.2.2.2.2.2.1-y29.2.2.2.2.2.2.2.1)) y29.2.2.2.1 y29.2.2.2.2.1) fun r42 =>
 some r42) (
 some y29.1)) (
 some y29.1)))) (fun z43 =>
 some z43) r28))):=by kernel_rfl
theorem s0t (n f:Nat) (data:(List a0c)) (a:Int) (cmp:((a0c×(a0c×Unit))→Option Int)) (i:Int) (j:Int):l0c n (f+1) (data,a,cmp,i,j,()) =
 tif ((decide (i<j))) (
 a0a (at? data (IntKind.wrap .i64 (shrI .u64 (IntKind.wrap .u64 (IntKind.wrap .i64 (i+j))) (1:Int)))) fun r0 =>
 a0a ((data)[(Int.toNat (IntKind.wrap .i64 (shrI .u64 (IntKind.wrap .u64 (IntKind.wrap .i64 (i+j))) (1:Int))))]?) fun r1 =>
 a0a (at? data a) fun r2 =>
 a0a ((data)[(Int.toNat a)]?) fun r3 =>
 a0a (cmp (r1,(r3,()))) fun r4 =>
 tif ((decide (r4<0))) (
 l0c n f (data,(a,(cmp,((IntKind.wrap .i64 ((IntKind.wrap .i64 (shrI .u64 (IntKind.wrap .u64 (IntKind.wrap .i64 (i+j))) (1:Int)))+1)),(j,())))))) (
 l0c n f (data,(a,(cmp,(i,((IntKind.wrap .i64 (shrI .u64 (IntKind.wrap .u64 (IntKind.wrap .i64 (i+j))) (1:Int))),()))))))) (
 some (.inl (data,(a,(i,()))))):=by kernel_rfl
theorem s0s (n f:Nat) (data:(List a0c)) (i:Int) (k:Int):p0j n (f+1) (data,i,k,()) =
 tif ((decide (k<(IntKind.wrap .i64 (i-1))))) (
 a0a (at? data (IntKind.wrap .i64 (k+1))) fun r0 =>
 a0a ((data)[(Int.toNat (IntKind.wrap .i64 (k+1)))]?) fun r1 =>
 a0a (at? data k) fun r2 =>
 a0a ((data)[(Int.toNat k)]?) fun r3 =>
 a0a (at? data k) fun r4 =>
 a0a ((data)[(Int.toNat k)]?) fun r5 =>
 a0a (at? (List.set data (Int.toNat k) r1) (IntKind.wrap .i64 (k+1))) fun r6 =>
 a0a (((List.set data (Int.toNat k) r1))[(Int.toNat (IntKind.wrap .i64 (k+1)))]?) fun r7 =>
 p0j n f ((List.set (List.set data (Int.toNat k) r1) (Int.toNat (IntKind.wrap .i64 (k+1))) r3),(i,((IntKind.wrap .i64 (k+1)),())))) (
 some (.inl (data,()))):=by kernel_rfl
theorem q0s (n f:Nat) (data:(List a0c)) (m:Int) (cmp:((a0c×(a0c×Unit))→Option Int)) (i_:Int) (j_:Int):j0p n (f+1) (data,m,cmp,i_,j_,()) =
 tif ((decide (i_<j_))) (
 a0a (at? data m) fun r0 =>
 a0a ((data)[(Int.toNat m)]?) fun r1 =>
 a0a (at? data (IntKind.wrap .i64 (shrI .u64 (IntKind.wrap .u64 (IntKind.wrap .i64 (i_+j_))) (1:Int)))) fun r2 =>
 a0a ((data)[(Int.toNat (IntKind.wrap .i64 (shrI .u64 (IntKind.wrap .u64 (IntKind.wrap .i64 (i_+j_))) (1:Int))))]?) fun r3 =>
 a0a (cmp (r1,(r3,()))) fun r4 =>
 tif ((!(decide (r4<0)))) (
 j0p n f (data,(m,(cmp,((IntKind.wrap .i64 ((IntKind.wrap .i64 (shrI .u64 (IntKind.wrap .u64 (IntKind.wrap .i64 (i_+j_))) (1:Int)))+1)),(j_,())))))) (
 j0p n f (data,(m,(cmp,(i_,((IntKind.wrap .i64 (shrI .u64 (IntKind.wrap .u64 (IntKind.wrap .i64 (i_+j_))) (1:Int))),()))))))) (
 some (.inl (data,(m,(i_,()))))):=by kernel_rfl
theorem q0r (n f:Nat) (data:(List a0c)) (i_:Int) (k_:Int):m0m n (f+1) (data,i_,k_,()) =
 tif ((decide (i_<k_))) (
 a0a (at? data (IntKind.wrap .i64 (k_-1))) fun r0 =>
 a0a ((data)[(Int.toNat (IntKind.wrap .i64 (k_-1)))]?) fun r1 =>
 a0a (at? data k_) fun r2 =>
 a0a ((data)[(Int.toNat k_)]?) fun r3 =>
 a0a (at? data k_) fun r4 =>
 a0a ((data)[(Int.toNat k_)]?) fun r5 =>
 a0a (at? (List.set data (Int.toNat k_) r1) (IntKind.wrap .i64 (k_-1))) fun r6 =>
 a0a (((List.set data (Int.toNat k_) r1))[(Int.toNat (IntKind.wrap .i64 (k_-1)))]?) fun r7 =>
 m0m n f ((List.set (List.set data (Int.toNat k_) r1) (Int.toNat (IntKind.wrap .i64 (k_-1))) r3),(i_,((IntKind.wrap .i64 (k_-1)),())))) (
 some (.inl (data,()))):=by kernel_rfl
theorem q0q (n f:Nat) (data:(List a0c)) (a:Int) (m:Int) (b:Int) (cmp:((a0c×(a0c×Unit))→Option Int)) (mid:Int) (n_:Int) (start:Int) (r:Int) (p:Int):g0r n (f+1) (data,a,m,b,cmp,mid,n_,start,r,p,()) =
 tif ((decide (start<r))) (
 a0a (at? data (IntKind.wrap .i64 (p-(IntKind.wrap .i64 (shrI .u64 (IntKind.wrap .u64 (IntKind.wrap .i64 (start+r))) (1:Int)))))) fun r0 =>
 a0a ((data)[(Int.toNat (IntKind.wrap .i64 (p-(IntKind.wrap .i64 (shrI .u64 (IntKind.wrap .u64 (IntKind.wrap .i64 (start+r))) (1:Int))))))]?) fun r1 =>
 a0a (at? data (IntKind.wrap .i64 (shrI .u64 (IntKind.wrap .u64 (IntKind.wrap .i64 (start+r))) (1:Int)))) fun r2 =>
 a0a ((data)[(Int.toNat (IntKind.wrap .i64 (shrI .u64 (IntKind.wrap .u64 (IntKind.wrap .i64 (start+r))) (1:Int))))]?) fun r3 =>
 a0a (cmp (r1,(r3,()))) fun r4 =>
 tif ((!(decide (r4<0)))) (
 g0r n f (data,(a,(m,(b,(cmp,(mid,(n_,((IntKind.wrap .i64 ((IntKind.wrap .i64 (shrI .u64 (IntKind.wrap .u64 (IntKind.wrap .i64 (start+r))) (1:Int)))+1)),(r,(p,()))))))))))) (
 g0r n f (data,(a,(m,(b,(cmp,(mid,(n_,(start,((IntKind.wrap .i64 (shrI .u64 (IntKind.wrap .u64 (IntKind.wrap .i64 (start+r))) (1:Int))),(p,())))))))))))) (
 some (.inl (data,(a,(m,(b,(cmp,(mid,(n_,(start,())))))))))):=by kernel_rfl
theorem t1e (n:Nat) (data:(List a0c)) (a:Int) (m:Int) (b:Int) (cmp:((a0c×(a0c×Unit))→Option Int)):y0r (n+1) data a m b cmp =
 a0a (l0e n a0b (data,(m,(cmp,((IntKind.wrap .i64 (m-a)),((IntKind.wrap .i64 (b-m)),())))))) fun r0 =>
 c0t (fun y1 =>
 a0a (y0q n y1.1 (IntKind.wrap .i64 (y1.2.1-y1.2.2.2.1)) y1.2.1 y1.2.2.2.1 y1.2.2.1) fun r2 =>
 some r2) (fun z3 =>
 some z3) r0:=by kernel_rfl
theorem f1d (n f:Nat) (data:(List a0c)) (m:Int) (cmp:((a0c×(a0c×Unit))→Option Int)) (i:Int) (j:Int):l0e n (f+1) (data,m,cmp,i,j,()) =
 tif ((!(decide (i=j)))) (
 tif ((decide (j<i))) (
 a0a (y0q n data (IntKind.wrap .i64 (m-i)) m j cmp) fun r0 =>
 l0e n f (r0,(m,(cmp,((IntKind.wrap .i64 (i-j)),(j,())))))) (
 a0a (y0q n data (IntKind.wrap .i64 (m-i)) (IntKind.wrap .i64 ((IntKind.wrap .i64 (m+j))-i)) i cmp) fun r1 =>
 l0e n f (r1,(m,(cmp,(i,((IntKind.wrap .i64 (j-i)),()))))))) (
 some (.inl (data,(m,(cmp,(i,())))))):=by kernel_rfl
theorem t1b (n:Nat) (data:(List a0c)) (a:Int) (b:Int) (n_:Int) (cmp:((a0c×(a0c×Unit))→Option Int)):y0q (n+1) data a b n_ cmp =
 a0a (p0k n a0b (data,(a,(b,(n_,(0,())))))) fun r0 =>
 c0t (fun y1 =>
 some y1.1) (fun z2 =>
 some z2) r0:=by kernel_rfl
theorem s0u (n f:Nat) (data:(List a0c)) (a:Int) (b:Int) (n_:Int) (i:Int):p0k n (f+1) (data,a,b,n_,i,()) =
 tif ((decide (i<n_))) (
 a0a (at? data (IntKind.wrap .i64 (b+i))) fun r0 =>
 a0a ((data)[(Int.toNat (IntKind.wrap .i64 (b+i)))]?) fun r1 =>
 a0a (at? data (IntKind.wrap .i64 (a+i))) fun r2 =>
 a0a ((data)[(Int.toNat (IntKind.wrap .i64 (a+i)))]?) fun r3 =>
 a0a (at? data (IntKind.wrap .i64 (a+i))) fun r4 =>
 a0a ((data)[(Int.toNat (IntKind.wrap .i64 (a+i)))]?) fun r5 =>
 a0a (at? (List.set data (Int.toNat (IntKind.wrap .i64 (a+i))) r1) (IntKind.wrap .i64 (b+i))) fun r6 =>
 a0a (((List.set data (Int.toNat (IntKind.wrap .i64 (a+i))) r1))[(Int.toNat (IntKind.wrap .i64 (b+i)))]?) fun r7 =>
 p0k n f ((List.set (List.set data (Int.toNat (IntKind.wrap .i64 (a+i))) r1) (Int.toNat (IntKind.wrap .i64 (b+i))) r3),(a,(b,(n_,((IntKind.wrap .i64 (i+1)),())))))) (
 some (.inl (data,()))):=by kernel_rfl
end Go.Proofs.YtkajechaanmplaaGreatDoor
