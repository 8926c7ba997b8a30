/- Trees, printed by program. -/
import Derived.Test.YtojobamheigpbaaGreatDoorTr0
import Derived.KernelRfl
set_option linter.unusedVariables false
namespace Go.Proofs.YtojobamheigpbaaGreatDoor
open Go.Flat
theorem t0k (n:Nat) (x:Int) (y:Int):g0f (n+1) x y =
 some ((IntKind.wrap .u64 ((IntKind.wrap .u64 ((IntKind.wrap .u64 ((shrI .u64 x (32:Int))*(shrI .u64 y (32:Int))))+(shrI .u64 (IntKind.wrap .u64 ((IntKind.wrap .u64 ((shrI .u64 x (32:Int))*(andI .u64 y (4294967295:Int))))+(shrI .u64 (IntKind.wrap .u64 ((andI .u64 x (4294967295:Int))*(andI .u64 y (4294967295:Int)))) (32:Int)))) (32:Int))))+(shrI .u64 (IntKind.wrap .u64 ((andI .u64 (IntKind.wrap .u64 ((IntKind.wrap .u64 ((shrI .u64 x (32:Int))*(andI .u64 y (4294967295:Int))))+(shrI .u64 (IntKind.wrap .u64 ((andI .u64 x (4294967295:Int))*(andI .u64 y (4294967295:Int)))) (32:Int)))) (4294967295:Int))+(IntKind.wrap .u64 ((andI .u64 x (4294967295:Int))*(shrI .u64 y (32:Int)))))) (32:Int)))),(IntKind.wrap .u64 (x*y))):=by kernel_rfl
theorem c1g (n:Nat) (n_:Int) (low:Int) (high:Int):e0m (n+1) n_ low high =
 tif ((decide (low≤n_))) (
 some (decide (n_≤high))) (
 some false):=by kernel_rfl
theorem x0m (n:Nat) (n_:Int) (low:Int) (high:Int):g0i (n+1) n_ low high =
 tif ((decide (low≤n_))) (
 some (decide (n_≤high))) (
 some false):=by kernel_rfl
theorem h1m (n:Nat) (c:a0x):g0v (n+1) c =
 a0a (g0w n c.1 (16:Int)) fun r0 =>
 a0a (g0w n c.2.2.1.1 (4:Int)) fun r1 =>
 a0a (g0w n c.2.2.1.2.1 (4:Int)) fun r2 =>
 a0a (g0w n c.2.2.1.2.2 (4:Int)) fun r3 =>
 some (IntKind.wrap .i64 ((IntKind.wrap .i64 ((IntKind.wrap .i64 ((IntKind.wrap .i64 ((1:Int)+r0))+r1))+r2))+r3)):=by kernel_rfl
theorem h1q (n:Nat) (c:a0x):v0t (n+1) c =
 a0a (c0o n c) fun r0 =>
 tif ((!(decide (r0=0)))) (
 some (0:Int)) (
 a0a (g0w n c.2.2.2.2 (120:Int)) fun r1 =>
 some r1):=by kernel_rfl
theorem f1f (n:Nat) (s:a0k):v0b (n+1) s =
 a0a (f0i n s) fun r0 =>
 tif ((!(decide (r0=0)))) (
 some (0,0)) (
 a0a (e1s n s) fun r1 =>
 some (r1,(if (35184372088832:Int)<(IntKind.wrap .i64 (r1+s.1.2.1.1)) then (35184372088832:Int) else (IntKind.wrap .i64 (r1+s.1.2.1.1))))):=by kernel_rfl
theorem f1c (n:Nat) (c:a0x) (l:(List (List UInt8×List UInt8))):p0n (n+1) c l =
 a0a (c0o n c) fun r0 =>
 tif ((!(decide (r0=0)))) (
 some (([],(0,((0,(0,[])),(([],([],[])),(0,(0,((0,(0,(0,false))),((0,(0,(0,false))),((0,0),(0,(0,0))))))))))),r0)) (
 a0a (f0p n l) fun r1 =>
 tif ((!(decide (r1=0)))) (
 some (([],(0,((0,(0,[])),(([],([],[])),(0,(0,((0,(0,(0,false))),((0,(0,(0,false))),((0,0),(0,(0,0))))))))))),r1)) (
 a0a (d0z n l) fun r2 =>
 a0a (v0o n c) fun r3 =>
 some ((r2,(((-1):Int),((0,(0,[])),(r3,(0,(0,((0,(0,(0,false))),((0,(0,(0,false))),((0,0),(0,(0,0))))))))))),0))):=by kernel_rfl
theorem b1m (n:Nat) (c:a0x) (s:b0b):m0q (n+1) c s =
 a0a (v0q n c s.2.2.2.1) fun r0 =>
 tif ((!(decide (r0=0)))) (
 some (none,2)) (
 a0a (f0p n s.1) fun r1 =>
 tif ((!(decide (r1=0)))) (
 some (none,2)) (
 a0a (t0d n s.2.2.1 c.1) fun r2 =>
 tif ((!(decide (r2=0)))) (
 some (none,2)) (
 tif ((decide (s.2.1=((-1):Int)))) (
 a0a (z0c n (c,s)) fun r3 =>
 tif (r3) (
 some ((some (c,s)),0)) (
 tif ((!(decide (s.2.1=((-1):Int))))) (
 a0a (x0s n (c,s)) fun r4 =>
 tif (r4) (
 some ((some (c,s)),0)) (
 some (none,2))) (
 some (none,2)))) (
 tif ((!(decide (s.2.1=((-1):Int))))) (
 a0a (x0s n (c,s)) fun r5 =>
 tif (r5) (
 some ((some (c,s)),0)) (
 some (none,2))) (
 some (none,2)))))):=by kernel_rfl
theorem n1j (n:Nat) (s:c0c) (i:Int):e1w (n+1) s i =
 tif ((decide (s.2.2.2.2.2.1=i))) (
 some (0,s)) (
 tif ((decide (s.2.2.2.2.2.2.1=0))) (
 some (0,s)) (
 a0a (v0p n s.1 s.2.2.2.2.1 s.2.2.2.2.2 i) fun r0 =>
 tif ((decide (r0.2=0))) (
 some (r0.2,(s.1,(s.2.1,(s.2.2.1,(s.2.2.2.1,(r0.1,(0,(0,((0,(0,(0,false))),((0,(0,(0,false))),((0,0),(0,(0,0)))))))))))))) (
 some (r0.2,s)))):=by kernel_rfl
theorem t1k (n:Nat) (s:c0c) (i:Int) (e:a0n):x1t (n+1) s i e =
 a0a (o1c n s.2.2.2.1 s.1.1 e) fun r0 =>
 a0a (i1c n s.2.2.2.2.2.2 e) fun r1 =>
 tif ((!(decide (r0.2=0)))) (
 some (r0.2,s)) (
 some (r1.2,(s.1,(s.2.1,(e.1,(r0.1,(s.2.2.2.2.1,(i,r1.1)))))))):=by kernel_rfl
theorem q0f (n:Nat) (s:(List Int)) (del:((Int×Unit)→Option Bool)):g0r (n+1) s del =
 a0a (n0r n s del) fun r0 =>
 tif ((decide (r0=((-1):Int)))) (
 some s) (
 a0a (c0i n a0b (s,(del,(r0,((IntKind.wrap .i64 (r0+1)),()))))) fun r1 =>
 c0u (fun y2 =>
 tif ((decide ((0:Int)≤y2.2.1))) (
 tif ((decide ((Int.toNat y2.2.1)≤(List.length y2.1)))) (
 tif ((decide (((Int.toNat y2.2.1)+((List.length y2.1)-(Int.toNat y2.2.1)))≤(List.length y2.1)))) (
 tif (((decide ((0:Int)≤y2.2.1))&&(decide (y2.2.1≤(((List.length (Go.Flat.putRow y2.1 (Int.toNat y2.2.1) (List.replicate ((List.length y2.1)-(Int.toNat y2.2.1)) (0:Int)))):Nat):Int))))) (
 some (List.take ((Int.toNat y2.2.1)-0) (Go.Flat.putRow y2.1 (Int.toNat y2.2.1) (List.replicate ((List.length y2.1)-(Int.toNat y2.2.1)) (0:Int))))) (
 none)) (
 none)) (
 none)) (
 none)) (fun z3 =>
 some z3) r1):=by kernel_rfl
theorem g0b (n f:Nat) (s:(List Int)) (del:((Int×Unit)→Option Bool)) (i:Int) (j:Int):c0i n (f+1) (s,del,i,j,()) =
 tif ((decide (j<(((List.length s):Nat):Int)))) (
 a0a (at? s j) fun r0 =>
 a0a ((s)[(Int.toNat j)]?) fun r1 =>
 a0a (del (r1,())) fun r2 =>
 tif ((!r2)) (
 a0a (at? s i) fun r3 =>
 a0a ((s)[(Int.toNat i)]?) fun r4 =>
 c0i n f ((List.set s (Int.toNat i) r1),(del,((IntKind.wrap .i64 (i+1)),((IntKind.wrap .i64 (j+1)),()))))) (
 c0i n f (s,(del,(i,((IntKind.wrap .i64 (j+1)),())))))) (
 some (.inl (s,(i,())))):=by kernel_rfl
theorem b1j (n:Nat) (i:Int) (p1:a0k):j0f (n+1) i p1 =
 a0a (at? p1.2.2.2 i) fun r0 =>
 a0a (j0l n p1.1 r0.2.1 p1.2.1) fun r1 =>
 some (!r1):=by kernel_rfl
theorem wi_Of_eq (n:Nat) (t:Int) (w:Int):s1v (n+1) t w =
 a0a (m0h n t (0:Int) (35184372088831:Int)) fun r0 =>
 tif ((!r0)) (
 some (0,1)) (
 a0a (q1b n w) fun r1 =>
 tif ((!r1)) (
 some (0,1)) (
 tif ((decide (w=0))) (
 none) (
 some ((IntKind.wrap .i64 (Int.tdiv t w)),0)))):=by kernel_rfl
theorem i1o (n:Nat) (n_:Int) (low:Int) (high:Int):i1p (n+1) n_ low high =
 tif ((decide (low≤n_))) (
 some (decide (n_≤high))) (
 some false):=by kernel_rfl
theorem u0o (n:Nat) (c:a0x) (last:Int):d0o (n+1) c last (0:Int) =
 tif ((decide (c.2.1.1=0))) (
 none) (
 tif ((decide (c.2.1.2.1=0))) (
 none) (
 some ((IntKind.wrap .i64 ((IntKind.wrap .i64 (Int.tdiv last c.2.1.2.1))*(IntKind.wrap .i64 (Int.tdiv c.2.1.2.1 c.2.1.1)))),(IntKind.wrap .i64 ((IntKind.wrap .i64 ((IntKind.wrap .i64 (Int.tdiv last c.2.1.2.1))*(IntKind.wrap .i64 (Int.tdiv c.2.1.2.1 c.2.1.1))))+(IntKind.wrap .i64 (Int.tdiv c.2.1.2.1 c.2.1.1))))))):=by kernel_rfl
theorem u0n (n:Nat) (c:a0x) (last:Int):d0o (n+1) c last (1:Int) =
 tif ((decide (c.2.1.2.1=0))) (
 none) (
 tif ((decide (c.2.1.2.2=0))) (
 none) (
 some ((IntKind.wrap .i64 ((IntKind.wrap .i64 (Int.tdiv last c.2.1.2.2))*(IntKind.wrap .i64 (Int.tdiv c.2.1.2.2 c.2.1.2.1)))),(IntKind.wrap .i64 ((IntKind.wrap .i64 ((IntKind.wrap .i64 (Int.tdiv last c.2.1.2.2))*(IntKind.wrap .i64 (Int.tdiv c.2.1.2.2 c.2.1.2.1))))+(IntKind.wrap .i64 (Int.tdiv c.2.1.2.2 c.2.1.2.1))))))):=by kernel_rfl
theorem u0m (n:Nat) (c:a0x) (last:Int):d0o (n+1) c last (2:Int) =
 some (0,0):=by kernel_rfl
theorem w0z (n:Nat) (s:(List a0c)):d0r (n+1) s =
 tif ((decide ((List.length s)=0))) (
 both (
 some []) (
 tif ((decide (((0+(List.length s))*120)≤140737488355328))) (
 some ([]++s)) (
 none))) (
 tif ((decide (((0+(List.length s))*120)≤140737488355328))) (
 some ([]++s)) (
 none)):=by kernel_rfl
theorem g1b (n:Nat) (s:List UInt8):v0m (n+1) s =
 tif ((s==[])) (
 some false) (
 tif ((decide ((64:Int)<(((List.length s):Nat):Int)))) (
 some false) (
 a0a (at? s (0:Int)) fun r0 =>
 a0a (n0e n (((UInt8.toNat r0):Nat):Int)) fun r1 =>
 tif (r1) (
 some false) (
 a0a (f0c n (List.map (fun y2=>(((UInt8.toNat y2):Nat):Int)) s) (fun y3=>o0k n y3.1)) fun r4 =>
 some (!r4)))):=by kernel_rfl
theorem b1w (n:Nat) (l:(List (List UInt8×List UInt8))):r0k (n+1) l =
 a0a (f0p n l) fun r0 =>
 tif ((!(decide (r0=0)))) (
 some ([],r0)) (
 a0a (e0w n [] (IntKind.wrap .u64 (((List.length l):Nat):Int))) fun r1 =>
 a0a (h0a n a0b (r1,(l,((((List.length l):Nat):Int),(0,()))))) fun r2 =>
 c0u (fun y3 =>
 a0a (i0b n y3.1) fun r4 =>
 some (r4.1,0)) (fun z5 =>
 some z5) r2):=by kernel_rfl
theorem l0s (n f:Nat) (w:(List Int)) (s17:(List (List UInt8×List UInt8))) (s18:Int) (s19:Int):h0a n (f+1) (w,s17,s18,s19,()) =
 tif ((decide (s19<s18))) (
 a0a (at? s17 s19) fun r0 =>
 a0a (e0x n w r0.1) fun r1 =>
 a0a (e0x n r1 r0.2) fun r2 =>
 h0a n f (r2,(s17,(s18,((IntKind.wrap .i64 (s19+1)),()))))) (
 some (.inl (w,()))):=by kernel_rfl
theorem c1c (n:Nat) (l:(List a0n)):j0t (n+1) l =
 a0a (h0b n a0b (l,((((List.length l):Nat):Int),(0,())))) fun r0 =>
 c0u (fun y1 =>
 some true) (fun z2 =>
 some z2) r0:=by kernel_rfl
theorem l0v (n f:Nat) (s5:(List a0n)) (s6:Int) (s7:Int):h0b n (f+1) (s5,s6,s7,()) =
 tif ((decide (s7<s6))) (
 a0a (at? s5 s7) fun r0 =>
 a0a (c0s n r0) fun r1 =>
 tif ((!(decide (r1=0)))) (
 some (.inr false)) (
 h0b n f (s5,(s6,((IntKind.wrap .i64 (s7+1)),()))))) (
 some (.inl ())):=by kernel_rfl
theorem m1y (n:Nat) (t:Int):s0l (n+1) t =
 tif ((decide ((0:Int)≤t))) (
 some (decide (t<35184372088832))) (
 some false):=by kernel_rfl
theorem j1f (n:Nat) (s:b0b):s0m (n+1) s =
 a0a (j0k n s ([],(0,((0,(0,[])),(([],([],[])),(0,(0,((0,(0,(0,false))),((0,(0,(0,false))),((0,0),(0,(0,0)))))))))))) fun r0 =>
 some r0:=by kernel_rfl
theorem z0i (n:Nat) (c:a0x) (s:b0b):o0c (n+1) c s =
 a0a (m0q n c s) fun r0 =>
 v0h (r0.1) (
 some r0.2) fun r1 =>
 some r0.2:=by kernel_rfl
theorem w0x (n:Nat) (v:a0k):i0m (n+1) v =
 tif ((decide (v.1.2.1.1=0))) (
 none) (
 some (IntKind.wrap .i64 (v.2.1-(Int.tmod v.2.1 v.1.2.1.1)))):=by kernel_rfl
theorem w0w (n:Nat) (v:a0k) (i:Int):m0l (n+1) v i =
 a0a (d0a n v (fun y0=>e0j n y0.1 i v)) fun r1 =>
 tif ((decide (r1<i))) (
 a0a (c0k n v i) fun r2 =>
 some r2) (
 some false):=by kernel_rfl
theorem o0a (n:Nat) (s:(List a0c)) (del:((a0c×Unit)→Option Bool)):g0c (n+1) s del =
 a0a (g0q n s del) fun r0 =>
 tif ((decide (r0=((-1):Int)))) (
 some s) (
 a0a (b0z n a0b (s,(del,(r0,((IntKind.wrap .i64 (r0+1)),()))))) fun r1 =>
 c0u (fun y2 =>
 tif ((decide ((0:Int)≤y2.2.1))) (
 tif ((decide ((Int.toNat y2.2.1)≤(List.length y2.1)))) (
 tif ((decide (((Int.toNat y2.2.1)+((List.length y2.1)-(Int.toNat y2.2.1)))≤(List.length y2.1)))) (
 tif (((decide ((0:Int)≤y2.2.1))&&(decide (y2.2.1≤(((List.length (Go.Flat.putRow y2.1 (Int.toNat y2.2.1) (List.replicate ((List.length y2.1)-(Int.toNat y2.2.1)) (0,(0,((0,(0,(0,false))),((0,(0,(0,false))),((0,0),(0,(0,0)))))))))):Nat):Int))))) (
 some (List.take ((Int.toNat y2.2.1)-0) (Go.Flat.putRow y2.1 (Int.toNat y2.2.1) (List.replicate ((List.length y2.1)-(Int.toNat y2.2.1)) (0,(0,((0,(0,(0,false))),((0,(0,(0,false))),((0,0),(0,(0,0))))))))))) (
 none)) (
 none)) (
 none)) (
 none)) (fun z3 =>
 some z3) r1):=by kernel_rfl
theorem f0t (n f:Nat) (s:(List a0c)) (del:((a0c×Unit)→Option Bool)) (i:Int) (j:Int):b0z n (f+1) (s,del,i,j,()) =
 tif ((decide (j<(((List.length s):Nat):Int)))) (
 a0a (at? s j) fun r0 =>
 a0a ((s)[(Int.toNat j)]?) fun r1 =>
 a0a (del (r1,())) fun r2 =>
 tif ((!r2)) (
 a0a (at? s i) fun r3 =>
 a0a ((s)[(Int.toNat i)]?) fun r4 =>
 b0z n f ((List.set s (Int.toNat i) r1),(del,((IntKind.wrap .i64 (i+1)),((IntKind.wrap .i64 (j+1)),()))))) (
 b0z n f (s,(del,(i,((IntKind.wrap .i64 (j+1)),())))))) (
 some (.inl (s,(i,())))):=by kernel_rfl
theorem i1v (n:Nat) (s:a0c):n0w (n+1) s =
 some ((decide (s.1=0))&&((decide (s.2.1=0))&&((decide (s.2.2.1.1=0))&&((decide (s.2.2.1.2.1=0))&&((decide (s.2.2.1.2.2.1=0))&&((s.2.2.1.2.2.2==false)&&((decide (s.2.2.2.1.1=0))&&((decide (s.2.2.2.1.2.1=0))&&((decide (s.2.2.2.1.2.2.1=0))&&((s.2.2.2.1.2.2.2==false)&&((decide (s.2.2.2.2.1.1=0))&&((decide (s.2.2.2.2.1.2=0))&&((decide (s.2.2.2.2.2.1=0))&&((decide (s.2.2.2.2.2.2.1=0))&&(decide (s.2.2.2.2.2.2.2=0)))))))))))))))):=by kernel_rfl
theorem k0s (n:Nat) (x:(List a0c)) (cmp:((a0c×(a0c×Unit))→Option Int)):e0b (n+1) x cmp =
 a0a (x1x n x (((List.length x):Nat):Int) cmp) fun r0 =>
 some r0:=by kernel_rfl
theorem e1m (n:Nat) (a:a0c) (b:a0c):p0d (n+1) a b =
 a0a (g0x n a.1 b.1) fun r0 =>
 some r0:=by kernel_rfl
theorem q0i (n:Nat) (x:Int) (y:Int):g0x (n+1) x y =
 a0a (j0u n x) fun r0 =>
 a0a (j0u n y) fun r1 =>
 tif (r0) (
 tif (r1) (
 some (0:Int)) (
 some ((-1):Int))) (
 tif (r1) (
 some (1:Int)) (
 tif ((decide (x<y))) (
 some ((-1):Int)) (
 tif ((decide (y<x))) (
 some (1:Int)) (
 some (0:Int))))):=by kernel_rfl
theorem s1w (n:Nat) (t:Int) (now:Int) (w:Int) (n_:Int):y0o (n+1) t now w n_ =
 a0a (s1v n t w) fun r0 =>
 a0a (l0b n now w n_) fun r1 =>
 tif ((decide (r0.2=0))) (
 tif ((decide (r1.2=0))) (
 some (decide (r0.1<r1.1))) (
 some false)) (
 some false):=by kernel_rfl
theorem e1t (n:Nat) (i:Int) (p1:a0k) (p2:(List (List UInt8×List UInt8))) (p3:a0k):e0q (n+1) i p1 p2 p3 =
 a0a (at? p1.2.2.2 i) fun r0 =>
 a0a (l0q n r0.1 p2) fun r1 =>
 tif (r1) (
 a0a (c0k n p3 i) fun r2 =>
 some r2) (
 some false):=by kernel_rfl
theorem t0m (n:Nat) (a:(List (List UInt8×List UInt8))) (b:(List (List UInt8×List UInt8))):l0q (n+1) a b =
 a0a (k0t n a b) fun r0 =>
 some r0:=by kernel_rfl
theorem m1i (n:Nat) (w:Int):q1b (n+1) w =
 a0a (m0h n w (1:Int) (1099511627776:Int)) fun r0 =>
 some r0:=by kernel_rfl
theorem i1a (n:Nat) (c:c0d):m0a (n+1) c =
 a0a (o0q n c) fun r0 =>
 tif (r0) (
 some (0:Int)) (
 a0a (v0u n c) fun r1 =>
 tif ((!r1)) (
 some (2:Int)) (
 a0a (y0l n (18446744073709551615:Int)) fun r2 =>
 a0a (u0g n r2 (IntKind.wrap .u64 (IntKind.wrap .i64 (c.1-1)))) fun r3 =>
 tif ((!(decide (r3.2=0)))) (
 some (2:Int)) (
 a0a (y0m n r3.1 c.2.2.2.1) fun r4 =>
 tif (r4) (
 some (2:Int)) (
 a0a (a1r n c.2.2.2.2.2.1 (IntKind.wrap .i64 (c.1-1))) fun r5 =>
 tif ((!r5)) (
 some (2:Int)) (
 a0a (a1r n c.2.2.2.2.1 (IntKind.wrap .i64 ((IntKind.wrap .i64 (c.1-1))-c.2.2.2.2.2.1))) fun r6 =>
 tif ((!r6)) (
 some (2:Int)) (
 a0a (a1r n c.2.2.2.2.2.2 (IntKind.wrap .i64 (c.2.2.1.1-c.2.1.1))) fun r7 =>
 tif ((!r7)) (
 some (2:Int)) (
 some (0:Int)))))))):=by kernel_rfl
theorem l1u (n:Nat) (c:c0d):o0q (n+1) c =
 some ((decide (c.1=0))&&((decide (c.2.1.1=0))&&((decide (c.2.1.2.1=0))&&((decide (c.2.1.2.2.1=0))&&((c.2.1.2.2.2==false)&&((decide (c.2.2.1.1=0))&&((decide (c.2.2.1.2.1=0))&&((decide (c.2.2.1.2.2.1=0))&&((c.2.2.1.2.2.2==false)&&((decide (c.2.2.2.1.1=0))&&((decide (c.2.2.2.1.2=0))&&((decide (c.2.2.2.2.1=0))&&((decide (c.2.2.2.2.2.1=0))&&(decide (c.2.2.2.2.2.2=0))))))))))))))):=by kernel_rfl
theorem l1v (n:Nat) (a:c0d) (b:c0d):l1w (n+1) a b =
 a0a (n0i n a.2.2.1 b.2.1) fun r0 =>
 tif ((!(decide (r0.2=0)))) (
 some ((0,((0,(0,(0,false))),((0,(0,(0,false))),((0,0),(0,(0,0)))))),r0.2)) (
 a0a (e1c n (a.2.2.2.1::(r0.1.2.2.2.1::(b.2.2.2.1::[])))) fun r1 =>
 some (((IntKind.wrap .i64 (a.1+b.1)),(a.2.1,(b.2.2.1,(r1.1,((IntKind.wrap .i64 (r0.1.2.2.2.2.1+(IntKind.wrap .i64 (a.2.2.2.2.1+b.2.2.2.2.1)))),((IntKind.wrap .i64 (r0.1.2.2.2.2.2.1+(IntKind.wrap .i64 (a.2.2.2.2.2.1+b.2.2.2.2.2.1)))),(IntKind.wrap .i64 (r0.1.2.2.2.2.2.2+(IntKind.wrap .i64 (a.2.2.2.2.2.2+b.2.2.2.2.2.2)))))))))),r1.2)):=by kernel_rfl
theorem p1s (n:Nat) (l:(List c0d)):i1b (n+1) l =
 a0a (j0w n a0b ((0,((0,(0,(0,false))),((0,(0,(0,false))),((0,0),(0,(0,0)))))),((0,((0,(0,(0,false))),((0,(0,(0,false))),((0,0),(0,(0,0)))))),(l,((((List.length l):Nat):Int),(0,())))))) fun r0 =>
 c0u (fun y1 =>
 some (y1.2.1,0)) (fun z2 =>
 some z2) r0:=by kernel_rfl
theorem q0y (n f:Nat) (s2:c0d) (c:c0d) (s9:(List c0d)) (s10:Int) (s11:Int):j0w n (f+1) (s2,c,s9,s10,s11,()) =
 tif ((decide (s11<s10))) (
 a0a (at? s9 s11) fun r0 =>
 a0a (p0v n c r0) fun r1 =>
 tif ((!(decide (r1.2=0)))) (
 some (.inr ((0,((0,(0,(0,false))),((0,(0,(0,false))),((0,0),(0,(0,0)))))),r1.2))) (
 j0w n f (s2,(r1.1,(s9,(s10,((IntKind.wrap .i64 (s11+1)),()))))))) (
 some (.inl (s2,(c,())))):=by kernel_rfl
theorem x0l (n:Nat) (p:a0n) (c:a0n):n0i (n+1) p c =
 a0a (j0t n (p::(c::[]))) fun r0 =>
 tif ((!r0)) (
 some ((0,((0,(0,(0,false))),((0,(0,(0,false))),((0,0),(0,(0,0)))))),2)) (
 tif ((decide (c.1≤p.1))) (
 some ((0,((0,(0,(0,false))),((0,(0,(0,false))),((0,0),(0,(0,0)))))),9)) (
 tif (c.2.2.2) (
 some ((0,((0,(0,(0,false))),((0,(0,(0,false))),((0,0),(0,(0,0)))))),0)) (
 tif ((decide (p.1<c.2.2.1))) (
 a0a (p0u n c (IntKind.wrap .i64 (c.1-c.2.2.1))) fun r1 =>
 some (r1,0)) (
 tif (p.2.2.2) (
 some ((0,((0,(0,(0,false))),((0,(0,(0,false))),((0,0),(0,(1,0)))))),0)) (
 tif ((decide (c.2.1<p.2.1))) (
 a0a (p0u n c (IntKind.wrap .i64 (c.1-p.1))) fun r2 =>
 some (r2,0)) (
 a0a (y0l n (IntKind.wrap .u64 (c.2.1-p.2.1))) fun r3 =>
 some ((0,((0,(0,(0,false))),((0,(0,(0,false))),(r3,(0,(0,(IntKind.wrap .i64 (c.1-p.1)))))))),0))))))):=by kernel_rfl
theorem h1o (n:Nat) (n_:Int) (by_:Int):g0w (n+1) n_ by_ =
 tif ((decide (by_=0))) (
 none) (
 some (IntKind.wrap .i64 (Int.tdiv (IntKind.wrap .i64 ((IntKind.wrap .i64 (n_+by_))-1)) by_))):=by kernel_rfl
theorem n1d (n:Nat) (s:a0k):e1s (n+1) s =
 a0a (k0a n s) fun r0 =>
 tif ((!(decide (r0.2=0)))) (
 some (0:Int)) (
 a0a (s0l n s.2.1) fun r1 =>
 tif ((!r1)) (
 some (0:Int)) (
 a0a (i0m n r0.1) fun r2 =>
 some r2)):=by kernel_rfl
theorem g1h (n:Nat) (c:a0x):v0o (n+1) c =
 a0a (c0o n c) fun r0 =>
 tif ((!(decide (r0=0)))) (
 some ([],([],[]))) (
 a0a (s0h n c.2.2.1.1) fun r1 =>
 a0a (s0h n c.2.2.1.2.1) fun r2 =>
 a0a (s0h n c.2.2.1.2.2) fun r3 =>
 some (r1,(r2,r3))):=by kernel_rfl
theorem g1j (n:Nat) (c:a0x) (s:((List a0c)×((List a0c)×(List a0c)))):v0q (n+1) c s =
 a0a (t0r n c s) fun r0 =>
 v0h (r0.1) (
 some r0.2) fun r1 =>
 some r0.2:=by kernel_rfl
theorem j1y (n:Nat) (r:(Int×(Int×(List a0n)))) (room:Int):t0d (n+1) r room =
 tif ((decide (room<1))) (
 some (2:Int)) (
 tif ((decide ((4096:Int)<room))) (
 some (2:Int)) (
 tif ((decide (room<(((List.length r.2.2):Nat):Int)))) (
 some (2:Int)) (
 tif ((decide (r.1<0))) (
 some (2:Int)) (
 tif ((decide ((70368744177664:Int)<r.1))) (
 some (2:Int)) (
 a0a (v0d n r.2.2) fun r0 =>
 tif ((!r0)) (
 some (2:Int)) (
 a0a (c1z n r room) fun r1 =>
 tif ((!r1)) (
 some (2:Int)) (
 some (0:Int)))))))):=by kernel_rfl
theorem j1k (n:Nat) (s:c0c):z0c (n+1) s =
 tif ((decide ((((List.length s.2.2.2.1.2.2):Nat):Int)=0))) (
 tif (((decide (s.2.2.2.2.2.1=0))&&((decide (s.2.2.2.2.2.2.1=0))&&((decide (s.2.2.2.2.2.2.2.1.1=0))&&((decide (s.2.2.2.2.2.2.2.1.2.1=0))&&((decide (s.2.2.2.2.2.2.2.1.2.2.1=0))&&((s.2.2.2.2.2.2.2.1.2.2.2==false)&&((decide (s.2.2.2.2.2.2.2.2.1.1=0))&&((decide (s.2.2.2.2.2.2.2.2.1.2.1=0))&&((decide (s.2.2.2.2.2.2.2.2.1.2.2.1=0))&&((s.2.2.2.2.2.2.2.2.1.2.2.2==false)&&((decide (s.2.2.2.2.2.2.2.2.2.1.1=0))&&((decide (s.2.2.2.2.2.2.2.2.2.1.2=0))&&((decide (s.2.2.2.2.2.2.2.2.2.2.1=0))&&((decide (s.2.2.2.2.2.2.2.2.2.2.2.1=0))&&(decide (s.2.2.2.2.2.2.2.2.2.2.2.2=0))))))))))))))))) (
 a0a (c0x n s.2.2.2.2.1.1 (0:Int)) fun r0 =>
 tif ((!r0)) (
 a0a (c0x n s.2.2.2.2.1.2.1 (0:Int)) fun r1 =>
 tif ((!r1)) (
 a0a (c0x n s.2.2.2.2.1.2.2 (0:Int)) fun r2 =>
 some (!r2)) (
 some false)) (
 some false)) (
 some false)) (
 some false):=by kernel_rfl
theorem n1k (n:Nat) (s:c0c):x0s (n+1) s =
 a0a (x0u n s.2.2.2.1) fun r0 =>
 tif ((decide (r0.2=0))) (
 tif ((decide (r0.1.1=s.2.2.1))) (
 tif ((decide (s.2.2.2.2.2.2.2.2.1.1=s.2.2.1))) (
 a0a (j0e n s.2.2.2.2.2.2 s.1.2.1.1 s.2.2.2.2.2.1) fun r1 =>
 tif (r1) (
 tif ((decide (s.1.2.1.1=0))) (
 none) (
 a0a (c0x n s.2.2.2.2.1.1 (IntKind.wrap .i64 (Int.tdiv s.2.2.1 s.1.2.1.1))) fun r2 =>
 tif ((!r2)) (
 tif ((decide (s.1.2.1.2.1=0))) (
 none) (
 a0a (c0x n s.2.2.2.2.1.2.1 (IntKind.wrap .i64 (Int.tdiv s.2.2.1 s.1.2.1.2.1))) fun r3 =>
 tif ((!r3)) (
 tif ((decide (s.1.2.1.2.2=0))) (
 none) (
 a0a (c0x n s.2.2.2.2.1.2.2 (IntKind.wrap .i64 (Int.tdiv s.2.2.1 s.1.2.1.2.2))) fun r4 =>
 some (!r4))) (
 some false))) (
 some false))) (
 some false)) (
 some false)) (
 some false)) (
 some false):=by kernel_rfl
theorem g1i (n:Nat) (c:a0x) (s:((List a0c)×((List a0c)×(List a0c)))) (was:a0c) (j:Int):v0p (n+1) c s was j =
 a0a (t0r n c s) fun r0 =>
 v0h (r0.1) (
 tif ((!(decide (r0.2=0)))) (
 some (([],([],[])),r0.2)) (
 tif ((!((decide (was.1=0))&&((decide (was.2.1=0))&&((decide (was.2.2.1.1=0))&&((decide (was.2.2.1.2.1=0))&&((decide (was.2.2.1.2.2.1=0))&&((was.2.2.1.2.2.2==false)&&((decide (was.2.2.2.1.1=0))&&((decide (was.2.2.2.1.2.1=0))&&((decide (was.2.2.2.1.2.2.1=0))&&((was.2.2.2.1.2.2.2==false)&&((decide (was.2.2.2.2.1.1=0))&&((decide (was.2.2.2.2.1.2=0))&&((decide (was.2.2.2.2.2.1=0))&&((decide (was.2.2.2.2.2.2.1=0))&&(decide (was.2.2.2.2.2.2.2=0)))))))))))))))))) (
 a0a (j0e n was.2 c.2.1.1 was.1) fun r1 =>
 tif ((!r1)) (
 some (([],([],[])),2)) (
 tif (((decide (was.1=0))&&((decide (was.2.1=0))&&((decide (was.2.2.1.1=0))&&((decide (was.2.2.1.2.1=0))&&((decide (was.2.2.1.2.2.1=0))&&((was.2.2.1.2.2.2==false)&&((decide (was.2.2.2.1.1=0))&&((decide (was.2.2.2.1.2.1=0))&&((decide (was.2.2.2.1.2.2.1=0))&&((was.2.2.2.1.2.2.2==false)&&((decide (was.2.2.2.2.1.1=0))&&((decide (was.2.2.2.2.1.2=0))&&((decide (was.2.2.2.2.2.1=0))&&((decide (was.2.2.2.2.2.2.1=0))&&(decide (was.2.2.2.2.2.2.2=0))))))))))))))))) (
 some (s,0)) (
 tif ((decide (was.1=j))) (
 some (s,0)) (
 tif ((decide (j<was.1))) (
 some (([],([],[])),1)) (
 none))))) (
 tif (((decide (was.1=0))&&((decide (was.2.1=0))&&((decide (was.2.2.1.1=0))&&((decide (was.2.2.1.2.1=0))&&((decide (was.2.2.1.2.2.1=0))&&((was.2.2.1.2.2.2==false)&&((decide (was.2.2.2.1.1=0))&&((decide (was.2.2.2.1.2.1=0))&&((decide (was.2.2.2.1.2.2.1=0))&&((was.2.2.2.1.2.2.2==false)&&((decide (was.2.2.2.2.1.1=0))&&((decide (was.2.2.2.2.1.2=0))&&((decide (was.2.2.2.2.2.1=0))&&((decide (was.2.2.2.2.2.2.1=0))&&(decide (was.2.2.2.2.2.2.2=0))))))))))))))))) (
 some (s,0)) (
 tif ((decide (was.1=j))) (
 some (s,0)) (
 tif ((decide (j<was.1))) (
 some (([],([],[])),1)) (
 none)))))) fun r2 =>
 tif ((!(decide (r0.2=0)))) (
 some (([],([],[])),r0.2)) (
 tif ((!((decide (was.1=0))&&((decide (was.2.1=0))&&((decide (was.2.2.1.1=0))&&((decide (was.2.2.1.2.1=0))&&((decide (was.2.2.1.2.2.1=0))&&((was.2.2.1.2.2.2==false)&&((decide (was.2.2.2.1.1=0))&&((decide (was.2.2.2.1.2.1=0))&&((decide (was.2.2.2.1.2.2.1=0))&&((was.2.2.2.1.2.2.2==false)&&((decide (was.2.2.2.2.1.1=0))&&((decide (was.2.2.2.2.1.2=0))&&((decide (was.2.2.2.2.2.1=0))&&((decide (was.2.2.2.2.2.2.1=0))&&(decide (was.2.2.2.2.2.2.2=0)))))))))))))))))) (
 a0a (j0e n was.2 c.2.1.1 was.1) fun r3 =>
 tif ((!r3)) (
 some (([],([],[])),2)) (
 tif (((decide (was.1=0))&&((decide (was.2.1=0))&&((decide (was.2.2.1.1=0))&&((decide (was.2.2.1.2.1=0))&&((decide (was.2.2.1.2.2.1=0))&&((was.2.2.1.2.2.2==false)&&((decide (was.2.2.2.1.1=0))&&((decide (was.2.2.2.1.2.1=0))&&((decide (was.2.2.2.1.2.2.1=0))&&((was.2.2.2.1.2.2.2==false)&&((decide (was.2.2.2.2.1.1=0))&&((decide (was.2.2.2.2.1.2=0))&&((decide (was.2.2.2.2.2.1=0))&&((decide (was.2.2.2.2.2.2.1=0))&&(decide (was.2.2.2.2.2.2.2=0))))))))))))))))) (
 some (s,0)) (
 tif ((decide (was.1=j))) (
 some (s,0)) (
 tif ((decide (j<was.1))) (
 some (([],([],[])),1)) (
 a0a (n0h n r2 (0:Int) j) fun r4 =>
 tif ((!r4.1)) (
 some (([],([],[])),1)) (
 a0a (e0f n r4.2 (0:Int) was.1 was.2) fun r5 =>
 tif ((!(decide (r5.1=0)))) (
 some (([],([],[])),r5.1)) (
 a0a (g1l n r5.2 was.1 j) fun r6 =>
 some (r6.2,0)))))))) (
 tif (((decide (was.1=0))&&((decide (was.2.1=0))&&((decide (was.2.2.1.1=0))&&((decide (was.2.2.1.2.1=0))&&((decide (was.2.2.1.2.2.1=0))&&((was.2.2.1.2.2.2==false)&&((decide (was.2.2.2.1.1=0))&&((decide (was.2.2.2.1.2.1=0))&&((decide (was.2.2.2.1.2.2.1=0))&&((was.2.2.2.1.2.2.2==false)&&((decide (was.2.2.2.2.1.1=0))&&((decide (was.2.2.2.2.1.2=0))&&((decide (was.2.2.2.2.2.1=0))&&((decide (was.2.2.2.2.2.2.1=0))&&(decide (was.2.2.2.2.2.2.2=0))))))))))))))))) (
 some (s,0)) (
 tif ((decide (was.1=j))) (
 some (s,0)) (
 tif ((decide (j<was.1))) (
 some (([],([],[])),1)) (
 a0a (n0h n r2 (0:Int) j) fun r7 =>
 tif ((!r7.1)) (
 some (([],([],[])),1)) (
 a0a (e0f n r7.2 (0:Int) was.1 was.2) fun r8 =>
 tif ((!(decide (r8.1=0)))) (
 some (([],([],[])),r8.1)) (
 a0a (g1l n r8.2 was.1 j) fun r9 =>
 some (r9.2,0)))))))):=by kernel_rfl
theorem u1h (n:Nat) (r:(Int×(Int×(List a0n)))) (room:Int) (e:a0n):o1c (n+1) r room e =
 a0a (t0d n r room) fun r0 =>
 tif ((!(decide (r0=0)))) (
 some ((0,(0,[])),2)) (
 a0a (c0s n e) fun r1 =>
 tif ((!(decide (r1=0)))) (
 some ((0,(0,[])),2)) (
 a0a (x0u n r) fun r2 =>
 tif ((decide (r2.2=0))) (
 a0a (f0v n r2.1 e) fun r3 =>
 tif ((!r3)) (
 some ((0,(0,[])),9)) (
 tif ((decide ((((List.length r.2.2):Nat):Int)=room))) (
 tif ((decide (r.1=70368744177664))) (
 some ((0,(0,[])),1)) (
 a0a (m0t n r.2.2 room) fun r4 =>
 v0h (r4.1) (
 tif ((!(decide (r4.2=0)))) (
 some ((0,(0,[])),r4.2)) (
 none)) fun r5 =>
 tif ((!(decide (r4.2=0)))) (
 some ((0,(0,[])),r4.2)) (
 a0a (w0g n r5 e) fun r6 =>
 tif (r6.2.1) (
 a0a (k0e n r6.2.2) fun r7 =>
 some (((IntKind.wrap .i64 (r.1+1)),(r6.1.1,r7.1)),0)) (
 a0a (k0e n r6.2.2) fun r8 =>
 some ((r.1,(r.2.1,r8.1)),0))))) (
 a0a (m0t n r.2.2 room) fun r9 =>
 v0h (r9.1) (
 tif ((!(decide (r9.2=0)))) (
 some ((0,(0,[])),r9.2)) (
 none)) fun r10 =>
 tif ((!(decide (r9.2=0)))) (
 some ((0,(0,[])),r9.2)) (
 a0a (w0g n r10 e) fun r11 =>
 tif (r11.2.1) (
 a0a (k0e n r11.2.2) fun r12 =>
 some (((IntKind.wrap .i64 (r.1+1)),(r11.1.1,r12.1)),0)) (
 a0a (k0e n r11.2.2) fun r13 =>
 some ((r.1,(r.2.1,r13.1)),0)))))) (
 tif ((decide ((((List.length r.2.2):Nat):Int)=room))) (
 tif ((decide (r.1=70368744177664))) (
 some ((0,(0,[])),1)) (
 a0a (m0t n r.2.2 room) fun r14 =>
 v0h (r14.1) (
 tif ((!(decide (r14.2=0)))) (
 some ((0,(0,[])),r14.2)) (
 none)) fun r15 =>
 tif ((!(decide (r14.2=0)))) (
 some ((0,(0,[])),r14.2)) (
 a0a (w0g n r15 e) fun r16 =>
 tif (r16.2.1) (
 a0a (k0e n r16.2.2) fun r17 =>
 some (((IntKind.wrap .i64 (r.1+1)),(r16.1.1,r17.1)),0)) (
 a0a (k0e n r16.2.2) fun r18 =>
 some ((r.1,(r.2.1,r18.1)),0))))) (
 a0a (m0t n r.2.2 room) fun r19 =>
 v0h (r19.1) (
 tif ((!(decide (r19.2=0)))) (
 some ((0,(0,[])),r19.2)) (
 none)) fun r20 =>
 tif ((!(decide (r19.2=0)))) (
 some ((0,(0,[])),r19.2)) (
 a0a (w0g n r20 e) fun r21 =>
 tif (r21.2.1) (
 a0a (k0e n r21.2.2) fun r22 =>
 some (((IntKind.wrap .i64 (r.1+1)),(r21.1.1,r22.1)),0)) (
 a0a (k0e n r21.2.2) fun r23 =>
 some ((r.1,(r.2.1,r23.1)),0))))))):=by kernel_rfl
theorem p1t (n:Nat) (c:c0d) (e:a0n):i1c (n+1) c e =
 a0a (c0s n e) fun r0 =>
 tif ((!(decide (r0=0)))) (
 some ((0,((0,(0,(0,false))),((0,(0,(0,false))),((0,0),(0,(0,0)))))),r0)) (
 a0a (h1w n e) fun r1 =>
 a0a (p0v n c r1) fun r2 =>
 some r2):=by kernel_rfl
theorem r0g (n:Nat) (s:(List Int)) (f_:((Int×Unit)→Option Bool)):n0r (n+1) s f_ =
 a0a (c0r n a0b (s,(f_,((((List.length s):Nat):Int),(0,()))))) fun r0 =>
 c0u (fun y1 =>
 some ((-1):Int)) (fun z2 =>
 some z2) r0:=by kernel_rfl
theorem g0m (n f:Nat) (s:(List Int)) (f_:((Int×Unit)→Option Bool)) (s7:Int) (s8:Int):c0r n (f+1) (s,f_,s7,s8,()) =
 tif ((decide (s8<s7))) (
 a0a (at? s s8) fun r0 =>
 a0a (f_ (r0,())) fun r1 =>
 tif (r1) (
 some (.inr s8)) (
 c0r n f (s,(f_,(s7,((IntKind.wrap .i64 (s8+1)),())))))) (
 some (.inl ())):=by kernel_rfl
theorem b1g (n:Nat) (n_:Int) (low:Int) (high:Int):m0h (n+1) n_ low high =
 tif ((decide (low≤n_))) (
 some (decide (n_≤high))) (
 some false):=by kernel_rfl
theorem b1u (n:Nat) (c:Int):n0e (n+1) c =
 tif ((decide ((48:Int)≤c))) (
 some (decide (c≤57))) (
 some false):=by kernel_rfl
theorem m0n (n:Nat) (s:(List Int)) (f_:((Int×Unit)→Option Bool)):f0c (n+1) s f_ =
 a0a (l0j n s f_) fun r0 =>
 some (decide ((0:Int)≤r0)):=by kernel_rfl
theorem a1c (n:Nat) (c:Int):o0k (n+1) c =
 a0a (v0l n c) fun r0 =>
 some (!r0):=by kernel_rfl
theorem g1a (n:Nat) (c:Int):v0l (n+1) c =
 a0a (n0e n c) fun r0 =>
 tif (r0) (
 some true) (
 tif ((decide (c=95))) (
 some true) (
 tif ((decide ((97:Int)≤(orI .u8 c (32:Int))))) (
 some (decide ((orI .u8 c (32:Int))≤122))) (
 some false))):=by kernel_rfl
theorem q0g (n:Nat) (w:(List Int)) (n_:Int):e0w (n+1) w n_ =
 a0a (d0e n a0b (w,(n_,()))) fun r0 =>
 c0u (fun y1 =>
 tif ((decide ((((List.length y1.1)+1)*1)≤140737488355328))) (
 some (y1.1++((IntKind.wrap .u8 y1.2.1)::[]))) (
 none)) (fun z2 =>
 some z2) r0:=by kernel_rfl
theorem n0k (n f:Nat) (w:(List Int)) (n_:Int):d0e n (f+1) (w,n_,()) =
 tif ((decide ((128:Int)≤n_))) (
 tif ((decide ((((List.length w)+1)*1)≤140737488355328))) (
 d0e n f ((w++((orI .u8 (IntKind.wrap .u8 n_) (128:Int))::[])),((shrI .u64 n_ (7:Int)),()))) (
 none)) (
 some (.inl (w,(n_,())))):=by kernel_rfl
theorem q0h (n:Nat) (w:(List Int)) (s:List UInt8):e0x (n+1) w s =
 a0a (e0w n w (IntKind.wrap .u64 (((List.length s):Nat):Int))) fun r0 =>
 a0a (i0a n r0 s) fun r1 =>
 some r1:=by kernel_rfl
theorem r0o (n:Nat) (w:(List Int)):i0b (n+1) w =
 some ((List.map (fun y0=>(UInt8.ofNat (Int.toNat y0))) w),w):=by kernel_rfl
theorem b1n (n:Nat) (a:b0b) (b:b0b):j0k (n+1) a b =
 a0a (l0q n a.1 b.1) fun r0 =>
 tif (r0) (
 tif ((decide (a.2.1=b.2.1))) (
 a0a (q1t n a.2.2.1 b.2.2.1) fun r1 =>
 tif (r1) (
 tif (((decide (a.2.2.2.2.1=b.2.2.2.2.1))&&((decide (a.2.2.2.2.2.1=b.2.2.2.2.2.1))&&((decide (a.2.2.2.2.2.2.1.1=b.2.2.2.2.2.2.1.1))&&((decide (a.2.2.2.2.2.2.1.2.1=b.2.2.2.2.2.2.1.2.1))&&((decide (a.2.2.2.2.2.2.1.2.2.1=b.2.2.2.2.2.2.1.2.2.1))&&((a.2.2.2.2.2.2.1.2.2.2==b.2.2.2.2.2.2.1.2.2.2)&&((decide (a.2.2.2.2.2.2.2.1.1=b.2.2.2.2.2.2.2.1.1))&&((decide (a.2.2.2.2.2.2.2.1.2.1=b.2.2.2.2.2.2.2.1.2.1))&&((decide (a.2.2.2.2.2.2.2.1.2.2.1=b.2.2.2.2.2.2.2.1.2.2.1))&&((a.2.2.2.2.2.2.2.1.2.2.2==b.2.2.2.2.2.2.2.1.2.2.2)&&((decide (a.2.2.2.2.2.2.2.2.1.1=b.2.2.2.2.2.2.2.2.1.1))&&((decide (a.2.2.2.2.2.2.2.2.1.2=b.2.2.2.2.2.2.2.2.1.2))&&((decide (a.2.2.2.2.2.2.2.2.2.1=b.2.2.2.2.2.2.2.2.2.1))&&((decide (a.2.2.2.2.2.2.2.2.2.2.1=b.2.2.2.2.2.2.2.2.2.2.1))&&(decide (a.2.2.2.2.2.2.2.2.2.2.2=b.2.2.2.2.2.2.2.2.2.2.2))))))))))))))))) (
 a0a (g0a n a.2.2.2.1.1 b.2.2.2.1.1) fun r2 =>
 tif (r2) (
 a0a (g0a n a.2.2.2.1.2.1 b.2.2.2.1.2.1) fun r3 =>
 tif (r3) (
 a0a (g0a n a.2.2.2.1.2.2 b.2.2.2.1.2.2) fun r4 =>
 some r4) (
 some false)) (
 some false)) (
 some false)) (
 some false)) (
 some false)) (
 some false):=by kernel_rfl
theorem s0k (n:Nat) (k:Int) (p1:Int) (p2:a0k):e0j (n+1) k p1 p2 =
 tif ((decide (k=p1))) (
 some true) (
 a0a (c0k n p2 k) fun r0 =>
 tif (r0) (
 a0a (at? p2.2.2.2 k) fun r1 =>
 a0a (at? p2.2.2.2 p1) fun r2 =>
 a0a (l0q n r1.1 r2.1) fun r3 =>
 some r3) (
 some false)):=by kernel_rfl
theorem i0g (n:Nat) (s:(List a0c)) (f_:((a0c×Unit)→Option Bool)):g0q (n+1) s f_ =
 a0a (c0h n a0b (s,(f_,((((List.length s):Nat):Int),(0,()))))) fun r0 =>
 c0u (fun y1 =>
 some ((-1):Int)) (fun z2 =>
 some z2) r0:=by kernel_rfl
theorem f0z (n f:Nat) (s:(List a0c)) (f_:((a0c×Unit)→Option Bool)) (s7:Int) (s8:Int):c0h n (f+1) (s,f_,s7,s8,()) =
 tif ((decide (s8<s7))) (
 a0a (at? s s8) fun r0 =>
 a0a (f_ (r0,())) fun r1 =>
 tif (r1) (
 some (.inr s8)) (
 c0h n f (s,(f_,(s7,((IntKind.wrap .i64 (s8+1)),())))))) (
 some (.inl ())):=by kernel_rfl
theorem t1q (n:Nat) (data:(List a0c)) (n_:Int) (cmp:((a0c×(a0c×Unit))→Option Int)):x1x (n+1) data n_ cmp =
 a0a (l0h n a0b (data,(n_,(cmp,(20,(0,(20,()))))))) fun r0 =>
 c0u (fun y1 =>
 a0a (e1z n y1.1 y1.2.2.2.2.1 y1.2.1 y1.2.2.1) fun r2 =>
 a0a (i0s n a0b (r2,(y1.2.1,(y1.2.2.1,(y1.2.2.2.1,()))))) fun r3 =>
 c0u (fun y4 =>
 some y4.1) (fun z5 =>
 some z5) r3) (fun z6 =>
 some z6) r0:=by kernel_rfl
theorem s0u (n f:Nat) (data:(List a0c)) (n_:Int) (cmp:((a0c×(a0c×Unit))→Option Int)) (blockSize:Int) (a:Int) (b:Int):l0h n (f+1) (data,n_,cmp,blockSize,a,b,()) =
 tif ((decide (b≤n_))) (
 a0a (e1z n data a b cmp) fun r0 =>
 l0h n f (r0,(n_,(cmp,(blockSize,(b,((IntKind.wrap .i64 (b+blockSize)),()))))))) (
 some (.inl (data,(n_,(cmp,(blockSize,(a,()))))))):=by kernel_rfl
theorem s0t (n f:Nat) (data:(List a0c)) (n_:Int) (cmp:((a0c×(a0c×Unit))→Option Int)) (blockSize:Int):i0s n (f+1) (data,n_,cmp,blockSize,()) =
 tif ((decide (blockSize<n_))) (
 a0a (p0k n a0b (data,(n_,(cmp,(blockSize,(0,((IntKind.wrap .i64 ((2:Int)*blockSize)),()))))))) fun r0 =>
 c0u (fun y1 =>
 tif ((decide ((IntKind.wrap .i64 (y1.2.2.2.2.1+y1.2.2.2.1))<y1.2.1))) (
 a0a (b0g n y1.1 y1.2.2.2.2.1 (IntKind.wrap .i64 (y1.2.2.2.2.1+y1.2.2.2.1)) y1.2.1 y1.2.2.1) fun r2 =>
 i0s n f (r2,(y1.2.1,(y1.2.2.1,((IntKind.wrap .i64 (y1.2.2.2.1*2)),()))))) (
 i0s n f (y1.1,(y1.2.1,(y1.2.2.1,((IntKind.wrap .i64 (y1.2.2.2.1*2)),())))))) (fun z3 =>
 some (.inr z3)) r0) (
 some (.inl (data,()))):=by kernel_rfl
theorem s0s (n f:Nat) (data:(List a0c)) (n_:Int) (cmp:((a0c×(a0c×Unit))→Option Int)) (blockSize:Int) (a:Int) (b:Int):p0k n (f+1) (data,n_,cmp,blockSize,a,b,()) =
 tif ((decide (b≤n_))) (
 a0a (b0g n data a (IntKind.wrap .i64 (a+blockSize)) b cmp) fun r0 =>
 p0k n f (r0,(n_,(cmp,(blockSize,(b,((IntKind.wrap .i64 (b+(IntKind.wrap .i64 ((2:Int)*blockSize)))),()))))))) (
 some (.inl (data,(n_,(cmp,(blockSize,(a,()))))))):=by kernel_rfl
theorem k0l (n:Nat) (x:Int):j0u (n+1) x =
 some (!(decide (x=x))):=by kernel_rfl
theorem u0w (n:Nat) (s1:(List (List UInt8×List UInt8))) (s2:(List (List UInt8×List UInt8))):k0t (n+1) s1 s2 =
 tif ((!(decide ((((List.length s1):Nat):Int)=(((List.length s2):Nat):Int))))) (
 some false) (
 a0a (e0r n a0b (s1,(s2,((((List.length s1):Nat):Int),(0,()))))) fun r0 =>
 c0u (fun y1 =>
 some true) (fun z2 =>
 some z2) r0):=by kernel_rfl
theorem i0h (n f:Nat) (s1:(List (List UInt8×List UInt8))) (s2:(List (List UInt8×List UInt8))) (s12:Int) (s13:Int):e0r n (f+1) (s1,s2,s12,s13,()) =
 tif ((decide (s13<s12))) (
 a0a (at? s1 s13) fun r0 =>
 a0a (at? s2 s13) fun r1 =>
 tif ((!((r0.1==r1.1)&&(r0.2==r1.2)))) (
 some (.inr false)) (
 e0r n f (s1,(s2,(s12,((IntKind.wrap .i64 (s13+1)),())))))) (
 some (.inl ())):=by kernel_rfl
theorem i1y (n:Nat) (l:(List a0c)) (i:Int) (k:Int):s0i (n+1) l i k =
 tif ((decide (i<0))) (
 some ((0,((0,(0,(0,false))),((0,(0,(0,false))),((0,0),(0,(0,0)))))),1)) (
 tif ((decide (k<i))) (
 some ((0,((0,(0,(0,false))),((0,(0,(0,false))),((0,0),(0,(0,0)))))),1)) (
 a0a (p0e n l) fun r0 =>
 a0a (f0s n a0b (i,(k,((0,((0,(0,(0,false))),((0,(0,(0,false))),((0,0),(0,(0,0)))))),([],(r0,((((List.length r0):Nat):Int),(0,())))))))) fun r1 =>
 c0u (fun y2 =>
 a0a (i1b n y2.2.1) fun r3 =>
 some r3) (fun z4 =>
 some z4) r1)):=by kernel_rfl
theorem n0x (n f:Nat) (i:Int) (k:Int) (s6:c0d) (cells:(List c0d)) (s20:(List a0c)) (s21:Int) (s22:Int):f0s n (f+1) (i,k,s6,cells,s20,s21,s22,()) =
 tif ((decide (s22<s21))) (
 a0a (at? s20 s22) fun r0 =>
 tif ((decide (i≤r0.1))) (
 tif ((decide (r0.1<k))) (
 tif ((decide ((((List.length cells)+1)*112)≤140737488355328))) (
 f0s n f (i,(k,(s6,((cells++(r0.2::[])),(s20,(s21,((IntKind.wrap .i64 (s22+1)),())))))))) (
 none)) (
 f0s n f (i,(k,(s6,(cells,(s20,(s21,((IntKind.wrap .i64 (s22+1)),()))))))))) (
 f0s n f (i,(k,(s6,(cells,(s20,(s21,((IntKind.wrap .i64 (s22+1)),()))))))))) (
 some (.inl (s6,(cells,())))):=by kernel_rfl
end Go.Proofs.YtojobamheigpbaaGreatDoor
