/- Trees, printed by program. -/
import Derived.Test.YtojobamheigpbaaGreatDoorTr0
import Derived.KernelRfl
set_option linter.unusedVariables false
namespace Go.Proofs.YtojobamheigpbaaGreatDoor
open Go.Flat
theorem h1u (n:Nat) (c:c0d):v0u (n+1) c =
 tif ((decide (c.1=1))) (
 tif (((decide (c.2.1.1=c.2.2.1.1))&&((decide (c.2.1.2.1=c.2.2.1.2.1))&&((decide (c.2.1.2.2.1=c.2.2.1.2.2.1))&&(c.2.1.2.2.2==c.2.2.1.2.2.2))))) (
 a0a (c0s n c.2.1) fun r0 =>
 some (decide (r0=0))) (
 some false)) (
 tif ((decide ((1:Int)<c.1))) (
 a0a (f0v n c.2.1 c.2.2.1) fun r1 =>
 tif (r1) (
 some (decide ((IntKind.wrap .i64 (c.1-1))≤(IntKind.wrap .i64 (c.2.2.1.1-c.2.1.1))))) (
 some false)) (
 some false)):=by kernel_rfl
theorem w1c (n:Nat) (n_:Int) (most:Int):a1r (n+1) n_ most =
 tif ((decide ((0:Int)≤n_))) (
 some (decide (n_≤most))) (
 some false):=by kernel_rfl
theorem m1g (n:Nat) (l:(List (Int×Int))):e1c (n+1) l =
 a0a (m0g n a0b ((0,0),((0,0),(l,((((List.length l):Nat):Int),(0,())))))) fun r0 =>
 c0u (fun y1 =>
 some (y1.2.1,0)) (fun z2 =>
 some z2) r0:=by kernel_rfl
theorem q0k (n f:Nat) (s2:(Int×Int)) (a:(Int×Int)) (s9:(List (Int×Int))) (s10:Int) (s11:Int):m0g n (f+1) (s2,a,s9,s10,s11,()) =
 tif ((decide (s11<s10))) (
 a0a (at? s9 s11) fun r0 =>
 a0a (e1d n a r0) fun r1 =>
 tif ((!(decide (r1.2=0)))) (
 some (.inr ((0,0),r1.2))) (
 m0g n f (s2,(r1.1,(s9,(s10,((IntKind.wrap .i64 (s11+1)),()))))))) (
 some (.inl (s2,(a,())))):=by kernel_rfl
theorem m1s (n:Nat) (l:(List a0c)) (i:Int):q1f (n+1) l i =
 tif ((decide (i<0))) (
 some (0,((0,(0,(0,false))),((0,(0,(0,false))),((0,0),(0,(0,0))))))) (
 tif ((decide ((((List.length l):Nat):Int)=0))) (
 some (0,((0,(0,(0,false))),((0,(0,(0,false))),((0,0),(0,(0,0))))))) (
 a0a (y0n n i (((List.length l):Nat):Int)) fun r0 =>
 a0a (at? l r0) fun r1 =>
 tif ((decide (r1.1=i))) (
 some r1.2) (
 some (0,((0,(0,(0,false))),((0,(0,(0,false))),((0,0),(0,(0,0))))))))):=by kernel_rfl
theorem g1u (n:Nat) (c:a0n) (seen:Int):p0u (n+1) c seen =
 a0a (y0l n c.2.1) fun r0 =>
 some (0,((0,(0,(0,false))),((0,(0,(0,false))),(r0,(1,(0,seen)))))):=by kernel_rfl
theorem m1r (n:Nat) (n_:Int):s0h (n+1) n_ =
 tif ((decide (n_<1))) (
 some []) (
 tif ((decide ((4096:Int)<n_))) (
 some []) (
 tif (((decide ((0:Int)≤n_))&&((decide (n_≤n_))&&(decide ((n_*120)≤140737488355328))))) (
 some (List.replicate (Int.toNat n_) (0,(0,((0,(0,(0,false))),((0,(0,(0,false))),((0,0),(0,(0,0))))))))) (
 none))):=by kernel_rfl
theorem l1d (n:Nat) (c:a0x) (s:((List a0c)×((List a0c)×(List a0c)))):t0r (n+1) c s =
 a0a (c0o n c) fun r0 =>
 tif ((!(decide (r0=0)))) (
 some (none,r0)) (
 tif ((!(decide ((((List.length s.1):Nat):Int)=c.2.2.1.1)))) (
 some (none,2)) (
 a0a (i0q n s.1 c.2.1.1) fun r1 =>
 tif ((!(decide (r1=0)))) (
 some (none,2)) (
 tif ((!(decide ((((List.length s.2.1):Nat):Int)=c.2.2.1.2.1)))) (
 some (none,2)) (
 a0a (i0q n s.2.1 c.2.1.2.1) fun r2 =>
 tif ((!(decide (r2=0)))) (
 some (none,2)) (
 tif ((!(decide ((((List.length s.2.2):Nat):Int)=c.2.2.1.2.2)))) (
 some (none,2)) (
 a0a (i0q n s.2.2 c.2.1.2.2) fun r3 =>
 tif ((!(decide (r3=0)))) (
 some (none,2)) (
 some ((some (c,s)),0)))))))):=by kernel_rfl
theorem f1h (n:Nat) (l:(List a0n)):v0d (n+1) l =
 a0a (e0u n a0b (l,(l,((((List.length l):Nat):Int),(0,()))))) fun r0 =>
 c0u (fun y1 =>
 some true) (fun z2 =>
 some z2) r0:=by kernel_rfl
theorem n0s (n f:Nat) (l:(List a0n)) (s5:(List a0n)) (s6:Int) (s7:Int):e0u n (f+1) (l,s5,s6,s7,()) =
 tif ((decide (s7<s6))) (
 a0a (at? s5 s7) fun r0 =>
 a0a (c0s n r0) fun r1 =>
 tif ((!(decide (r1=0)))) (
 some (.inr false)) (
 tif ((decide ((0:Int)<s7))) (
 a0a (at? l (IntKind.wrap .i64 (s7-1))) fun r2 =>
 a0a (f0v n r2 r0) fun r3 =>
 tif ((!r3)) (
 some (.inr false)) (
 e0u n f (l,(s5,(s6,((IntKind.wrap .i64 (s7+1)),())))))) (
 e0u n f (l,(s5,(s6,((IntKind.wrap .i64 (s7+1)),()))))))) (
 some (.inl ())):=by kernel_rfl
theorem f1i (n:Nat) (r:(Int×(Int×(List a0n)))) (room:Int):c1z (n+1) r room =
 tif ((decide (r.1=0))) (
 some (decide (r.2.1=0))) (
 tif ((decide ((((List.length r.2.2):Nat):Int)=room))) (
 tif ((decide ((0:Int)≤r.2.1))) (
 a0a (at? r.2.2 (0:Int)) fun r0 =>
 some (decide (r.2.1<r0.1))) (
 some false)) (
 some false)):=by kernel_rfl
theorem x0b (n:Nat) (l:(List a0c)) (i:Int):c0x (n+1) l i =
 a0a (f0d n l (fun y0=>j0j n y0.1 i)) fun r1 =>
 some r1:=by kernel_rfl
theorem o1d (n:Nat) (r:(Int×(Int×(List a0n)))):x0u (n+1) r =
 tif ((decide ((((List.length r.2.2):Nat):Int)=0))) (
 some ((0,(0,(0,false))),3)) (
 a0a (at? r.2.2 (IntKind.wrap .i64 ((((List.length r.2.2):Nat):Int)-1))) fun r0 =>
 some (r0,0)):=by kernel_rfl
theorem i1z (n:Nat) (c:c0d) (w:Int) (i:Int):j0e (n+1) c w i =
 tif ((decide (c.1=0))) (
 some false) (
 a0a (m0a n c) fun r0 =>
 tif ((!(decide (r0=0)))) (
 some false) (
 a0a (e0i n a0b (w,(i,((c.2.1.1,c.2.2.1.1),(0,()))))) fun r1 =>
 c0u (fun y2 =>
 some true) (fun z3 =>
 some z3) r1)):=by kernel_rfl
theorem j0d (n f:Nat) (w:Int) (i:Int) (s25:(Int×Int)) (s26:Int):e0i n (f+1) (w,i,s25,s26,()) =
 tif ((decide (s26<2))) (
 tif ((decide (s26=0))) (
 a0a (s1v n s25.1 w) fun r0 =>
 tif ((!(decide (r0.2=0)))) (
 some (.inr false)) (
 tif ((!(decide (r0.1=i)))) (
 some (.inr false)) (
 e0i n f (w,(i,(s25,((IntKind.wrap .i64 (s26+1)),()))))))) (
 tif ((decide (s26=1))) (
 a0a (s1v n s25.2 w) fun r1 =>
 tif ((!(decide (r1.2=0)))) (
 some (.inr false)) (
 tif ((!(decide (r1.1=i)))) (
 some (.inr false)) (
 e0i n f (w,(i,(s25,((IntKind.wrap .i64 (s26+1)),()))))))) (
 none))) (
 some (.inl ())):=by kernel_rfl
theorem x0k (n:Nat) (s:q0j) (i:Int):n0h (n+1) s (0:Int) i =
 tif ((decide ((0:Int)≤i))) (
 tif ((decide (s.1.2.1.1=0))) (
 none) (
 some ((decide (i≤(IntKind.wrap .i64 (Int.tdiv (35184372088831:Int) s.1.2.1.1)))),s))) (
 some (false,s)):=by kernel_rfl
theorem g1p (n:Nat) (s:q0j) (i:Int) (c:c0d):e0f (n+1) s (0:Int) i c =
 a0a (s0g n s.2.1 s.1.2.1.1 i c) fun r0 =>
 tif ((decide (r0.2=0))) (
 some (r0.2,(s.1,(r0.1,s.2.2)))) (
 some (r0.2,s)):=by kernel_rfl
theorem g1n (n:Nat) (s:q0j) (i:Int) (c:c0d):e0f (n+1) s (1:Int) i c =
 a0a (s0g n s.2.2.1 s.1.2.1.2.1 i c) fun r0 =>
 tif ((decide (r0.2=0))) (
 some (r0.2,(s.1,(s.2.1,(r0.1,s.2.2.2))))) (
 some (r0.2,s)):=by kernel_rfl
theorem g1m (n:Nat) (s:q0j) (i:Int) (c:c0d):e0f (n+1) s (2:Int) i c =
 a0a (s0g n s.2.2.2 s.1.2.1.2.2 i c) fun r0 =>
 tif ((decide (r0.2=0))) (
 some (r0.2,(s.1,(s.2.1,(s.2.2.1,r0.1))))) (
 some (r0.2,s)):=by kernel_rfl
theorem v1t (n:Nat) (s:q0j) (i:Int) (j:Int):g1l (n+1) s i j =
 tif ((decide (s.1.2.1.2.1=0))) (
 none) (
 tif ((decide (s.1.2.1.2.1=0))) (
 none) (
 tif ((decide ((IntKind.wrap .i64 (Int.tdiv (IntKind.wrap .i64 (i*s.1.2.1.1)) s.1.2.1.2.1))=(IntKind.wrap .i64 (Int.tdiv (IntKind.wrap .i64 (j*s.1.2.1.1)) s.1.2.1.2.1))))) (
 tif ((decide (s.1.2.1.2.2=0))) (
 none) (
 tif ((decide (s.1.2.1.2.2=0))) (
 none) (
 tif ((decide ((IntKind.wrap .i64 (Int.tdiv (IntKind.wrap .i64 (i*s.1.2.1.1)) s.1.2.1.2.2))=(IntKind.wrap .i64 (Int.tdiv (IntKind.wrap .i64 (j*s.1.2.1.1)) s.1.2.1.2.2))))) (
 some s) (
 a0a (f0j n s (2:Int) (IntKind.wrap .i64 (Int.tdiv (IntKind.wrap .i64 (i*s.1.2.1.1)) s.1.2.1.2.2))) fun r0 =>
 tif ((decide (r0.2.1=0))) (
 tif ((decide ((0:Int)<r0.1.1))) (
 a0a (e0f n r0.2.2 (2:Int) (IntKind.wrap .i64 (Int.tdiv (IntKind.wrap .i64 (i*s.1.2.1.1)) s.1.2.1.2.2)) r0.1) fun r1 =>
 some r1.2) (
 some r0.2.2)) (
 some r0.2.2))))) (
 a0a (f0j n s (1:Int) (IntKind.wrap .i64 (Int.tdiv (IntKind.wrap .i64 (i*s.1.2.1.1)) s.1.2.1.2.1))) fun r2 =>
 tif ((decide (r2.2.1=0))) (
 tif ((decide ((0:Int)<r2.1.1))) (
 a0a (e0f n r2.2.2 (1:Int) (IntKind.wrap .i64 (Int.tdiv (IntKind.wrap .i64 (i*s.1.2.1.1)) s.1.2.1.2.1)) r2.1) fun r3 =>
 tif ((decide (r3.2.1.2.1.2.2=0))) (
 none) (
 tif ((decide (r3.2.1.2.1.2.2=0))) (
 none) (
 tif ((decide ((IntKind.wrap .i64 (Int.tdiv (IntKind.wrap .i64 (i*r3.2.1.2.1.1)) r3.2.1.2.1.2.2))=(IntKind.wrap .i64 (Int.tdiv (IntKind.wrap .i64 (j*r3.2.1.2.1.1)) r3.2.1.2.1.2.2))))) (
 some r3.2) (
 a0a (f0j n r3.2 (2:Int) (IntKind.wrap .i64 (Int.tdiv (IntKind.wrap .i64 (i*r3.2.1.2.1.1)) r3.2.1.2.1.2.2))) fun r4 =>
 tif ((decide (r4.2.1=0))) (
 tif ((decide ((0:Int)<r4.1.1))) (
 a0a (e0f n r4.2.2 (2:Int) (IntKind.wrap .i64 (Int.tdiv (IntKind.wrap .i64 (i*r3.2.1.2.1.1)) r3.2.1.2.1.2.2)) r4.1) fun r5 =>
 some r5.2) (
 some r4.2.2)) (
 some r4.2.2))))) (
 tif ((decide (r2.2.2.1.2.1.2.2=0))) (
 none) (
 tif ((decide (r2.2.2.1.2.1.2.2=0))) (
 none) (
 tif ((decide ((IntKind.wrap .i64 (Int.tdiv (IntKind.wrap .i64 (i*r2.2.2.1.2.1.1)) r2.2.2.1.2.1.2.2))=(IntKind.wrap .i64 (Int.tdiv (IntKind.wrap .i64 (j*r2.2.2.1.2.1.1)) r2.2.2.1.2.1.2.2))))) (
 some r2.2.2) (
 a0a (f0j n r2.2.2 (2:Int) (IntKind.wrap .i64 (Int.tdiv (IntKind.wrap .i64 (i*r2.2.2.1.2.1.1)) r2.2.2.1.2.1.2.2))) fun r6 =>
 tif ((decide (r6.2.1=0))) (
 tif ((decide ((0:Int)<r6.1.1))) (
 a0a (e0f n r6.2.2 (2:Int) (IntKind.wrap .i64 (Int.tdiv (IntKind.wrap .i64 (i*r2.2.2.1.2.1.1)) r2.2.2.1.2.1.2.2)) r6.1) fun r7 =>
 some r7.2) (
 some r6.2.2)) (
 some r6.2.2)))))) (
 tif ((decide (r2.2.2.1.2.1.2.2=0))) (
 none) (
 tif ((decide (r2.2.2.1.2.1.2.2=0))) (
 none) (
 tif ((decide ((IntKind.wrap .i64 (Int.tdiv (IntKind.wrap .i64 (i*r2.2.2.1.2.1.1)) r2.2.2.1.2.1.2.2))=(IntKind.wrap .i64 (Int.tdiv (IntKind.wrap .i64 (j*r2.2.2.1.2.1.1)) r2.2.2.1.2.1.2.2))))) (
 some r2.2.2) (
 a0a (f0j n r2.2.2 (2:Int) (IntKind.wrap .i64 (Int.tdiv (IntKind.wrap .i64 (i*r2.2.2.1.2.1.1)) r2.2.2.1.2.1.2.2))) fun r8 =>
 tif ((decide (r8.2.1=0))) (
 tif ((decide ((0:Int)<r8.1.1))) (
 a0a (e0f n r8.2.2 (2:Int) (IntKind.wrap .i64 (Int.tdiv (IntKind.wrap .i64 (i*r2.2.2.1.2.1.1)) r2.2.2.1.2.1.2.2)) r8.1) fun r9 =>
 some r9.2) (
 some r8.2.2)) (
 some r8.2.2)))))))):=by kernel_rfl
theorem o1a (n:Nat) (l:(List a0n)) (room:Int):m0t (n+1) l room =
 a0a (q0t n room) fun r0 =>
 v0h (r0.1) (
 tif ((!(decide (r0.2=0)))) (
 some (none,r0.2)) (
 none)) fun r1 =>
 tif ((!(decide (r0.2=0)))) (
 some (none,r0.2)) (
 a0a (m0s n a0b (r1,(l,((((List.length l):Nat):Int),(0,()))))) fun r2 =>
 c0u (fun y3 =>
 some ((some y3.1),0)) (fun z4 =>
 some z4) r2):=by kernel_rfl
theorem q0v (n f:Nat) (q:f0r) (s18:(List a0n)) (s19:Int) (s20:Int):m0s n (f+1) (q,s18,s19,s20,()) =
 tif ((decide (s20<s19))) (
 a0a (at? s18 s20) fun r0 =>
 a0a (w0g n q r0) fun r1 =>
 m0s n f (r1.2.2,(s18,(s19,((IntKind.wrap .i64 (s20+1)),()))))) (
 some (.inl (q,()))):=by kernel_rfl
theorem j1t (n:Nat) (r:f0r) (x:a0n):w0g (n+1) r x =
 tif ((decide ((((List.length r.2.1):Nat):Int)<r.1))) (
 tif ((decide ((((List.length r.2.1)+1)*32)≤140737488355328))) (
 some ((0,(0,(0,false))),(false,(r.1,((r.2.1++(x::[])),r.2.2))))) (
 none)) (
 a0a (at? r.2.1 r.2.2.1) fun r0 =>
 a0a ((r.2.1)[(Int.toNat r.2.2.1)]?) fun r1 =>
 a0a (at? r.2.1 r.2.2.1) fun r2 =>
 a0a ((r.2.1)[(Int.toNat r.2.2.1)]?) fun r3 =>
 a0a (q1r n (r.1,((List.set r.2.1 (Int.toNat r.2.2.1) x),r.2.2)) (1:Int)) fun r4 =>
 some (r1,(true,(r4.2.1,(r4.2.2.1,(r4.1,(IntKind.wrap .u64 (r4.2.2.2.2+1)))))))):=by kernel_rfl
theorem y1f (n:Nat) (r:f0r):k0e (n+1) r =
 tif ((true&&((decide ((0:Int)≤(((List.length r.2.1):Nat):Int)))&&(decide (((((List.length r.2.1):Nat):Int)*32)≤140737488355328))))) (
 tif ((decide ((0:Int)≤r.2.2.1))) (
 tif ((decide ((Int.toNat r.2.2.1)≤(List.length r.2.1)))) (
 tif ((decide (((0+(List.length (List.take ((List.length r.2.1)-(Int.toNat r.2.2.1)) (List.drop (Int.toNat r.2.2.1) r.2.1))))*32)≤140737488355328))) (
 tif (((decide ((0:Int)≤r.2.2.1))&&(decide (r.2.2.1≤(((List.length r.2.1):Nat):Int))))) (
 tif ((decide ((((List.length ((List.replicate 0 ((0:Int),((0:Int),((0:Int),false))))++(List.take ((List.length r.2.1)-(Int.toNat r.2.2.1)) (List.drop (Int.toNat r.2.2.1) r.2.1))))+(List.length (List.take ((Int.toNat r.2.2.1)-0) (List.drop 0 r.2.1))))*32)≤140737488355328))) (
 some ((((List.replicate 0 ((0:Int),((0:Int),((0:Int),false))))++(List.take ((List.length r.2.1)-(Int.toNat r.2.2.1)) (List.drop (Int.toNat r.2.2.1) r.2.1)))++(List.take ((Int.toNat r.2.2.1)-0) (List.drop 0 r.2.1))),r)) (
 none)) (
 none)) (
 none)) (
 none)) (
 none)) (
 none):=by kernel_rfl
theorem q0e (n:Nat) (s:(List Int)) (f_:((Int×Unit)→Option Bool)):l0j (n+1) s f_ =
 a0a (c0g n a0b (s,(f_,((((List.length s):Nat):Int),(0,()))))) fun r0 =>
 c0u (fun y1 =>
 some ((-1):Int)) (fun z2 =>
 some z2) r0:=by kernel_rfl
theorem f0y (n f:Nat) (s:(List Int)) (f_:((Int×Unit)→Option Bool)) (s7:Int) (s8:Int):c0g n (f+1) (s,f_,s7,s8,()) =
 tif ((decide (s8<s7))) (
 a0a (at? s s8) fun r0 =>
 a0a (f_ (r0,())) fun r1 =>
 tif (r1) (
 some (.inr s8)) (
 c0g n f (s,(f_,(s7,((IntKind.wrap .i64 (s8+1)),())))))) (
 some (.inl ())):=by kernel_rfl
theorem r0n (n:Nat) (w:(List Int)) (s:List UInt8):i0a (n+1) w s =
 tif ((decide ((((List.length w)+(List.length (List.map (fun y1=>(((UInt8.toNat y1):Nat):Int)) s)))*1)≤140737488355328))) (
 some (w++(List.map (fun y0=>(((UInt8.toNat y0):Nat):Int)) s))) (
 none):=by kernel_rfl
theorem o1b (n:Nat) (a:(Int×(Int×(List a0n)))) (b:(Int×(Int×(List a0n)))):q1t (n+1) a b =
 tif ((decide (a.1=b.1))) (
 tif ((decide (a.2.1=b.2.1))) (
 a0a (k0u n a.2.2 b.2.2) fun r0 =>
 some r0) (
 some false)) (
 some false):=by kernel_rfl
theorem w0y (n:Nat) (s1:(List a0c)) (s2:(List a0c)):g0a (n+1) s1 s2 =
 tif ((!(decide ((((List.length s1):Nat):Int)=(((List.length s2):Nat):Int))))) (
 some false) (
 a0a (f0l n a0b (s1,(s2,((((List.length s1):Nat):Int),(0,()))))) fun r0 =>
 c0u (fun y1 =>
 some true) (fun z2 =>
 some z2) r0):=by kernel_rfl
theorem j0h (n f:Nat) (s1:(List a0c)) (s2:(List a0c)) (s12:Int) (s13:Int):f0l n (f+1) (s1,s2,s12,s13,()) =
 tif ((decide (s13<s12))) (
 a0a (at? s1 s13) fun r0 =>
 a0a (at? s2 s13) fun r1 =>
 tif ((!((decide (r0.1=r1.1))&&((decide (r0.2.1=r1.2.1))&&((decide (r0.2.2.1.1=r1.2.2.1.1))&&((decide (r0.2.2.1.2.1=r1.2.2.1.2.1))&&((decide (r0.2.2.1.2.2.1=r1.2.2.1.2.2.1))&&((r0.2.2.1.2.2.2==r1.2.2.1.2.2.2)&&((decide (r0.2.2.2.1.1=r1.2.2.2.1.1))&&((decide (r0.2.2.2.1.2.1=r1.2.2.2.1.2.1))&&((decide (r0.2.2.2.1.2.2.1=r1.2.2.2.1.2.2.1))&&((r0.2.2.2.1.2.2.2==r1.2.2.2.1.2.2.2)&&((decide (r0.2.2.2.2.1.1=r1.2.2.2.2.1.1))&&((decide (r0.2.2.2.2.1.2=r1.2.2.2.2.1.2))&&((decide (r0.2.2.2.2.2.1=r1.2.2.2.2.2.1))&&((decide (r0.2.2.2.2.2.2.1=r1.2.2.2.2.2.2.1))&&(decide (r0.2.2.2.2.2.2.2=r1.2.2.2.2.2.2.2)))))))))))))))))) (
 some (.inr false)) (
 f0l n f (s1,(s2,(s12,((IntKind.wrap .i64 (s13+1)),())))))) (
 some (.inl ())):=by kernel_rfl
theorem t1t (n:Nat) (data:(List a0c)) (a:Int) (b:Int) (cmp:((a0c×(a0c×Unit))→Option Int)):e1z (n+1) data a b cmp =
 a0a (p0m n a0b (data,(a,(b,(cmp,((IntKind.wrap .i64 (a+1)),())))))) fun r0 =>
 c0u (fun y1 =>
 some y1.1) (fun z2 =>
 some z2) r0:=by kernel_rfl
theorem s0w (n f:Nat) (data:(List a0c)) (a:Int) (b:Int) (cmp:((a0c×(a0c×Unit))→Option Int)) (i:Int):p0m n (f+1) (data,a,b,cmp,i,()) =
 tif ((decide (i<b))) (
 a0a (p0l n a0b (data,(a,(b,(cmp,(i,(i,()))))))) fun r0 =>
 c0u (fun y1 =>
 p0m n f (y1.1,(y1.2.1,(y1.2.2.1,(y1.2.2.2.1,((IntKind.wrap .i64 (y1.2.2.2.2.1+1)),())))))) (fun z2 =>
 some (.inr z2)) r0) (
 some (.inl (data,()))):=by kernel_rfl
theorem s0v (n f:Nat) (data:(List a0c)) (a:Int) (b:Int) (cmp:((a0c×(a0c×Unit))→Option Int)) (i:Int) (j:Int):p0l n (f+1) (data,a,b,cmp,i,j,()) =
 tif ((decide (a<j))) (
 a0a (at? data j) fun r0 =>
 a0a ((data)[(Int.toNat j)]?) fun r1 =>
 a0a (at? data (IntKind.wrap .i64 (j-1))) fun r2 =>
 a0a ((data)[(Int.toNat (IntKind.wrap .i64 (j-1)))]?) fun r3 =>
 a0a (cmp (r1,(r3,()))) fun r4 =>
 tif ((decide (r4<0))) (
 a0a (at? data (IntKind.wrap .i64 (j-1))) fun r5 =>
 a0a ((data)[(Int.toNat (IntKind.wrap .i64 (j-1)))]?) fun r6 =>
 a0a (at? data j) fun r7 =>
 a0a ((data)[(Int.toNat j)]?) fun r8 =>
 a0a (at? data j) fun r9 =>
 a0a ((data)[(Int.toNat j)]?) fun r10 =>
 a0a (at? (List.set data (Int.toNat j) r6) (IntKind.wrap .i64 (j-1))) fun r11 =>
 a0a (((List.set data (Int.toNat j) r6))[(Int.toNat (IntKind.wrap .i64 (j-1)))]?) fun r12 =>
 p0l n f ((List.set (List.set data (Int.toNat j) r6) (Int.toNat (IntKind.wrap .i64 (j-1))) r8),(a,(b,(cmp,(i,((IntKind.wrap .i64 (j-1)),()))))))) (
 some (.inl (data,(a,(b,(cmp,(i,())))))))) (
 some (.inl (data,(a,(b,(cmp,(i,()))))))):=by kernel_rfl
theorem t1o (n:Nat) (data:(List a0c)) (a:Int) (m:Int) (b:Int) (cmp:((a0c×(a0c×Unit))→Option Int)):b0g (n+1) data a m b cmp =
 tif ((decide ((IntKind.wrap .i64 (m-a))=1))) (
 a0a (l0g n a0b (data,(a,(cmp,(m,(b,())))))) fun r0 =>
 c0u (fun y1 =>
 a0a (p0i n a0b (y1.1,(y1.2.2.1,(y1.2.1,())))) fun r2 =>
 c0u (fun y3 =>
 some y3.1) (fun z4 =>
 some z4) r2) (fun z5 =>
 some z5) r0) (
 tif ((decide ((IntKind.wrap .i64 (b-m))=1))) (
 a0a (j0g n a0b (data,(m,(cmp,(a,(m,())))))) fun r6 =>
 c0u (fun y7 =>
 a0a (m0m n a0b (y7.1,(y7.2.2.1,(y7.2.1,())))) fun r8 =>
 c0u (fun y9 =>
 some y9.1) (fun z10 =>
 some z10) r8) (fun z11 =>
 some z11) r6) (
 tif ((decide ((IntKind.wrap .i64 (shrI .u64 (IntKind.wrap .u64 (IntKind.wrap .i64 (a+b))) (1:Int)))<m))) (
 a0a (g0p n a0b (data,(a,(m,(b,(cmp,((IntKind.wrap .i64 (shrI .u64 (IntKind.wrap .u64 (IntKind.wrap .i64 (a+b))) (1:Int))),((IntKind.wrap .i64 ((IntKind.wrap .i64 (shrI .u64 (IntKind.wrap .u64 (IntKind.wrap .i64 (a+b))) (1:Int)))+m)),((IntKind.wrap .i64 ((IntKind.wrap .i64 ((IntKind.wrap .i64 (shrI .u64 (IntKind.wrap .u64 (IntKind.wrap .i64 (a+b))) (1:Int)))+m))-b)),((IntKind.wrap .i64 (shrI .u64 (IntKind.wrap .u64 (IntKind.wrap .i64 (a+b))) (1:Int))),((IntKind.wrap .i64 ((IntKind.wrap .i64 ((IntKind.wrap .i64 (shrI .u64 (IntKind.wrap .u64 (IntKind.wrap .i64 (a+b))) (1:Int)))+m))-1)),()))))))))))) fun r12 =>
 c0u (fun y13 =>
 tif ((decide (y13.2.2.2.2.2.2.2.1<y13.2.2.1))) (
 tif ((decide (y13.2.2.1<(IntKind.wrap .i64 (y13.2.2.2.2.2.2.1-y13.2.2.2.2.2.2.2.1))))) (
 a0a (z0f n y13.1 y13.2.2.2.2.2.2.2.1 y13.2.2.1 (IntKind.wrap .i64 (y13.2.2.2.2.2.2.1-y13.2.2.2.2.2.2.2.1)) y13.2.2.2.2.1) fun r14 =>
 tif ((decide (y13.2.1<y13.2.2.2.2.2.2.2.1))) (
 tif ((decide (y13.2.2.2.2.2.2.2.1<y13.2.2.2.2.2.1))) (
 a0a (b0g n r14 y13.2.1 y13.2.2.2.2.2.2.2.1 y13.2.2.2.2.2.1 y13.2.2.2.2.1) fun r15 =>
 tif ((decide (y13.2.2.2.2.2.1<(IntKind.wrap .i64 (y13.2.2.2.2.2.2.1-y13.2.2.2.2.2.2.2.1))))) (
 tif ((decide ((IntKind.wrap .i64 (y13.2.2.2.2.2.2.1-y13.2.2.2.2.2.2.2.1))<y13.2.2.2.1))) (
 a0a (b0g n r15 y13.2.2.2.2.2.1 (IntKind.wrap .i64 (y13.2.2.2.2.2.2.1-y13.2.2.2.2.2.2.2.1)) y13.2.2.2.1 y13.2.2.2.2.1) fun r16 =>
 some r16) (
 some r15)) (
 some r15)) (
 tif ((decide (y13.2.2.2.2.2.1<(IntKind.wrap .i64 (y13.2.2.2.2.2.2.1-y13.2.2.2.2.2.2.2.1))))) (
 tif ((decide ((IntKind.wrap .i64 (y13.2.2.2.2.2.2.1-y13.2.2.2.2.2.2.2.1))<y13.2.2.2.1))) (
 a0a (b0g n r14 y13.2.2.2.2.2.1 (IntKind.wrap .i64 (y13.2.2.2.2.2.2.1-y13.2.2.2.2.2.2.2.1)) y13.2.2.2.1 y13.2.2.2.2.1) fun r17 =>
 some r17) (
 some r14)) (
 some r14))) (
 tif ((decide (y13.2.2.2.2.2.1<(IntKind.wrap .i64 (y13.2.2.2.2.2.2.1-y13.2.2.2.2.2.2.2.1))))) (
 tif ((decide ((IntKind.wrap .i64 (y13.2.2.2.2.2.2.1-y13.2.2.2.2.2.2.2.1))<y13.2.2.2.1))) (
 a0a (b0g n r14 y13.2.2.2.2.2.1 (IntKind.wrap .i64 (y13.2.2.2.2.2.2.1-y13.2.2.2.2.2.2.2.1)) y13.2.2.2.1 y13.2.2.2.2.1) fun r18 =>
 some r18) (
 some r14)) (
 some r14))) (
 tif ((decide (y13.2.1<y13.2.2.2.2.2.2.2.1))) (
 tif ((decide (y13.2.2.2.2.2.2.2.1<y13.2.2.2.2.2.1))) (
 a0a (b0g n y13.1 y13.2.1 y13.2.2.2.2.2.2.2.1 y13.2.2.2.2.2.1 y13.2.2.2.2.1) fun r19 =>
 tif ((decide (y13.2.2.2.2.2.1<(IntKind.wrap .i64 (y13.2.2.2.2.2.2.1-y13.2.2.2.2.2.2.2.1))))) (
 tif ((decide ((IntKind.wrap .i64 (y13.2.2.2.2.2.2.1-y13.2.2.2.2.2.2.2.1))<y13.2.2.2.1))) (
 a0a (b0g n r19 y13.2.2.2.2.2.1 (IntKind.wrap .i64 (y13.2.2.2.2.2.2.1-y13.2.2.2.2.2.2.2.1)) y13.2.2.2.1 y13.2.2.2.2.1) fun r20 =>
 some r20) (
 some r19)) (
 some r19)) (
 tif ((decide (y13.2.2.2.2.2.1<(IntKind.wrap .i64 (y13.2.2.2.2.2.2.1-y13.2.2.2.2.2.2.2.1))))) (
 tif ((decide ((IntKind.wrap .i64 (y13.2.2.2.2.2.2.1-y13.2.2.2.2.2.2.2.1))<y13.2.2.2.1))) (
 a0a (b0g n y13.1 y13.2.2.2.2.2.1 (IntKind.wrap .i64 (y13.2.2.2.2.2.2.1-y13.2.2.2.2.2.2.2.1)) y13.2.2.2.1 y13.2.2.2.2.1) fun r21 =>
 some r21) (
 some y13.1)) (
 some y13.1))) (
 tif ((decide (y13.2.2.2.2.2.1<(IntKind.wrap .i64 (y13.2.2.2.2.2.2.1-y13.2.2.2.2.2.2.2.1))))) (
 tif ((decide ((IntKind.wrap .i64 (y13.2.2.2.2.2.2.1-y13.2.2.2.2.2.2.2.1))<y13.2.2.2.1))) (
 a0a (b0g n y13.1 y13.2.2.2.2.2.1 (IntKind.wrap .i64 (y13.2.2.2.2.2.2.1-y13.2.2.2.2.2.2.2.1)) y13.2.2.2.1 y13.2.2.2.2.1) fun r22 =>
 some r22) (
 some y13.1)) (
 some y13.1)))) (
 tif ((decide (y13.2.1<y13.2.2.2.2.2.2.2.1))) (
 tif ((decide (y13.2.2.2.2.2.2.2.1<y13.2.2.2.2.2.1))) (
 a0a (b0g n y13.1 y13.2.1 y13.2.2.2.2.2.2.2.1 y13.2.2.2.2.2.1 y13.2.2.2.2.1) fun r23 =>
 tif ((decide (y13.2.2.2.2.2.1<(IntKind.wrap .i64 (y13.2.2.2.2.2.2.1-y13.2.2.2.2.2.2.2.1))))) (
 tif ((decide ((IntKind.wrap .i64 (y13.2.2.2.2.2.2.1-y13.2.2.2.2.2.2.2.1))<y13.2.2.2.1))) (
 a0a (b0g n r23 y13.2.2.2.2.2.1 (IntKind.wrap .i64 (y13.2.2.2.2.2.2.1-y13.2.2.2.2.2.2.2.1)) y13.2.2.2.1 y13.2.2.2.2.1) fun r24 =>
 some r24) (
 some r23)) (
 some r23)) (
 tif ((decide (y13.2.2.2.2.2.1<(IntKind.wrap .i64 (y13.2.2.2.2.2.2.1-y13.2.2.2.2.2.2.2.1))))) (
 tif ((decide ((IntKind.wrap .i64 (y13.2.2.2.2.2.2.1-y13.2.2.2.2.2.2.2.1))<y13.2.2.2.1))) (
 a0a (b0g n y13.1 y13.2.2.2.2.2.1 (IntKind.wrap .i64 (y13.2.2.2.2.2.2.1-y13.2.2.2.2.2.2.2.1)) y13.2.2.2.1 y13.2.2.2.2.1) fun r25 =>
 some r25) (
 some y13.1)) (
 some y13.1))) (
 tif ((decide (y13.2.2.2.2.2.1<(IntKind.wrap .i64 (y13.2.2.2.2.2.2.1-y13.2.2.2.2.2.2.2.1))))) (
 tif ((decide ((IntKind.wrap .i64 (y13.2.2.2.2.2.2.1-y13.2.2.2.2.2.2.2.1))<y13.2.2.2.1))) (
 a0a (b0g n y13.1 y13.2.2.2.2.2.1 (IntKind.wrap .i64 (y13.2.2.2.2.2.2.1-y13.2.2.2.2.2.2.2.1)) y13.2.2.2.1 y13.2.2.2.2.1) fun r26 =>
 some r26) (
 some y13.1)) (
 some y13.1)))) (fun z27 =>
 some z27) r12) (
 a0a (g0p n a0b (data,(a,(m,(b,(cmp,((IntKind.wrap .i64 (shrI .u64 (IntKind.wrap .u64 (IntKind.wrap .i64 (a+b))) (1:Int))),((IntKind.wrap .i64 ((IntKind.wrap .i64 (shrI .u64 (IntKind.wrap .u64 (IntKind.wrap .i64 (a+b))) (1:Int)))+m)),(a,(m,((IntKind.wrap .i64 ((IntKind.wrap .i64 ((IntKind.wrap .i64 (shrI .u64 (IntKind.wrap .u64 (IntKind.wrap .i64 (a+b))) (1:Int)))+m))-1)),()))))))))))) fun r28 =>
 c0u (fun y29 =>
 tif ((decide (y29.2.2.2.2.2.2.2.1<y29.2.2.1))) (
 tif ((decide (y29.2.2.1<(IntKind.wrap .i64 (y29.2.2.2.2.2.2.1-y29.2.2.2.2.2.2.2.1))))) (
 a0a (z0f n y29.1 y29.2.2.2.2.2.2.2.1 y29.2.2.1 (IntKind.wrap .i64 (y29.2.2.2.2.2.2.1-y29.2.2.2.2.2.2.2.1)) y29.2.2.2.2.1) fun r30 =>
 tif ((decide (y29.2.1<y29.2.2.2.2.2.2.2.1))) (
 tif ((decide (y29.2.2.2.2.2.2.2.1<y29.2.2.2.2.2.1))) (
 a0a (b0g n r30 y29.2.1 y29.2.2.2.2.2.2.2.1 y29.2.2.2.2.2.1 y29.2.2.2.2.1) fun r31 =>
 tif ((decide (y29.2.2.2.2.2.1<(IntKind.wrap .i64 (y29.2.2.2.2.2.2.1-y29.2.2.2.2.2.2.2.1))))) (
 tif ((decide ((IntKind.wrap .i64 (y29.2.2.2.2.2.2.1-y29.2.2.2.2.2.2.2.1))<y29.2.2.2.1))) (
 a0a (b0g n r31 y29.2.2.2.2.2.1 (IntKind.wrap .i64 (y29.2.2.2.2.2.2.1-y29.2.2.2.2.2.2.2.1)) y29.2.2.2.1 y29.2.2.2.2.1) fun r32 =>
 some r32) (
 some r31)) (
 some r31)) (
 tif ((decide (y29.2.2.2.2.2.1<(IntKind.wrap .i64 (y29.2.2.2.2.2.2.1-y29.2.2.2.2.2.2.2.1))))) (
 tif ((decide ((IntKind.wrap .i64 (y29.2.2.2.2.2.2.1-y29.2.2.2.2.2.2.2.1))<y29.2.2.2.1))) (
 a0a (b0g n r30 y29.2.2.2.2.2.1 (IntKind.wrap .i64 (y29.2.2.2.2.2.2.1-y29.2.2.2.2.2.2.2.1)) y29.2.2.2.1 y29.2.2.2.2.1) fun r33 =>
 some r33) (
 some r30)) (
 some r30))) (
 tif ((decide (y29.2.2.2.2.2.1<(IntKind.wrap .i64 (y29.2.2.2.2.2.2.1-y29.2.2.2.2.2.2.2.1))))) (
 tif ((decide ((IntKind.wrap .i64 (y29.2.2.2.2.2.2.1-y29.2.2.2.2.2.2.2.1))<y29.2.2.2.1))) (
 a0a (b0g n r30 y29.2.2.2.2.2.1 (IntKind.wrap .i64 (y29.2.2.2.2.2.2.1-y29.2.2.2.2.2.2.2.1)) y29.2.2.2.1 y29.2.2.2.2.1) fun r34 =>
 some r34) (
 some r30)) (
 some r30))) (
 tif ((decide (y29.2.1<y29.2.2.2.2.2.2.2.1))) (
 tif ((decide (y29.2.2.2.2.2.2.2.1<y29.2.2.2.2.2.1))) (
 a0a (b0g n y29.1 y29.2.1 y29.2.2.2.2.2.2.2.1 y29.2.2.2.2.2.1 y29.2.2.2.2.1) fun r35 =>
 tif ((decide (y29.2.2.2.2.2.1<(IntKind.wrap .i64 (y29.2.2.2.2.2.2.1-y29.2.2.2.2.2.2.2.1))))) (
 tif ((decide ((IntKind.wrap .i64 (y29.2.2.2.2.2.2.1-y29.2.2.2.2.2.2.2.1))<y29.2.2.2.1))) (
 a0a (b0g n r35 y29.2.2.2.2.2.1 (IntKind.wrap .i64 (y29.2.2.2.2.2.2.1-y29.2.2.2.2.2.2.2.1)) y29.2.2.2.1 y29.2.2.2.2.1) fun r36 =>
 some r36) (
 some r35)) (
 some r35)) (
 tif ((decide (y29.2.2.2.2.2.1<(IntKind.wrap .i64 (y29.2.2.2.2.2.2.1-y29.2.2.2.2.2.2.2.1))))) (
 tif ((decide ((IntKind.wrap .i64 (y29.2.2.2.2.2.2.1-y29.2.2.2.2.2.2.2.1))<y29.2.2.2.1))) (
 a0a (b0g n y29.1 y29.2.2.2.2.2.1 (IntKind.wrap .i64 (y29.2.2.2.2.2.2.1-y29.2.2.2.2.2.2.2.1)) y29.2.2.2.1 y29.2.2.2.2.1) fun r37 =>
 some r37) (
 some y29.1)) (
 some y29.1))) (
 tif ((decide (y29.2.2.2.2.2.1<(IntKind.wrap .i64 (y29.2.2.2.2.2.2.1-y29.2.2.2.2.2.2.2.1))))) (
 tif ((decide ((IntKind.wrap .i64 (y29.2.2.2.2.2.2.1-y29.2.2.2.2.2.2.2.1))<y29.2.2.2.1))) (
 a0a (b0g n y29.1 y29.2.2.2.2.2.1 (IntKind.wrap .i64 (y29.2.2.2.2.2.2.1-y29.2.2.2.2.2.2.2.1)) y29.2.2.2.1 y29.2.2.2.2.1) fun r38 =>
 some r38) (
 some y29.1)) (
 some y29.1)))) (
 tif ((decide (y29.2.1<y29.2.2.2.2.2.2.2.1))) (
 tif ((decide (y29.2.2.2.2.2.2.2.1<y29.2.2.2.2.2.1))) (
 a0a (b0g n y29.1 y29.2.1 y29.2.2.2.2.2.2.2.1 y29.2.2.2.2.2.1 y29.2.2.2.2.1) fun r39 =>
 tif ((decide (y29.2.2.2.2.2.1<(IntKind.wrap .i64 (y29.2.2.2.2.2.2.1-y29.2.2.2.2.2.2.2.1))))) (
 tif ((decide ((IntKind.wrap .i64 (y29.2.2.2.2.2.2.1-y29.2.2.2.2.2.2.2.1))<y29.2.2.2.1))) (
 a0a (b0g n r39 y29.2.2.2.2.2.1 (IntKind.wrap .i64 (y29.2.2.2.2.2.2.1-y29.2.2.2.2.2.2.2.1)) y29.2.2.2.1 y29.2.2.2.2.1) fun r40 =>
 some r40) (
 some r39)) (
 some r39)) (
 tif ((decide (y29.2.2.2.2.2.1<(IntKind.wrap .i64 (y29.2.2.2.2.2.2.1-y29.2.2.2.2.2.2.2.1))))) (
 tif ((decide ((IntKind.wrap .i64 (y29.2.2.2.2.2.2.1-y29.2.2.2.2.2.2.2.1))<y29.2.2.2.1))) (
 a0a (b0g n y29.1 y29.2.2.2.2.2.1 (IntKind.wrap .i64 (y29.2.2.2.2.2.2.1-y29.2.2.2.2.2.2.2.1)) y29.2.2.2.1 y29.2.2.2.2.1) fun r41 =>
 some r41) (
 some y29.1)) (
 some y29.1))) (
 tif ((decide (y29.2.2.2.2.2.1<(IntKind.wrap .i64 (y29.2.2.2.2.2.2.1-y29.2.2.2.2.2.2.2.1))))) (
 tif ((decide ((IntKind.wrap .i64 (y29.2.2.2.2.2.2.1-y29.2.2.2.2.2.2.2.1))<y29.2.2.2.1))) (
 a0a (b0g n y29.1 y29.2.2.2.2.2.1 (IntKind.wrap .i64 (y29.2.2.2.2.2.2.1-y29.2.2.2.2.2.2.2.1)) y29.2.2.2.1 y29.2.2.2.2.1) fun r42 =>
 some r42) (
 some y29.1)) (
 some y29.1)))) (fun z43 =>
 some z43) r28))):=by kernel_rfl
theorem s0q (n f:Nat) (data:(List a0c)) (a:Int) (cmp:((a0c×(a0c×Unit))→Option Int)) (i:Int) (j:Int):l0g n (f+1) (data,a,cmp,i,j,()) =
 tif ((decide (i<j))) (
 a0a (at? data (IntKind.wrap .i64 (shrI .u64 (IntKind.wrap .u64 (IntKind.wrap .i64 (i+j))) (1:Int)))) fun r0 =>
 a0a ((data)[(Int.toNat (IntKind.wrap .i64 (shrI .u64 (IntKind.wrap .u64 (IntKind.wrap .i64 (i+j))) (1:Int))))]?) fun r1 =>
 a0a (at? data a) fun r2 =>
 a0a ((data)[(Int.toNat a)]?) fun r3 =>
 a0a (cmp (r1,(r3,()))) fun r4 =>
 tif ((decide (r4<0))) (
 l0g n f (data,(a,(cmp,((IntKind.wrap .i64 ((IntKind.wrap .i64 (shrI .u64 (IntKind.wrap .u64 (IntKind.wrap .i64 (i+j))) (1:Int)))+1)),(j,())))))) (
 l0g n f (data,(a,(cmp,(i,((IntKind.wrap .i64 (shrI .u64 (IntKind.wrap .u64 (IntKind.wrap .i64 (i+j))) (1:Int))),()))))))) (
 some (.inl (data,(a,(i,()))))):=by kernel_rfl
theorem s0p (n f:Nat) (data:(List a0c)) (i:Int) (k:Int):p0i n (f+1) (data,i,k,()) =
 tif ((decide (k<(IntKind.wrap .i64 (i-1))))) (
 a0a (at? data (IntKind.wrap .i64 (k+1))) fun r0 =>
 a0a ((data)[(Int.toNat (IntKind.wrap .i64 (k+1)))]?) fun r1 =>
 a0a (at? data k) fun r2 =>
 a0a ((data)[(Int.toNat k)]?) fun r3 =>
 a0a (at? data k) fun r4 =>
 a0a ((data)[(Int.toNat k)]?) fun r5 =>
 a0a (at? (List.set data (Int.toNat k) r1) (IntKind.wrap .i64 (k+1))) fun r6 =>
 a0a (((List.set data (Int.toNat k) r1))[(Int.toNat (IntKind.wrap .i64 (k+1)))]?) fun r7 =>
 p0i n f ((List.set (List.set data (Int.toNat k) r1) (Int.toNat (IntKind.wrap .i64 (k+1))) r3),(i,((IntKind.wrap .i64 (k+1)),())))) (
 some (.inl (data,()))):=by kernel_rfl
theorem q0q (n f:Nat) (data:(List a0c)) (m:Int) (cmp:((a0c×(a0c×Unit))→Option Int)) (i_:Int) (j_:Int):j0g n (f+1) (data,m,cmp,i_,j_,()) =
 tif ((decide (i_<j_))) (
 a0a (at? data m) fun r0 =>
 a0a ((data)[(Int.toNat m)]?) fun r1 =>
 a0a (at? data (IntKind.wrap .i64 (shrI .u64 (IntKind.wrap .u64 (IntKind.wrap .i64 (i_+j_))) (1:Int)))) fun r2 =>
 a0a ((data)[(Int.toNat (IntKind.wrap .i64 (shrI .u64 (IntKind.wrap .u64 (IntKind.wrap .i64 (i_+j_))) (1:Int))))]?) fun r3 =>
 a0a (cmp (r1,(r3,()))) fun r4 =>
 tif ((!(decide (r4<0)))) (
 j0g n f (data,(m,(cmp,((IntKind.wrap .i64 ((IntKind.wrap .i64 (shrI .u64 (IntKind.wrap .u64 (IntKind.wrap .i64 (i_+j_))) (1:Int)))+1)),(j_,())))))) (
 j0g n f (data,(m,(cmp,(i_,((IntKind.wrap .i64 (shrI .u64 (IntKind.wrap .u64 (IntKind.wrap .i64 (i_+j_))) (1:Int))),()))))))) (
 some (.inl (data,(m,(i_,()))))):=by kernel_rfl
theorem q0p (n f:Nat) (data:(List a0c)) (i_:Int) (k_:Int):m0m n (f+1) (data,i_,k_,()) =
 tif ((decide (i_<k_))) (
 a0a (at? data (IntKind.wrap .i64 (k_-1))) fun r0 =>
 a0a ((data)[(Int.toNat (IntKind.wrap .i64 (k_-1)))]?) fun r1 =>
 a0a (at? data k_) fun r2 =>
 a0a ((data)[(Int.toNat k_)]?) fun r3 =>
 a0a (at? data k_) fun r4 =>
 a0a ((data)[(Int.toNat k_)]?) fun r5 =>
 a0a (at? (List.set data (Int.toNat k_) r1) (IntKind.wrap .i64 (k_-1))) fun r6 =>
 a0a (((List.set data (Int.toNat k_) r1))[(Int.toNat (IntKind.wrap .i64 (k_-1)))]?) fun r7 =>
 m0m n f ((List.set (List.set data (Int.toNat k_) r1) (Int.toNat (IntKind.wrap .i64 (k_-1))) r3),(i_,((IntKind.wrap .i64 (k_-1)),())))) (
 some (.inl (data,()))):=by kernel_rfl
theorem q0o (n f:Nat) (data:(List a0c)) (a:Int) (m:Int) (b:Int) (cmp:((a0c×(a0c×Unit))→Option Int)) (mid:Int) (n_:Int) (start:Int) (r:Int) (p:Int):g0p n (f+1) (data,a,m,b,cmp,mid,n_,start,r,p,()) =
 tif ((decide (start<r))) (
 a0a (at? data (IntKind.wrap .i64 (p-(IntKind.wrap .i64 (shrI .u64 (IntKind.wrap .u64 (IntKind.wrap .i64 (start+r))) (1:Int)))))) fun r0 =>
 a0a ((data)[(Int.toNat (IntKind.wrap .i64 (p-(IntKind.wrap .i64 (shrI .u64 (IntKind.wrap .u64 (IntKind.wrap .i64 (start+r))) (1:Int))))))]?) fun r1 =>
 a0a (at? data (IntKind.wrap .i64 (shrI .u64 (IntKind.wrap .u64 (IntKind.wrap .i64 (start+r))) (1:Int)))) fun r2 =>
 a0a ((data)[(Int.toNat (IntKind.wrap .i64 (shrI .u64 (IntKind.wrap .u64 (IntKind.wrap .i64 (start+r))) (1:Int))))]?) fun r3 =>
 a0a (cmp (r1,(r3,()))) fun r4 =>
 tif ((!(decide (r4<0)))) (
 g0p n f (data,(a,(m,(b,(cmp,(mid,(n_,((IntKind.wrap .i64 ((IntKind.wrap .i64 (shrI .u64 (IntKind.wrap .u64 (IntKind.wrap .i64 (start+r))) (1:Int)))+1)),(r,(p,()))))))))))) (
 g0p n f (data,(a,(m,(b,(cmp,(mid,(n_,(start,((IntKind.wrap .i64 (shrI .u64 (IntKind.wrap .u64 (IntKind.wrap .i64 (start+r))) (1:Int))),(p,())))))))))))) (
 some (.inl (data,(a,(m,(b,(cmp,(mid,(n_,(start,())))))))))):=by kernel_rfl
theorem s1u (n:Nat) (i:Int) (n_:Int):y0n (n+1) i n_ =
 tif ((decide (i<0))) (
 some (0:Int)) (
 tif ((decide (n_<1))) (
 some (0:Int)) (
 tif ((decide (n_=0))) (
 none) (
 some (Int.tmod i n_)))):=by kernel_rfl
theorem e1l (n:Nat) (l:(List a0c)) (w:Int):i0q (n+1) l w =
 tif ((decide ((((List.length l):Nat):Int)=0))) (
 some (2:Int)) (
 tif ((decide ((4096:Int)<(((List.length l):Nat):Int)))) (
 some (2:Int)) (
 tif ((decide (w<1))) (
 some (2:Int)) (
 tif ((decide ((1099511627776:Int)<w))) (
 some (2:Int)) (
 a0a (e0n n a0b (l,(w,(l,((((List.length l):Nat):Int),(0,())))))) fun r0 =>
 c0u (fun y1 =>
 some (0:Int)) (fun z2 =>
 some z2) r0)))):=by kernel_rfl
theorem n0o (n f:Nat) (l:(List a0c)) (w:Int) (s23:(List a0c)) (s24:Int) (s25:Int):e0n n (f+1) (l,w,s23,s24,s25,()) =
 tif ((decide (s25<s24))) (
 a0a (at? s23 s25) fun r0 =>
 a0a (n0w n r0) fun r1 =>
 tif ((!r1)) (
 a0a (y0n n r0.1 (((List.length l):Nat):Int)) fun r2 =>
 tif ((!(decide (r2=s25)))) (
 some (.inr (2:Int))) (
 a0a (j0e n r0.2 w r0.1) fun r3 =>
 tif ((!r3)) (
 some (.inr (2:Int))) (
 e0n n f (l,(w,(s23,(s24,((IntKind.wrap .i64 (s25+1)),())))))))) (
 e0n n f (l,(w,(s23,(s24,((IntKind.wrap .i64 (s25+1)),()))))))) (
 some (.inl ())):=by kernel_rfl
theorem m0o (n:Nat) (s:(List a0c)) (f_:((a0c×Unit)→Option Bool)):f0d (n+1) s f_ =
 a0a (g0q n s f_) fun r0 =>
 some (decide ((0:Int)≤r0)):=by kernel_rfl
theorem s0y (n:Nat) (s:a0c) (p1:Int):j0j (n+1) s p1 =
 tif ((decide ((0:Int)<s.2.1))) (
 some (decide (p1≤s.1))) (
 some false):=by kernel_rfl
theorem m1q (n:Nat) (l:(List a0c)) (w:Int) (i:Int) (c:c0d):s0g (n+1) l w i c =
 a0a (i0q n l w) fun r0 =>
 tif ((!(decide (r0=0)))) (
 some ([],2)) (
 a0a (j0e n c w i) fun r1 =>
 tif ((!r1)) (
 some ([],2)) (
 a0a (d0r n l) fun r2 =>
 a0a (y0n n i (((List.length r2):Nat):Int)) fun r3 =>
 a0a (at? r2 r3) fun r4 =>
 a0a ((r2)[(Int.toNat r3)]?) fun r5 =>
 some ((List.set r2 (Int.toNat r3) (i,c)),0))):=by kernel_rfl
theorem c1b (n:Nat) (s:q0j) (i:Int):f0j (n+1) s (1:Int) i =
 tif ((decide (s.1.2.1.1=0))) (
 none) (
 a0a (s0i n s.2.1 (IntKind.wrap .i64 (i*(IntKind.wrap .i64 (Int.tdiv s.1.2.1.2.1 s.1.2.1.1)))) (IntKind.wrap .i64 ((IntKind.wrap .i64 (i+1))*(IntKind.wrap .i64 (Int.tdiv s.1.2.1.2.1 s.1.2.1.1))))) fun r0 =>
 some (r0.1,(r0.2,s))):=by kernel_rfl
theorem b1z (n:Nat) (s:q0j) (i:Int):f0j (n+1) s (2:Int) i =
 tif ((decide (s.1.2.1.2.1=0))) (
 none) (
 a0a (s0i n s.2.2.1 (IntKind.wrap .i64 (i*(IntKind.wrap .i64 (Int.tdiv s.1.2.1.2.2 s.1.2.1.2.1)))) (IntKind.wrap .i64 ((IntKind.wrap .i64 (i+1))*(IntKind.wrap .i64 (Int.tdiv s.1.2.1.2.2 s.1.2.1.2.1))))) fun r0 =>
 some (r0.1,(r0.2,s))):=by kernel_rfl
theorem v0c (n:Nat) (room:Int):q0t (n+1) room =
 tif ((decide (room<1))) (
 some (none,1)) (
 tif ((decide ((65536:Int)<room))) (
 some (none,1)) (
 some ((some (room,([],(0,0)))),0))):=by kernel_rfl
theorem n1y (n:Nat) (r:f0r) (i:Int):q1r (n+1) r i =
 tif ((decide ((((List.length r.2.1):Nat):Int)=0))) (
 none) (
 some ((Int.tmod (IntKind.wrap .i64 (r.2.2.1+i)) (((List.length r.2.1):Nat):Int)),r)):=by kernel_rfl
theorem u0x (n:Nat) (s1:(List a0n)) (s2:(List a0n)):k0u (n+1) s1 s2 =
 tif ((!(decide ((((List.length s1):Nat):Int)=(((List.length s2):Nat):Int))))) (
 some false) (
 a0a (e0s n a0b (s1,(s2,((((List.length s1):Nat):Int),(0,()))))) fun r0 =>
 c0u (fun y1 =>
 some true) (fun z2 =>
 some z2) r0):=by kernel_rfl
theorem i0i (n f:Nat) (s1:(List a0n)) (s2:(List a0n)) (s12:Int) (s13:Int):e0s n (f+1) (s1,s2,s12,s13,()) =
 tif ((decide (s13<s12))) (
 a0a (at? s1 s13) fun r0 =>
 a0a (at? s2 s13) fun r1 =>
 tif ((!((decide (r0.1=r1.1))&&((decide (r0.2.1=r1.2.1))&&((decide (r0.2.2.1=r1.2.2.1))&&(r0.2.2.2==r1.2.2.2)))))) (
 some (.inr false)) (
 e0s n f (s1,(s2,(s12,((IntKind.wrap .i64 (s13+1)),())))))) (
 some (.inl ())):=by kernel_rfl
theorem t1r (n:Nat) (data:(List a0c)) (a:Int) (m:Int) (b:Int) (cmp:((a0c×(a0c×Unit))→Option Int)):z0f (n+1) data a m b cmp =
 a0a (l0i n a0b (data,(m,(cmp,((IntKind.wrap .i64 (m-a)),((IntKind.wrap .i64 (b-m)),())))))) fun r0 =>
 c0u (fun y1 =>
 a0a (z0e n y1.1 (IntKind.wrap .i64 (y1.2.1-y1.2.2.2.1)) y1.2.1 y1.2.2.2.1 y1.2.2.1) fun r2 =>
 some r2) (fun z3 =>
 some z3) r0:=by kernel_rfl
theorem e1y (n f:Nat) (data:(List a0c)) (m:Int) (cmp:((a0c×(a0c×Unit))→Option Int)) (i:Int) (j:Int):l0i n (f+1) (data,m,cmp,i,j,()) =
 tif ((!(decide (i=j)))) (
 tif ((decide (j<i))) (
 a0a (z0e n data (IntKind.wrap .i64 (m-i)) m j cmp) fun r0 =>
 l0i n f (r0,(m,(cmp,((IntKind.wrap .i64 (i-j)),(j,())))))) (
 a0a (z0e n data (IntKind.wrap .i64 (m-i)) (IntKind.wrap .i64 ((IntKind.wrap .i64 (m+j))-i)) i cmp) fun r1 =>
 l0i n f (r1,(m,(cmp,(i,((IntKind.wrap .i64 (j-i)),()))))))) (
 some (.inl (data,(m,(cmp,(i,())))))):=by kernel_rfl
theorem t1p (n:Nat) (data:(List a0c)) (a:Int) (b:Int) (n_:Int) (cmp:((a0c×(a0c×Unit))→Option Int)):z0e (n+1) data a b n_ cmp =
 a0a (p0j n a0b (data,(a,(b,(n_,(0,())))))) fun r0 =>
 c0u (fun y1 =>
 some y1.1) (fun z2 =>
 some z2) r0:=by kernel_rfl
theorem s0r (n f:Nat) (data:(List a0c)) (a:Int) (b:Int) (n_:Int) (i:Int):p0j n (f+1) (data,a,b,n_,i,()) =
 tif ((decide (i<n_))) (
 a0a (at? data (IntKind.wrap .i64 (b+i))) fun r0 =>
 a0a ((data)[(Int.toNat (IntKind.wrap .i64 (b+i)))]?) fun r1 =>
 a0a (at? data (IntKind.wrap .i64 (a+i))) fun r2 =>
 a0a ((data)[(Int.toNat (IntKind.wrap .i64 (a+i)))]?) fun r3 =>
 a0a (at? data (IntKind.wrap .i64 (a+i))) fun r4 =>
 a0a ((data)[(Int.toNat (IntKind.wrap .i64 (a+i)))]?) fun r5 =>
 a0a (at? (List.set data (Int.toNat (IntKind.wrap .i64 (a+i))) r1) (IntKind.wrap .i64 (b+i))) fun r6 =>
 a0a (((List.set data (Int.toNat (IntKind.wrap .i64 (a+i))) r1))[(Int.toNat (IntKind.wrap .i64 (b+i)))]?) fun r7 =>
 p0j n f ((List.set (List.set data (Int.toNat (IntKind.wrap .i64 (a+i))) r1) (Int.toNat (IntKind.wrap .i64 (b+i))) r3),(a,(b,(n_,((IntKind.wrap .i64 (i+1)),())))))) (
 some (.inl (data,()))):=by kernel_rfl
end Go.Proofs.YtojobamheigpbaaGreatDoor
