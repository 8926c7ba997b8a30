/- Trees, printed by program. -/
import Derived.Test.YtojobamheigpbaaGreatDoorTr0
import Derived.KernelRfl
set_option linter.unusedVariables false
namespace Go.Proofs.YtojobamheigpbaaGreatDoor
open Go.Flat
theorem u0i (n:Nat) (c:a0x) (l:(List b0c)):q0l (n+1) c l =
 a0a (n0u n ) fun r0 =>
 tif ((!r0)) (
 some false) (
 a0a (p0b n c) fun r1 =>
 tif ((!r1)) (
 some true) (
 a0a (i0l n l) fun r2 =>
 tif ((!r2)) (
 some true) (
 a0a (u0t n c) fun r3 =>
 a0a (r1w n ) fun r4 =>
 tif ((!(decide (r3.2=0)))) (
 some false) (
 a0a (b0i n a0b (r3.1,(r4,(0,(l,((((List.length l):Nat):Int),(0,()))))))) fun r5 =>
 c0u (fun y6 =>
 some true) (fun z7 =>
 some z7) r5)))):=by kernel_rfl
theorem h0f (n f:Nat) (s:a0k) (b:((List (List UInt8))×(List (List UInt8×((List (List UInt8×List UInt8))×(List a0n)))))) (n_:Int) (s37:(List b0c)) (s38:Int) (s39:Int):b0i n (f+1) (s,b,n_,s37,s38,s39,()) =
 tif ((decide (s39<s38))) (
 a0a (at? s37 s39) fun r0 =>
 tif ((decide ((1:Int)<r0.1))) (
 b0i n f (s,(b,(n_,(s37,(s38,((IntKind.wrap .i64 (s39+1)),()))))))) (
 a0a (u0j n r0 s) fun r1 =>
 a0a (p0a n b r0 r1.2) fun r2 =>
 tif ((!r2.1)) (
 some (.inr false)) (
 tif ((decide (r0.1=0))) (
 tif ((decide (r1.2=0))) (
 a0a (n0z n r1.1) fun r3 =>
 tif ((!(decide (r3.2=0)))) (
 some (.inr false)) (
 a0a (e0v n r2.2) fun r4 =>
 tif ((!(decide (r3.1.1=(((List.length r4.1):Nat):Int))))) (
 some (.inr false)) (
 tif ((!(decide (r3.1.2.1=0)))) (
 some (.inr false)) (
 tif ((!(decide (r3.1.2.2.1=(IntKind.wrap .i64 ((((List.length r1.1.2.2.2):Nat):Int)-r3.1.1)))))) (
 some (.inr false)) (
 tif ((!(decide ((IntKind.wrap .i64 (r3.1.2.2.2.1+r3.1.2.2.2.2.1))=(IntKind.wrap .i64 (n_+1)))))) (
 some (.inr false)) (
 tif ((decide (r3.1.1<r3.1.2.2.2.2.2.2))) (
 some (.inr false)) (
 a0a (l0f n r1.1) fun r5 =>
 tif ((!(r5==(decide (r3.1.2.2.1=0))))) (
 some (.inr false)) (
 b0i n f (r1.1,(r4.2,((IntKind.wrap .i64 (n_+1)),(s37,(s38,((IntKind.wrap .i64 (s39+1)),())))))))))))))) (
 a0a (n0z n r1.1) fun r6 =>
 tif ((!(decide (r6.2=0)))) (
 some (.inr false)) (
 a0a (e0v n r2.2) fun r7 =>
 tif ((!(decide (r6.1.1=(((List.length r7.1):Nat):Int))))) (
 some (.inr false)) (
 tif ((!(decide (r6.1.2.1=0)))) (
 some (.inr false)) (
 tif ((!(decide (r6.1.2.2.1=(IntKind.wrap .i64 ((((List.length r1.1.2.2.2):Nat):Int)-r6.1.1)))))) (
 some (.inr false)) (
 tif ((!(decide ((IntKind.wrap .i64 (r6.1.2.2.2.1+r6.1.2.2.2.2.1))=n_)))) (
 some (.inr false)) (
 tif ((decide (r6.1.1<r6.1.2.2.2.2.2.2))) (
 some (.inr false)) (
 a0a (l0f n r1.1) fun r8 =>
 tif ((!(r8==(decide (r6.1.2.2.1=0))))) (
 some (.inr false)) (
 b0i n f (r1.1,(r7.2,(n_,(s37,(s38,((IntKind.wrap .i64 (s39+1)),()))))))))))))))) (
 a0a (n0z n r1.1) fun r9 =>
 tif ((!(decide (r9.2=0)))) (
 some (.inr false)) (
 a0a (e0v n r2.2) fun r10 =>
 tif ((!(decide (r9.1.1=(((List.length r10.1):Nat):Int))))) (
 some (.inr false)) (
 tif ((!(decide (r9.1.2.1=0)))) (
 some (.inr false)) (
 tif ((!(decide (r9.1.2.2.1=(IntKind.wrap .i64 ((((List.length r1.1.2.2.2):Nat):Int)-r9.1.1)))))) (
 some (.inr false)) (
 tif ((!(decide ((IntKind.wrap .i64 (r9.1.2.2.2.1+r9.1.2.2.2.2.1))=n_)))) (
 some (.inr false)) (
 tif ((decide (r9.1.1<r9.1.2.2.2.2.2.2))) (
 some (.inr false)) (
 a0a (l0f n r1.1) fun r11 =>
 tif ((!(r11==(decide (r9.1.2.2.1=0))))) (
 some (.inr false)) (
 b0i n f (r1.1,(r10.2,(n_,(s37,(s38,((IntKind.wrap .i64 (s39+1)),()))))))))))))))))) (
 some (.inl ())):=by kernel_rfl
theorem e1i (n:Nat) (c:a0x):p0b (n+1) c =
 a0a (u0t n c) fun r0 =>
 tif ((decide (r0.2=0))) (
 tif ((decide ((((List.length r0.1.2.2.2):Nat):Int)≤8))) (
 tif ((decide (c.1≤60))) (
 tif ((decide (c.2.2.1.1≤40))) (
 tif ((decide (c.2.2.1.2.1≤40))) (
 some (decide (c.2.2.1.2.2≤40))) (
 some false)) (
 some false)) (
 some false)) (
 some false)) (
 some false):=by kernel_rfl
theorem w0v (n:Nat) (l:(List b0c)):i0l (n+1) l =
 tif ((decide ((40:Int)<(((List.length l):Nat):Int)))) (
 some false) (
 a0a (d0w n a0b (l,((((List.length l):Nat):Int),(0,())))) fun r0 =>
 c0u (fun y1 =>
 some true) (fun z2 =>
 some z2) r0):=by kernel_rfl
theorem j0c (n f:Nat) (s8:(List b0c)) (s9:Int) (s10:Int):d0w n (f+1) (s8,s9,s10,()) =
 tif ((decide (s10<s9))) (
 a0a (at? s8 s10) fun r0 =>
 a0a (t0n n r0.2.1.1) fun r1 =>
 tif ((decide (r1=0))) (
 some (.inr false)) (
 d0w n f (s8,(s9,((IntKind.wrap .i64 (s10+1)),()))))) (
 some (.inl ())):=by kernel_rfl
theorem t1g (n:Nat) (c:a0x):u0t (n+1) c =
 a0a (t0x n c) fun r0 =>
 tif ((!(decide (r0.2=0)))) (
 some (((0,((0,(0,0)),((0,(0,0)),(0,0)))),(0,(0,[]))),r0.2)) (
 tif (((decide ((0:Int)≤c.2.2.2.1))&&((decide (c.2.2.2.1≤c.2.2.2.1))&&(decide ((c.2.2.2.1*264)≤140737488355328))))) (
 some ((c,(0,(((-1):Int),(List.replicate (Int.toNat c.2.2.2.1) ([],(0,((0,(0,[])),(([],([],[])),(0,(0,((0,(0,(0,false))),((0,(0,(0,false))),((0,0),(0,(0,0))))))))))))))),0)) (
 none)):=by kernel_rfl
theorem p1b (n:Nat)  : r1w (n+1)  =
 some ([],[]):=by kernel_rfl
theorem e1j (n:Nat) (a:b0c) (s:a0k):u0j (n+1) a s =
 tif ((decide (a.1=0))) (
 a0a (y0j n s a.2.1.1 a.2.1.2) fun r0 =>
 tif ((decide (r0.2=0))) (
 some r0) (
 some (s,r0.2))) (
 tif ((decide (a.1=1))) (
 a0a (h1h n s a.2.2) fun r1 =>
 some (r1.1,0)) (
 tif ((decide (a.1=2))) (
 a0a (e1q n s) fun r2 =>
 tif ((decide (r2.2.2=0))) (
 some (r2.1,0)) (
 some (s,0))) (
 tif ((decide (a.1=3))) (
 a0a (r0f n s) fun r3 =>
 tif ((decide (r3.2=0))) (
 some (r3.1,0)) (
 some (s,0))) (
 some (s,0))))):=by kernel_rfl
theorem s0d (n:Nat) (b:((List (List UInt8))×(List (List UInt8×((List (List UInt8×List UInt8))×(List a0n)))))) (a:b0c) (why:Int):p0a (n+1) b a why =
 tif ((!(decide (a.1=0)))) (
 some (true,b)) (
 tif ((!(decide (why=0)))) (
 some (true,b)) (
 a0a (n0g n b a.2.1.1 a.2.1.2) fun r0 =>
 some ((decide (r0.1=0)),r0.2))):=by kernel_rfl
theorem t1i (n:Nat) (s:a0k):n0z (n+1) s =
 a0a (f0i n s) fun r0 =>
 tif ((!(decide (r0=0)))) (
 some ((0,(0,(0,(0,(0,((0,(0,0)),0)))))),r0)) (
 a0a (i0r n a0b (s,((0,(0,(0,(0,(0,((0,(0,0)),0)))))),((0,(0,(0,(0,(0,((0,(0,0)),0)))))),(s.2.2.2,((((List.length s.2.2.2):Nat):Int),(0,()))))))) fun r1 =>
 c0u (fun y2 =>
 some (y2.2.1,0)) (fun z3 =>
 some z3) r1):=by kernel_rfl
theorem s0o (n f:Nat) (s_:a0k) (s2:k0o) (t:k0o) (s15:(List b0b)) (s16:Int) (s17:Int):i0r n (f+1) (s_,s2,t,s15,s16,s17,()) =
 tif ((decide (s17<s16))) (
 a0a (at? s15 s17) fun r0 =>
 tif ((decide ((((List.length r0.1):Nat):Int)=0))) (
 i0r n f (s_,(s2,((t.1,(t.2.1,((IntKind.wrap .i64 (t.2.2.1+1)),t.2.2.2))),(s15,(s16,((IntKind.wrap .i64 (s17+1)),()))))))) (
 a0a (z0a n s_ s17) fun r1 =>
 tif (r1) (
 a0a (e1v n t s_ r0) fun r2 =>
 i0r n f (s_,(s2,(r2,(s15,(s16,((IntKind.wrap .i64 (s17+1)),()))))))) (
 i0r n f (s_,(s2,((t.1,((IntKind.wrap .i64 (t.2.1+1)),t.2.2)),(s15,(s16,((IntKind.wrap .i64 (s17+1)),()))))))))) (
 some (.inl (s2,(t,())))):=by kernel_rfl
theorem x0j (n:Nat) (b:((List (List UInt8))×(List (List UInt8×((List (List UInt8×List UInt8))×(List a0n)))))):e0v (n+1) b =
 a0a (f0o n a0b (b,([],((((List.length b.1):Nat):Int),(0,()))))) fun r0 =>
 c0u (fun y1 =>
 some (y1.2.1,y1.1)) (fun z2 =>
 some z2) r0:=by kernel_rfl
theorem j0r (n f:Nat) (b:((List (List UInt8))×(List (List UInt8×((List (List UInt8×List UInt8))×(List a0n)))))) (out:(List (List (List UInt8×List UInt8)))) (s10:Int) (s11:Int):f0o n (f+1) (b,out,s10,s11,()) =
 tif ((decide (s11<s10))) (
 a0a (at? b.1 s11) fun r0 =>
 a0a ((b.1)[(Int.toNat s11)]?) fun r1 =>
 a0a (mget .str (.ref (.wrap (.pair (.slice (.wrap (.pair .str .str))) (.own (.wrap (.pair (.int .i64) (.pair (.int .u64) (.pair (.int .i64) .bool)))))))) b.2 r1 0) fun r2 =>
 a0a (d0z n r2.2.1) fun r3 =>
 tif ((decide ((((List.length out)+1)*24)≤140737488355328))) (
 f0o n f ((b.1,(mset .str (.ref (.wrap (.pair (.slice (.wrap (.pair .str .str))) (.own (.wrap (.pair (.int .i64) (.pair (.int .u64) (.pair (.int .i64) .bool)))))))) b.2 r2.1 r2.2)),((out++(r3::[])),(s10,((IntKind.wrap .i64 (s11+1)),()))))) (
 none)) (
 some (.inl (b,(out,())))):=by kernel_rfl
theorem j1j (n:Nat) (s:a0k):l0f (n+1) s =
 a0a (s0n n s) fun r0 =>
 a0a (f0i n s) fun r1 =>
 tif ((decide (r1=0))) (
 some (decide (r0.2=7))) (
 some false):=by kernel_rfl
theorem k1x (n:Nat) (l:(List (List UInt8×List UInt8))):t0n (n+1) l =
 a0a (h0m n a0b (l,((((List.length l):Nat):Int),(0,())))) fun r0 =>
 c0u (fun y1 =>
 some (1:Int)) (fun z2 =>
 some z2) r0:=by kernel_rfl
theorem o0m (n f:Nat) (s5:(List (List UInt8×List UInt8))) (s6:Int) (s7:Int):h0m n (f+1) (s5,s6,s7,()) =
 tif ((decide (s7<s6))) (
 a0a (at? s5 s7) fun r0 =>
 tif ((decide (s7=40))) (
 some (.inr (0:Int))) (
 tif ((decide ((1000:Int)<(((List.length r0.1):Nat):Int)))) (
 some (.inr (0:Int))) (
 tif ((decide ((1000:Int)<(((List.length r0.2):Nat):Int)))) (
 some (.inr (0:Int))) (
 h0m n f (s5,(s6,((IntKind.wrap .i64 (s7+1)),()))))))) (
 some (.inl ())):=by kernel_rfl
theorem m1h (n:Nat) (a:(Int×Int)) (b:(Int×Int)):e1d (n+1) a b =
 tif (((decide ((0:Int)≤a.2))&&((decide ((0:Int)≤b.2))&&true))) (
 tif (((decide ((0:Int)≤a.1))&&((decide ((0:Int)≤b.1))&&((decide ((0:Int)≤(((a.2+b.2)+0) / (18446744073709551616:Int))))&&(decide ((((a.2+b.2)+0) / (18446744073709551616:Int))≤1)))))) (
 a0a (r0z n ((((a.1+b.1)+(((a.2+b.2)+0) / (18446744073709551616:Int))) % (18446744073709551616:Int)),(((a.2+b.2)+0) % (18446744073709551616:Int))) (((a.1+b.1)+(((a.2+b.2)+0) / (18446744073709551616:Int))) / (18446744073709551616:Int))) fun r0 =>
 some r0) (
 none)) (
 none):=by kernel_rfl
theorem w0t (n:Nat) (c:a0x):t0x (n+1) c =
 a0a (c0o n c) fun r0 =>
 tif ((!(decide (r0=0)))) (
 some (0,r0)) (
 a0a (a1p n c) fun r1 =>
 a0a (v0s n c) fun r2 =>
 tif ((decide ((16777216:Int)<(IntKind.wrap .i64 ((IntKind.wrap .i64 (r1+1))+(IntKind.wrap .i64 (c.2.2.2.1*r2))))))) (
 some (0,1)) (
 some ((IntKind.wrap .i64 ((IntKind.wrap .i64 (r1+1))+(IntKind.wrap .i64 (c.2.2.2.1*r2)))),0))):=by kernel_rfl
theorem i1k (n:Nat) (s:a0k) (l:(List (List UInt8×List UInt8))) (e:a0n):y0j (n+1) s l e =
 a0a (r0i n s l e) fun r0 =>
 tif ((!(decide (r0.2.2=0)))) (
 some (((0,((0,(0,0)),((0,(0,0)),(0,0)))),(0,(0,[]))),r0.2.2)) (
 a0a (y0i n s r0.1 r0.2.1 l) fun r1 =>
 tif ((!(decide (r1.2=0)))) (
 some (((0,((0,(0,0)),((0,(0,0)),(0,0)))),(0,(0,[]))),r1.2)) (
 a0a (v0a n s.1 r1.1 e) fun r2 =>
 tif ((!(decide (r2.2=0)))) (
 some (((0,((0,(0,0)),((0,(0,0)),(0,0)))),(0,(0,[]))),r2.2)) (
 a0a (j0i n s.2.2.2) fun r3 =>
 a0a (at? r3 r0.1) fun r4 =>
 a0a ((r3)[(Int.toNat r0.1)]?) fun r5 =>
 some ((s.1,(s.2.1,(s.2.2.1,(List.set r3 (Int.toNat r0.1) r2.1)))),0)))):=by kernel_rfl
theorem p1n (n:Nat) (s:a0k) (now:Int):h1h (n+1) s now =
 tif ((decide (now≤s.2.1))) (
 some (s,false)) (
 tif ((decide ((35184372088832:Int)≤now))) (
 some (s,false)) (
 a0a (f0i n s) fun r0 =>
 tif ((!(decide (r0=0)))) (
 some (s,false)) (
 some ((s.1,(now,s.2.2)),true)))):=by kernel_rfl
theorem m1w (n:Nat) (s:a0k):e1q (n+1) s =
 a0a (f0i n s) fun r0 =>
 tif ((!(decide (r0=0)))) (
 some (((0,((0,(0,0)),((0,(0,0)),(0,0)))),(0,(0,[]))),(0,r0))) (
 a0a (y0y n s) fun r1 =>
 some ((s.1,(s.2.1,(s.2.1,s.2.2.2))),((((List.length r1):Nat):Int),0))):=by kernel_rfl
theorem b1k (n:Nat) (s:a0k):r0f (n+1) s =
 a0a (f0i n s) fun r0 =>
 tif ((!(decide (r0=0)))) (
 some (((0,((0,(0,0)),((0,(0,0)),(0,0)))),(0,(0,[]))),r0)) (
 tif (((decide ((0:Int)≤(((List.length s.2.2.2):Nat):Int)))&&((decide ((((List.length s.2.2.2):Nat):Int)≤(((List.length s.2.2.2):Nat):Int)))&&(decide (((((List.length s.2.2.2):Nat):Int)*264)≤140737488355328))))) (
 a0a (x0r n s) fun r1 =>
 a0a (f0h n a0b (s,(((0,((0,(0,0)),((0,(0,0)),(0,0)))),(0,(0,[]))),((List.replicate (Int.toNat (((List.length s.2.2.2):Nat):Int)) ([],(0,((0,(0,[])),(([],([],[])),(0,(0,((0,(0,(0,false))),((0,(0,(0,false))),((0,0),(0,(0,0)))))))))))),(r1,((((List.length r1):Nat):Int),(0,()))))))) fun r2 =>
 c0u (fun y3 =>
 some ((y3.1.1,(y3.1.2.1,(y3.1.2.2.1,y3.2.2.1))),0)) (fun z4 =>
 some z4) r2) (
 none)):=by kernel_rfl
theorem l0e (n f:Nat) (s_:a0k) (s2:a0k) (out:(List b0b)) (s24:(List Int)) (s25:Int) (s26:Int):f0h n (f+1) (s_,s2,out,s24,s25,s26,()) =
 tif ((decide (s26<s25))) (
 a0a (at? s24 s26) fun r0 =>
 a0a ((s24)[(Int.toNat s26)]?) fun r1 =>
 a0a (at? s_.2.2.2 r1) fun r2 =>
 a0a (b0s n a0b (s_,(s2,(out,(r1,(r2,(s24,(s25,(s26,(s_.1.2.1,(0,()))))))))))) fun r3 =>
 c0u (fun y4 =>
 a0a (at? y4.2.2.1 y4.2.2.2.1) fun r5 =>
 a0a ((y4.2.2.1)[(Int.toNat y4.2.2.2.1)]?) fun r6 =>
 f0h n f (y4.1,(y4.2.1,((List.set y4.2.2.1 (Int.toNat y4.2.2.2.1) y4.2.2.2.2.1),(y4.2.2.2.2.2.1,(y4.2.2.2.2.2.2.1,((IntKind.wrap .i64 (y4.2.2.2.2.2.2.2.1+1)),()))))))) (fun z7 =>
 some (.inr z7)) r3) (
 some (.inl (s_,(s2,(out,()))))):=by kernel_rfl
theorem q0d (n f:Nat) (s_:a0k) (s2:a0k) (out:(List b0b)) (i:Int) (x:b0b) (s24:(List Int)) (s25:Int) (s26:Int) (s37:(Int×(Int×Int))):b0s n (f+1) (s_,s2,out,i,x,s24,s25,s26,s37,0,()) =
 a0a (l0b n s_.2.1 s37.1 s_.1.2.2.1.1) fun r0 =>
 tif ((!(decide (r0.2=0)))) (
 some (.inr (((0,((0,(0,0)),((0,(0,0)),(0,0)))),(0,(0,[]))),r0.2))) (
 a0a (e0o n s_.1 x (0:Int) r0.1) fun r1 =>
 b0s n f (s_,(s2,(out,(i,((x.1,(x.2.1,(x.2.2.1,((r1,x.2.2.2.1.2),x.2.2.2.2)))),(s24,(s25,(s26,(s37,(1,()))))))))))):=by kernel_rfl
theorem q0c (n f:Nat) (s_:a0k) (s2:a0k) (out:(List b0b)) (i:Int) (x:b0b) (s24:(List Int)) (s25:Int) (s26:Int) (s37:(Int×(Int×Int))):b0s n (f+1) (s_,s2,out,i,x,s24,s25,s26,s37,1,()) =
 a0a (l0b n s_.2.1 s37.2.1 s_.1.2.2.1.2.1) fun r0 =>
 tif ((!(decide (r0.2=0)))) (
 some (.inr (((0,((0,(0,0)),((0,(0,0)),(0,0)))),(0,(0,[]))),r0.2))) (
 a0a (e0o n s_.1 x (1:Int) r0.1) fun r1 =>
 b0s n f (s_,(s2,(out,(i,((x.1,(x.2.1,(x.2.2.1,((x.2.2.2.1.1,(r1,x.2.2.2.1.2.2)),x.2.2.2.2)))),(s24,(s25,(s26,(s37,(2,()))))))))))):=by kernel_rfl
theorem q0b (n f:Nat) (s_:a0k) (s2:a0k) (out:(List b0b)) (i:Int) (x:b0b) (s24:(List Int)) (s25:Int) (s26:Int) (s37:(Int×(Int×Int))):b0s n (f+1) (s_,s2,out,i,x,s24,s25,s26,s37,2,()) =
 a0a (l0b n s_.2.1 s37.2.2 s_.1.2.2.1.2.2) fun r0 =>
 tif ((!(decide (r0.2=0)))) (
 some (.inr (((0,((0,(0,0)),((0,(0,0)),(0,0)))),(0,(0,[]))),r0.2))) (
 a0a (e0o n s_.1 x (2:Int) r0.1) fun r1 =>
 b0s n f (s_,(s2,(out,(i,((x.1,(x.2.1,(x.2.2.1,((x.2.2.2.1.1,(x.2.2.2.1.2.1,r1)),x.2.2.2.2)))),(s24,(s25,(s26,(s37,(3,()))))))))))):=by kernel_rfl
theorem q0a (n f:Nat) (s_:a0k) (s2:a0k) (out:(List b0b)) (i:Int) (x:b0b) (s24:(List Int)) (s25:Int) (s26:Int) (s37:(Int×(Int×Int))):b0s n (f+1) (s_,s2,out,i,x,s24,s25,s26,s37,3,()) =
 some (.inl (s_,(s2,(out,(i,(x,(s24,(s25,(s26,()))))))))):=by kernel_rfl
theorem x0i (n:Nat) (b:((List (List UInt8))×(List (List UInt8×((List (List UInt8×List UInt8))×(List a0n)))))) (l:(List (List UInt8×List UInt8))) (e:a0n):n0g (n+2) b l e =
 a0a (f0p (n+1) l) fun r0 =>
 tif ((!(decide (r0=0)))) (
 some (r0,b)) (
 a0a (c0s (n+1) e) fun r1 =>
 tif ((!(decide (r1=0)))) (
 some (r1,b)) (
 a0a (r0k n l) fun r2 =>
 tif ((!(decide (r2.2=0)))) (
 tif ((decide ((((List.length b.1)+1)*16)≤140737488355328))) (
 a0a (d0z (n+1) l) fun r3 =>
 some (0,((b.1++([]::[])),(mput .str (.ref (.wrap (.pair (.slice (.wrap (.pair .str .str))) (.own (.wrap (.pair (.int .i64) (.pair (.int .u64) (.pair (.int .i64) .bool)))))))) b.2 [] (r3,(e::[])))))) (
 none)) (
 v0h (mget .str (.ref (.wrap (.pair (.slice (.wrap (.pair .str .str))) (.own (.wrap (.pair (.int .i64) (.pair (.int .u64) (.pair (.int .i64) .bool)))))))) b.2 r2.1 0) (
 tif ((decide ((((List.length b.1)+1)*16)≤140737488355328))) (
 a0a (d0z (n+1) l) fun r4 =>
 some (0,((b.1++(r2.1::[])),(mput .str (.ref (.wrap (.pair (.slice (.wrap (.pair .str .str))) (.own (.wrap (.pair (.int .i64) (.pair (.int .u64) (.pair (.int .i64) .bool)))))))) b.2 r2.1 (r4,(e::[])))))) (
 none)) fun r5 =>
 a0a (at? r5.2.2 (IntKind.wrap .i64 ((((List.length r5.2.2):Nat):Int)-1))) fun r6 =>
 a0a ((r5.2.2)[(Int.toNat (IntKind.wrap .i64 ((((List.length r5.2.2):Nat):Int)-1)))]?) fun r7 =>
 a0a (f0v (n+1) r7 e) fun r8 =>
 tif ((!r8)) (
 some (9,(b.1,(mset .str (.ref (.wrap (.pair (.slice (.wrap (.pair .str .str))) (.own (.wrap (.pair (.int .i64) (.pair (.int .u64) (.pair (.int .i64) .bool)))))))) b.2 r5.1 r5.2)))) (
 tif ((decide ((((List.length r5.2.2)+1)*32)≤140737488355328))) (
 some (0,(b.1,(mset .str (.ref (.wrap (.pair (.slice (.wrap (.pair .str .str))) (.own (.wrap (.pair (.int .i64) (.pair (.int .u64) (.pair (.int .i64) .bool)))))))) b.2 r5.1 (r5.2.1,(r5.2.2++(e::[]))))))) (
 none))))):=by kernel_rfl
theorem j1h (n:Nat) (s:a0k):f0i (n+1) s =
 a0a (k0a n s) fun r0 =>
 tif ((!(decide (r0.2=0)))) (
 some (2:Int)) (
 a0a (k0r n r0.1) fun r1 =>
 tif ((!r1)) (
 some (2:Int)) (
 a0a (d0a n r0.1 (fun y2=>d0q n y2.1 r0.1)) fun r3 =>
 tif ((decide ((0:Int)≤r3))) (
 some (2:Int)) (
 some (0:Int)))):=by kernel_rfl
theorem j1g (n:Nat) (s:a0k) (i:Int):z0a (n+1) s i =
 a0a (k0a n s) fun r0 =>
 tif ((decide (r0.2=0))) (
 tif ((decide ((0:Int)≤i))) (
 tif ((decide (i<(((List.length s.2.2.2):Nat):Int)))) (
 a0a (c0k n r0.1 i) fun r1 =>
 some r1) (
 some false)) (
 some false)) (
 some false):=by kernel_rfl
theorem n1h (n:Nat) (t:k0o) (s:a0k) (x:b0b):e1v (n+1) t s x =
 a0a (p0e n x.2.2.2.1.1) fun r0 =>
 a0a (p0e n x.2.2.2.1.2.1) fun r1 =>
 a0a (p0e n x.2.2.2.1.2.2) fun r2 =>
 a0a (j0l n s.1 x.2.1 s.2.1) fun r3 =>
 tif (r3) (
 some ((IntKind.wrap .i64 (t.1+1)),(t.2.1,(t.2.2.1,((IntKind.wrap .i64 (t.2.2.2.1+(((List.length x.2.2.1.2.2):Nat):Int))),((IntKind.wrap .i64 (t.2.2.2.2.1+x.2.2.1.1)),(((IntKind.wrap .i64 (t.2.2.2.2.2.1.1+(((List.length r0):Nat):Int))),((IntKind.wrap .i64 (t.2.2.2.2.2.1.2.1+(((List.length r1):Nat):Int))),(IntKind.wrap .i64 (t.2.2.2.2.2.1.2.2+(((List.length r2):Nat):Int))))),(IntKind.wrap .i64 (t.2.2.2.2.2.2+1))))))))) (
 some ((IntKind.wrap .i64 (t.1+1)),(t.2.1,(t.2.2.1,((IntKind.wrap .i64 (t.2.2.2.1+(((List.length x.2.2.1.2.2):Nat):Int))),((IntKind.wrap .i64 (t.2.2.2.2.1+x.2.2.1.1)),(((IntKind.wrap .i64 (t.2.2.2.2.2.1.1+(((List.length r0):Nat):Int))),((IntKind.wrap .i64 (t.2.2.2.2.2.1.2.1+(((List.length r1):Nat):Int))),(IntKind.wrap .i64 (t.2.2.2.2.2.1.2.2+(((List.length r2):Nat):Int))))),t.2.2.2.2.2.2))))))):=by kernel_rfl
theorem u0y (n:Nat) (s:(List (List UInt8×List UInt8))):d0z (n+1) s =
 tif ((decide ((List.length s)=0))) (
 both (
 some []) (
 tif ((decide (((0+(List.length s))*32)≤140737488355328))) (
 some ([]++s)) (
 none))) (
 tif ((decide (((0+(List.length s))*32)≤140737488355328))) (
 some ([]++s)) (
 none)):=by kernel_rfl
theorem n1a (n:Nat) (s:a0k):s0n (n+1) s =
 a0a (k0a n s) fun r0 =>
 tif ((!(decide (r0.2=0)))) (
 some (0,r0.2)) (
 a0a (d0a n r0.1 (fun y1=>e0p n y1.1 r0.1)) fun r2 =>
 tif ((decide (r2<0))) (
 some (0,7)) (
 some (r2,0))):=by kernel_rfl
theorem i1m (n:Nat) (a:(Int×Int)) (over:Int):r0z (n+1) a over =
 tif ((!(decide (over=0)))) (
 some ((0,0),1)) (
 some (a,0)):=by kernel_rfl
theorem s1t (n:Nat) (n_:Int):y0l (n+1) n_ =
 some (0,n_):=by kernel_rfl
theorem e1b (n:Nat) (a:(Int×Int)) (n_:Int):u0g (n+1) a n_ =
 a0a (g0f n a.2 n_) fun r0 =>
 a0a (g0f n a.1 n_) fun r1 =>
 tif (((decide ((0:Int)≤r1.2))&&((decide ((0:Int)≤r0.1))&&true))) (
 a0a (r0z n ((((r1.2+r0.1)+0) % (18446744073709551616:Int)),r0.2) (orI .u64 r1.1 (((r1.2+r0.1)+0) / (18446744073709551616:Int)))) fun r2 =>
 some r2) (
 none):=by kernel_rfl
theorem i1n (n:Nat) (a:(Int×Int)) (b:(Int×Int)):y0m (n+1) a b =
 tif ((decide (a.1<b.1))) (
 some true) (
 tif ((decide (a.1=b.1))) (
 some (decide (a.2<b.2))) (
 some false)):=by kernel_rfl
theorem c1d (n:Nat) (e:a0n):c0s (n+1) e =
 tif ((decide (e.1<0))) (
 some (2:Int)) (
 tif ((decide ((35184372088832:Int)≤e.1))) (
 some (2:Int)) (
 tif ((decide (e.2.2.1<0))) (
 some (2:Int)) (
 tif ((decide (e.1<e.2.2.1))) (
 some (2:Int)) (
 tif (e.2.2.2) (
 tif ((!((decide (e.1=e.1))&&((decide (e.2.1=0))&&((decide (e.2.2.1=0))&&(e.2.2.2==true)))))) (
 some (2:Int)) (
 some (0:Int))) (
 some (0:Int)))))):=by kernel_rfl
theorem t0y (n:Nat) (c:a0x):c0o (n+1) c =
 a0a (e0m n c.1 (1:Int) (4096:Int)) fun r0 =>
 tif (r0) (
 a0a (e0m n c.2.2.2.1 (1:Int) (65536:Int)) fun r1 =>
 tif (r1) (
 a0a (e0m n c.2.2.2.2 (1:Int) (8192:Int)) fun r2 =>
 tif (r2) (
 a0a (g0i n c.2.1.1 (1:Int) (1099511627776:Int)) fun r3 =>
 tif (r3) (
 a0a (e0m n c.2.2.1.1 (1:Int) (4096:Int)) fun r4 =>
 tif (r4) (
 a0a (g0i n c.2.1.2.1 (1:Int) (1099511627776:Int)) fun r5 =>
 tif (r5) (
 a0a (e0m n c.2.2.1.2.1 (1:Int) (4096:Int)) fun r6 =>
 tif (r6) (
 a0a (g0i n c.2.1.2.2 (1:Int) (1099511627776:Int)) fun r7 =>
 tif (r7) (
 a0a (e0m n c.2.2.1.2.2 (1:Int) (4096:Int)) fun r8 =>
 tif (r8) (
 tif ((decide (c.2.1.1=0))) (
 none) (
 tif ((decide ((Int.tmod c.2.1.2.1 c.2.1.1)=0))) (
 tif ((decide (c.2.1.1=0))) (
 none) (
 tif ((decide ((IntKind.wrap .i64 (Int.tdiv c.2.1.2.1 c.2.1.1))≤c.2.2.1.1))) (
 tif ((decide (c.2.1.2.1=0))) (
 none) (
 tif ((decide ((Int.tmod c.2.1.2.2 c.2.1.2.1)=0))) (
 tif ((decide (c.2.1.2.1=0))) (
 none) (
 tif ((decide ((IntKind.wrap .i64 (Int.tdiv c.2.1.2.2 c.2.1.2.1))≤c.2.2.1.2.1))) (
 tif ((!(decide ((IntKind.wrap .i64 (Int.tdiv c.2.1.2.2 c.2.1.2.1))≤c.2.2.1.2.1)))) (
 some (2:Int)) (
 a0a (g0v n c) fun r9 =>
 tif ((decide (c.2.2.2.2≤r9))) (
 some (2:Int)) (
 some (0:Int)))) (
 tif ((!(decide ((IntKind.wrap .i64 (Int.tdiv c.2.1.2.2 c.2.1.2.1))≤c.2.2.1.2.1)))) (
 some (2:Int)) (
 a0a (g0v n c) fun r10 =>
 tif ((decide (c.2.2.2.2≤r10))) (
 some (2:Int)) (
 some (0:Int)))))) (
 some (2:Int)))) (
 tif ((!(decide ((IntKind.wrap .i64 (Int.tdiv c.2.1.2.1 c.2.1.1))≤c.2.2.1.1)))) (
 some (2:Int)) (
 a0a (g0v n c) fun r11 =>
 tif ((decide (c.2.2.2.2≤r11))) (
 some (2:Int)) (
 some (0:Int)))))) (
 some (2:Int)))) (
 tif ((!r8)) (
 some (2:Int)) (
 a0a (g0v n c) fun r12 =>
 tif ((decide (c.2.2.2.2≤r12))) (
 some (2:Int)) (
 some (0:Int))))) (
 some (2:Int))) (
 some (2:Int))) (
 some (2:Int))) (
 some (2:Int))) (
 some (2:Int))) (
 some (2:Int))) (
 some (2:Int))) (
 some (2:Int)):=by kernel_rfl
theorem l1m (n:Nat) (c:a0x):a1p (n+1) c =
 a0a (c0o n c) fun r0 =>
 tif ((!(decide (r0=0)))) (
 some (0:Int)) (
 a0a (v0t n c) fun r1 =>
 some (IntKind.wrap .i64 ((IntKind.wrap .i64 ((1:Int)+r1))+c.2.2.2.2))):=by kernel_rfl
theorem h1p (n:Nat) (c:a0x):v0s (n+1) c =
 a0a (c0o n c) fun r0 =>
 tif ((!(decide (r0=0)))) (
 some (0:Int)) (
 a0a (g0v n c) fun r1 =>
 some r1):=by kernel_rfl
theorem b1p (n:Nat) (s:a0k) (l:(List (List UInt8×List UInt8))) (e:a0n):r0i (n+1) s l e =
 a0a (f0i n s) fun r0 =>
 tif ((!(decide (r0=0)))) (
 some (0,(false,r0))) (
 a0a (f0p n l) fun r1 =>
 tif ((!(decide (r1=0)))) (
 some (0,(false,r1))) (
 a0a (c0s n e) fun r2 =>
 tif ((!(decide (r2=0)))) (
 some (0,(false,r2))) (
 a0a (v0b n s) fun r3 =>
 a0a (e1u n s l) fun r4 =>
 tif ((decide (e.1<r3.1))) (
 some (0,(false,9))) (
 tif ((decide (r3.2≤e.1))) (
 some (0,(false,9))) (
 tif ((decide (r4.2=0))) (
 a0a (at? s.2.2.2 r4.1) fun r5 =>
 tif ((decide (e.1≤r5.2.1))) (
 some (0,(false,9))) (
 tif ((decide (r4.2=0))) (
 some (r4.1,(false,0))) (
 tif (e.2.2.2) (
 some (0,(false,3))) (
 a0a (s0n n s) fun r6 =>
 some (r6.1,((decide (r6.2=0)),r6.2)))))) (
 tif ((decide (r4.2=0))) (
 some (r4.1,(false,0))) (
 tif (e.2.2.2) (
 some (0,(false,3))) (
 a0a (s0n n s) fun r7 =>
 some (r7.1,((decide (r7.2=0)),r7.2)))))))))):=by kernel_rfl
theorem b1f (n:Nat) (s:a0k) (i:Int) (fresh:Bool) (l:(List (List UInt8×List UInt8))):y0i (n+1) s i fresh l =
 tif (fresh) (
 a0a (p0n n s.1 l) fun r0 =>
 some r0) (
 a0a (at? s.2.2.2 i) fun r1 =>
 some (r1,0)):=by kernel_rfl
theorem f1b (n:Nat) (c:a0x) (s:b0b) (e:a0n):v0a (n+1) c s e =
 a0a (m0q n c s) fun r0 =>
 v0h (r0.1) (
 tif ((!(decide (r0.2=0)))) (
 some (([],(0,((0,(0,[])),(([],([],[])),(0,(0,((0,(0,(0,false))),((0,(0,(0,false))),((0,0),(0,(0,0))))))))))),2)) (
 a0a (c0s n e) fun r1 =>
 tif ((!(decide (r1=0)))) (
 some (([],(0,((0,(0,[])),(([],([],[])),(0,(0,((0,(0,(0,false))),((0,(0,(0,false))),((0,0),(0,(0,0))))))))))),2)) (
 tif ((decide (e.1≤s.2.1))) (
 some (([],(0,((0,(0,[])),(([],([],[])),(0,(0,((0,(0,(0,false))),((0,(0,(0,false))),((0,0),(0,(0,0))))))))))),9)) (
 tif ((decide (c.2.1.1=0))) (
 none) (
 none))))) fun r2 =>
 tif ((!(decide (r0.2=0)))) (
 some (([],(0,((0,(0,[])),(([],([],[])),(0,(0,((0,(0,(0,false))),((0,(0,(0,false))),((0,0),(0,(0,0))))))))))),2)) (
 a0a (c0s n e) fun r3 =>
 tif ((!(decide (r3=0)))) (
 some (([],(0,((0,(0,[])),(([],([],[])),(0,(0,((0,(0,(0,false))),((0,(0,(0,false))),((0,0),(0,(0,0))))))))))),2)) (
 tif ((decide (e.1≤s.2.1))) (
 some (([],(0,((0,(0,[])),(([],([],[])),(0,(0,((0,(0,(0,false))),((0,(0,(0,false))),((0,0),(0,(0,0))))))))))),9)) (
 tif ((decide (c.2.1.1=0))) (
 none) (
 a0a (e1w n r2 (IntKind.wrap .i64 (Int.tdiv e.1 c.2.1.1))) fun r4 =>
 tif ((!(decide (r4.1=0)))) (
 some (([],(0,((0,(0,[])),(([],([],[])),(0,(0,((0,(0,(0,false))),((0,(0,(0,false))),((0,0),(0,(0,0))))))))))),r4.1)) (
 a0a (x1t n r4.2 (IntKind.wrap .i64 (Int.tdiv e.1 c.2.1.1)) e) fun r5 =>
 tif ((!(decide (r5.1=0)))) (
 some (([],(0,((0,(0,[])),(([],([],[])),(0,(0,((0,(0,(0,false))),((0,(0,(0,false))),((0,0),(0,(0,0))))))))))),r5.1)) (
 some (r5.2.2,0))))))):=by kernel_rfl
theorem s0x (n:Nat) (s:(List b0b)):j0i (n+1) s =
 tif ((decide ((List.length s)=0))) (
 both (
 some []) (
 tif ((decide (((0+(List.length s))*264)≤140737488355328))) (
 some ([]++s)) (
 none))) (
 tif ((decide (((0+(List.length s))*264)≤140737488355328))) (
 some ([]++s)) (
 none)):=by kernel_rfl
theorem j1c (n:Nat) (s:a0k):y0y (n+1) s =
 a0a (f0i n s) fun r0 =>
 tif ((!(decide (r0=0)))) (
 some []) (
 a0a (x0r n s) fun r1 =>
 a0a (g0r n r1 (fun y2=>j0f n y2.1 s)) fun r3 =>
 some r3):=by kernel_rfl
theorem n1e (n:Nat) (s:a0k):x0r (n+1) s =
 a0a (k0a n s) fun r0 =>
 tif ((!(decide (r0.2=0)))) (
 some []) (
 a0a (g0o n a0b (r0.1,([],((((List.length r0.1.2.2.2):Nat):Int),(0,()))))) fun r1 =>
 c0u (fun y2 =>
 some y2.1) (fun z3 =>
 some z3) r1):=by kernel_rfl
theorem q0m (n f:Nat) (v:a0k) (out:(List Int)) (s17:Int) (s18:Int):g0o n (f+1) (v,out,s17,s18,()) =
 tif ((decide (s18<s17))) (
 a0a (c0k n v s18) fun r0 =>
 tif (r0) (
 tif ((decide ((((List.length out)+1)*8)≤140737488355328))) (
 g0o n f (v,((out++(s18::[])),(s17,((IntKind.wrap .i64 (s18+1)),()))))) (
 none)) (
 g0o n f (v,(out,(s17,((IntKind.wrap .i64 (s18+1)),())))))) (
 some (.inl (out,()))):=by kernel_rfl
theorem i1q (n:Nat) (now:Int) (w:Int) (n_:Int):l0b (n+1) now w n_ =
 a0a (s1v n now w) fun r0 =>
 tif ((!(decide (r0.2=0)))) (
 some (0,1)) (
 a0a (i1p n n_ (1:Int) (4096:Int)) fun r1 =>
 tif ((!r1)) (
 some (0,1)) (
 some ((if (0:Int)<(IntKind.wrap .i64 ((IntKind.wrap .i64 (r0.1+1))-n_)) then (IntKind.wrap .i64 ((IntKind.wrap .i64 (r0.1+1))-n_)) else (0:Int)),0))):=by kernel_rfl
theorem y0x (n:Nat) (c:a0x) (x:b0b) (oldest:Int):e0o (n+1) c x (0:Int) oldest =
 a0a (d0o n c x.2.1 (0:Int)) fun r0 =>
 a0a (d0r n x.2.2.2.1.1) fun r1 =>
 a0a (b0y n a0b (oldest,(r0.1,(r0.2,(r1,((((List.length r1):Nat):Int),(0,()))))))) fun r2 =>
 c0u (fun y3 =>
 some y3.1) (fun z4 =>
 some z4) r2:=by kernel_rfl
theorem y0w (n:Nat) (c:a0x) (x:b0b) (oldest:Int):e0o (n+1) c x (1:Int) oldest =
 a0a (d0o n c x.2.1 (1:Int)) fun r0 =>
 a0a (d0r n x.2.2.2.1.2.1) fun r1 =>
 a0a (b0y n a0b (oldest,(r0.1,(r0.2,(r1,((((List.length r1):Nat):Int),(0,()))))))) fun r2 =>
 c0u (fun y3 =>
 some y3.1) (fun z4 =>
 some z4) r2:=by kernel_rfl
theorem y0v (n:Nat) (c:a0x) (x:b0b) (oldest:Int):e0o (n+1) c x (2:Int) oldest =
 a0a (d0o n c x.2.1 (2:Int)) fun r0 =>
 a0a (d0r n x.2.2.2.1.2.2) fun r1 =>
 a0a (b0y n a0b (oldest,(r0.1,(r0.2,(r1,((((List.length r1):Nat):Int),(0,()))))))) fun r2 =>
 c0u (fun y3 =>
 some y3.1) (fun z4 =>
 some z4) r2:=by kernel_rfl
theorem n0p (n f:Nat) (oldest:Int) (from_:Int) (to:Int) (out:(List a0c)) (s28:Int) (s29:Int):b0y n (f+1) (oldest,from_,to,out,s28,s29,()) =
 tif ((decide (s29<s28))) (
 a0a (at? out s29) fun r0 =>
 a0a ((out)[(Int.toNat s29)]?) fun r1 =>
 tif ((decide (r1.1<oldest))) (
 tif ((decide (r1.1<from_))) (
 a0a (at? out s29) fun r2 =>
 a0a ((out)[(Int.toNat s29)]?) fun r3 =>
 b0y n f (oldest,(from_,(to,((List.set out (Int.toNat s29) (0,(0,((0,(0,(0,false))),((0,(0,(0,false))),((0,0),(0,(0,0)))))))),(s28,((IntKind.wrap .i64 (s29+1)),()))))))) (
 tif ((decide (to≤r1.1))) (
 a0a (at? out s29) fun r4 =>
 a0a ((out)[(Int.toNat s29)]?) fun r5 =>
 b0y n f (oldest,(from_,(to,((List.set out (Int.toNat s29) (0,(0,((0,(0,(0,false))),((0,(0,(0,false))),((0,0),(0,(0,0)))))))),(s28,((IntKind.wrap .i64 (s29+1)),()))))))) (
 b0y n f (oldest,(from_,(to,(out,(s28,((IntKind.wrap .i64 (s29+1)),()))))))))) (
 b0y n f (oldest,(from_,(to,(out,(s28,((IntKind.wrap .i64 (s29+1)),())))))))) (
 some (.inl (out,()))):=by kernel_rfl
theorem b1v (n:Nat) (l:(List (List UInt8×List UInt8))):f0p (n+1) l =
 tif ((decide ((((List.length l):Nat):Int)=0))) (
 some (8:Int)) (
 tif ((decide ((16:Int)<(((List.length l):Nat):Int)))) (
 some (8:Int)) (
 a0a (e0a n a0b (l,(256,(l,((((List.length l):Nat):Int),(0,())))))) fun r0 =>
 c0u (fun y1 =>
 some (0:Int)) (fun z2 =>
 some z2) r0)):=by kernel_rfl
theorem l0r (n f:Nat) (l:(List (List UInt8×List UInt8))) (left:Int) (s14:(List (List UInt8×List UInt8))) (s15:Int) (s16:Int):e0a n (f+1) (l,left,s14,s15,s16,()) =
 tif ((decide (s16<s15))) (
 a0a (at? s14 s16) fun r0 =>
 a0a (v0m n r0.1) fun r1 =>
 tif ((!r1)) (
 some (.inr (8:Int))) (
 tif ((decide ((128:Int)<(((List.length r0.2):Nat):Int)))) (
 some (.inr (8:Int))) (
 tif ((decide ((IntKind.wrap .i64 (left-(IntKind.wrap .i64 ((((List.length r0.1):Nat):Int)+(((List.length r0.2):Nat):Int)))))<0))) (
 some (.inr (8:Int))) (
 tif ((decide ((0:Int)<s16))) (
 a0a (at? l (IntKind.wrap .i64 (s16-1))) fun r2 =>
 tif ((!(Go.Op.bytesLess r2.1 r0.1))) (
 some (.inr (8:Int))) (
 e0a n f (l,((IntKind.wrap .i64 (left-(IntKind.wrap .i64 ((((List.length r0.1):Nat):Int)+(((List.length r0.2):Nat):Int))))),(s14,(s15,((IntKind.wrap .i64 (s16+1)),()))))))) (
 e0a n f (l,((IntKind.wrap .i64 (left-(IntKind.wrap .i64 ((((List.length r0.1):Nat):Int)+(((List.length r0.2):Nat):Int))))),(s14,(s15,((IntKind.wrap .i64 (s16+1)),())))))))))) (
 some (.inl ())):=by kernel_rfl
theorem a1l (n:Nat) (p:a0n) (c:a0n):f0v (n+1) p c =
 a0a (j0t n (p::(c::[]))) fun r0 =>
 tif (r0) (
 some (decide (p.1<c.1))) (
 some false):=by kernel_rfl
theorem m1z (n:Nat) (s:a0k):k0a (n+1) s =
 a0a (c0o n s.1) fun r0 =>
 tif ((!(decide (r0=0)))) (
 some (((0,((0,(0,0)),((0,(0,0)),(0,0)))),(0,(0,[]))),2)) (
 tif ((!(decide ((((List.length s.2.2.2):Nat):Int)=s.1.2.2.2.1)))) (
 some (((0,((0,(0,0)),((0,(0,0)),(0,0)))),(0,(0,[]))),2)) (
 some (s,0))):=by kernel_rfl
theorem u0s (n:Nat) (v:a0k):k0r (n+1) v =
 a0a (s0l n v.2.1) fun r0 =>
 tif (r0) (
 tif ((decide (v.2.2.1=((-1):Int)))) (
 some (decide (v.2.2.1≤v.2.1))) (
 a0a (s0l n v.2.2.1) fun r1 =>
 tif (r1) (
 some (decide (v.2.2.1≤v.2.1))) (
 some false))) (
 some false):=by kernel_rfl
theorem u0q (n:Nat) (v:a0k) (is:((Int×Unit)→Option Bool)):d0a (n+1) v is =
 a0a (b0w n a0b (is,((((List.length v.2.2.2):Nat):Int),(0,())))) fun r0 =>
 c0u (fun y1 =>
 some ((-1):Int)) (fun z2 =>
 some z2) r0:=by kernel_rfl
theorem i0f (n f:Nat) (is:((Int×Unit)→Option Bool)) (s9:Int) (s10:Int):b0w n (f+1) (is,s9,s10,()) =
 tif ((decide (s10<s9))) (
 a0a (is (s10,())) fun r0 =>
 tif (r0) (
 some (.inr s10)) (
 b0w n f (is,(s9,((IntKind.wrap .i64 (s10+1)),()))))) (
 some (.inl ())):=by kernel_rfl
theorem b1l (n:Nat) (i:Int) (p1:a0k):d0q (n+1) i p1 =
 a0a (k0q n p1 i) fun r0 =>
 some (!r0):=by kernel_rfl
theorem u0p (n:Nat) (v:a0k) (i:Int):k0q (n+1) v i =
 a0a (at? v.2.2.2 i) fun r0 =>
 a0a (s0m n r0) fun r1 =>
 tif (r1) (
 some true) (
 a0a (o0c n v.1 r0) fun r2 =>
 tif ((decide (r2=0))) (
 tif ((decide ((0:Int)≤r0.2.1))) (
 a0a (i0m n v) fun r3 =>
 tif ((decide (r0.2.1<(IntKind.wrap .i64 (r3+v.1.2.1.1))))) (
 a0a (m0l n v i) fun r4 =>
 some (!r4)) (
 some false)) (
 some false)) (
 some false)):=by kernel_rfl
theorem u0r (n:Nat) (v:a0k) (i:Int):c0k (n+1) v i =
 a0a (at? v.2.2.2 i) fun r0 =>
 a0a (s0m n r0) fun r1 =>
 tif ((!r1)) (
 tif ((decide (v.2.2.1=((-1):Int)))) (
 some true) (
 a0a (j0l n v.1 r0.2.1 v.2.2.1) fun r2 =>
 some (!r2))) (
 some false):=by kernel_rfl
theorem m1t (n:Nat) (l:(List a0c)):p0e (n+1) l =
 a0a (d0r n l) fun r0 =>
 a0a (g0c n r0 (fun y1=>n0w n y1.1)) fun r2 =>
 a0a (e0b n r2 (fun y3=>p0d n y3.1 y3.2.1)) fun r4 =>
 some r4:=by kernel_rfl
theorem b1o (n:Nat) (c:a0x) (last:Int) (now:Int):j0l (n+1) c last now =
 a0a (c0o n c) fun r0 =>
 tif ((decide (r0=0))) (
 a0a (y0o n last now c.2.1.1 c.2.2.1.1) fun r1 =>
 tif (r1) (
 a0a (y0o n last now c.2.1.2.1 c.2.2.1.2.1) fun r2 =>
 tif (r2) (
 a0a (y0o n last now c.2.1.2.2 c.2.2.1.2.2) fun r3 =>
 tif (r3) (
 some r3) (
 some r3)) (
 some r2)) (
 some r1)) (
 some (decide (r0=0))):=by kernel_rfl
theorem e1r (n:Nat) (i:Int) (p1:a0k):e0p (n+1) i p1 =
 a0a (c0k n p1 i) fun r0 =>
 some (!r0):=by kernel_rfl
theorem n1g (n:Nat) (s:a0k) (l:(List (List UInt8×List UInt8))):e1u (n+1) s l =
 a0a (k0a n s) fun r0 =>
 tif ((!(decide (r0.2=0)))) (
 some (0,r0.2)) (
 a0a (d0a n r0.1 (fun y1=>e0q n y1.1 s l r0.1)) fun r2 =>
 tif ((decide (r2<0))) (
 some (0,3)) (
 some (r2,0))):=by kernel_rfl
theorem h1y (n:Nat) (a:c0d) (b:c0d):p0v (n+1) a b =
 a0a (m0a n a) fun r0 =>
 tif ((!(decide (r0=0)))) (
 some ((0,((0,(0,(0,false))),((0,(0,(0,false))),((0,0),(0,(0,0)))))),2)) (
 a0a (m0a n b) fun r1 =>
 tif ((!(decide (r1=0)))) (
 some ((0,((0,(0,(0,false))),((0,(0,(0,false))),((0,0),(0,(0,0)))))),2)) (
 a0a (o0q n a) fun r2 =>
 tif (r2) (
 some (b,0)) (
 a0a (o0q n b) fun r3 =>
 tif (r3) (
 some (a,0)) (
 a0a (l1w n a b) fun r4 =>
 some r4)))):=by kernel_rfl
theorem p1q (n:Nat) (e:a0n):h1w (n+1) e =
 some (1,(e,(e,((0,0),(0,(0,0)))))):=by kernel_rfl
end Go.Proofs.YtojobamheigpbaaGreatDoor
