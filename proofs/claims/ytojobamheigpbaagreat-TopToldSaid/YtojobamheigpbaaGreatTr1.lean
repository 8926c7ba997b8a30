/- Trees, printed by program. -/
import Derived.Test.YtojobamheigpbaaGreatTr0
import Derived.KernelRfl
set_option linter.unusedVariables false
namespace Go.Proofs.YtojobamheigpbaaGreat
open Go.Flat
theorem b1q (n:Nat) (c:a0s) (l:(List b0e)) (labels:(List (List UInt8×List UInt8))) (from_:Int) (to:Int):y0u (n+1) c l labels from_ to =
 a0a (o0c n ) fun r0 =>
 tif ((!r0)) (
 some false) (
 a0a (p0i n c) fun r1 =>
 tif ((!r1)) (
 some true) (
 a0a (i0r n l) fun r2 =>
 tif ((!r2)) (
 some true) (
 a0a (o0x n labels) fun r3 =>
 tif ((decide (r3=0))) (
 some true) (
 a0a (u0x n c) fun r4 =>
 a0a (y0g n ) fun r5 =>
 tif ((!(decide (r4.2=0)))) (
 some false) (
 a0a (f0u n a0b (labels,(from_,(to,(c,(r4.1,(r5,(l,((((List.length l):Nat):Int),(0,())))))))))) fun r6 =>
 c0i (fun y7 =>
 a0a (z0t n y7.2.2.2.2.1 y7.1 y7.2.1 y7.2.2.1) fun r8 =>
 tif ((!(decide (r8.2=0)))) (
 a0a (s0x n y7.2.2.2.2.1 y7.1) fun r9 =>
 tif ((decide (r9.2=0))) (
 a0a (at? y7.2.2.2.2.1.2.2.2 r9.1) fun r10 =>
 a0a (a0w n a0b (y7.2.1,(y7.2.2.2.1,(y7.2.2.2.2.1,(r8.1,(r8.2,((decide ((0:Int)<r10.2.2.1.1)),(true,(0,()))))))))) fun r11 =>
 c0i (fun y12 =>
 tif ((decide ((((List.length y12.1):Nat):Int)=0))) (
 tif ((!(decide (y12.2.1=11)))) (
 some true) (
 tif (y12.2.2.1) (
 some true) (
 some y12.2.2.2.1))) (
 some false)) (fun z13 =>
 some z13) r11) (
 a0a (a0w n a0b (y7.2.1,(y7.2.2.2.1,(y7.2.2.2.2.1,(r8.1,(r8.2,(false,(true,(0,()))))))))) fun r14 =>
 c0i (fun y15 =>
 tif ((decide ((((List.length y15.1):Nat):Int)=0))) (
 tif ((!(decide (y15.2.1=11)))) (
 some true) (
 tif (y15.2.2.1) (
 some true) (
 some y15.2.2.2.1))) (
 some false)) (fun z16 =>
 some z16) r14)) (
 a0a (i0b n y7.2.2.2.2.2.1 y7.1) fun r17 =>
 a0a (d0h n a0b (y7.2.1,(y7.2.2.1,(r8.1,([],(r17.1,((((List.length r17.1):Nat):Int),(0,())))))))) fun r18 =>
 c0i (fun y19 =>
 a0a (o0o n y19.1 y19.2.1) fun r20 =>
 some r20) (fun z21 =>
 some z21) r18)) (fun z22 =>
 some z22) r6))))):=by kernel_rfl
theorem k0h (n f:Nat) (labels:(List (List UInt8×List UInt8))) (from_:Int) (to:Int) (c_:a0s) (s:a0k) (b:((List (List UInt8))×(List (List UInt8×((List (List UInt8×List UInt8))×(List a0h)))))) (s55:(List b0e)) (s56:Int) (s57:Int):f0u n (f+1) (labels,from_,to,c_,s,b,s55,s56,s57,()) =
 tif ((decide (s57<s56))) (
 a0a (at? s55 s57) fun r0 =>
 a0a (l0j n r0 s) fun r1 =>
 a0a (l0i n b r0 r1.2) fun r2 =>
 tif ((!r2.1)) (
 some (.inr false)) (
 f0u n f (labels,(from_,(to,(c_,(r1.1,(r2.2,(s55,(s56,((IntKind.wrap .i64 (s57+1)),()))))))))))) (
 some (.inl (labels,(from_,(to,(c_,(s,(b,())))))))):=by kernel_rfl
theorem q0e (n f:Nat) (from_:Int) (c_:a0s) (s:a0k) (got:(List a0h)) (w2:Int) (lost:Bool) (old:Bool):a0w n (f+1) (from_,c_,s,got,w2,lost,old,0,()) =
 tif (old) (
 tif ((decide (c_.2.1.1=0))) (
 none) (
 tif ((decide (c_.2.1.1=0))) (
 none) (
 a0w n f (from_,(c_,(s,(got,(w2,(lost,((decide ((IntKind.wrap .i64 (Int.tdiv from_ c_.2.1.1))≤(IntKind.wrap .i64 ((IntKind.wrap .i64 (Int.tdiv s.2.1 c_.2.1.1))-c_.2.2.1.1)))),(1,()))))))))))) (
 a0w n f (from_,(c_,(s,(got,(w2,(lost,(false,(1,()))))))))):=by kernel_rfl
theorem i0j (n f:Nat) (from_:Int) (c_:a0s) (s:a0k) (got:(List a0h)) (w2:Int) (lost:Bool) (old:Bool):a0w n (f+1) (from_,c_,s,got,w2,lost,old,1,()) =
 tif (old) (
 tif ((decide (c_.2.1.2.1=0))) (
 none) (
 tif ((decide (c_.2.1.2.1=0))) (
 none) (
 a0w n f (from_,(c_,(s,(got,(w2,(lost,((decide ((IntKind.wrap .i64 (Int.tdiv from_ c_.2.1.2.1))≤(IntKind.wrap .i64 ((IntKind.wrap .i64 (Int.tdiv s.2.1 c_.2.1.2.1))-c_.2.2.1.2.1)))),(2,()))))))))))) (
 a0w n f (from_,(c_,(s,(got,(w2,(lost,(false,(2,()))))))))):=by kernel_rfl
theorem e0x (n f:Nat) (from_:Int) (c_:a0s) (s:a0k) (got:(List a0h)) (w2:Int) (lost:Bool) (old:Bool):a0w n (f+1) (from_,c_,s,got,w2,lost,old,2,()) =
 tif (old) (
 tif ((decide (c_.2.1.2.2=0))) (
 none) (
 tif ((decide (c_.2.1.2.2=0))) (
 none) (
 a0w n f (from_,(c_,(s,(got,(w2,(lost,((decide ((IntKind.wrap .i64 (Int.tdiv from_ c_.2.1.2.2))≤(IntKind.wrap .i64 ((IntKind.wrap .i64 (Int.tdiv s.2.1 c_.2.1.2.2))-c_.2.2.1.2.2)))),(3,()))))))))))) (
 a0w n f (from_,(c_,(s,(got,(w2,(lost,(false,(3,()))))))))):=by kernel_rfl
theorem e0w (n f:Nat) (from_:Int) (c_:a0s) (s:a0k) (got:(List a0h)) (w2:Int) (lost:Bool) (old:Bool):a0w n (f+1) (from_,c_,s,got,w2,lost,old,3,()) =
 some (.inl (got,(w2,(lost,(old,()))))):=by kernel_rfl
theorem k0g (n f:Nat) (from_:Int) (to:Int) (got:(List a0h)) (want:(List a0h)) (s143:(List a0h)) (s144:Int) (s145:Int):d0h n (f+1) (from_,to,got,want,s143,s144,s145,()) =
 tif ((decide (s145<s144))) (
 a0a (at? s143 s145) fun r0 =>
 a0a ((s143)[(Int.toNat s145)]?) fun r1 =>
 tif ((decide (from_≤r1.1))) (
 tif ((decide (r1.1<to))) (
 tif ((decide ((((List.length want)+1)*32)≤140737488355328))) (
 d0h n f (from_,(to,(got,((want++(r1::[])),(s143,(s144,((IntKind.wrap .i64 (s145+1)),())))))))) (
 none)) (
 d0h n f (from_,(to,(got,(want,(s143,(s144,((IntKind.wrap .i64 (s145+1)),()))))))))) (
 d0h n f (from_,(to,(got,(want,(s143,(s144,((IntKind.wrap .i64 (s145+1)),()))))))))) (
 some (.inl (got,(want,())))):=by kernel_rfl
theorem e1m (n:Nat) (c:a0s):p0i (n+1) c =
 a0a (u0x n c) fun r0 =>
 tif ((decide (r0.2=0))) (
 tif ((decide ((((List.length r0.1.2.2.2):Nat):Int)≤8))) (
 tif ((decide (c.1≤60))) (
 tif ((decide (c.2.2.1.1≤40))) (
 tif ((decide (c.2.2.1.2.1≤40))) (
 some (decide (c.2.2.1.2.2≤40))) (
 some false)) (
 some false)) (
 some false)) (
 some false)) (
 some false):=by kernel_rfl
theorem w0z (n:Nat) (l:(List b0e)):i0r (n+1) l =
 tif ((decide ((40:Int)<(((List.length l):Nat):Int)))) (
 some false) (
 a0a (d0t n a0b (l,((((List.length l):Nat):Int),(0,())))) fun r0 =>
 c0i (fun y1 =>
 some true) (fun z2 =>
 some z2) r0):=by kernel_rfl
theorem j0k (n f:Nat) (s8:(List b0e)) (s9:Int) (s10:Int):d0t n (f+1) (s8,s9,s10,()) =
 tif ((decide (s10<s9))) (
 a0a (at? s8 s10) fun r0 =>
 a0a (o0x n r0.2.1.1) fun r1 =>
 tif ((decide (r1=0))) (
 some (.inr false)) (
 d0t n f (s8,(s9,((IntKind.wrap .i64 (s10+1)),()))))) (
 some (.inl ())):=by kernel_rfl
theorem k1u (n:Nat) (l:(List (List UInt8×List UInt8))):o0x (n+1) l =
 a0a (h0s n a0b (l,((((List.length l):Nat):Int),(0,())))) fun r0 =>
 c0i (fun y1 =>
 some (1:Int)) (fun z2 =>
 some z2) r0:=by kernel_rfl
theorem o0w (n f:Nat) (s5:(List (List UInt8×List UInt8))) (s6:Int) (s7:Int):h0s n (f+1) (s5,s6,s7,()) =
 tif ((decide (s7<s6))) (
 a0a (at? s5 s7) fun r0 =>
 tif ((decide (s7=40))) (
 some (.inr (0:Int))) (
 tif ((decide ((1000:Int)<(((List.length r0.1):Nat):Int)))) (
 some (.inr (0:Int))) (
 tif ((decide ((1000:Int)<(((List.length r0.2):Nat):Int)))) (
 some (.inr (0:Int))) (
 h0s n f (s5,(s6,((IntKind.wrap .i64 (s7+1)),()))))))) (
 some (.inl ())):=by kernel_rfl
theorem s1s (n:Nat) (c:a0s):u0x (n+1) c =
 a0a (u0f n c) fun r0 =>
 tif ((!(decide (r0.2=0)))) (
 some (((0,((0,(0,0)),((0,(0,0)),(0,0)))),(0,(0,[]))),r0.2)) (
 tif (((decide ((0:Int)≤c.2.2.2.1))&&((decide (c.2.2.2.1≤c.2.2.2.1))&&(decide ((c.2.2.2.1*264)≤140737488355328))))) (
 some ((c,(0,(((-1):Int),(List.replicate (Int.toNat c.2.2.2.1) ([],(0,((0,(0,[])),(([],([],[])),(0,(0,((0,(0,(0,false))),((0,(0,(0,false))),((0,0),(0,(0,0))))))))))))))),0)) (
 none)):=by kernel_rfl
theorem o1o (n:Nat)  : y0g (n+1)  =
 some ([],[]):=by kernel_rfl
theorem s0m (n:Nat) (a:b0e) (s:a0k):l0j (n+1) a s =
 tif ((decide (a.1=0))) (
 a0a (y0n n s a.2.1.1 a.2.1.2) fun r0 =>
 tif ((decide (r0.2=0))) (
 some r0) (
 some (s,r0.2))) (
 tif ((decide (a.1=1))) (
 a0a (h1g n s a.2.2) fun r1 =>
 some (r1.1,0)) (
 tif ((decide (a.1=2))) (
 a0a (e1u n s) fun r2 =>
 tif ((decide (r2.2.2=0))) (
 some (r2.1,0)) (
 some (s,0))) (
 tif ((decide (a.1=3))) (
 a0a (r0l n s) fun r3 =>
 tif ((decide (r3.2=0))) (
 some (r3.1,0)) (
 some (s,0))) (
 some (s,0))))):=by kernel_rfl
theorem s0l (n:Nat) (b:((List (List UInt8))×(List (List UInt8×((List (List UInt8×List UInt8))×(List a0h)))))) (a:b0e) (why:Int):l0i (n+1) b a why =
 tif ((!(decide (a.1=0)))) (
 some (true,b)) (
 tif ((!(decide (why=0)))) (
 some (true,b)) (
 a0a (g0h n b a.2.1.1 a.2.1.2) fun r0 =>
 some ((decide (r0.1=0)),r0.2))):=by kernel_rfl
theorem j1y (n:Nat) (s:a0k) (l:(List (List UInt8×List UInt8))) (from_:Int) (to:Int):z0t (n+1) s l from_ to =
 a0a (z0s n s l) fun r0 =>
 tif ((!(decide (r0=0)))) (
 some ([],r0)) (
 tif ((decide (from_<0))) (
 some ([],1)) (
 tif ((decide ((35184372088832:Int)<to))) (
 some ([],1)) (
 tif ((decide (to≤from_))) (
 some ([],1)) (
 a0a (j0u n s.1 from_ s.2.1) fun r1 =>
 tif (r1) (
 some ([],11)) (
 a0a (s0x n s l) fun r2 =>
 tif ((!(decide (r2.2=0)))) (
 some ([],0)) (
 a0a (at? s.2.2.2 r2.1) fun r3 =>
 a0a (z0q n r3.2.2.1 from_ to) fun r4 =>
 some r4)))))):=by kernel_rfl
theorem m1u (n:Nat) (s:a0k) (l:(List (List UInt8×List UInt8))):s0x (n+1) s l =
 a0a (m0t n s) fun r0 =>
 tif ((!(decide (r0.2=0)))) (
 some (0,r0.2)) (
 a0a (c0y n r0.1 (fun y1=>e0o n y1.1 s l r0.1)) fun r2 =>
 tif ((decide (r2<0))) (
 some (0,3)) (
 some (r2,0))):=by kernel_rfl
theorem r0s (n:Nat) (b:((List (List UInt8))×(List (List UInt8×((List (List UInt8×List UInt8))×(List a0h)))))) (l:(List (List UInt8×List UInt8))):i0b (n+2) b l =
 a0a (n0m n l) fun r0 =>
 tif ((!(decide (r0.2=0)))) (
 some ([],b)) (
 r0r (mget .str (.ref (.wrap (.pair (.slice (.wrap (.pair .str .str))) (.own (.wrap (.pair (.int .i64) (.pair (.int .u64) (.pair (.int .i64) .bool)))))))) b.2 r0.1 0) (
 some ([],b)) fun r1 =>
 a0a (f0i (n+1) r1.2.2) fun r2 =>
 some (r2,(b.1,(mset .str (.ref (.wrap (.pair (.slice (.wrap (.pair .str .str))) (.own (.wrap (.pair (.int .i64) (.pair (.int .u64) (.pair (.int .i64) .bool)))))))) b.2 r1.1 r1.2)))):=by kernel_rfl
theorem z0r (n:Nat) (a:(List a0h)) (b:(List a0h)):o0o (n+1) a b =
 tif ((!(decide ((((List.length a):Nat):Int)=(((List.length b):Nat):Int))))) (
 some false) (
 a0a (g0d n a0b (a,(b,((((List.length a):Nat):Int),(0,()))))) fun r0 =>
 c0i (fun y1 =>
 some true) (fun z2 =>
 some z2) r0):=by kernel_rfl
theorem k0n (n f:Nat) (a:(List a0h)) (b:(List a0h)) (s12:Int) (s13:Int):g0d n (f+1) (a,b,s12,s13,()) =
 tif ((decide (s13<s12))) (
 a0a (at? a s13) fun r0 =>
 a0a (at? b s13) fun r1 =>
 tif ((!((decide (r0.1=r1.1))&&((decide (r0.2.1=r1.2.1))&&((decide (r0.2.2.1=r1.2.2.1))&&(r0.2.2.2==r1.2.2.2)))))) (
 some (.inr false)) (
 g0d n f (a,(b,(s12,((IntKind.wrap .i64 (s13+1)),())))))) (
 some (.inl ())):=by kernel_rfl
theorem x0o (n:Nat) (b:((List (List UInt8))×(List (List UInt8×((List (List UInt8×List UInt8))×(List a0h)))))) (l:(List (List UInt8×List UInt8))) (e:a0h):g0h (n+2) b l e =
 a0a (e0h (n+1) l) fun r0 =>
 tif ((!(decide (r0=0)))) (
 some (r0,b)) (
 a0a (c0r (n+1) e) fun r1 =>
 tif ((!(decide (r1=0)))) (
 some (r1,b)) (
 a0a (n0m n l) fun r2 =>
 tif ((!(decide (r2.2=0)))) (
 tif ((decide ((((List.length b.1)+1)*16)≤140737488355328))) (
 a0a (f0h (n+1) l) fun r3 =>
 some (0,((b.1++([]::[])),(mput .str (.ref (.wrap (.pair (.slice (.wrap (.pair .str .str))) (.own (.wrap (.pair (.int .i64) (.pair (.int .u64) (.pair (.int .i64) .bool)))))))) b.2 [] (r3,(e::[])))))) (
 none)) (
 r0r (mget .str (.ref (.wrap (.pair (.slice (.wrap (.pair .str .str))) (.own (.wrap (.pair (.int .i64) (.pair (.int .u64) (.pair (.int .i64) .bool)))))))) b.2 r2.1 0) (
 tif ((decide ((((List.length b.1)+1)*16)≤140737488355328))) (
 a0a (f0h (n+1) l) fun r4 =>
 some (0,((b.1++(r2.1::[])),(mput .str (.ref (.wrap (.pair (.slice (.wrap (.pair .str .str))) (.own (.wrap (.pair (.int .i64) (.pair (.int .u64) (.pair (.int .i64) .bool)))))))) b.2 r2.1 (r4,(e::[])))))) (
 none)) fun r5 =>
 a0a (at? r5.2.2 (IntKind.wrap .i64 ((((List.length r5.2.2):Nat):Int)-1))) fun r6 =>
 a0a ((r5.2.2)[(Int.toNat (IntKind.wrap .i64 ((((List.length r5.2.2):Nat):Int)-1)))]?) fun r7 =>
 a0a (f0s (n+1) r7 e) fun r8 =>
 tif ((!r8)) (
 some (9,(b.1,(mset .str (.ref (.wrap (.pair (.slice (.wrap (.pair .str .str))) (.own (.wrap (.pair (.int .i64) (.pair (.int .u64) (.pair (.int .i64) .bool)))))))) b.2 r5.1 r5.2)))) (
 tif ((decide ((((List.length r5.2.2)+1)*32)≤140737488355328))) (
 some (0,(b.1,(mset .str (.ref (.wrap (.pair (.slice (.wrap (.pair .str .str))) (.own (.wrap (.pair (.int .i64) (.pair (.int .u64) (.pair (.int .i64) .bool)))))))) b.2 r5.1 (r5.2.1,(r5.2.2++(e::[]))))))) (
 none))))):=by kernel_rfl
theorem w0x (n:Nat) (c:a0s):u0f (n+1) c =
 a0a (c0o n c) fun r0 =>
 tif ((!(decide (r0=0)))) (
 some (0,r0)) (
 a0a (a1w n c) fun r1 =>
 a0a (v0y n c) fun r2 =>
 tif ((decide ((16777216:Int)<(IntKind.wrap .i64 ((IntKind.wrap .i64 (r1+1))+(IntKind.wrap .i64 (c.2.2.2.1*r2))))))) (
 some (0,1)) (
 some ((IntKind.wrap .i64 ((IntKind.wrap .i64 (r1+1))+(IntKind.wrap .i64 (c.2.2.2.1*r2)))),0))):=by kernel_rfl
theorem i1k (n:Nat) (s:a0k) (l:(List (List UInt8×List UInt8))) (e:a0h):y0n (n+1) s l e =
 a0a (r0o n s l e) fun r0 =>
 tif ((!(decide (r0.2.2=0)))) (
 some (((0,((0,(0,0)),((0,(0,0)),(0,0)))),(0,(0,[]))),r0.2.2)) (
 a0a (y0m n s r0.1 r0.2.1 l) fun r1 =>
 tif ((!(decide (r1.2=0)))) (
 some (((0,((0,(0,0)),((0,(0,0)),(0,0)))),(0,(0,[]))),r1.2)) (
 a0a (v0f n s.1 r1.1 e) fun r2 =>
 tif ((!(decide (r2.2=0)))) (
 some (((0,((0,(0,0)),((0,(0,0)),(0,0)))),(0,(0,[]))),r2.2)) (
 a0a (j0r n s.2.2.2) fun r3 =>
 a0a (at? r3 r0.1) fun r4 =>
 a0a ((r3)[(Int.toNat r0.1)]?) fun r5 =>
 some ((s.1,(s.2.1,(s.2.2.1,(List.set r3 (Int.toNat r0.1) r2.1)))),0)))):=by kernel_rfl
theorem o1z (n:Nat) (s:a0k) (now:Int):h1g (n+1) s now =
 tif ((decide (now≤s.2.1))) (
 some (s,false)) (
 tif ((decide ((35184372088832:Int)≤now))) (
 some (s,false)) (
 a0a (f0w n s) fun r0 =>
 tif ((!(decide (r0=0)))) (
 some (s,false)) (
 some ((s.1,(now,s.2.2)),true)))):=by kernel_rfl
theorem m1n (n:Nat) (s:a0k):e1u (n+1) s =
 a0a (f0w n s) fun r0 =>
 tif ((!(decide (r0=0)))) (
 some (((0,((0,(0,0)),((0,(0,0)),(0,0)))),(0,(0,[]))),(0,r0))) (
 a0a (z0c n s) fun r1 =>
 some ((s.1,(s.2.1,(s.2.1,s.2.2.2))),((((List.length r1):Nat):Int),0))):=by kernel_rfl
theorem b1s (n:Nat) (s:a0k):r0l (n+1) s =
 a0a (f0w n s) fun r0 =>
 tif ((!(decide (r0=0)))) (
 some (((0,((0,(0,0)),((0,(0,0)),(0,0)))),(0,(0,[]))),r0)) (
 tif (((decide ((0:Int)≤(((List.length s.2.2.2):Nat):Int)))&&((decide ((((List.length s.2.2.2):Nat):Int)≤(((List.length s.2.2.2):Nat):Int)))&&(decide (((((List.length s.2.2.2):Nat):Int)*264)≤140737488355328))))) (
 a0a (x0w n s) fun r1 =>
 a0a (f0f n a0b (s,(((0,((0,(0,0)),((0,(0,0)),(0,0)))),(0,(0,[]))),((List.replicate (Int.toNat (((List.length s.2.2.2):Nat):Int)) ([],(0,((0,(0,[])),(([],([],[])),(0,(0,((0,(0,(0,false))),((0,(0,(0,false))),((0,0),(0,(0,0)))))))))))),(r1,((((List.length r1):Nat):Int),(0,()))))))) fun r2 =>
 c0i (fun y3 =>
 some ((y3.1.1,(y3.1.2.1,(y3.1.2.2.1,y3.2.2.1))),0)) (fun z4 =>
 some z4) r2) (
 none)):=by kernel_rfl
theorem l0l (n f:Nat) (s_:a0k) (s2:a0k) (out:(List b0i)) (s24:(List Int)) (s25:Int) (s26:Int):f0f n (f+1) (s_,s2,out,s24,s25,s26,()) =
 tif ((decide (s26<s25))) (
 a0a (at? s24 s26) fun r0 =>
 a0a ((s24)[(Int.toNat s26)]?) fun r1 =>
 a0a (at? s_.2.2.2 r1) fun r2 =>
 a0a (b0p n a0b (s_,(s2,(out,(r1,(r2,(s24,(s25,(s26,(s_.1.2.1,(0,()))))))))))) fun r3 =>
 c0i (fun y4 =>
 a0a (at? y4.2.2.1 y4.2.2.2.1) fun r5 =>
 a0a ((y4.2.2.1)[(Int.toNat y4.2.2.2.1)]?) fun r6 =>
 f0f n f (y4.1,(y4.2.1,((List.set y4.2.2.1 (Int.toNat y4.2.2.2.1) y4.2.2.2.2.1),(y4.2.2.2.2.2.1,(y4.2.2.2.2.2.2.1,((IntKind.wrap .i64 (y4.2.2.2.2.2.2.2.1+1)),()))))))) (fun z7 =>
 some (.inr z7)) r3) (
 some (.inl (s_,(s2,(out,()))))):=by kernel_rfl
theorem q0i (n f:Nat) (s_:a0k) (s2:a0k) (out:(List b0i)) (i:Int) (x:b0i) (s24:(List Int)) (s25:Int) (s26:Int) (s37:(Int×(Int×Int))):b0p n (f+1) (s_,s2,out,i,x,s24,s25,s26,s37,0,()) =
 a0a (l0g n s_.2.1 s37.1 s_.1.2.2.1.1) fun r0 =>
 tif ((!(decide (r0.2=0)))) (
 some (.inr (((0,((0,(0,0)),((0,(0,0)),(0,0)))),(0,(0,[]))),r0.2))) (
 a0a (e0m n s_.1 x (0:Int) r0.1) fun r1 =>
 b0p n f (s_,(s2,(out,(i,((x.1,(x.2.1,(x.2.2.1,((r1,x.2.2.2.1.2),x.2.2.2.2)))),(s24,(s25,(s26,(s37,(1,()))))))))))):=by kernel_rfl
theorem q0h (n f:Nat) (s_:a0k) (s2:a0k) (out:(List b0i)) (i:Int) (x:b0i) (s24:(List Int)) (s25:Int) (s26:Int) (s37:(Int×(Int×Int))):b0p n (f+1) (s_,s2,out,i,x,s24,s25,s26,s37,1,()) =
 a0a (l0g n s_.2.1 s37.2.1 s_.1.2.2.1.2.1) fun r0 =>
 tif ((!(decide (r0.2=0)))) (
 some (.inr (((0,((0,(0,0)),((0,(0,0)),(0,0)))),(0,(0,[]))),r0.2))) (
 a0a (e0m n s_.1 x (1:Int) r0.1) fun r1 =>
 b0p n f (s_,(s2,(out,(i,((x.1,(x.2.1,(x.2.2.1,((x.2.2.2.1.1,(r1,x.2.2.2.1.2.2)),x.2.2.2.2)))),(s24,(s25,(s26,(s37,(2,()))))))))))):=by kernel_rfl
theorem q0g (n f:Nat) (s_:a0k) (s2:a0k) (out:(List b0i)) (i:Int) (x:b0i) (s24:(List Int)) (s25:Int) (s26:Int) (s37:(Int×(Int×Int))):b0p n (f+1) (s_,s2,out,i,x,s24,s25,s26,s37,2,()) =
 a0a (l0g n s_.2.1 s37.2.2 s_.1.2.2.1.2.2) fun r0 =>
 tif ((!(decide (r0.2=0)))) (
 some (.inr (((0,((0,(0,0)),((0,(0,0)),(0,0)))),(0,(0,[]))),r0.2))) (
 a0a (e0m n s_.1 x (2:Int) r0.1) fun r1 =>
 b0p n f (s_,(s2,(out,(i,((x.1,(x.2.1,(x.2.2.1,((x.2.2.2.1.1,(x.2.2.2.1.2.1,r1)),x.2.2.2.2)))),(s24,(s25,(s26,(s37,(3,()))))))))))):=by kernel_rfl
theorem q0f (n f:Nat) (s_:a0k) (s2:a0k) (out:(List b0i)) (i:Int) (x:b0i) (s24:(List Int)) (s25:Int) (s26:Int) (s37:(Int×(Int×Int))):b0p n (f+1) (s_,s2,out,i,x,s24,s25,s26,s37,3,()) =
 some (.inl (s_,(s2,(out,(i,(x,(s24,(s25,(s26,()))))))))):=by kernel_rfl
theorem j1x (n:Nat) (s:a0k) (l:(List (List UInt8×List UInt8))):z0s (n+1) s l =
 a0a (f0w n s) fun r0 =>
 tif ((!(decide (r0=0)))) (
 some r0) (
 a0a (e0h n l) fun r1 =>
 some r1):=by kernel_rfl
theorem b1w (n:Nat) (c:a0s) (last:Int) (now:Int):j0u (n+1) c last now =
 a0a (c0o n c) fun r0 =>
 tif ((decide (r0=0))) (
 a0a (y0r n last now c.2.1.1 c.2.2.1.1) fun r1 =>
 tif (r1) (
 a0a (y0r n last now c.2.1.2.1 c.2.2.1.2.1) fun r2 =>
 tif (r2) (
 a0a (y0r n last now c.2.1.2.2 c.2.2.1.2.2) fun r3 =>
 tif (r3) (
 some r3) (
 some r3)) (
 some r2)) (
 some r1)) (
 some (decide (r0=0))):=by kernel_rfl
theorem j1s (n:Nat) (r:(Int×(Int×(List a0h)))) (a:Int) (b:Int):z0q (n+1) r a b =
 tif ((decide (b≤a))) (
 some ([],1)) (
 tif ((decide ((0:Int)<r.1))) (
 tif ((decide (a≤r.2.1))) (
 some ([],11)) (
 a0a (f0i n r.2.2) fun r0 =>
 a0a (b0n n r0 (fun y1=>e0g n y1.1 a b)) fun r2 =>
 some (r2,0))) (
 a0a (f0i n r.2.2) fun r3 =>
 a0a (b0n n r3 (fun y4=>e0g n y4.1 a b)) fun r5 =>
 some (r5,0))):=by kernel_rfl
theorem m1q (n:Nat) (s:a0k):m0t (n+1) s =
 a0a (c0o n s.1) fun r0 =>
 tif ((!(decide (r0=0)))) (
 some (((0,((0,(0,0)),((0,(0,0)),(0,0)))),(0,(0,[]))),2)) (
 tif ((!(decide ((((List.length s.2.2.2):Nat):Int)=s.1.2.2.2.1)))) (
 some (((0,((0,(0,0)),((0,(0,0)),(0,0)))),(0,(0,[]))),2)) (
 some (s,0))):=by kernel_rfl
theorem u0u (n:Nat) (v:a0k) (is:((Int×Unit)→Option Bool)):c0y (n+1) v is =
 a0a (b0u n a0b (is,((((List.length v.2.2.2):Nat):Int),(0,())))) fun r0 =>
 c0i (fun y1 =>
 some ((-1):Int)) (fun z2 =>
 some z2) r0:=by kernel_rfl
theorem i0k (n f:Nat) (is:((Int×Unit)→Option Bool)) (s9:Int) (s10:Int):b0u n (f+1) (is,s9,s10,()) =
 tif ((decide (s10<s9))) (
 a0a (is (s10,())) fun r0 =>
 tif (r0) (
 some (.inr s10)) (
 b0u n f (is,(s9,((IntKind.wrap .i64 (s10+1)),()))))) (
 some (.inl ())):=by kernel_rfl
theorem e1z (n:Nat) (i:Int) (p1:a0k) (p2:(List (List UInt8×List UInt8))) (p3:a0k):e0o (n+1) i p1 p2 p3 =
 a0a (at? p1.2.2.2 i) fun r0 =>
 a0a (l0v n r0.1 p2) fun r1 =>
 tif (r1) (
 a0a (c0z n p3 i) fun r2 =>
 some r2) (
 some false):=by kernel_rfl
theorem t0u (n:Nat) (a:(List (List UInt8×List UInt8))) (b:(List (List UInt8×List UInt8))):l0v (n+1) a b =
 a0a (l0a n a b) fun r0 =>
 some r0:=by kernel_rfl
theorem u0v (n:Nat) (v:a0k) (i:Int):c0z (n+1) v i =
 a0a (at? v.2.2.2 i) fun r0 =>
 a0a (s0w n r0) fun r1 =>
 tif ((!r1)) (
 tif ((decide (v.2.2.1=((-1):Int)))) (
 some true) (
 a0a (j0u n v.1 r0.2.1 v.2.2.1) fun r2 =>
 some (!r2))) (
 some false):=by kernel_rfl
theorem v0d (n:Nat) (s:(List a0h)):f0i (n+1) s =
 tif ((decide ((List.length s)=0))) (
 both (
 some []) (
 tif ((decide (((0+(List.length s))*32)≤140737488355328))) (
 some ([]++s)) (
 none))) (
 tif ((decide (((0+(List.length s))*32)≤140737488355328))) (
 some ([]++s)) (
 none)):=by kernel_rfl
theorem c1f (n:Nat) (l:(List (List UInt8×List UInt8))):e0h (n+1) l =
 tif ((decide ((((List.length l):Nat):Int)=0))) (
 some (8:Int)) (
 tif ((decide ((16:Int)<(((List.length l):Nat):Int)))) (
 some (8:Int)) (
 a0a (d0w n a0b (l,(256,(l,((((List.length l):Nat):Int),(0,())))))) fun r0 =>
 c0i (fun y1 =>
 some (0:Int)) (fun z2 =>
 some z2) r0)):=by kernel_rfl
theorem l0w (n f:Nat) (l:(List (List UInt8×List UInt8))) (left:Int) (s14:(List (List UInt8×List UInt8))) (s15:Int) (s16:Int):d0w n (f+1) (l,left,s14,s15,s16,()) =
 tif ((decide (s16<s15))) (
 a0a (at? s14 s16) fun r0 =>
 a0a (v0q n r0.1) fun r1 =>
 tif ((!r1)) (
 some (.inr (8:Int))) (
 tif ((decide ((128:Int)<(((List.length r0.2):Nat):Int)))) (
 some (.inr (8:Int))) (
 tif ((decide ((IntKind.wrap .i64 (left-(IntKind.wrap .i64 ((((List.length r0.1):Nat):Int)+(((List.length r0.2):Nat):Int)))))<0))) (
 some (.inr (8:Int))) (
 tif ((decide ((0:Int)<s16))) (
 a0a (at? l (IntKind.wrap .i64 (s16-1))) fun r2 =>
 tif ((!(Go.Op.bytesLess r2.1 r0.1))) (
 some (.inr (8:Int))) (
 d0w n f (l,((IntKind.wrap .i64 (left-(IntKind.wrap .i64 ((((List.length r0.1):Nat):Int)+(((List.length r0.2):Nat):Int))))),(s14,(s15,((IntKind.wrap .i64 (s16+1)),()))))))) (
 d0w n f (l,((IntKind.wrap .i64 (left-(IntKind.wrap .i64 ((((List.length r0.1):Nat):Int)+(((List.length r0.2):Nat):Int))))),(s14,(s15,((IntKind.wrap .i64 (s16+1)),())))))))))) (
 some (.inl ())):=by kernel_rfl
theorem c1k (n:Nat) (e:a0h):c0r (n+1) e =
 tif ((decide (e.1<0))) (
 some (2:Int)) (
 tif ((decide ((35184372088832:Int)≤e.1))) (
 some (2:Int)) (
 tif ((decide (e.2.2.1<0))) (
 some (2:Int)) (
 tif ((decide (e.1<e.2.2.1))) (
 some (2:Int)) (
 tif (e.2.2.2) (
 tif ((!((decide (e.1=e.1))&&((decide (e.2.1=0))&&((decide (e.2.2.1=0))&&(e.2.2.2==true)))))) (
 some (2:Int)) (
 some (0:Int))) (
 some (0:Int)))))):=by kernel_rfl
theorem v0c (n:Nat) (s:(List (List UInt8×List UInt8))):f0h (n+1) s =
 tif ((decide ((List.length s)=0))) (
 both (
 some []) (
 tif ((decide (((0+(List.length s))*32)≤140737488355328))) (
 some ([]++s)) (
 none))) (
 tif ((decide (((0+(List.length s))*32)≤140737488355328))) (
 some ([]++s)) (
 none)):=by kernel_rfl
theorem a1r (n:Nat) (p:a0h) (c:a0h):f0s (n+1) p c =
 a0a (k0a n (p::(c::[]))) fun r0 =>
 tif (r0) (
 some (decide (p.1<c.1))) (
 some false):=by kernel_rfl
theorem o0a (n:Nat) (s:(List a0h)) (del:((a0h×Unit)→Option Bool)):b0n (n+1) s del =
 a0a (k0i n s del) fun r0 =>
 tif ((decide (r0=((-1):Int)))) (
 some s) (
 a0a (b0q n a0b (s,(del,(r0,((IntKind.wrap .i64 (r0+1)),()))))) fun r1 =>
 c0i (fun y2 =>
 tif ((decide ((0:Int)≤y2.2.1))) (
 tif ((decide ((Int.toNat y2.2.1)≤(List.length y2.1)))) (
 tif ((decide (((Int.toNat y2.2.1)+((List.length y2.1)-(Int.toNat y2.2.1)))≤(List.length y2.1)))) (
 tif (((decide ((0:Int)≤y2.2.1))&&(decide (y2.2.1≤(((List.length (Go.Flat.putRow y2.1 (Int.toNat y2.2.1) (List.replicate ((List.length y2.1)-(Int.toNat y2.2.1)) (0,(0,(0,false)))))):Nat):Int))))) (
 some (List.take ((Int.toNat y2.2.1)-0) (Go.Flat.putRow y2.1 (Int.toNat y2.2.1) (List.replicate ((List.length y2.1)-(Int.toNat y2.2.1)) (0,(0,(0,false))))))) (
 none)) (
 none)) (
 none)) (
 none)) (fun z3 =>
 some z3) r1):=by kernel_rfl
theorem f0g (n f:Nat) (s:(List a0h)) (del:((a0h×Unit)→Option Bool)) (i:Int) (j:Int):b0q n (f+1) (s,del,i,j,()) =
 tif ((decide (j<(((List.length s):Nat):Int)))) (
 a0a (at? s j) fun r0 =>
 a0a ((s)[(Int.toNat j)]?) fun r1 =>
 a0a (del (r1,())) fun r2 =>
 tif ((!r2)) (
 a0a (at? s i) fun r3 =>
 a0a ((s)[(Int.toNat i)]?) fun r4 =>
 b0q n f ((List.set s (Int.toNat i) r1),(del,((IntKind.wrap .i64 (i+1)),((IntKind.wrap .i64 (j+1)),()))))) (
 b0q n f (s,(del,(i,((IntKind.wrap .i64 (j+1)),())))))) (
 some (.inl (s,(i,())))):=by kernel_rfl
theorem u0g (n:Nat) (c:a0s):c0o (n+1) c =
 a0a (e0k n c.1 (1:Int) (4096:Int)) fun r0 =>
 tif (r0) (
 a0a (e0k n c.2.2.2.1 (1:Int) (65536:Int)) fun r1 =>
 tif (r1) (
 a0a (e0k n c.2.2.2.2 (1:Int) (8192:Int)) fun r2 =>
 tif (r2) (
 a0a (g0k n c.2.1.1 (1:Int) (1099511627776:Int)) fun r3 =>
 tif (r3) (
 a0a (e0k n c.2.2.1.1 (1:Int) (4096:Int)) fun r4 =>
 tif (r4) (
 a0a (g0k n c.2.1.2.1 (1:Int) (1099511627776:Int)) fun r5 =>
 tif (r5) (
 a0a (e0k n c.2.2.1.2.1 (1:Int) (4096:Int)) fun r6 =>
 tif (r6) (
 a0a (g0k n c.2.1.2.2 (1:Int) (1099511627776:Int)) fun r7 =>
 tif (r7) (
 a0a (e0k n c.2.2.1.2.2 (1:Int) (4096:Int)) fun r8 =>
 tif (r8) (
 tif ((decide (c.2.1.1=0))) (
 none) (
 tif ((decide ((Int.tmod c.2.1.2.1 c.2.1.1)=0))) (
 tif ((decide (c.2.1.1=0))) (
 none) (
 tif ((decide ((IntKind.wrap .i64 (Int.tdiv c.2.1.2.1 c.2.1.1))≤c.2.2.1.1))) (
 tif ((decide (c.2.1.2.1=0))) (
 none) (
 tif ((decide ((Int.tmod c.2.1.2.2 c.2.1.2.1)=0))) (
 tif ((decide (c.2.1.2.1=0))) (
 none) (
 tif ((decide ((IntKind.wrap .i64 (Int.tdiv c.2.1.2.2 c.2.1.2.1))≤c.2.2.1.2.1))) (
 tif ((!(decide ((IntKind.wrap .i64 (Int.tdiv c.2.1.2.2 c.2.1.2.1))≤c.2.2.1.2.1)))) (
 some (2:Int)) (
 a0a (h0a n c) fun r9 =>
 tif ((decide (c.2.2.2.2≤r9))) (
 some (2:Int)) (
 some (0:Int)))) (
 tif ((!(decide ((IntKind.wrap .i64 (Int.tdiv c.2.1.2.2 c.2.1.2.1))≤c.2.2.1.2.1)))) (
 some (2:Int)) (
 a0a (h0a n c) fun r10 =>
 tif ((decide (c.2.2.2.2≤r10))) (
 some (2:Int)) (
 some (0:Int)))))) (
 some (2:Int)))) (
 tif ((!(decide ((IntKind.wrap .i64 (Int.tdiv c.2.1.2.1 c.2.1.1))≤c.2.2.1.1)))) (
 some (2:Int)) (
 a0a (h0a n c) fun r11 =>
 tif ((decide (c.2.2.2.2≤r11))) (
 some (2:Int)) (
 some (0:Int)))))) (
 some (2:Int)))) (
 tif ((!r8)) (
 some (2:Int)) (
 a0a (h0a n c) fun r12 =>
 tif ((decide (c.2.2.2.2≤r12))) (
 some (2:Int)) (
 some (0:Int))))) (
 some (2:Int))) (
 some (2:Int))) (
 some (2:Int))) (
 some (2:Int))) (
 some (2:Int))) (
 some (2:Int))) (
 some (2:Int))) (
 some (2:Int)):=by kernel_rfl
theorem l1k (n:Nat) (c:a0s):a1w (n+1) c =
 a0a (c0o n c) fun r0 =>
 tif ((!(decide (r0=0)))) (
 some (0:Int)) (
 a0a (v0z n c) fun r1 =>
 some (IntKind.wrap .i64 ((IntKind.wrap .i64 ((1:Int)+r1))+c.2.2.2.2))):=by kernel_rfl
theorem h1o (n:Nat) (c:a0s):v0y (n+1) c =
 a0a (c0o n c) fun r0 =>
 tif ((!(decide (r0=0)))) (
 some (0:Int)) (
 a0a (h0a n c) fun r1 =>
 some r1):=by kernel_rfl
theorem b1x (n:Nat) (s:a0k) (l:(List (List UInt8×List UInt8))) (e:a0h):r0o (n+1) s l e =
 a0a (f0w n s) fun r0 =>
 tif ((!(decide (r0=0)))) (
 some (0,(false,r0))) (
 a0a (e0h n l) fun r1 =>
 tif ((!(decide (r1=0)))) (
 some (0,(false,r1))) (
 a0a (c0r n e) fun r2 =>
 tif ((!(decide (r2=0)))) (
 some (0,(false,r2))) (
 a0a (v0g n s) fun r3 =>
 a0a (s0x n s l) fun r4 =>
 tif ((decide (e.1<r3.1))) (
 some (0,(false,9))) (
 tif ((decide (r3.2≤e.1))) (
 some (0,(false,9))) (
 tif ((decide (r4.2=0))) (
 a0a (at? s.2.2.2 r4.1) fun r5 =>
 tif ((decide (e.1≤r5.2.1))) (
 some (0,(false,9))) (
 tif ((decide (r4.2=0))) (
 some (r4.1,(false,0))) (
 tif (e.2.2.2) (
 some (0,(false,3))) (
 a0a (x0v n s) fun r6 =>
 some (r6.1,((decide (r6.2=0)),r6.2)))))) (
 tif ((decide (r4.2=0))) (
 some (r4.1,(false,0))) (
 tif (e.2.2.2) (
 some (0,(false,3))) (
 a0a (x0v n s) fun r7 =>
 some (r7.1,((decide (r7.2=0)),r7.2)))))))))):=by kernel_rfl
theorem b1n (n:Nat) (s:a0k) (i:Int) (fresh:Bool) (l:(List (List UInt8×List UInt8))):y0m (n+1) s i fresh l =
 tif (fresh) (
 a0a (p0r n s.1 l) fun r0 =>
 some r0) (
 a0a (at? s.2.2.2 i) fun r1 =>
 some (r1,0)):=by kernel_rfl
theorem f1g (n:Nat) (c:a0s) (s:b0i) (e:a0h):v0f (n+1) c s e =
 a0a (m0x n c s) fun r0 =>
 r0r (r0.1) (
 tif ((!(decide (r0.2=0)))) (
 some (([],(0,((0,(0,[])),(([],([],[])),(0,(0,((0,(0,(0,false))),((0,(0,(0,false))),((0,0),(0,(0,0))))))))))),2)) (
 a0a (c0r n e) fun r1 =>
 tif ((!(decide (r1=0)))) (
 some (([],(0,((0,(0,[])),(([],([],[])),(0,(0,((0,(0,(0,false))),((0,(0,(0,false))),((0,0),(0,(0,0))))))))))),2)) (
 tif ((decide (e.1≤s.2.1))) (
 some (([],(0,((0,(0,[])),(([],([],[])),(0,(0,((0,(0,(0,false))),((0,(0,(0,false))),((0,0),(0,(0,0))))))))))),9)) (
 tif ((decide (c.2.1.1=0))) (
 none) (
 none))))) fun r2 =>
 tif ((!(decide (r0.2=0)))) (
 some (([],(0,((0,(0,[])),(([],([],[])),(0,(0,((0,(0,(0,false))),((0,(0,(0,false))),((0,0),(0,(0,0))))))))))),2)) (
 a0a (c0r n e) fun r3 =>
 tif ((!(decide (r3=0)))) (
 some (([],(0,((0,(0,[])),(([],([],[])),(0,(0,((0,(0,(0,false))),((0,(0,(0,false))),((0,0),(0,(0,0))))))))))),2)) (
 tif ((decide (e.1≤s.2.1))) (
 some (([],(0,((0,(0,[])),(([],([],[])),(0,(0,((0,(0,(0,false))),((0,(0,(0,false))),((0,0),(0,(0,0))))))))))),9)) (
 tif ((decide (c.2.1.1=0))) (
 none) (
 a0a (f1b n r2 (IntKind.wrap .i64 (Int.tdiv e.1 c.2.1.1))) fun r4 =>
 tif ((!(decide (r4.1=0)))) (
 some (([],(0,((0,(0,[])),(([],([],[])),(0,(0,((0,(0,(0,false))),((0,(0,(0,false))),((0,0),(0,(0,0))))))))))),r4.1)) (
 a0a (w1z n r4.2 (IntKind.wrap .i64 (Int.tdiv e.1 c.2.1.1)) e) fun r5 =>
 tif ((!(decide (r5.1=0)))) (
 some (([],(0,((0,(0,[])),(([],([],[])),(0,(0,((0,(0,(0,false))),((0,(0,(0,false))),((0,0),(0,(0,0))))))))))),r5.1)) (
 some (r5.2.2,0))))))):=by kernel_rfl
theorem t0h (n:Nat) (s:(List b0i)):j0r (n+1) s =
 tif ((decide ((List.length s)=0))) (
 both (
 some []) (
 tif ((decide (((0+(List.length s))*264)≤140737488355328))) (
 some ([]++s)) (
 none))) (
 tif ((decide (((0+(List.length s))*264)≤140737488355328))) (
 some ([]++s)) (
 none)):=by kernel_rfl
theorem j1f (n:Nat) (s:a0k):f0w (n+1) s =
 a0a (m0t n s) fun r0 =>
 tif ((!(decide (r0.2=0)))) (
 some (2:Int)) (
 a0a (k0y n r0.1) fun r1 =>
 tif ((!r1)) (
 some (2:Int)) (
 a0a (c0y n r0.1 (fun y2=>d0o n y2.1 r0.1)) fun r3 =>
 tif ((decide ((0:Int)≤r3))) (
 some (2:Int)) (
 some (0:Int)))):=by kernel_rfl
theorem j1b (n:Nat) (s:a0k):z0c (n+1) s =
 a0a (f0w n s) fun r0 =>
 tif ((!(decide (r0=0)))) (
 some []) (
 a0a (x0w n s) fun r1 =>
 a0a (g0u n r1 (fun y2=>j0n n y2.1 s)) fun r3 =>
 some r3):=by kernel_rfl
theorem m1t (n:Nat) (s:a0k):x0w (n+1) s =
 a0a (m0t n s) fun r0 =>
 tif ((!(decide (r0.2=0)))) (
 some []) (
 a0a (g0r n a0b (r0.1,([],((((List.length r0.1.2.2.2):Nat):Int),(0,()))))) fun r1 =>
 c0i (fun y2 =>
 some y2.1) (fun z3 =>
 some z3) r1):=by kernel_rfl
theorem q0s (n f:Nat) (v:a0k) (out:(List Int)) (s17:Int) (s18:Int):g0r n (f+1) (v,out,s17,s18,()) =
 tif ((decide (s18<s17))) (
 a0a (c0z n v s18) fun r0 =>
 tif (r0) (
 tif ((decide ((((List.length out)+1)*8)≤140737488355328))) (
 g0r n f (v,((out++(s18::[])),(s17,((IntKind.wrap .i64 (s18+1)),()))))) (
 none)) (
 g0r n f (v,(out,(s17,((IntKind.wrap .i64 (s18+1)),())))))) (
 some (.inl (out,()))):=by kernel_rfl
theorem i1q (n:Nat) (now:Int) (w:Int) (n_:Int):l0g (n+1) now w n_ =
 a0a (s1i n now w) fun r0 =>
 tif ((!(decide (r0.2=0)))) (
 some (0,1)) (
 a0a (i1p n n_ (1:Int) (4096:Int)) fun r1 =>
 tif ((!r1)) (
 some (0,1)) (
 some ((if (0:Int)<(IntKind.wrap .i64 ((IntKind.wrap .i64 (r0.1+1))-n_)) then (IntKind.wrap .i64 ((IntKind.wrap .i64 (r0.1+1))-n_)) else (0:Int)),0))):=by kernel_rfl
theorem z0a (n:Nat) (c:a0s) (x:b0i) (oldest:Int):e0m (n+1) c x (0:Int) oldest =
 a0a (d0m n c x.2.1 (0:Int)) fun r0 =>
 a0a (d0p n x.2.2.2.1.1) fun r1 =>
 a0a (b0x n a0b (oldest,(r0.1,(r0.2,(r1,((((List.length r1):Nat):Int),(0,()))))))) fun r2 =>
 c0i (fun y3 =>
 some y3.1) (fun z4 =>
 some z4) r2:=by kernel_rfl
theorem y0z (n:Nat) (c:a0s) (x:b0i) (oldest:Int):e0m (n+1) c x (1:Int) oldest =
 a0a (d0m n c x.2.1 (1:Int)) fun r0 =>
 a0a (d0p n x.2.2.2.1.2.1) fun r1 =>
 a0a (b0x n a0b (oldest,(r0.1,(r0.2,(r1,((((List.length r1):Nat):Int),(0,()))))))) fun r2 =>
 c0i (fun y3 =>
 some y3.1) (fun z4 =>
 some z4) r2:=by kernel_rfl
theorem y0y (n:Nat) (c:a0s) (x:b0i) (oldest:Int):e0m (n+1) c x (2:Int) oldest =
 a0a (d0m n c x.2.1 (2:Int)) fun r0 =>
 a0a (d0p n x.2.2.2.1.2.2) fun r1 =>
 a0a (b0x n a0b (oldest,(r0.1,(r0.2,(r1,((((List.length r1):Nat):Int),(0,()))))))) fun r2 =>
 c0i (fun y3 =>
 some y3.1) (fun z4 =>
 some z4) r2:=by kernel_rfl
theorem n0w (n f:Nat) (oldest:Int) (from_:Int) (to:Int) (out:(List a0c)) (s28:Int) (s29:Int):b0x n (f+1) (oldest,from_,to,out,s28,s29,()) =
 tif ((decide (s29<s28))) (
 a0a (at? out s29) fun r0 =>
 a0a ((out)[(Int.toNat s29)]?) fun r1 =>
 tif ((decide (r1.1<oldest))) (
 tif ((decide (r1.1<from_))) (
 a0a (at? out s29) fun r2 =>
 a0a ((out)[(Int.toNat s29)]?) fun r3 =>
 b0x n f (oldest,(from_,(to,((List.set out (Int.toNat s29) (0,(0,((0,(0,(0,false))),((0,(0,(0,false))),((0,0),(0,(0,0)))))))),(s28,((IntKind.wrap .i64 (s29+1)),()))))))) (
 tif ((decide (to≤r1.1))) (
 a0a (at? out s29) fun r4 =>
 a0a ((out)[(Int.toNat s29)]?) fun r5 =>
 b0x n f (oldest,(from_,(to,((List.set out (Int.toNat s29) (0,(0,((0,(0,(0,false))),((0,(0,(0,false))),((0,0),(0,(0,0)))))))),(s28,((IntKind.wrap .i64 (s29+1)),()))))))) (
 b0x n f (oldest,(from_,(to,(out,(s28,((IntKind.wrap .i64 (s29+1)),()))))))))) (
 b0x n f (oldest,(from_,(to,(out,(s28,((IntKind.wrap .i64 (s29+1)),())))))))) (
 some (.inl (out,()))):=by kernel_rfl
theorem s1j (n:Nat) (t:Int) (now:Int) (w:Int) (n_:Int):y0r (n+1) t now w n_ =
 a0a (s1i n t w) fun r0 =>
 a0a (l0g n now w n_) fun r1 =>
 tif ((decide (r0.2=0))) (
 tif ((decide (r1.2=0))) (
 some (decide (r0.1<r1.1))) (
 some false)) (
 some false):=by kernel_rfl
theorem b1z (n:Nat) (e:a0h) (p1:Int) (p2:Int):e0g (n+1) e p1 p2 =
 tif ((decide (e.1<p1))) (
 some true) (
 some (decide (p2≤e.1))):=by kernel_rfl
theorem v0a (n:Nat) (s1:(List (List UInt8×List UInt8))) (s2:(List (List UInt8×List UInt8))):l0a (n+1) s1 s2 =
 tif ((!(decide ((((List.length s1):Nat):Int)=(((List.length s2):Nat):Int))))) (
 some false) (
 a0a (e0p n a0b (s1,(s2,((((List.length s1):Nat):Int),(0,()))))) fun r0 =>
 c0i (fun y1 =>
 some true) (fun z2 =>
 some z2) r0):=by kernel_rfl
theorem i0m (n f:Nat) (s1:(List (List UInt8×List UInt8))) (s2:(List (List UInt8×List UInt8))) (s12:Int) (s13:Int):e0p n (f+1) (s1,s2,s12,s13,()) =
 tif ((decide (s13<s12))) (
 a0a (at? s1 s13) fun r0 =>
 a0a (at? s2 s13) fun r1 =>
 tif ((!((r0.1==r1.1)&&(r0.2==r1.2)))) (
 some (.inr false)) (
 e0p n f (s1,(s2,(s12,((IntKind.wrap .i64 (s13+1)),())))))) (
 some (.inl ())):=by kernel_rfl
theorem j1e (n:Nat) (s:b0i):s0w (n+1) s =
 a0a (j0t n s ([],(0,((0,(0,[])),(([],([],[])),(0,(0,((0,(0,(0,false))),((0,(0,(0,false))),((0,0),(0,(0,0)))))))))))) fun r0 =>
 some r0:=by kernel_rfl
theorem c1g (n:Nat) (l:(List (List UInt8×List UInt8))):n0m (n+1) l =
 a0a (e0h n l) fun r0 =>
 tif ((!(decide (r0=0)))) (
 some ([],r0)) (
 a0a (e0t n [] (IntKind.wrap .u64 (((List.length l):Nat):Int))) fun r1 =>
 a0a (h0g n a0b (r1,(l,((((List.length l):Nat):Int),(0,()))))) fun r2 =>
 c0i (fun y3 =>
 a0a (i0f n y3.1) fun r4 =>
 some (r4.1,0)) (fun z5 =>
 some z5) r2):=by kernel_rfl
theorem l0x (n f:Nat) (w:(List Int)) (s17:(List (List UInt8×List UInt8))) (s18:Int) (s19:Int):h0g n (f+1) (w,s17,s18,s19,()) =
 tif ((decide (s19<s18))) (
 a0a (at? s17 s19) fun r0 =>
 a0a (e0u n w r0.1) fun r1 =>
 a0a (e0u n r1 r0.2) fun r2 =>
 h0g n f (r2,(s17,(s18,((IntKind.wrap .i64 (s19+1)),()))))) (
 some (.inl (w,()))):=by kernel_rfl
theorem g1d (n:Nat) (s:List UInt8):v0q (n+1) s =
 tif ((s==[])) (
 some false) (
 tif ((decide ((64:Int)<(((List.length s):Nat):Int)))) (
 some false) (
 a0a (at? s (0:Int)) fun r0 =>
 a0a (n0l n (((UInt8.toNat r0):Nat):Int)) fun r1 =>
 tif (r1) (
 some false) (
 a0a (e0z n (List.map (fun y2=>(((UInt8.toNat y2):Nat):Int)) s) (fun y3=>o0u n y3.1)) fun r4 =>
 some (!r4)))):=by kernel_rfl
theorem c1j (n:Nat) (l:(List a0h)):k0a (n+1) l =
 a0a (h0h n a0b (l,((((List.length l):Nat):Int),(0,())))) fun r0 =>
 c0i (fun y1 =>
 some true) (fun z2 =>
 some z2) r0:=by kernel_rfl
theorem m0a (n f:Nat) (s5:(List a0h)) (s6:Int) (s7:Int):h0h n (f+1) (s5,s6,s7,()) =
 tif ((decide (s7<s6))) (
 a0a (at? s5 s7) fun r0 =>
 a0a (c0r n r0) fun r1 =>
 tif ((!(decide (r1=0)))) (
 some (.inr false)) (
 h0h n f (s5,(s6,((IntKind.wrap .i64 (s7+1)),()))))) (
 some (.inl ())):=by kernel_rfl
theorem h1w (n:Nat) (a:c0d) (b:c0d):p0z (n+1) a b =
 a0a (m0f n a) fun r0 =>
 tif ((!(decide (r0=0)))) (
 some ((0,((0,(0,(0,false))),((0,(0,(0,false))),((0,0),(0,(0,0)))))),2)) (
 a0a (m0f n b) fun r1 =>
 tif ((!(decide (r1=0)))) (
 some ((0,((0,(0,(0,false))),((0,(0,(0,false))),((0,0),(0,(0,0)))))),2)) (
 a0a (o0z n a) fun r2 =>
 tif (r2) (
 some (b,0)) (
 a0a (o0z n b) fun r3 =>
 tif (r3) (
 some (a,0)) (
 a0a (l1s n a b) fun r4 =>
 some r4)))):=by kernel_rfl
theorem p1b (n:Nat) (e:a0h):h1u (n+1) e =
 some (1,(e,(e,((0,0),(0,(0,0)))))):=by kernel_rfl
theorem o0h (n:Nat) (s:(List a0h)) (f_:((a0h×Unit)→Option Bool)):k0i (n+1) s f_ =
 a0a (b0y n a0b (s,(f_,((((List.length s):Nat):Int),(0,()))))) fun r0 =>
 c0i (fun y1 =>
 some ((-1):Int)) (fun z2 =>
 some z2) r0:=by kernel_rfl
theorem f0p (n f:Nat) (s:(List a0h)) (f_:((a0h×Unit)→Option Bool)) (s7:Int) (s8:Int):b0y n (f+1) (s,f_,s7,s8,()) =
 tif ((decide (s8<s7))) (
 a0a (at? s s8) fun r0 =>
 a0a (f_ (r0,())) fun r1 =>
 tif (r1) (
 some (.inr s8)) (
 b0y n f (s,(f_,(s7,((IntKind.wrap .i64 (s8+1)),())))))) (
 some (.inl ())):=by kernel_rfl
theorem c1n (n:Nat) (n_:Int) (low:Int) (high:Int):e0k (n+1) n_ low high =
 tif ((decide (low≤n_))) (
 some (decide (n_≤high))) (
 some false):=by kernel_rfl
theorem x0r (n:Nat) (n_:Int) (low:Int) (high:Int):g0k (n+1) n_ low high =
 tif ((decide (low≤n_))) (
 some (decide (n_≤high))) (
 some false):=by kernel_rfl
theorem h1l (n:Nat) (c:a0s):h0a (n+1) c =
 a0a (h0b n c.1 (16:Int)) fun r0 =>
 a0a (h0b n c.2.2.1.1 (4:Int)) fun r1 =>
 a0a (h0b n c.2.2.1.2.1 (4:Int)) fun r2 =>
 a0a (h0b n c.2.2.1.2.2 (4:Int)) fun r3 =>
 some (IntKind.wrap .i64 ((IntKind.wrap .i64 ((IntKind.wrap .i64 ((IntKind.wrap .i64 ((1:Int)+r0))+r1))+r2))+r3)):=by kernel_rfl
theorem h1p (n:Nat) (c:a0s):v0z (n+1) c =
 a0a (c0o n c) fun r0 =>
 tif ((!(decide (r0=0)))) (
 some (0:Int)) (
 a0a (h0b n c.2.2.2.2 (120:Int)) fun r1 =>
 some r1):=by kernel_rfl
theorem f1j (n:Nat) (s:a0k):v0g (n+1) s =
 a0a (f0w n s) fun r0 =>
 tif ((!(decide (r0=0)))) (
 some (0,0)) (
 a0a (e1y n s) fun r1 =>
 some (r1,(if (35184372088832:Int)<(IntKind.wrap .i64 (r1+s.1.2.1.1)) then (35184372088832:Int) else (IntKind.wrap .i64 (r1+s.1.2.1.1))))):=by kernel_rfl
theorem m1r (n:Nat) (s:a0k):x0v (n+1) s =
 a0a (m0t n s) fun r0 =>
 tif ((!(decide (r0.2=0)))) (
 some (0,r0.2)) (
 a0a (c0y n r0.1 (fun y1=>e0n n y1.1 r0.1)) fun r2 =>
 tif ((decide (r2<0))) (
 some (0,7)) (
 some (r2,0))):=by kernel_rfl
theorem f1h (n:Nat) (c:a0s) (l:(List (List UInt8×List UInt8))):p0r (n+1) c l =
 a0a (c0o n c) fun r0 =>
 tif ((!(decide (r0=0)))) (
 some (([],(0,((0,(0,[])),(([],([],[])),(0,(0,((0,(0,(0,false))),((0,(0,(0,false))),((0,0),(0,(0,0))))))))))),r0)) (
 a0a (e0h n l) fun r1 =>
 tif ((!(decide (r1=0)))) (
 some (([],(0,((0,(0,[])),(([],([],[])),(0,(0,((0,(0,(0,false))),((0,(0,(0,false))),((0,0),(0,(0,0))))))))))),r1)) (
 a0a (f0h n l) fun r2 =>
 a0a (v0r n c) fun r3 =>
 some ((r2,(((-1):Int),((0,(0,[])),(r3,(0,(0,((0,(0,(0,false))),((0,(0,(0,false))),((0,0),(0,(0,0))))))))))),0))):=by kernel_rfl
theorem b1u (n:Nat) (c:a0s) (s:b0i):m0x (n+1) c s =
 a0a (v0t n c s.2.2.2.1) fun r0 =>
 tif ((!(decide (r0=0)))) (
 some (none,2)) (
 a0a (e0h n s.1) fun r1 =>
 tif ((!(decide (r1=0)))) (
 some (none,2)) (
 a0a (t0m n s.2.2.1 c.1) fun r2 =>
 tif ((!(decide (r2=0)))) (
 some (none,2)) (
 tif ((decide (s.2.1=((-1):Int)))) (
 a0a (z0g n (c,s)) fun r3 =>
 tif (r3) (
 some ((some (c,s)),0)) (
 tif ((!(decide (s.2.1=((-1):Int))))) (
 a0a (x0x n (c,s)) fun r4 =>
 tif (r4) (
 some ((some (c,s)),0)) (
 some (none,2))) (
 some (none,2)))) (
 tif ((!(decide (s.2.1=((-1):Int))))) (
 a0a (x0x n (c,s)) fun r5 =>
 tif (r5) (
 some ((some (c,s)),0)) (
 some (none,2))) (
 some (none,2)))))):=by kernel_rfl
theorem m1w (n:Nat) (s:c0c) (i:Int):f1b (n+1) s i =
 tif ((decide (s.2.2.2.2.2.1=i))) (
 some (0,s)) (
 tif ((decide (s.2.2.2.2.2.2.1=0))) (
 some (0,s)) (
 a0a (v0s n s.1 s.2.2.2.2.1 s.2.2.2.2.2 i) fun r0 =>
 tif ((decide (r0.2=0))) (
 some (r0.2,(s.1,(s.2.1,(s.2.2.1,(s.2.2.2.1,(r0.1,(0,(0,((0,(0,(0,false))),((0,(0,(0,false))),((0,0),(0,(0,0)))))))))))))) (
 some (r0.2,s)))):=by kernel_rfl
theorem s1u (n:Nat) (s:c0c) (i:Int) (e:a0h):w1z (n+1) s i e =
 a0a (n1s n s.2.2.2.1 s.1.1 e) fun r0 =>
 a0a (i1b n s.2.2.2.2.2.2 e) fun r1 =>
 tif ((!(decide (r0.2=0)))) (
 some (r0.2,s)) (
 some (r1.2,(s.1,(s.2.1,(e.1,(r0.1,(s.2.2.2.2.1,(i,r1.1)))))))):=by kernel_rfl
theorem u0w (n:Nat) (v:a0k):k0y (n+1) v =
 a0a (s0v n v.2.1) fun r0 =>
 tif (r0) (
 tif ((decide (v.2.2.1=((-1):Int)))) (
 some (decide (v.2.2.1≤v.2.1))) (
 a0a (s0v n v.2.2.1) fun r1 =>
 tif (r1) (
 some (decide (v.2.2.1≤v.2.1))) (
 some false))) (
 some false):=by kernel_rfl
theorem b1t (n:Nat) (i:Int) (p1:a0k):d0o (n+1) i p1 =
 a0a (k0x n p1 i) fun r0 =>
 some (!r0):=by kernel_rfl
theorem u0t (n:Nat) (v:a0k) (i:Int):k0x (n+1) v i =
 a0a (at? v.2.2.2 i) fun r0 =>
 a0a (s0w n r0) fun r1 =>
 tif (r1) (
 some true) (
 a0a (o0l n v.1 r0) fun r2 =>
 tif ((decide (r2=0))) (
 tif ((decide ((0:Int)≤r0.2.1))) (
 a0a (i0s n v) fun r3 =>
 tif ((decide (r0.2.1<(IntKind.wrap .i64 (r3+v.1.2.1.1))))) (
 a0a (m0s n v i) fun r4 =>
 some (!r4)) (
 some false)) (
 some false)) (
 some false)):=by kernel_rfl
theorem q0k (n:Nat) (s:(List Int)) (del:((Int×Unit)→Option Bool)):g0u (n+1) s del =
 a0a (n0y n s del) fun r0 =>
 tif ((decide (r0=((-1):Int)))) (
 some s) (
 a0a (c0h n a0b (s,(del,(r0,((IntKind.wrap .i64 (r0+1)),()))))) fun r1 =>
 c0i (fun y2 =>
 tif ((decide ((0:Int)≤y2.2.1))) (
 tif ((decide ((Int.toNat y2.2.1)≤(List.length y2.1)))) (
 tif ((decide (((Int.toNat y2.2.1)+((List.length y2.1)-(Int.toNat y2.2.1)))≤(List.length y2.1)))) (
 tif (((decide ((0:Int)≤y2.2.1))&&(decide (y2.2.1≤(((List.length (Go.Flat.putRow y2.1 (Int.toNat y2.2.1) (List.replicate ((List.length y2.1)-(Int.toNat y2.2.1)) (0:Int)))):Nat):Int))))) (
 some (List.take ((Int.toNat y2.2.1)-0) (Go.Flat.putRow y2.1 (Int.toNat y2.2.1) (List.replicate ((List.length y2.1)-(Int.toNat y2.2.1)) (0:Int))))) (
 none)) (
 none)) (
 none)) (
 none)) (fun z3 =>
 some z3) r1):=by kernel_rfl
theorem g0a (n f:Nat) (s:(List Int)) (del:((Int×Unit)→Option Bool)) (i:Int) (j:Int):c0h n (f+1) (s,del,i,j,()) =
 tif ((decide (j<(((List.length s):Nat):Int)))) (
 a0a (at? s j) fun r0 =>
 a0a ((s)[(Int.toNat j)]?) fun r1 =>
 a0a (del (r1,())) fun r2 =>
 tif ((!r2)) (
 a0a (at? s i) fun r3 =>
 a0a ((s)[(Int.toNat i)]?) fun r4 =>
 c0h n f ((List.set s (Int.toNat i) r1),(del,((IntKind.wrap .i64 (i+1)),((IntKind.wrap .i64 (j+1)),()))))) (
 c0h n f (s,(del,(i,((IntKind.wrap .i64 (j+1)),())))))) (
 some (.inl (s,(i,())))):=by kernel_rfl
theorem b1r (n:Nat) (i:Int) (p1:a0k):j0n (n+1) i p1 =
 a0a (at? p1.2.2.2 i) fun r0 =>
 a0a (j0u n p1.1 r0.2.1 p1.2.1) fun r1 =>
 some (!r1):=by kernel_rfl
theorem wi_Of_eq (n:Nat) (t:Int) (w:Int):s1i (n+1) t w =
 a0a (m0m n t (0:Int) (35184372088831:Int)) fun r0 =>
 tif ((!r0)) (
 some (0,1)) (
 a0a (p1n n w) fun r1 =>
 tif ((!r1)) (
 some (0,1)) (
 tif ((decide (w=0))) (
 none) (
 some ((IntKind.wrap .i64 (Int.tdiv t w)),0)))):=by kernel_rfl
theorem i1o (n:Nat) (n_:Int) (low:Int) (high:Int):i1p (n+1) n_ low high =
 tif ((decide (low≤n_))) (
 some (decide (n_≤high))) (
 some false):=by kernel_rfl
theorem u0s (n:Nat) (c:a0s) (last:Int):d0m (n+1) c last (0:Int) =
 tif ((decide (c.2.1.1=0))) (
 none) (
 tif ((decide (c.2.1.2.1=0))) (
 none) (
 some ((IntKind.wrap .i64 ((IntKind.wrap .i64 (Int.tdiv last c.2.1.2.1))*(IntKind.wrap .i64 (Int.tdiv c.2.1.2.1 c.2.1.1)))),(IntKind.wrap .i64 ((IntKind.wrap .i64 ((IntKind.wrap .i64 (Int.tdiv last c.2.1.2.1))*(IntKind.wrap .i64 (Int.tdiv c.2.1.2.1 c.2.1.1))))+(IntKind.wrap .i64 (Int.tdiv c.2.1.2.1 c.2.1.1))))))):=by kernel_rfl
theorem u0r (n:Nat) (c:a0s) (last:Int):d0m (n+1) c last (1:Int) =
 tif ((decide (c.2.1.2.1=0))) (
 none) (
 tif ((decide (c.2.1.2.2=0))) (
 none) (
 some ((IntKind.wrap .i64 ((IntKind.wrap .i64 (Int.tdiv last c.2.1.2.2))*(IntKind.wrap .i64 (Int.tdiv c.2.1.2.2 c.2.1.2.1)))),(IntKind.wrap .i64 ((IntKind.wrap .i64 ((IntKind.wrap .i64 (Int.tdiv last c.2.1.2.2))*(IntKind.wrap .i64 (Int.tdiv c.2.1.2.2 c.2.1.2.1))))+(IntKind.wrap .i64 (Int.tdiv c.2.1.2.2 c.2.1.2.1))))))):=by kernel_rfl
theorem u0q (n:Nat) (c:a0s) (last:Int):d0m (n+1) c last (2:Int) =
 some (0,0):=by kernel_rfl
theorem x0e (n:Nat) (s:(List a0c)):d0p (n+1) s =
 tif ((decide ((List.length s)=0))) (
 both (
 some []) (
 tif ((decide (((0+(List.length s))*120)≤140737488355328))) (
 some ([]++s)) (
 none))) (
 tif ((decide (((0+(List.length s))*120)≤140737488355328))) (
 some ([]++s)) (
 none)):=by kernel_rfl
theorem b1v (n:Nat) (a:b0i) (b:b0i):j0t (n+1) a b =
 a0a (l0v n a.1 b.1) fun r0 =>
 tif (r0) (
 tif ((decide (a.2.1=b.2.1))) (
 a0a (q1e n a.2.2.1 b.2.2.1) fun r1 =>
 tif (r1) (
 tif (((decide (a.2.2.2.2.1=b.2.2.2.2.1))&&((decide (a.2.2.2.2.2.1=b.2.2.2.2.2.1))&&((decide (a.2.2.2.2.2.2.1.1=b.2.2.2.2.2.2.1.1))&&((decide (a.2.2.2.2.2.2.1.2.1=b.2.2.2.2.2.2.1.2.1))&&((decide (a.2.2.2.2.2.2.1.2.2.1=b.2.2.2.2.2.2.1.2.2.1))&&((a.2.2.2.2.2.2.1.2.2.2==b.2.2.2.2.2.2.1.2.2.2)&&((decide (a.2.2.2.2.2.2.2.1.1=b.2.2.2.2.2.2.2.1.1))&&((decide (a.2.2.2.2.2.2.2.1.2.1=b.2.2.2.2.2.2.2.1.2.1))&&((decide (a.2.2.2.2.2.2.2.1.2.2.1=b.2.2.2.2.2.2.2.1.2.2.1))&&((a.2.2.2.2.2.2.2.1.2.2.2==b.2.2.2.2.2.2.2.1.2.2.2)&&((decide (a.2.2.2.2.2.2.2.2.1.1=b.2.2.2.2.2.2.2.2.1.1))&&((decide (a.2.2.2.2.2.2.2.2.1.2=b.2.2.2.2.2.2.2.2.1.2))&&((decide (a.2.2.2.2.2.2.2.2.2.1=b.2.2.2.2.2.2.2.2.2.1))&&((decide (a.2.2.2.2.2.2.2.2.2.2.1=b.2.2.2.2.2.2.2.2.2.2.1))&&(decide (a.2.2.2.2.2.2.2.2.2.2.2=b.2.2.2.2.2.2.2.2.2.2.2))))))))))))))))) (
 a0a (f0z n a.2.2.2.1.1 b.2.2.2.1.1) fun r2 =>
 tif (r2) (
 a0a (f0z n a.2.2.2.1.2.1 b.2.2.2.1.2.1) fun r3 =>
 tif (r3) (
 a0a (f0z n a.2.2.2.1.2.2 b.2.2.2.1.2.2) fun r4 =>
 some r4) (
 some false)) (
 some false)) (
 some false)) (
 some false)) (
 some false)) (
 some false):=by kernel_rfl
theorem q0l (n:Nat) (w:(List Int)) (n_:Int):e0t (n+1) w n_ =
 a0a (d0e n a0b (w,(n_,()))) fun r0 =>
 c0i (fun y1 =>
 tif ((decide ((((List.length y1.1)+1)*1)≤140737488355328))) (
 some (y1.1++((IntKind.wrap .u8 y1.2.1)::[]))) (
 none)) (fun z2 =>
 some z2) r0:=by kernel_rfl
theorem n0s (n f:Nat) (w:(List Int)) (n_:Int):d0e n (f+1) (w,n_,()) =
 tif ((decide ((128:Int)≤n_))) (
 tif ((decide ((((List.length w)+1)*1)≤140737488355328))) (
 d0e n f ((w++((orI .u8 (IntKind.wrap .u8 n_) (128:Int))::[])),((shrI .u64 n_ (7:Int)),()))) (
 none)) (
 some (.inl (w,(n_,())))):=by kernel_rfl
theorem q0m (n:Nat) (w:(List Int)) (s:List UInt8):e0u (n+1) w s =
 a0a (e0t n w (IntKind.wrap .u64 (((List.length s):Nat):Int))) fun r0 =>
 a0a (i0e n r0 s) fun r1 =>
 some r1:=by kernel_rfl
theorem r0y (n:Nat) (w:(List Int)):i0f (n+1) w =
 some ((List.map (fun y0=>(UInt8.ofNat (Int.toNat y0))) w),w):=by kernel_rfl
theorem c1e (n:Nat) (c:Int):n0l (n+1) c =
 tif ((decide ((48:Int)≤c))) (
 some (decide (c≤57))) (
 some false):=by kernel_rfl
theorem m0v (n:Nat) (s:(List Int)) (f_:((Int×Unit)→Option Bool)):e0z (n+1) s f_ =
 a0a (l0p n s f_) fun r0 =>
 some (decide ((0:Int)≤r0)):=by kernel_rfl
theorem a1j (n:Nat) (c:Int):o0u (n+1) c =
 a0a (v0p n c) fun r0 =>
 some (!r0):=by kernel_rfl
theorem g1c (n:Nat) (c:Int):v0p (n+1) c =
 a0a (n0l n c) fun r0 =>
 tif (r0) (
 some true) (
 tif ((decide (c=95))) (
 some true) (
 tif ((decide ((97:Int)≤(orI .u8 c (32:Int))))) (
 some (decide ((orI .u8 c (32:Int))≤122))) (
 some false))):=by kernel_rfl
theorem h1y (n:Nat) (c:c0d):m0f (n+1) c =
 a0a (o0z n c) fun r0 =>
 tif (r0) (
 some (0:Int)) (
 a0a (w0a n c) fun r1 =>
 tif ((!r1)) (
 some (2:Int)) (
 a0a (y0p n (18446744073709551615:Int)) fun r2 =>
 a0a (u0o n r2 (IntKind.wrap .u64 (IntKind.wrap .i64 (c.1-1)))) fun r3 =>
 tif ((!(decide (r3.2=0)))) (
 some (2:Int)) (
 a0a (y0q n r3.1 c.2.2.2.1) fun r4 =>
 tif (r4) (
 some (2:Int)) (
 a0a (a1z n c.2.2.2.2.2.1 (IntKind.wrap .i64 (c.1-1))) fun r5 =>
 tif ((!r5)) (
 some (2:Int)) (
 a0a (a1z n c.2.2.2.2.1 (IntKind.wrap .i64 ((IntKind.wrap .i64 (c.1-1))-c.2.2.2.2.2.1))) fun r6 =>
 tif ((!r6)) (
 some (2:Int)) (
 a0a (a1z n c.2.2.2.2.2.2 (IntKind.wrap .i64 (c.2.2.1.1-c.2.1.1))) fun r7 =>
 tif ((!r7)) (
 some (2:Int)) (
 some (0:Int)))))))):=by kernel_rfl
theorem l1q (n:Nat) (c:c0d):o0z (n+1) c =
 some ((decide (c.1=0))&&((decide (c.2.1.1=0))&&((decide (c.2.1.2.1=0))&&((decide (c.2.1.2.2.1=0))&&((c.2.1.2.2.2==false)&&((decide (c.2.2.1.1=0))&&((decide (c.2.2.1.2.1=0))&&((decide (c.2.2.1.2.2.1=0))&&((c.2.2.1.2.2.2==false)&&((decide (c.2.2.2.1.1=0))&&((decide (c.2.2.2.1.2=0))&&((decide (c.2.2.2.2.1=0))&&((decide (c.2.2.2.2.2.1=0))&&(decide (c.2.2.2.2.2.2=0))))))))))))))):=by kernel_rfl
theorem l1r (n:Nat) (a:c0d) (b:c0d):l1s (n+1) a b =
 a0a (n0q n a.2.2.1 b.2.1) fun r0 =>
 tif ((!(decide (r0.2=0)))) (
 some ((0,((0,(0,(0,false))),((0,(0,(0,false))),((0,0),(0,(0,0)))))),r0.2)) (
 a0a (e1h n (a.2.2.2.1::(r0.1.2.2.2.1::(b.2.2.2.1::[])))) fun r1 =>
 some (((IntKind.wrap .i64 (a.1+b.1)),(a.2.1,(b.2.2.1,(r1.1,((IntKind.wrap .i64 (r0.1.2.2.2.2.1+(IntKind.wrap .i64 (a.2.2.2.2.1+b.2.2.2.2.1)))),((IntKind.wrap .i64 (r0.1.2.2.2.2.2.1+(IntKind.wrap .i64 (a.2.2.2.2.2.1+b.2.2.2.2.2.1)))),(IntKind.wrap .i64 (r0.1.2.2.2.2.2.2+(IntKind.wrap .i64 (a.2.2.2.2.2.2+b.2.2.2.2.2.2)))))))))),r1.2)):=by kernel_rfl
theorem h1m (n:Nat) (n_:Int) (by_:Int):h0b (n+1) n_ by_ =
 tif ((decide (by_=0))) (
 none) (
 some (IntKind.wrap .i64 (Int.tdiv (IntKind.wrap .i64 ((IntKind.wrap .i64 (n_+by_))-1)) by_))):=by kernel_rfl
theorem m1s (n:Nat) (s:a0k):e1y (n+1) s =
 a0a (m0t n s) fun r0 =>
 tif ((!(decide (r0.2=0)))) (
 some (0:Int)) (
 a0a (s0v n s.2.1) fun r1 =>
 tif ((!r1)) (
 some (0:Int)) (
 a0a (i0s n r0.1) fun r2 =>
 some r2)):=by kernel_rfl
theorem e1x (n:Nat) (i:Int) (p1:a0k):e0n (n+1) i p1 =
 a0a (c0z n p1 i) fun r0 =>
 some (!r0):=by kernel_rfl
theorem g1h (n:Nat) (c:a0s):v0r (n+1) c =
 a0a (c0o n c) fun r0 =>
 tif ((!(decide (r0=0)))) (
 some ([],([],[]))) (
 a0a (s0q n c.2.2.1.1) fun r1 =>
 a0a (s0q n c.2.2.1.2.1) fun r2 =>
 a0a (s0q n c.2.2.1.2.2) fun r3 =>
 some (r1,(r2,r3))):=by kernel_rfl
theorem g1j (n:Nat) (c:a0s) (s:((List a0c)×((List a0c)×(List a0c)))):v0t (n+1) c s =
 a0a (t0y n c s) fun r0 =>
 r0r (r0.1) (
 some r0.2) fun r1 =>
 some r0.2:=by kernel_rfl
theorem j1t (n:Nat) (r:(Int×(Int×(List a0h)))) (room:Int):t0m (n+1) r room =
 tif ((decide (room<1))) (
 some (2:Int)) (
 tif ((decide ((4096:Int)<room))) (
 some (2:Int)) (
 tif ((decide (room<(((List.length r.2.2):Nat):Int)))) (
 some (2:Int)) (
 tif ((decide (r.1<0))) (
 some (2:Int)) (
 tif ((decide ((70368744177664:Int)<r.1))) (
 some (2:Int)) (
 a0a (v0i n r.2.2) fun r0 =>
 tif ((!r0)) (
 some (2:Int)) (
 a0a (d1g n r room) fun r1 =>
 tif ((!r1)) (
 some (2:Int)) (
 some (0:Int)))))))):=by kernel_rfl
theorem j1g (n:Nat) (s:c0c):z0g (n+1) s =
 tif ((decide ((((List.length s.2.2.2.1.2.2):Nat):Int)=0))) (
 tif (((decide (s.2.2.2.2.2.1=0))&&((decide (s.2.2.2.2.2.2.1=0))&&((decide (s.2.2.2.2.2.2.2.1.1=0))&&((decide (s.2.2.2.2.2.2.2.1.2.1=0))&&((decide (s.2.2.2.2.2.2.2.1.2.2.1=0))&&((s.2.2.2.2.2.2.2.1.2.2.2==false)&&((decide (s.2.2.2.2.2.2.2.2.1.1=0))&&((decide (s.2.2.2.2.2.2.2.2.1.2.1=0))&&((decide (s.2.2.2.2.2.2.2.2.1.2.2.1=0))&&((s.2.2.2.2.2.2.2.2.1.2.2.2==false)&&((decide (s.2.2.2.2.2.2.2.2.2.1.1=0))&&((decide (s.2.2.2.2.2.2.2.2.2.1.2=0))&&((decide (s.2.2.2.2.2.2.2.2.2.2.1=0))&&((decide (s.2.2.2.2.2.2.2.2.2.2.2.1=0))&&(decide (s.2.2.2.2.2.2.2.2.2.2.2.2=0))))))))))))))))) (
 a0a (c0u n s.2.2.2.2.1.1 (0:Int)) fun r0 =>
 tif ((!r0)) (
 a0a (c0u n s.2.2.2.2.1.2.1 (0:Int)) fun r1 =>
 tif ((!r1)) (
 a0a (c0u n s.2.2.2.2.1.2.2 (0:Int)) fun r2 =>
 some (!r2)) (
 some false)) (
 some false)) (
 some false)) (
 some false):=by kernel_rfl
theorem m1x (n:Nat) (s:c0c):x0x (n+1) s =
 a0a (x0y n s.2.2.2.1) fun r0 =>
 tif ((decide (r0.2=0))) (
 tif ((decide (r0.1.1=s.2.2.1))) (
 tif ((decide (s.2.2.2.2.2.2.2.2.1.1=s.2.2.1))) (
 a0a (j0m n s.2.2.2.2.2.2 s.1.2.1.1 s.2.2.2.2.2.1) fun r1 =>
 tif (r1) (
 tif ((decide (s.1.2.1.1=0))) (
 none) (
 a0a (c0u n s.2.2.2.2.1.1 (IntKind.wrap .i64 (Int.tdiv s.2.2.1 s.1.2.1.1))) fun r2 =>
 tif ((!r2)) (
 tif ((decide (s.1.2.1.2.1=0))) (
 none) (
 a0a (c0u n s.2.2.2.2.1.2.1 (IntKind.wrap .i64 (Int.tdiv s.2.2.1 s.1.2.1.2.1))) fun r3 =>
 tif ((!r3)) (
 tif ((decide (s.1.2.1.2.2=0))) (
 none) (
 a0a (c0u n s.2.2.2.2.1.2.2 (IntKind.wrap .i64 (Int.tdiv s.2.2.1 s.1.2.1.2.2))) fun r4 =>
 some (!r4))) (
 some false))) (
 some false))) (
 some false)) (
 some false)) (
 some false)) (
 some false):=by kernel_rfl
theorem g1i (n:Nat) (c:a0s) (s:((List a0c)×((List a0c)×(List a0c)))) (was:a0c) (j:Int):v0s (n+1) c s was j =
 a0a (t0y n c s) fun r0 =>
 r0r (r0.1) (
 tif ((!(decide (r0.2=0)))) (
 some (([],([],[])),r0.2)) (
 tif ((!((decide (was.1=0))&&((decide (was.2.1=0))&&((decide (was.2.2.1.1=0))&&((decide (was.2.2.1.2.1=0))&&((decide (was.2.2.1.2.2.1=0))&&((was.2.2.1.2.2.2==false)&&((decide (was.2.2.2.1.1=0))&&((decide (was.2.2.2.1.2.1=0))&&((decide (was.2.2.2.1.2.2.1=0))&&((was.2.2.2.1.2.2.2==false)&&((decide (was.2.2.2.2.1.1=0))&&((decide (was.2.2.2.2.1.2=0))&&((decide (was.2.2.2.2.2.1=0))&&((decide (was.2.2.2.2.2.2.1=0))&&(decide (was.2.2.2.2.2.2.2=0)))))))))))))))))) (
 a0a (j0m n was.2 c.2.1.1 was.1) fun r1 =>
 tif ((!r1)) (
 some (([],([],[])),2)) (
 tif (((decide (was.1=0))&&((decide (was.2.1=0))&&((decide (was.2.2.1.1=0))&&((decide (was.2.2.1.2.1=0))&&((decide (was.2.2.1.2.2.1=0))&&((was.2.2.1.2.2.2==false)&&((decide (was.2.2.2.1.1=0))&&((decide (was.2.2.2.1.2.1=0))&&((decide (was.2.2.2.1.2.2.1=0))&&((was.2.2.2.1.2.2.2==false)&&((decide (was.2.2.2.2.1.1=0))&&((decide (was.2.2.2.2.1.2=0))&&((decide (was.2.2.2.2.2.1=0))&&((decide (was.2.2.2.2.2.2.1=0))&&(decide (was.2.2.2.2.2.2.2=0))))))))))))))))) (
 some (s,0)) (
 tif ((decide (was.1=j))) (
 some (s,0)) (
 tif ((decide (j<was.1))) (
 some (([],([],[])),1)) (
 none))))) (
 tif (((decide (was.1=0))&&((decide (was.2.1=0))&&((decide (was.2.2.1.1=0))&&((decide (was.2.2.1.2.1=0))&&((decide (was.2.2.1.2.2.1=0))&&((was.2.2.1.2.2.2==false)&&((decide (was.2.2.2.1.1=0))&&((decide (was.2.2.2.1.2.1=0))&&((decide (was.2.2.2.1.2.2.1=0))&&((was.2.2.2.1.2.2.2==false)&&((decide (was.2.2.2.2.1.1=0))&&((decide (was.2.2.2.2.1.2=0))&&((decide (was.2.2.2.2.2.1=0))&&((decide (was.2.2.2.2.2.2.1=0))&&(decide (was.2.2.2.2.2.2.2=0))))))))))))))))) (
 some (s,0)) (
 tif ((decide (was.1=j))) (
 some (s,0)) (
 tif ((decide (j<was.1))) (
 some (([],([],[])),1)) (
 none)))))) fun r2 =>
 tif ((!(decide (r0.2=0)))) (
 some (([],([],[])),r0.2)) (
 tif ((!((decide (was.1=0))&&((decide (was.2.1=0))&&((decide (was.2.2.1.1=0))&&((decide (was.2.2.1.2.1=0))&&((decide (was.2.2.1.2.2.1=0))&&((was.2.2.1.2.2.2==false)&&((decide (was.2.2.2.1.1=0))&&((decide (was.2.2.2.1.2.1=0))&&((decide (was.2.2.2.1.2.2.1=0))&&((was.2.2.2.1.2.2.2==false)&&((decide (was.2.2.2.2.1.1=0))&&((decide (was.2.2.2.2.1.2=0))&&((decide (was.2.2.2.2.2.1=0))&&((decide (was.2.2.2.2.2.2.1=0))&&(decide (was.2.2.2.2.2.2.2=0)))))))))))))))))) (
 a0a (j0m n was.2 c.2.1.1 was.1) fun r3 =>
 tif ((!r3)) (
 some (([],([],[])),2)) (
 tif (((decide (was.1=0))&&((decide (was.2.1=0))&&((decide (was.2.2.1.1=0))&&((decide (was.2.2.1.2.1=0))&&((decide (was.2.2.1.2.2.1=0))&&((was.2.2.1.2.2.2==false)&&((decide (was.2.2.2.1.1=0))&&((decide (was.2.2.2.1.2.1=0))&&((decide (was.2.2.2.1.2.2.1=0))&&((was.2.2.2.1.2.2.2==false)&&((decide (was.2.2.2.2.1.1=0))&&((decide (was.2.2.2.2.1.2=0))&&((decide (was.2.2.2.2.2.1=0))&&((decide (was.2.2.2.2.2.2.1=0))&&(decide (was.2.2.2.2.2.2.2=0))))))))))))))))) (
 some (s,0)) (
 tif ((decide (was.1=j))) (
 some (s,0)) (
 tif ((decide (j<was.1))) (
 some (([],([],[])),1)) (
 a0a (n0p n r2 (0:Int) j) fun r4 =>
 tif ((!r4.1)) (
 some (([],([],[])),1)) (
 a0a (e0b n r4.2 (0:Int) was.1 was.2) fun r5 =>
 tif ((!(decide (r5.1=0)))) (
 some (([],([],[])),r5.1)) (
 a0a (g1l n r5.2 was.1 j) fun r6 =>
 some (r6.2,0)))))))) (
 tif (((decide (was.1=0))&&((decide (was.2.1=0))&&((decide (was.2.2.1.1=0))&&((decide (was.2.2.1.2.1=0))&&((decide (was.2.2.1.2.2.1=0))&&((was.2.2.1.2.2.2==false)&&((decide (was.2.2.2.1.1=0))&&((decide (was.2.2.2.1.2.1=0))&&((decide (was.2.2.2.1.2.2.1=0))&&((was.2.2.2.1.2.2.2==false)&&((decide (was.2.2.2.2.1.1=0))&&((decide (was.2.2.2.2.1.2=0))&&((decide (was.2.2.2.2.2.1=0))&&((decide (was.2.2.2.2.2.2.1=0))&&(decide (was.2.2.2.2.2.2.2=0))))))))))))))))) (
 some (s,0)) (
 tif ((decide (was.1=j))) (
 some (s,0)) (
 tif ((decide (j<was.1))) (
 some (([],([],[])),1)) (
 a0a (n0p n r2 (0:Int) j) fun r7 =>
 tif ((!r7.1)) (
 some (([],([],[])),1)) (
 a0a (e0b n r7.2 (0:Int) was.1 was.2) fun r8 =>
 tif ((!(decide (r8.1=0)))) (
 some (([],([],[])),r8.1)) (
 a0a (g1l n r8.2 was.1 j) fun r9 =>
 some (r9.2,0)))))))):=by kernel_rfl
theorem t1t (n:Nat) (r:(Int×(Int×(List a0h)))) (room:Int) (e:a0h):n1s (n+1) r room e =
 a0a (t0m n r room) fun r0 =>
 tif ((!(decide (r0=0)))) (
 some ((0,(0,[])),2)) (
 a0a (c0r n e) fun r1 =>
 tif ((!(decide (r1=0)))) (
 some ((0,(0,[])),2)) (
 a0a (x0y n r) fun r2 =>
 tif ((decide (r2.2=0))) (
 a0a (f0s n r2.1 e) fun r3 =>
 tif ((!r3)) (
 some ((0,(0,[])),9)) (
 tif ((decide ((((List.length r.2.2):Nat):Int)=room))) (
 tif ((decide (r.1=70368744177664))) (
 some ((0,(0,[])),1)) (
 a0a (n0e n r.2.2 room) fun r4 =>
 r0r (r4.1) (
 tif ((!(decide (r4.2=0)))) (
 some ((0,(0,[])),r4.2)) (
 none)) fun r5 =>
 tif ((!(decide (r4.2=0)))) (
 some ((0,(0,[])),r4.2)) (
 a0a (w0l n r5 e) fun r6 =>
 tif (r6.2.1) (
 a0a (k0l n r6.2.2) fun r7 =>
 some (((IntKind.wrap .i64 (r.1+1)),(r6.1.1,r7.1)),0)) (
 a0a (k0l n r6.2.2) fun r8 =>
 some ((r.1,(r.2.1,r8.1)),0))))) (
 a0a (n0e n r.2.2 room) fun r9 =>
 r0r (r9.1) (
 tif ((!(decide (r9.2=0)))) (
 some ((0,(0,[])),r9.2)) (
 none)) fun r10 =>
 tif ((!(decide (r9.2=0)))) (
 some ((0,(0,[])),r9.2)) (
 a0a (w0l n r10 e) fun r11 =>
 tif (r11.2.1) (
 a0a (k0l n r11.2.2) fun r12 =>
 some (((IntKind.wrap .i64 (r.1+1)),(r11.1.1,r12.1)),0)) (
 a0a (k0l n r11.2.2) fun r13 =>
 some ((r.1,(r.2.1,r13.1)),0)))))) (
 tif ((decide ((((List.length r.2.2):Nat):Int)=room))) (
 tif ((decide (r.1=70368744177664))) (
 some ((0,(0,[])),1)) (
 a0a (n0e n r.2.2 room) fun r14 =>
 r0r (r14.1) (
 tif ((!(decide (r14.2=0)))) (
 some ((0,(0,[])),r14.2)) (
 none)) fun r15 =>
 tif ((!(decide (r14.2=0)))) (
 some ((0,(0,[])),r14.2)) (
 a0a (w0l n r15 e) fun r16 =>
 tif (r16.2.1) (
 a0a (k0l n r16.2.2) fun r17 =>
 some (((IntKind.wrap .i64 (r.1+1)),(r16.1.1,r17.1)),0)) (
 a0a (k0l n r16.2.2) fun r18 =>
 some ((r.1,(r.2.1,r18.1)),0))))) (
 a0a (n0e n r.2.2 room) fun r19 =>
 r0r (r19.1) (
 tif ((!(decide (r19.2=0)))) (
 some ((0,(0,[])),r19.2)) (
 none)) fun r20 =>
 tif ((!(decide (r19.2=0)))) (
 some ((0,(0,[])),r19.2)) (
 a0a (w0l n r20 e) fun r21 =>
 tif (r21.2.1) (
 a0a (k0l n r21.2.2) fun r22 =>
 some (((IntKind.wrap .i64 (r.1+1)),(r21.1.1,r22.1)),0)) (
 a0a (k0l n r21.2.2) fun r23 =>
 some ((r.1,(r.2.1,r23.1)),0))))))):=by kernel_rfl
theorem p1e (n:Nat) (c:c0d) (e:a0h):i1b (n+1) c e =
 a0a (c0r n e) fun r0 =>
 tif ((!(decide (r0=0)))) (
 some ((0,((0,(0,(0,false))),((0,(0,(0,false))),((0,0),(0,(0,0)))))),r0)) (
 a0a (h1u n e) fun r1 =>
 a0a (p0z n c r1) fun r2 =>
 some r2):=by kernel_rfl
theorem m1p (n:Nat) (t:Int):s0v (n+1) t =
 tif ((decide ((0:Int)≤t))) (
 some (decide (t<35184372088832))) (
 some false):=by kernel_rfl
theorem z0l (n:Nat) (c:a0s) (s:b0i):o0l (n+1) c s =
 a0a (m0x n c s) fun r0 =>
 r0r (r0.1) (
 some r0.2) fun r1 =>
 some r0.2:=by kernel_rfl
theorem x0c (n:Nat) (v:a0k):i0s (n+1) v =
 tif ((decide (v.1.2.1.1=0))) (
 none) (
 some (IntKind.wrap .i64 (v.2.1-(Int.tmod v.2.1 v.1.2.1.1)))):=by kernel_rfl
theorem x0b (n:Nat) (v:a0k) (i:Int):m0s (n+1) v i =
 a0a (c0y n v (fun y0=>e0f n y0.1 i v)) fun r1 =>
 tif ((decide (r1<i))) (
 a0a (c0z n v i) fun r2 =>
 some r2) (
 some false):=by kernel_rfl
theorem r0m (n:Nat) (s:(List Int)) (f_:((Int×Unit)→Option Bool)):n0y (n+1) s f_ =
 a0a (c0q n a0b (s,(f_,((((List.length s):Nat):Int),(0,()))))) fun r0 =>
 c0i (fun y1 =>
 some ((-1):Int)) (fun z2 =>
 some z2) r0:=by kernel_rfl
theorem g0o (n f:Nat) (s:(List Int)) (f_:((Int×Unit)→Option Bool)) (s7:Int) (s8:Int):c0q n (f+1) (s,f_,s7,s8,()) =
 tif ((decide (s8<s7))) (
 a0a (at? s s8) fun r0 =>
 a0a (f_ (r0,())) fun r1 =>
 tif (r1) (
 some (.inr s8)) (
 c0q n f (s,(f_,(s7,((IntKind.wrap .i64 (s8+1)),())))))) (
 some (.inl ())):=by kernel_rfl
theorem b1o (n:Nat) (n_:Int) (low:Int) (high:Int):m0m (n+1) n_ low high =
 tif ((decide (low≤n_))) (
 some (decide (n_≤high))) (
 some false):=by kernel_rfl
theorem m1d (n:Nat) (w:Int):p1n (n+1) w =
 a0a (m0m n w (1:Int) (1099511627776:Int)) fun r0 =>
 some r0:=by kernel_rfl
theorem n1r (n:Nat) (a:(Int×(Int×(List a0h)))) (b:(Int×(Int×(List a0h)))):q1e (n+1) a b =
 tif ((decide (a.1=b.1))) (
 tif ((decide (a.2.1=b.2.1))) (
 a0a (l0b n a.2.2 b.2.2) fun r0 =>
 some r0) (
 some false)) (
 some false):=by kernel_rfl
theorem x0d (n:Nat) (s1:(List a0c)) (s2:(List a0c)):f0z (n+1) s1 s2 =
 tif ((!(decide ((((List.length s1):Nat):Int)=(((List.length s2):Nat):Int))))) (
 some false) (
 a0a (f0l n a0b (s1,(s2,((((List.length s1):Nat):Int),(0,()))))) fun r0 =>
 c0i (fun y1 =>
 some true) (fun z2 =>
 some z2) r0):=by kernel_rfl
theorem j0q (n f:Nat) (s1:(List a0c)) (s2:(List a0c)) (s12:Int) (s13:Int):f0l n (f+1) (s1,s2,s12,s13,()) =
 tif ((decide (s13<s12))) (
 a0a (at? s1 s13) fun r0 =>
 a0a (at? s2 s13) fun r1 =>
 tif ((!((decide (r0.1=r1.1))&&((decide (r0.2.1=r1.2.1))&&((decide (r0.2.2.1.1=r1.2.2.1.1))&&((decide (r0.2.2.1.2.1=r1.2.2.1.2.1))&&((decide (r0.2.2.1.2.2.1=r1.2.2.1.2.2.1))&&((r0.2.2.1.2.2.2==r1.2.2.1.2.2.2)&&((decide (r0.2.2.2.1.1=r1.2.2.2.1.1))&&((decide (r0.2.2.2.1.2.1=r1.2.2.2.1.2.1))&&((decide (r0.2.2.2.1.2.2.1=r1.2.2.2.1.2.2.1))&&((r0.2.2.2.1.2.2.2==r1.2.2.2.1.2.2.2)&&((decide (r0.2.2.2.2.1.1=r1.2.2.2.2.1.1))&&((decide (r0.2.2.2.2.1.2=r1.2.2.2.2.1.2))&&((decide (r0.2.2.2.2.2.1=r1.2.2.2.2.2.1))&&((decide (r0.2.2.2.2.2.2.1=r1.2.2.2.2.2.2.1))&&(decide (r0.2.2.2.2.2.2.2=r1.2.2.2.2.2.2.2)))))))))))))))))) (
 some (.inr false)) (
 f0l n f (s1,(s2,(s12,((IntKind.wrap .i64 (s13+1)),())))))) (
 some (.inl ())):=by kernel_rfl
theorem r0x (n:Nat) (w:(List Int)) (s:List UInt8):i0e (n+1) w s =
 tif ((decide ((((List.length w)+(List.length (List.map (fun y1=>(((UInt8.toNat y1):Nat):Int)) s)))*1)≤140737488355328))) (
 some (w++(List.map (fun y0=>(((UInt8.toNat y0):Nat):Int)) s))) (
 none):=by kernel_rfl
theorem q0j (n:Nat) (s:(List Int)) (f_:((Int×Unit)→Option Bool)):l0p (n+1) s f_ =
 a0a (c0f n a0b (s,(f_,((((List.length s):Nat):Int),(0,()))))) fun r0 =>
 c0i (fun y1 =>
 some ((-1):Int)) (fun z2 =>
 some z2) r0:=by kernel_rfl
theorem f0x (n f:Nat) (s:(List Int)) (f_:((Int×Unit)→Option Bool)) (s7:Int) (s8:Int):c0f n (f+1) (s,f_,s7,s8,()) =
 tif ((decide (s8<s7))) (
 a0a (at? s s8) fun r0 =>
 a0a (f_ (r0,())) fun r1 =>
 tif (r1) (
 some (.inr s8)) (
 c0f n f (s,(f_,(s7,((IntKind.wrap .i64 (s8+1)),())))))) (
 some (.inl ())):=by kernel_rfl
theorem h1s (n:Nat) (c:c0d):w0a (n+1) c =
 tif ((decide (c.1=1))) (
 tif (((decide (c.2.1.1=c.2.2.1.1))&&((decide (c.2.1.2.1=c.2.2.1.2.1))&&((decide (c.2.1.2.2.1=c.2.2.1.2.2.1))&&(c.2.1.2.2.2==c.2.2.1.2.2.2))))) (
 a0a (c0r n c.2.1) fun r0 =>
 some (decide (r0=0))) (
 some false)) (
 tif ((decide ((1:Int)<c.1))) (
 a0a (f0s n c.2.1 c.2.2.1) fun r1 =>
 tif (r1) (
 some (decide ((IntKind.wrap .i64 (c.1-1))≤(IntKind.wrap .i64 (c.2.2.1.1-c.2.1.1))))) (
 some false)) (
 some false)):=by kernel_rfl
theorem e1g (n:Nat) (a:(Int×Int)) (n_:Int):u0o (n+1) a n_ =
 a0a (g0f n a.2 n_) fun r0 =>
 a0a (g0f n a.1 n_) fun r1 =>
 tif (((decide ((0:Int)≤r1.2))&&((decide ((0:Int)≤r0.1))&&true))) (
 a0a (s0g n ((((r1.2+r0.1)+0) % (18446744073709551616:Int)),r0.2) (orI .u64 r1.1 (((r1.2+r0.1)+0) / (18446744073709551616:Int)))) fun r2 =>
 some r2) (
 none):=by kernel_rfl
theorem s1g (n:Nat) (n_:Int):y0p (n+1) n_ =
 some (0,n_):=by kernel_rfl
theorem i1n (n:Nat) (a:(Int×Int)) (b:(Int×Int)):y0q (n+1) a b =
 tif ((decide (a.1<b.1))) (
 some true) (
 tif ((decide (a.1=b.1))) (
 some (decide (a.2<b.2))) (
 some false)):=by kernel_rfl
theorem v1k (n:Nat) (n_:Int) (most:Int):a1z (n+1) n_ most =
 tif ((decide ((0:Int)≤n_))) (
 some (decide (n_≤most))) (
 some false):=by kernel_rfl
theorem x0q (n:Nat) (p:a0h) (c:a0h):n0q (n+1) p c =
 a0a (k0a n (p::(c::[]))) fun r0 =>
 tif ((!r0)) (
 some ((0,((0,(0,(0,false))),((0,(0,(0,false))),((0,0),(0,(0,0)))))),2)) (
 tif ((decide (c.1≤p.1))) (
 some ((0,((0,(0,(0,false))),((0,(0,(0,false))),((0,0),(0,(0,0)))))),9)) (
 tif (c.2.2.2) (
 some ((0,((0,(0,(0,false))),((0,(0,(0,false))),((0,0),(0,(0,0)))))),0)) (
 tif ((decide (p.1<c.2.2.1))) (
 a0a (p0y n c (IntKind.wrap .i64 (c.1-c.2.2.1))) fun r1 =>
 some (r1,0)) (
 tif (p.2.2.2) (
 some ((0,((0,(0,(0,false))),((0,(0,(0,false))),((0,0),(0,(1,0)))))),0)) (
 tif ((decide (c.2.1<p.2.1))) (
 a0a (p0y n c (IntKind.wrap .i64 (c.1-p.1))) fun r2 =>
 some (r2,0)) (
 a0a (y0p n (IntKind.wrap .u64 (c.2.1-p.2.1))) fun r3 =>
 some ((0,((0,(0,(0,false))),((0,(0,(0,false))),(r3,(0,(0,(IntKind.wrap .i64 (c.1-p.1)))))))),0))))))):=by kernel_rfl
theorem m1b (n:Nat) (l:(List (Int×Int))):e1h (n+1) l =
 a0a (m0l n a0b ((0,0),((0,0),(l,((((List.length l):Nat):Int),(0,())))))) fun r0 =>
 c0i (fun y1 =>
 some (y1.2.1,0)) (fun z2 =>
 some z2) r0:=by kernel_rfl
theorem q0q (n f:Nat) (s2:(Int×Int)) (a:(Int×Int)) (s9:(List (Int×Int))) (s10:Int) (s11:Int):m0l n (f+1) (s2,a,s9,s10,s11,()) =
 tif ((decide (s11<s10))) (
 a0a (at? s9 s11) fun r0 =>
 a0a (e1i n a r0) fun r1 =>
 tif ((!(decide (r1.2=0)))) (
 some (.inr ((0,0),r1.2))) (
 m0l n f (s2,(r1.1,(s9,(s10,((IntKind.wrap .i64 (s11+1)),()))))))) (
 some (.inl (s2,(a,())))):=by kernel_rfl
theorem m1k (n:Nat) (n_:Int):s0q (n+1) n_ =
 tif ((decide (n_<1))) (
 some []) (
 tif ((decide ((4096:Int)<n_))) (
 some []) (
 tif (((decide ((0:Int)≤n_))&&((decide (n_≤n_))&&(decide ((n_*120)≤140737488355328))))) (
 some (List.replicate (Int.toNat n_) (0,(0,((0,(0,(0,false))),((0,(0,(0,false))),((0,0),(0,(0,0))))))))) (
 none))):=by kernel_rfl
theorem k1y (n:Nat) (c:a0s) (s:((List a0c)×((List a0c)×(List a0c)))):t0y (n+1) c s =
 a0a (c0o n c) fun r0 =>
 tif ((!(decide (r0=0)))) (
 some (none,r0)) (
 tif ((!(decide ((((List.length s.1):Nat):Int)=c.2.2.1.1)))) (
 some (none,2)) (
 a0a (i0z n s.1 c.2.1.1) fun r1 =>
 tif ((!(decide (r1=0)))) (
 some (none,2)) (
 tif ((!(decide ((((List.length s.2.1):Nat):Int)=c.2.2.1.2.1)))) (
 some (none,2)) (
 a0a (i0z n s.2.1 c.2.1.2.1) fun r2 =>
 tif ((!(decide (r2=0)))) (
 some (none,2)) (
 tif ((!(decide ((((List.length s.2.2):Nat):Int)=c.2.2.1.2.2)))) (
 some (none,2)) (
 a0a (i0z n s.2.2 c.2.1.2.2) fun r3 =>
 tif ((!(decide (r3=0)))) (
 some (none,2)) (
 some ((some (c,s)),0)))))))):=by kernel_rfl
theorem f1l (n:Nat) (l:(List a0h)):v0i (n+1) l =
 a0a (e0s n a0b (l,(l,((((List.length l):Nat):Int),(0,()))))) fun r0 =>
 c0i (fun y1 =>
 some true) (fun z2 =>
 some z2) r0:=by kernel_rfl
theorem n0z (n f:Nat) (l:(List a0h)) (s5:(List a0h)) (s6:Int) (s7:Int):e0s n (f+1) (l,s5,s6,s7,()) =
 tif ((decide (s7<s6))) (
 a0a (at? s5 s7) fun r0 =>
 a0a (c0r n r0) fun r1 =>
 tif ((!(decide (r1=0)))) (
 some (.inr false)) (
 tif ((decide ((0:Int)<s7))) (
 a0a (at? l (IntKind.wrap .i64 (s7-1))) fun r2 =>
 a0a (f0s n r2 r0) fun r3 =>
 tif ((!r3)) (
 some (.inr false)) (
 e0s n f (l,(s5,(s6,((IntKind.wrap .i64 (s7+1)),())))))) (
 e0s n f (l,(s5,(s6,((IntKind.wrap .i64 (s7+1)),()))))))) (
 some (.inl ())):=by kernel_rfl
theorem f1m (n:Nat) (r:(Int×(Int×(List a0h)))) (room:Int):d1g (n+1) r room =
 tif ((decide (r.1=0))) (
 some (decide (r.2.1=0))) (
 tif ((decide ((((List.length r.2.2):Nat):Int)=room))) (
 tif ((decide ((0:Int)≤r.2.1))) (
 a0a (at? r.2.2 (0:Int)) fun r0 =>
 some (decide (r.2.1<r0.1))) (
 some false)) (
 some false)):=by kernel_rfl
theorem x0f (n:Nat) (l:(List a0c)) (i:Int):c0u (n+1) l i =
 a0a (f0b n l (fun y0=>j0s n y0.1 i)) fun r1 =>
 some r1:=by kernel_rfl
theorem n1t (n:Nat) (r:(Int×(Int×(List a0h)))):x0y (n+1) r =
 tif ((decide ((((List.length r.2.2):Nat):Int)=0))) (
 some ((0,(0,(0,false))),3)) (
 a0a (at? r.2.2 (IntKind.wrap .i64 ((((List.length r.2.2):Nat):Int)-1))) fun r0 =>
 some (r0,0)):=by kernel_rfl
theorem i1z (n:Nat) (c:c0d) (w:Int) (i:Int):j0m (n+1) c w i =
 tif ((decide (c.1=0))) (
 some false) (
 a0a (m0f n c) fun r0 =>
 tif ((!(decide (r0=0)))) (
 some false) (
 a0a (e0e n a0b (w,(i,((c.2.1.1,c.2.2.1.1),(0,()))))) fun r1 =>
 c0i (fun y2 =>
 some true) (fun z3 =>
 some z3) r1)):=by kernel_rfl
theorem j0l (n f:Nat) (w:Int) (i:Int) (s25:(Int×Int)) (s26:Int):e0e n (f+1) (w,i,s25,s26,()) =
 tif ((decide (s26<2))) (
 tif ((decide (s26=0))) (
 a0a (s1i n s25.1 w) fun r0 =>
 tif ((!(decide (r0.2=0)))) (
 some (.inr false)) (
 tif ((!(decide (r0.1=i)))) (
 some (.inr false)) (
 e0e n f (w,(i,(s25,((IntKind.wrap .i64 (s26+1)),()))))))) (
 tif ((decide (s26=1))) (
 a0a (s1i n s25.2 w) fun r1 =>
 tif ((!(decide (r1.2=0)))) (
 some (.inr false)) (
 tif ((!(decide (r1.1=i)))) (
 some (.inr false)) (
 e0e n f (w,(i,(s25,((IntKind.wrap .i64 (s26+1)),()))))))) (
 none))) (
 some (.inl ())):=by kernel_rfl
theorem x0p (n:Nat) (s:q0p) (i:Int):n0p (n+1) s (0:Int) i =
 tif ((decide ((0:Int)≤i))) (
 tif ((decide (s.1.2.1.1=0))) (
 none) (
 some ((decide (i≤(IntKind.wrap .i64 (Int.tdiv (35184372088831:Int) s.1.2.1.1)))),s))) (
 some (false,s)):=by kernel_rfl
theorem g1p (n:Nat) (s:q0p) (i:Int) (c:c0d):e0b (n+1) s (0:Int) i c =
 a0a (s0p n s.2.1 s.1.2.1.1 i c) fun r0 =>
 tif ((decide (r0.2=0))) (
 some (r0.2,(s.1,(r0.1,s.2.2)))) (
 some (r0.2,s)):=by kernel_rfl
theorem g1n (n:Nat) (s:q0p) (i:Int) (c:c0d):e0b (n+1) s (1:Int) i c =
 a0a (s0p n s.2.2.1 s.1.2.1.2.1 i c) fun r0 =>
 tif ((decide (r0.2=0))) (
 some (r0.2,(s.1,(s.2.1,(r0.1,s.2.2.2))))) (
 some (r0.2,s)):=by kernel_rfl
theorem g1m (n:Nat) (s:q0p) (i:Int) (c:c0d):e0b (n+1) s (2:Int) i c =
 a0a (s0p n s.2.2.2 s.1.2.1.2.2 i c) fun r0 =>
 tif ((decide (r0.2=0))) (
 some (r0.2,(s.1,(s.2.1,(s.2.2.1,r0.1))))) (
 some (r0.2,s)):=by kernel_rfl
theorem v1b (n:Nat) (s:q0p) (i:Int) (j:Int):g1l (n+1) s i j =
 tif ((decide (s.1.2.1.2.1=0))) (
 none) (
 tif ((decide (s.1.2.1.2.1=0))) (
 none) (
 tif ((decide ((IntKind.wrap .i64 (Int.tdiv (IntKind.wrap .i64 (i*s.1.2.1.1)) s.1.2.1.2.1))=(IntKind.wrap .i64 (Int.tdiv (IntKind.wrap .i64 (j*s.1.2.1.1)) s.1.2.1.2.1))))) (
 tif ((decide (s.1.2.1.2.2=0))) (
 none) (
 tif ((decide (s.1.2.1.2.2=0))) (
 none) (
 tif ((decide ((IntKind.wrap .i64 (Int.tdiv (IntKind.wrap .i64 (i*s.1.2.1.1)) s.1.2.1.2.2))=(IntKind.wrap .i64 (Int.tdiv (IntKind.wrap .i64 (j*s.1.2.1.1)) s.1.2.1.2.2))))) (
 some s) (
 a0a (f0j n s (2:Int) (IntKind.wrap .i64 (Int.tdiv (IntKind.wrap .i64 (i*s.1.2.1.1)) s.1.2.1.2.2))) fun r0 =>
 tif ((decide (r0.2.1=0))) (
 tif ((decide ((0:Int)<r0.1.1))) (
 a0a (e0b n r0.2.2 (2:Int) (IntKind.wrap .i64 (Int.tdiv (IntKind.wrap .i64 (i*s.1.2.1.1)) s.1.2.1.2.2)) r0.1) fun r1 =>
 some r1.2) (
 some r0.2.2)) (
 some r0.2.2))))) (
 a0a (f0j n s (1:Int) (IntKind.wrap .i64 (Int.tdiv (IntKind.wrap .i64 (i*s.1.2.1.1)) s.1.2.1.2.1))) fun r2 =>
 tif ((decide (r2.2.1=0))) (
 tif ((decide ((0:Int)<r2.1.1))) (
 a0a (e0b n r2.2.2 (1:Int) (IntKind.wrap .i64 (Int.tdiv (IntKind.wrap .i64 (i*s.1.2.1.1)) s.1.2.1.2.1)) r2.1) fun r3 =>
 tif ((decide (r3.2.1.2.1.2.2=0))) (
 none) (
 tif ((decide (r3.2.1.2.1.2.2=0))) (
 none) (
 tif ((decide ((IntKind.wrap .i64 (Int.tdiv (IntKind.wrap .i64 (i*r3.2.1.2.1.1)) r3.2.1.2.1.2.2))=(IntKind.wrap .i64 (Int.tdiv (IntKind.wrap .i64 (j*r3.2.1.2.1.1)) r3.2.1.2.1.2.2))))) (
 some r3.2) (
 a0a (f0j n r3.2 (2:Int) (IntKind.wrap .i64 (Int.tdiv (IntKind.wrap .i64 (i*r3.2.1.2.1.1)) r3.2.1.2.1.2.2))) fun r4 =>
 tif ((decide (r4.2.1=0))) (
 tif ((decide ((0:Int)<r4.1.1))) (
 a0a (e0b n r4.2.2 (2:Int) (IntKind.wrap .i64 (Int.tdiv (IntKind.wrap .i64 (i*r3.2.1.2.1.1)) r3.2.1.2.1.2.2)) r4.1) fun r5 =>
 some r5.2) (
 some r4.2.2)) (
 some r4.2.2))))) (
 tif ((decide (r2.2.2.1.2.1.2.2=0))) (
 none) (
 tif ((decide (r2.2.2.1.2.1.2.2=0))) (
 none) (
 tif ((decide ((IntKind.wrap .i64 (Int.tdiv (IntKind.wrap .i64 (i*r2.2.2.1.2.1.1)) r2.2.2.1.2.1.2.2))=(IntKind.wrap .i64 (Int.tdiv (IntKind.wrap .i64 (j*r2.2.2.1.2.1.1)) r2.2.2.1.2.1.2.2))))) (
 some r2.2.2) (
 a0a (f0j n r2.2.2 (2:Int) (IntKind.wrap .i64 (Int.tdiv (IntKind.wrap .i64 (i*r2.2.2.1.2.1.1)) r2.2.2.1.2.1.2.2))) fun r6 =>
 tif ((decide (r6.2.1=0))) (
 tif ((decide ((0:Int)<r6.1.1))) (
 a0a (e0b n r6.2.2 (2:Int) (IntKind.wrap .i64 (Int.tdiv (IntKind.wrap .i64 (i*r2.2.2.1.2.1.1)) r2.2.2.1.2.1.2.2)) r6.1) fun r7 =>
 some r7.2) (
 some r6.2.2)) (
 some r6.2.2)))))) (
 tif ((decide (r2.2.2.1.2.1.2.2=0))) (
 none) (
 tif ((decide (r2.2.2.1.2.1.2.2=0))) (
 none) (
 tif ((decide ((IntKind.wrap .i64 (Int.tdiv (IntKind.wrap .i64 (i*r2.2.2.1.2.1.1)) r2.2.2.1.2.1.2.2))=(IntKind.wrap .i64 (Int.tdiv (IntKind.wrap .i64 (j*r2.2.2.1.2.1.1)) r2.2.2.1.2.1.2.2))))) (
 some r2.2.2) (
 a0a (f0j n r2.2.2 (2:Int) (IntKind.wrap .i64 (Int.tdiv (IntKind.wrap .i64 (i*r2.2.2.1.2.1.1)) r2.2.2.1.2.1.2.2))) fun r8 =>
 tif ((decide (r8.2.1=0))) (
 tif ((decide ((0:Int)<r8.1.1))) (
 a0a (e0b n r8.2.2 (2:Int) (IntKind.wrap .i64 (Int.tdiv (IntKind.wrap .i64 (i*r2.2.2.1.2.1.1)) r2.2.2.1.2.1.2.2)) r8.1) fun r9 =>
 some r9.2) (
 some r8.2.2)) (
 some r8.2.2)))))))):=by kernel_rfl
theorem n1q (n:Nat) (l:(List a0h)) (room:Int):n0e (n+1) l room =
 a0a (q0y n room) fun r0 =>
 r0r (r0.1) (
 tif ((!(decide (r0.2=0)))) (
 some (none,r0.2)) (
 none)) fun r1 =>
 tif ((!(decide (r0.2=0)))) (
 some (none,r0.2)) (
 a0a (m0z n a0b (r1,(l,((((List.length l):Nat):Int),(0,()))))) fun r2 =>
 c0i (fun y3 =>
 some ((some y3.1),0)) (fun z4 =>
 some z4) r2):=by kernel_rfl
theorem r0a (n f:Nat) (q:f0n) (s18:(List a0h)) (s19:Int) (s20:Int):m0z n (f+1) (q,s18,s19,s20,()) =
 tif ((decide (s20<s19))) (
 a0a (at? s18 s20) fun r0 =>
 a0a (w0l n q r0) fun r1 =>
 m0z n f (r1.2.2,(s18,(s19,((IntKind.wrap .i64 (s20+1)),()))))) (
 some (.inl (q,()))):=by kernel_rfl
theorem j1n (n:Nat) (r:f0n) (x:a0h):w0l (n+1) r x =
 tif ((decide ((((List.length r.2.1):Nat):Int)<r.1))) (
 tif ((decide ((((List.length r.2.1)+1)*32)≤140737488355328))) (
 some ((0,(0,(0,false))),(false,(r.1,((r.2.1++(x::[])),r.2.2))))) (
 none)) (
 a0a (at? r.2.1 r.2.2.1) fun r0 =>
 a0a ((r.2.1)[(Int.toNat r.2.2.1)]?) fun r1 =>
 a0a (at? r.2.1 r.2.2.1) fun r2 =>
 a0a ((r.2.1)[(Int.toNat r.2.2.1)]?) fun r3 =>
 a0a (q1c n (r.1,((List.set r.2.1 (Int.toNat r.2.2.1) x),r.2.2)) (1:Int)) fun r4 =>
 some (r1,(true,(r4.2.1,(r4.2.2.1,(r4.1,(IntKind.wrap .u64 (r4.2.2.2.2+1)))))))):=by kernel_rfl
theorem x1l (n:Nat) (r:f0n):k0l (n+1) r =
 tif ((true&&((decide ((0:Int)≤(((List.length r.2.1):Nat):Int)))&&(decide (((((List.length r.2.1):Nat):Int)*32)≤140737488355328))))) (
 tif ((decide ((0:Int)≤r.2.2.1))) (
 tif ((decide ((Int.toNat r.2.2.1)≤(List.length r.2.1)))) (
 tif ((decide (((0+(List.length (List.take ((List.length r.2.1)-(Int.toNat r.2.2.1)) (List.drop (Int.toNat r.2.2.1) r.2.1))))*32)≤140737488355328))) (
 tif (((decide ((0:Int)≤r.2.2.1))&&(decide (r.2.2.1≤(((List.length r.2.1):Nat):Int))))) (
 tif ((decide ((((List.length ((List.replicate 0 ((0:Int),((0:Int),((0:Int),false))))++(List.take ((List.length r.2.1)-(Int.toNat r.2.2.1)) (List.drop (Int.toNat r.2.2.1) r.2.1))))+(List.length (List.take ((Int.toNat r.2.2.1)-0) (List.drop 0 r.2.1))))*32)≤140737488355328))) (
 some ((((List.replicate 0 ((0:Int),((0:Int),((0:Int),false))))++(List.take ((List.length r.2.1)-(Int.toNat r.2.2.1)) (List.drop (Int.toNat r.2.2.1) r.2.1)))++(List.take ((Int.toNat r.2.2.1)-0) (List.drop 0 r.2.1))),r)) (
 none)) (
 none)) (
 none)) (
 none)) (
 none)) (
 none):=by kernel_rfl
theorem s0u (n:Nat) (k:Int) (p1:Int) (p2:a0k):e0f (n+1) k p1 p2 =
 tif ((decide (k=p1))) (
 some true) (
 a0a (c0z n p2 k) fun r0 =>
 tif (r0) (
 a0a (at? p2.2.2.2 k) fun r1 =>
 a0a (at? p2.2.2.2 p1) fun r2 =>
 a0a (l0v n r1.1 r2.1) fun r3 =>
 some r3) (
 some false)):=by kernel_rfl
theorem v0b (n:Nat) (s1:(List a0h)) (s2:(List a0h)):l0b (n+1) s1 s2 =
 tif ((!(decide ((((List.length s1):Nat):Int)=(((List.length s2):Nat):Int))))) (
 some false) (
 a0a (e0q n a0b (s1,(s2,((((List.length s1):Nat):Int),(0,()))))) fun r0 =>
 c0i (fun y1 =>
 some true) (fun z2 =>
 some z2) r0):=by kernel_rfl
theorem i0n (n f:Nat) (s1:(List a0h)) (s2:(List a0h)) (s12:Int) (s13:Int):e0q n (f+1) (s1,s2,s12,s13,()) =
 tif ((decide (s13<s12))) (
 a0a (at? s1 s13) fun r0 =>
 a0a (at? s2 s13) fun r1 =>
 tif ((!((decide (r0.1=r1.1))&&((decide (r0.2.1=r1.2.1))&&((decide (r0.2.2.1=r1.2.2.1))&&(r0.2.2.2==r1.2.2.2)))))) (
 some (.inr false)) (
 e0q n f (s1,(s2,(s12,((IntKind.wrap .i64 (s13+1)),())))))) (
 some (.inl ())):=by kernel_rfl
theorem t0t (n:Nat) (x:Int) (y:Int):g0f (n+1) x y =
 some ((IntKind.wrap .u64 ((IntKind.wrap .u64 ((IntKind.wrap .u64 ((shrI .u64 x (32:Int))*(shrI .u64 y (32:Int))))+(shrI .u64 (IntKind.wrap .u64 ((IntKind.wrap .u64 ((shrI .u64 x (32:Int))*(andI .u64 y (4294967295:Int))))+(shrI .u64 (IntKind.wrap .u64 ((andI .u64 x (4294967295:Int))*(andI .u64 y (4294967295:Int)))) (32:Int)))) (32:Int))))+(shrI .u64 (IntKind.wrap .u64 ((andI .u64 (IntKind.wrap .u64 ((IntKind.wrap .u64 ((shrI .u64 x (32:Int))*(andI .u64 y (4294967295:Int))))+(shrI .u64 (IntKind.wrap .u64 ((andI .u64 x (4294967295:Int))*(andI .u64 y (4294967295:Int)))) (32:Int)))) (4294967295:Int))+(IntKind.wrap .u64 ((andI .u64 x (4294967295:Int))*(shrI .u64 y (32:Int)))))) (32:Int)))),(IntKind.wrap .u64 (x*y))):=by kernel_rfl
end Go.Proofs.YtojobamheigpbaaGreat
