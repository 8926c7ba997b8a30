/- Trees, printed by program. -/
import Derived.Test.YtagnkfbpgkckiaaGreatDoorTr0
import Derived.KernelRfl
set_option linter.unusedVariables false
namespace Go.Proofs.YtagnkfbpgkckiaaGreatDoor
open Go.Flat
theorem z0w (n:Nat) (a:a0r) (b:a0r):v0k (n+1) a b =
 a0a (s0s n ) fun r0 =>
 tif ((!r0)) (
 some false) (
 a0a (t0t n a) fun r1 =>
 tif ((decide (r1=0))) (
 some true) (
 a0a (t0t n b) fun r2 =>
 tif ((decide (r2=0))) (
 some true) (
 tif ((!((decide (a.1.1=b.1.1))&&((decide (a.1.2.1.1=b.1.2.1.1))&&((decide (a.1.2.1.2.1=b.1.2.1.2.1))&&((decide (a.1.2.1.2.2=b.1.2.1.2.2))&&((decide (a.1.2.2.1.1=b.1.2.2.1.1))&&((decide (a.1.2.2.1.2.1=b.1.2.2.1.2.1))&&((decide (a.1.2.2.1.2.2=b.1.2.2.1.2.2))&&((decide (a.1.2.2.2.1=b.1.2.2.2.1))&&(decide (a.1.2.2.2.2=b.1.2.2.2.2)))))))))))) (
 some true) (
 a0a (h0x n a) fun r3 =>
 tif ((!(decide (r3=0)))) (
 some true) (
 a0a (h0x n b) fun r4 =>
 tif ((!(decide (r4=0)))) (
 some true) (
 tif ((decide ((64:Int)<a.1.1))) (
 some true) (
 a0a (l0b n a) fun r5 =>
 a0a (l0b n b) fun r6 =>
 tif ((!(decide (r5.2=0)))) (
 some false) (
 tif ((!(decide (r6.2=0)))) (
 some false) (
 tif ((!(decide ((((List.length r5.1):Nat):Int)=(((List.length r6.1):Nat):Int))))) (
 some false) (
 a0a (b1c n r5.1 r6.1 (0:Int)) fun r7 =>
 a0a (g0b n a0b (a,(b,(r5.1,(r6.1,(r7,((((List.length r7):Nat):Int),(0,())))))))) fun r8 =>
 b0z (fun y9 =>
 a0a (d1x n y9.2.2.1) fun r10 =>
 a0a (m1y n y9.2.2.1 y9.2.2.2.1) fun r11 =>
 tif (r11) (
 tif ((decide (r10.2=0))) (
 a0a (d1o n r10.1 y9.2.1) fun r12 =>
 tif (r12) (
 a0a (d1o n y9.1 y9.2.1) fun r13 =>
 some ((decide ((((List.length y9.2.2.2.2.1):Nat):Int)=0))==r13)) (
 some false)) (
 some false)) (
 some false)) (fun z14 =>
 some z14) r8)))))))))):=by kernel_rfl
theorem k0n (n f:Nat) (a_:a0r) (b_:a0r) (l:(List (List UInt8))) (m:(List (List UInt8))) (d:(List (Int×List UInt8))) (s74:Int) (s75:Int):g0b n (f+1) (a_,b_,l,m,d,s74,s75,()) =
 tif ((decide (s75<s74))) (
 a0a (at? d s75) fun r0 =>
 a0a ((d)[(Int.toNat s75)]?) fun r1 =>
 tif ((decide (r1.1<0))) (
 some (.inr false)) (
 tif ((decide ((((List.length l):Nat):Int)≤r1.1))) (
 some (.inr false)) (
 a0a (at? l r1.1) fun r2 =>
 a0a ((l)[(Int.toNat r1.1)]?) fun r3 =>
 tif ((r3==r1.2)) (
 some (.inr false)) (
 a0a (at? l r1.1) fun r4 =>
 a0a ((l)[(Int.toNat r1.1)]?) fun r5 =>
 g0b n f (a_,(b_,((List.set l (Int.toNat r1.1) r1.2),(m,(d,(s74,((IntKind.wrap .i64 (s75+1)),()))))))))))) (
 some (.inl (a_,(b_,(l,(m,(d,()))))))):=by kernel_rfl
theorem e1l (n:Nat)  : s0s (n+1)  =
 a0a (i2m n ) fun r0 =>
 a0a (f2s n r0) fun r1 =>
 tif ((!(decide (r1.2=0)))) (
 some false) (
 a0a (p1s n r1.1 ((((97:UInt8)::[]),[])::[]) (2,(1,(0,false)))) fun r2 =>
 a0a (l0b n r2.1) fun r3 =>
 a0a (l1r n r2.1 [] (1:Int) (0:Int) (10:Int)) fun r4 =>
 tif ((decide (r2.2=0))) (
 tif ((decide ((((List.length r3.1):Nat):Int)=25))) (
 tif ((decide (r3.2=0))) (
 tif ((decide (r4.1.2.1=1))) (
 tif ((decide (r4.1.2.2.1=1))) (
 some (decide (r4.2=0))) (
 some false)) (
 some false)) (
 some false)) (
 some false)) (
 some false)):=by kernel_rfl
theorem s1l (n:Nat) (s:a0r):t0t (n+1) s =
 tif ((decide ((8:Int)<(((List.length s.2.2.2):Nat):Int)))) (
 some (0:Int)) (
 a0a (k0w n a0b (s.2.2.2,((((List.length s.2.2.2):Nat):Int),(0,())))) fun r0 =>
 b0z (fun y1 =>
 some (1:Int)) (fun z2 =>
 some z2) r0):=by kernel_rfl
theorem t0s (n f:Nat) (s10:(List b0k)) (s11:Int) (s12:Int):k0w n (f+1) (s10,s11,s12,()) =
 tif ((decide (s12<s11))) (
 a0a (at? s10 s12) fun r0 =>
 a0a (z0b n r0) fun r1 =>
 tif ((decide (r1=0))) (
 some (.inr (0:Int))) (
 k0w n f (s10,(s11,((IntKind.wrap .i64 (s12+1)),()))))) (
 some (.inl ())):=by kernel_rfl
theorem q1t (n:Nat) (s:a0r):h0x (n+1) s =
 a0a (x0x n s) fun r0 =>
 tif ((!(decide (r0.2=0)))) (
 some (2:Int)) (
 a0a (o0v n r0.1) fun r1 =>
 tif ((!r1)) (
 some (2:Int)) (
 a0a (f0v n r0.1 (fun y2=>f0h n y2.1 r0.1)) fun r3 =>
 tif ((decide ((0:Int)≤r3))) (
 some (2:Int)) (
 some (0:Int)))):=by kernel_rfl
theorem w1g (n:Nat) (s:a0r) (a:TAsk):d1r (n+1) s a =
 a0a (f1k n s a.1) fun r0 =>
 tif ((!(decide (r0=0)))) (
 some ((0,((0,((0,(0,(0,false))),((0,(0,(0,false))),((0,0),(0,(0,0)))))),(((0,0),(0,0)),0))),r0)) (
 a0a (u0s n s a.2.1 a.2.2.1 a.2.2.2) fun r1 =>
 tif ((!(decide (r1.2=0)))) (
 some ((0,((0,((0,(0,(0,false))),((0,(0,(0,false))),((0,0),(0,(0,0)))))),(((0,0),(0,0)),0))),r1.2)) (
 a0a (m1z n s a (IntKind.wrap .i64 (r1.1-1))) fun r2 =>
 tif ((!(decide (r2.2=0)))) (
 some ((0,((0,((0,(0,(0,false))),((0,(0,(0,false))),((0,0),(0,(0,0)))))),(((0,0),(0,0)),0))),r2.2)) (
 a0a (a1n n r2.1) fun r3 =>
 some ((r1.1,(r2.1,r3)),0)))):=by kernel_rfl
theorem z0a (n:Nat) (a:(List (List UInt8×List UInt8))) (b:(List (List UInt8×List UInt8))):p0x (n+1) a b =
 a0a (o0y n a b) fun r0 =>
 some r0:=by kernel_rfl
theorem p1v (n:Nat) (a:(Int×Int)) (b:(Int×Int)):m0m (n+1) a b =
 tif ((decide (a.1<b.1))) (
 some true) (
 tif ((decide (a.1=b.1))) (
 some (decide (a.2<b.2))) (
 some false)):=by kernel_rfl
theorem s1x (n:Nat) (s:a0r):l0b (n+1) s =
 a0a (x0f n s) fun r0 =>
 a0a (o0n n a0b (s,(r0.2,((r0.1::[]),(0,()))))) fun r1 =>
 b0z (fun y2 =>
 tif ((!(decide (y2.1=0)))) (
 some ([],y2.1)) (
 some (y2.2.1,0))) (fun z3 =>
 some z3) r1:=by kernel_rfl
theorem n0p (n f:Nat) (s_:a0r) (why:Int) (out:(List (List UInt8))) (i:Int):o0n n (f+1) (s_,why,out,i,()) =
 tif ((decide (why=0))) (
 tif ((decide (i<(((List.length s_.2.2.2):Nat):Int)))) (
 a0a (at? s_.2.2.2 i) fun r0 =>
 a0a (x0g n s_.1 r0) fun r1 =>
 tif ((decide ((((List.length out)+(List.length r1.1))*16)≤140737488355328))) (
 o0n n f (s_,(r1.2,((out++r1.1),((IntKind.wrap .i64 (i+1)),()))))) (
 none)) (
 some (.inl (why,(out,()))))) (
 some (.inl (why,(out,())))):=by kernel_rfl
theorem o1g (n:Nat) (a:(List (List UInt8))) (b:(List (List UInt8))) (from_:Int):b1c (n+1) a b from_ =
 a0a (g0z n a0b (a,(from_,([],(b,((((List.length b):Nat):Int),(0,()))))))) fun r0 =>
 b0z (fun y1 =>
 some y1.1) (fun z2 =>
 some z2) r0:=by kernel_rfl
theorem s0l (n f:Nat) (a:(List (List UInt8))) (from_:Int) (out:(List (Int×List UInt8))) (s10:(List (List UInt8))) (s11:Int) (s12:Int):g0z n (f+1) (a,from_,out,s10,s11,s12,()) =
 tif ((decide (s12<s11))) (
 a0a (at? s10 s12) fun r0 =>
 tif ((decide ((((List.length a):Nat):Int)≤s12))) (
 tif ((decide ((((List.length out)+1)*24)≤140737488355328))) (
 g0z n f (a,(from_,((out++(((IntKind.wrap .i64 (from_+s12)),r0)::[])),(s10,(s11,((IntKind.wrap .i64 (s12+1)),()))))))) (
 none)) (
 a0a (at? a s12) fun r1 =>
 tif ((!(r1==r0))) (
 tif ((decide ((((List.length out)+1)*24)≤140737488355328))) (
 g0z n f (a,(from_,((out++(((IntKind.wrap .i64 (from_+s12)),r0)::[])),(s10,(s11,((IntKind.wrap .i64 (s12+1)),()))))))) (
 none)) (
 g0z n f (a,(from_,(out,(s10,(s11,((IntKind.wrap .i64 (s12+1)),()))))))))) (
 some (.inl (out,()))):=by kernel_rfl
theorem w1d (n:Nat) (a:(List (List UInt8))) (b:(List (List UInt8))):m1y (n+1) a b =
 tif ((!(decide ((((List.length a):Nat):Int)=(((List.length b):Nat):Int))))) (
 some false) (
 a0a (r0j n a0b (a,(b,((((List.length a):Nat):Int),(0,()))))) fun r0 =>
 b0z (fun y1 =>
 some true) (fun z2 =>
 some z2) r0):=by kernel_rfl
theorem v0u (n f:Nat) (a:(List (List UInt8))) (b:(List (List UInt8))) (s12:Int) (s13:Int):r0j n (f+1) (a,b,s12,s13,()) =
 tif ((decide (s13<s12))) (
 a0a (at? a s13) fun r0 =>
 a0a (at? b s13) fun r1 =>
 tif ((!(r0==r1))) (
 some (.inr false)) (
 r0j n f (a,(b,(s12,((IntKind.wrap .i64 (s13+1)),())))))) (
 some (.inl ())):=by kernel_rfl
theorem v1e (n:Nat) (a:a0r) (b:a0r):d1o (n+1) a b =
 tif (((decide (a.1.1=b.1.1))&&((decide (a.1.2.1.1=b.1.2.1.1))&&((decide (a.1.2.1.2.1=b.1.2.1.2.1))&&((decide (a.1.2.1.2.2=b.1.2.1.2.2))&&((decide (a.1.2.2.1.1=b.1.2.2.1.1))&&((decide (a.1.2.2.1.2.1=b.1.2.2.1.2.1))&&((decide (a.1.2.2.1.2.2=b.1.2.2.1.2.2))&&((decide (a.1.2.2.2.1=b.1.2.2.2.1))&&(decide (a.1.2.2.2.2=b.1.2.2.2.2))))))))))) (
 tif ((decide (a.2.1=b.2.1))) (
 tif ((decide (a.2.2.1=b.2.2.1))) (
 a0a (d0f n a.2.2.2 b.2.2.2 (fun y0=>d0t n y0.1 y0.2.1)) fun r1 =>
 some r1) (
 some false)) (
 some false)) (
 some false):=by kernel_rfl
theorem s1o (n:Nat) (l:(List (List UInt8×List UInt8))):z0c (n+1) l =
 a0a (k0x n a0b (l,((((List.length l):Nat):Int),(0,())))) fun r0 =>
 b0z (fun y1 =>
 some (1:Int)) (fun z2 =>
 some z2) r0:=by kernel_rfl
theorem t0u (n f:Nat) (s5:(List (List UInt8×List UInt8))) (s6:Int) (s7:Int):k0x n (f+1) (s5,s6,s7,()) =
 tif ((decide (s7<s6))) (
 a0a (at? s5 s7) fun r0 =>
 tif ((decide (s7=40))) (
 some (.inr (0:Int))) (
 tif ((decide ((1000:Int)<(((List.length r0.1):Nat):Int)))) (
 some (.inr (0:Int))) (
 tif ((decide ((1000:Int)<(((List.length r0.2):Nat):Int)))) (
 some (.inr (0:Int))) (
 k0x n f (s5,(s6,((IntKind.wrap .i64 (s7+1)),()))))))) (
 some (.inl ())):=by kernel_rfl
theorem u1t (n:Nat) (s:a0r) (ms:(List (Int×(List UInt8×List UInt8)))) (tier:Int) (from_:Int) (to:Int):l1r (n+1) s ms tier from_ to =
 a0a (w0h n s ms tier from_ to) fun r0 =>
 tif ((!(decide (r0.2.2=0)))) (
 some ((0,(0,(0,((0,0),(0,(0,0)))))),r0.2.2)) (
 a0a (m0n n a0b ((0,(0,(0,((0,0),(0,(0,0)))))),(r0.2.1,((r0.2.1,(0,(0,((0,0),(0,(0,0)))))),(r0.1,((((List.length r0.1):Nat):Int),(0,()))))))) fun r1 =>
 b0z (fun y2 =>
 some (y2.2.1,0)) (fun z3 =>
 some z3) r1):=by kernel_rfl
theorem v0j (n f:Nat) (s10:o0s) (k:Int) (sum:o0s) (s34:(List i0l)) (s35:Int) (s36:Int):m0n n (f+1) (s10,k,sum,s34,s35,s36,()) =
 tif ((decide (s36<s35))) (
 a0a (at? s34 s36) fun r0 =>
 a0a ((s34)[(Int.toNat s36)]?) fun r1 =>
 a0a (q1g n k r1.2.2.1) fun r2 =>
 a0a (x0r n sum r2) fun r3 =>
 tif ((!(decide (r3.2=0)))) (
 some (.inr ((0,(0,(0,((0,0),(0,(0,0)))))),r3.2))) (
 m0n n f (s10,(k,(r3.1,(s34,(s35,((IntKind.wrap .i64 (s36+1)),())))))))) (
 some (.inl (s10,(sum,())))):=by kernel_rfl
theorem s1m (n:Nat) (s:b0k):z0b (n+1) s =
 a0a (z0c n s.1) fun r0 =>
 tif ((decide (r0=0))) (
 some (0:Int)) (
 tif ((decide ((60:Int)<(((List.length s.2.2.1.2.2):Nat):Int)))) (
 some (0:Int)) (
 a0a (g1c n s.2.2.2.1) fun r1 =>
 some r1)):=by kernel_rfl
theorem v1d (n:Nat) (s:a0r):x0x (n+1) s =
 a0a (e0b n s.1) fun r0 =>
 tif ((!(decide (r0=0)))) (
 some (((0,((0,(0,0)),((0,(0,0)),(0,0)))),(0,(0,[]))),2)) (
 tif ((!(decide ((((List.length s.2.2.2):Nat):Int)=s.1.2.2.2.1)))) (
 some (((0,((0,(0,0)),((0,(0,0)),(0,0)))),(0,(0,[]))),2)) (
 some (s,0))):=by kernel_rfl
theorem a1c (n:Nat) (v:a0r):o0v (n+1) v =
 a0a (d1n n v.2.1) fun r0 =>
 tif (r0) (
 tif ((decide (v.2.2.1=((-1):Int)))) (
 some (decide (v.2.2.1≤v.2.1))) (
 a0a (d1n n v.2.2.1) fun r1 =>
 tif (r1) (
 some (decide (v.2.2.1≤v.2.1))) (
 some false))) (
 some false):=by kernel_rfl
theorem a1a (n:Nat) (v:a0r) (is:((Int×Unit)→Option Bool)):f0v (n+1) v is =
 a0a (d0a n a0b (is,((((List.length v.2.2.2):Nat):Int),(0,())))) fun r0 =>
 b0z (fun y1 =>
 some ((-1):Int)) (fun z2 =>
 some z2) r0:=by kernel_rfl
theorem l0l (n f:Nat) (is:((Int×Unit)→Option Bool)) (s9:Int) (s10:Int):d0a n (f+1) (is,s9,s10,()) =
 tif ((decide (s10<s9))) (
 a0a (is (s10,())) fun r0 =>
 tif (r0) (
 some (.inr s10)) (
 d0a n f (is,(s9,((IntKind.wrap .i64 (s10+1)),()))))) (
 some (.inl ())):=by kernel_rfl
theorem h1w (n:Nat) (i:Int) (p1:a0r):f0h (n+1) i p1 =
 a0a (o0u n p1 i) fun r0 =>
 some (!r0):=by kernel_rfl
theorem z0z (n:Nat) (v:a0r) (i:Int):o0u (n+1) v i =
 a0a (at? v.2.2.2 i) fun r0 =>
 a0a (x0y n r0) fun r1 =>
 tif (r1) (
 some true) (
 a0a (o0e n v.1 r0) fun r2 =>
 tif ((decide (r2=0))) (
 tif ((decide ((0:Int)≤r0.2.1))) (
 a0a (q0u n v) fun r3 =>
 tif ((decide (r0.2.1<(IntKind.wrap .i64 (r3+v.1.2.1.1))))) (
 a0a (q0t n v i) fun r4 =>
 some (!r4)) (
 some false)) (
 some false)) (
 some false)):=by kernel_rfl
theorem h1u (n:Nat) (s:a0r) (ms:(List (Int×(List UInt8×List UInt8)))) (tier:Int) (from_:Int) (to:Int):w0h (n+1) s ms tier from_ to =
 a0a (h0x n s) fun r0 =>
 tif ((!(decide (r0=0)))) (
 some ([],(0,2))) (
 a0a (w0s n ms) fun r1 =>
 tif ((!(decide (r1=0)))) (
 some ([],(0,2))) (
 a0a (u0s n s tier from_ to) fun r2 =>
 tif ((!(decide (r2.2=0)))) (
 some ([],(0,r2.2))) (
 a0a (m1a n s) fun r3 =>
 a0a (f0u n a0b (ms,(from_,(to,(s,(r2.1,([],(r3,((((List.length r3):Nat):Int),(0,())))))))))) fun r4 =>
 b0z (fun y5 =>
 some (y5.2.1,(y5.1,0))) (fun z6 =>
 some z6) r4))):=by kernel_rfl
theorem p0k (n f:Nat) (ms:(List (Int×(List UInt8×List UInt8)))) (from_:Int) (to:Int) (s_:a0r) (k:Int) (out:(List i0l)) (s41:(List Int)) (s42:Int) (s43:Int):f0u n (f+1) (ms,from_,to,s_,k,out,s41,s42,s43,()) =
 tif ((decide (s43<s42))) (
 a0a (at? s41 s43) fun r0 =>
 a0a ((s41)[(Int.toNat s43)]?) fun r1 =>
 a0a (at? s_.2.2.2 r1) fun r2 =>
 a0a (f1x n ms r2.1) fun r3 =>
 tif ((!r3)) (
 f0u n f (ms,(from_,(to,(s_,(k,(out,(s41,(s42,((IntKind.wrap .i64 (s43+1)),())))))))))) (
 a0a (d1r n s_ (r2.1,(k,(from_,to)))) fun r4 =>
 tif ((!(decide (r4.2=0)))) (
 some (.inr ([],(0,r4.2)))) (
 tif ((decide ((0:Int)<r4.1.2.1.1))) (
 tif ((decide ((((List.length out)+1)*184)≤140737488355328))) (
 f0u n f (ms,(from_,(to,(s_,(k,((out++((r2.1,r4.1)::[])),(s41,(s42,((IntKind.wrap .i64 (s43+1)),())))))))))) (
 none)) (
 f0u n f (ms,(from_,(to,(s_,(k,(out,(s41,(s42,((IntKind.wrap .i64 (s43+1)),()))))))))))))) (
 some (.inl (k,(out,())))):=by kernel_rfl
theorem r1m (n:Nat) (s:a0r) (l:(List (List UInt8×List UInt8))):f1k (n+1) s l =
 a0a (h0x n s) fun r0 =>
 tif ((!(decide (r0=0)))) (
 some r0) (
 a0a (i0h n l) fun r1 =>
 some r1):=by kernel_rfl
theorem n1d (n:Nat) (s:a0r) (tier:Int) (from_:Int) (to:Int):u0s (n+1) s tier from_ to =
 a0a (h0x n s) fun r0 =>
 tif ((!(decide (r0=0)))) (
 some (0,r0)) (
 tif ((decide (tier<0))) (
 some (0,1)) (
 tif ((decide ((3:Int)<tier))) (
 some (0,1)) (
 tif ((decide (tier=0))) (
 a0a (n0h n s from_ to) fun r1 =>
 some r1) (
 a0a (y0q n s tier from_ to) fun r2 =>
 tif ((!(decide (r2=0)))) (
 some (0,r2)) (
 some (tier,0)))))):=by kernel_rfl
theorem w1f (n:Nat) (s:a0r) (a:TAsk) (k:Int):m1z (n+1) s a k =
 a0a (m1c n s a.1) fun r0 =>
 tif ((!(decide (r0.2=0)))) (
 some ((0,((0,(0,(0,false))),((0,(0,(0,false))),((0,0),(0,(0,0)))))),0)) (
 tif ((decide (k=0))) (
 a0a (i0u n a.2.2.1 a.2.2.2 s.1.2.1.1) fun r1 =>
 tif ((!(decide (r1.2.2=0)))) (
 some ((0,((0,(0,(0,false))),((0,(0,(0,false))),((0,0),(0,(0,0)))))),r1.2.2)) (
 a0a (at? s.2.2.2 r0.1) fun r2 =>
 a0a (e0g n s.1 r2 k r1.1 r1.2.1) fun r3 =>
 some r3)) (
 tif ((decide (k=1))) (
 a0a (i0u n a.2.2.1 a.2.2.2 s.1.2.1.2.1) fun r4 =>
 tif ((!(decide (r4.2.2=0)))) (
 some ((0,((0,(0,(0,false))),((0,(0,(0,false))),((0,0),(0,(0,0)))))),r4.2.2)) (
 a0a (at? s.2.2.2 r0.1) fun r5 =>
 a0a (e0g n s.1 r5 k r4.1 r4.2.1) fun r6 =>
 some r6)) (
 tif ((decide (k=2))) (
 a0a (i0u n a.2.2.1 a.2.2.2 s.1.2.1.2.2) fun r7 =>
 tif ((!(decide (r7.2.2=0)))) (
 some ((0,((0,(0,(0,false))),((0,(0,(0,false))),((0,0),(0,(0,0)))))),r7.2.2)) (
 a0a (at? s.2.2.2 r0.1) fun r8 =>
 a0a (e0g n s.1 r8 k r7.1 r7.2.1) fun r9 =>
 some r9)) (
 none)))):=by kernel_rfl
theorem n1e (n:Nat) (c:d0n):a1n (n+1) c =
 tif ((decide (c.2.2.2.2.2.2<1))) (
 some (((0,0),(0,0)),12)) (
 a0a (a1k n c.2.2.2.1 (IntKind.wrap .u64 c.2.2.2.2.2.2)) fun r0 =>
 some r0):=by kernel_rfl
theorem a1d (n:Nat) (s1:(List (List UInt8×List UInt8))) (s2:(List (List UInt8×List UInt8))):o0y (n+1) s1 s2 =
 tif ((!(decide ((((List.length s1):Nat):Int)=(((List.length s2):Nat):Int))))) (
 some false) (
 a0a (g0t n a0b (s1,(s2,((((List.length s1):Nat):Int),(0,()))))) fun r0 =>
 b0z (fun y1 =>
 some true) (fun z2 =>
 some z2) r0):=by kernel_rfl
theorem l0o (n f:Nat) (s1:(List (List UInt8×List UInt8))) (s2:(List (List UInt8×List UInt8))) (s12:Int) (s13:Int):g0t n (f+1) (s1,s2,s12,s13,()) =
 tif ((decide (s13<s12))) (
 a0a (at? s1 s13) fun r0 =>
 a0a (at? s2 s13) fun r1 =>
 tif ((!((r0.1==r1.1)&&(r0.2==r1.2)))) (
 some (.inr false)) (
 g0t n f (s1,(s2,(s12,((IntKind.wrap .i64 (s13+1)),())))))) (
 some (.inl ())):=by kernel_rfl
theorem i1u (n:Nat) (s:a0r):x0f (n+1) s =
 a0a (h0x n s) fun r0 =>
 tif ((!(decide (r0=0)))) (
 some ([],r0)) (
 a0a (b1h n s.1) fun r1 =>
 tif ((decide ((8+(List.length r1))≤9223372036854775807))) (
 a0a (e0c n [] (((112:UInt8)::((108:UInt8)::((105:UInt8)::((109:UInt8)::((115:UInt8)::((111:UInt8)::((108:UInt8)::((108:UInt8)::[]))))))))++r1)) fun r2 =>
 a0a (n0n n r2 (s.2.1::((IntKind.wrap .i64 (s.2.2.1+1))::[]))) fun r3 =>
 a0a (c0u n r3) fun r4 =>
 a0a (g0k n r4.1 (512:Int)) fun r5 =>
 some (r5,0)) (
 none)):=by kernel_rfl
theorem i1v (n:Nat) (c:c0e) (x:b0k):x0g (n+1) c x =
 a0a (e0b n c) fun r0 =>
 tif ((!(decide (r0=0)))) (
 some ([],2)) (
 a0a (x0e n x) fun r1 =>
 tif (r1) (
 a0a (g0k n [] (512:Int)) fun r2 =>
 a0a (q0h n c) fun r3 =>
 a0a (l0e n (r2::[]) r3) fun r4 =>
 some (r4,0)) (
 a0a (o0e n c x) fun r5 =>
 tif ((!(decide (r5=0)))) (
 some ([],2)) (
 a0a (x0d n x) fun r6 =>
 tif ((!(decide (r6.2=0)))) (
 some ([],r6.2)) (
 a0a (w0z n x.2.2.1 c.1) fun r7 =>
 a0a (n0o n (r6.1::[]) r7 (16:Int) (fun y8=>r0v n y8.1)) fun r9 =>
 a0a (e0z n a0b (r9,(x.2.2.2.1,(0,())))) fun r10 =>
 b0z (fun y11 =>
 some (y11.1,0)) (fun z12 =>
 some z12) r10)))):=by kernel_rfl
theorem g0e (n f:Nat) (out:(List (List UInt8))) (s45:((List a0c)×((List a0c)×(List a0c)))) (s46:Int):e0z n (f+1) (out,s45,s46,()) =
 tif ((decide (s46<3))) (
 tif ((decide (s46=0))) (
 a0a (i0b n out s45.1 (4:Int) (fun y0=>j0y n y0.1)) fun r1 =>
 e0z n f (r1,(s45,((IntKind.wrap .i64 (s46+1)),())))) (
 tif ((decide (s46=1))) (
 a0a (i0b n out s45.2.1 (4:Int) (fun y2=>j0y n y2.1)) fun r3 =>
 e0z n f (r3,(s45,((IntKind.wrap .i64 (s46+1)),())))) (
 tif ((decide (s46=2))) (
 a0a (i0b n out s45.2.2 (4:Int) (fun y4=>j0y n y4.1)) fun r5 =>
 e0z n f (r5,(s45,((IntKind.wrap .i64 (s46+1)),())))) (
 none)))) (
 some (.inl (out,()))):=by kernel_rfl
theorem i1p (n:Nat) (l:(List (List UInt8))):w0y (n+1) l =
 tif ((decide ((0:Int)<(((List.length l):Nat):Int)))) (
 a0a (j0k n l (fun y0=>l0x n y0.1)) fun r1 =>
 some (!r1)) (
 some false):=by kernel_rfl
theorem t1q (n:Nat) (s:List UInt8):t0z (n+1) s =
 a0a (k0b n s) fun r0 =>
 a0a (a0e n r0 (4:Int)) fun r1 =>
 a0a (a0e n r1.2 (8:Int)) fun r2 =>
 a0a (a0e n r2.2 (8:Int)) fun r3 =>
 a0a (a0e n r3.2 (8:Int)) fun r4 =>
 a0a (a0e n r4.2 (4:Int)) fun r5 =>
 a0a (a0e n r5.2 (4:Int)) fun r6 =>
 a0a (a0e n r6.2 (4:Int)) fun r7 =>
 a0a (a0e n r7.2 (4:Int)) fun r8 =>
 a0a (a0e n r8.2 (4:Int)) fun r9 =>
 a0a (a0e n r9.2 (8:Int)) fun r10 =>
 tif ((!(decide (r10.1=0)))) (
 some ((0,((0,(0,0)),((0,(0,0)),(0,0)))),4)) (
 a0a (i0g n r10.2) fun r11 =>
 tif (r11) (
 some ((0,((0,(0,0)),((0,(0,0)),(0,0)))),4)) (
 a0a (k0a n r10.2) fun r12 =>
 tif ((decide ((0:Int)<r12))) (
 some ((0,((0,(0,0)),((0,(0,0)),(0,0)))),4)) (
 a0a (e0b n ((IntKind.wrap .i64 r1.1),(((IntKind.wrap .i64 r2.1),((IntKind.wrap .i64 r3.1),(IntKind.wrap .i64 r4.1))),(((IntKind.wrap .i64 r5.1),((IntKind.wrap .i64 r6.1),(IntKind.wrap .i64 r7.1))),((IntKind.wrap .i64 r8.1),(IntKind.wrap .i64 r9.1)))))) fun r13 =>
 tif ((!(decide (r13=0)))) (
 some ((0,((0,(0,0)),((0,(0,0)),(0,0)))),4)) (
 some (((IntKind.wrap .i64 r1.1),(((IntKind.wrap .i64 r2.1),((IntKind.wrap .i64 r3.1),(IntKind.wrap .i64 r4.1))),(((IntKind.wrap .i64 r5.1),((IntKind.wrap .i64 r6.1),(IntKind.wrap .i64 r7.1))),((IntKind.wrap .i64 r8.1),(IntKind.wrap .i64 r9.1))))),0))))):=by kernel_rfl
theorem p1d (n:Nat) (c:c0e):q0h (n+1) c =
 a0a (e0b n c) fun r0 =>
 tif ((!(decide (r0=0)))) (
 some (0:Int)) (
 a0a (j0z n c) fun r1 =>
 some r1):=by kernel_rfl
theorem f0n (n:Nat) (s:List UInt8):k0b (n+1) s =
 some (s,false):=by kernel_rfl
theorem u0b (n:Nat) (r:(List UInt8×Bool)) (width:Int):a0e (n+1) r width =
 tif ((decide (width<1))) (
 a0a (b0u n r) fun r0 =>
 some ((0:Int),r0)) (
 tif ((decide ((8:Int)<width))) (
 a0a (b0u n r) fun r1 =>
 some ((0:Int),r1)) (
 a0a (e0d n r width) fun r2 =>
 a0a (c0k n a0b (r2.2,((0:Int),((List.map (fun y3=>(((UInt8.toNat y3):Nat):Int)) r2.1),((((List.length (List.map (fun y4=>(((UInt8.toNat y4):Nat):Int)) r2.1)):Nat):Int),((0:Int),())))))) fun r5 =>
 b0z (fun y6 =>
 some (y6.2.1,y6.1)) (fun z7 =>
 some z7) r5)):=by kernel_rfl
theorem i0s (n f:Nat) (r:(List UInt8×Bool)) (n_:Int) (s19:(List Int)) (s20:Int) (s21:Int):c0k n (f+1) (r,n_,s19,s20,s21,()) =
 tif ((decide (s21<s20))) (
 a0a (at? s19 s21) fun r0 =>
 c0k n f (r,((orI .u64 (shlI .u64 n_ (8:Int)) (IntKind.wrap .u64 r0)),(s19,(s20,((IntKind.wrap .i64 (s21+1)),())))))) (
 some (.inl (r,(n_,())))):=by kernel_rfl
theorem k0y (n:Nat) (p:b0c):e0i (n+1) p =
 a0a (c0i n p (1:Int) (1:Int)) fun r0 =>
 a0a (k0b n r0.1) fun r1 =>
 a0a (a0e n r1 (2:Int)) fun r2 =>
 tif ((decide ((IntKind.wrap .i64 r2.1)=0))) (
 some (([],(0,((0,(0,[])),(([],([],[])),(0,(0,((0,(0,(0,false))),((0,(0,(0,false))),((0,0),(0,(0,0))))))))))),r0.2)) (
 tif ((decide ((320:Int)<(IntKind.wrap .i64 r2.1)))) (
 some (([],(0,((0,(0,[])),(([],([],[])),(0,(0,((0,(0,(0,false))),((0,(0,(0,false))),((0,0),(0,(0,0))))))))))),r0.2)) (
 a0a (e0d n r2.2 (320:Int)) fun r3 =>
 tif (((decide ((0:Int)≤(IntKind.wrap .i64 r2.1)))&&(decide ((IntKind.wrap .i64 r2.1)≤(((List.length r3.1):Nat):Int))))) (
 a0a (d1w n (List.drop 0 (List.take (Int.toNat (IntKind.wrap .i64 r2.1)) r3.1))) fun r4 =>
 a0a (a0e n r3.2 (8:Int)) fun r5 =>
 a0a (a0e n r5.2 (8:Int)) fun r6 =>
 a0a (a0e n r6.2 (8:Int)) fun r7 =>
 a0a (a0e n r7.2 (2:Int)) fun r8 =>
 a0a (e0d n r8.2 (128:Int)) fun r9 =>
 a0a (k0j n r9.1) fun r10 =>
 a0a (n0m n r0.2 ((IntKind.wrap .i64 r6.1),((IntKind.wrap .i64 r7.1),[])) (IntKind.wrap .i64 r8.1)) fun r11 =>
 a0a (a0s n a0b (r11.2,(([],(0,((0,(0,[])),(([],([],[])),(0,(0,((0,(0,(0,false))),((0,(0,(0,false))),((0,0),(0,(0,0))))))))))),((r4.1,((IntKind.wrap .i64 r5.1),(r11.1,(([],([],[])),r10)))),(r11.2.1.2.2.1,(0,())))))) fun r12 =>
 b0z (fun y13 =>
 some (y13.2.2.1,y13.1)) (fun z14 =>
 some z14) r12) (
 none))):=by kernel_rfl
theorem d0d (n f:Nat) (p:b0c) (s2:b0k) (x:b0k) (s63:(Int×(Int×Int))) (s64:Int):a0s n (f+1) (p,s2,x,s63,s64,()) =
 tif ((decide (s64<3))) (
 tif ((decide (s64=0))) (
 a0a (f0t n p s63.1) fun r0 =>
 tif ((decide (s64=0))) (
 a0s n f (r0.2,(s2,((x.1,(x.2.1,(x.2.2.1,((r0.1,x.2.2.2.1.2),x.2.2.2.2)))),(s63,((IntKind.wrap .i64 (s64+1)),())))))) (
 tif ((decide (s64=1))) (
 a0s n f (r0.2,(s2,((x.1,(x.2.1,(x.2.2.1,((x.2.2.2.1.1,(r0.1,x.2.2.2.1.2.2)),x.2.2.2.2)))),(s63,((IntKind.wrap .i64 (s64+1)),())))))) (
 tif ((decide (s64=2))) (
 a0s n f (r0.2,(s2,((x.1,(x.2.1,(x.2.2.1,((x.2.2.2.1.1,(x.2.2.2.1.2.1,r0.1)),x.2.2.2.2)))),(s63,((IntKind.wrap .i64 (s64+1)),())))))) (
 none)))) (
 tif ((decide (s64=1))) (
 a0a (f0t n p s63.2.1) fun r1 =>
 tif ((decide (s64=0))) (
 a0s n f (r1.2,(s2,((x.1,(x.2.1,(x.2.2.1,((r1.1,x.2.2.2.1.2),x.2.2.2.2)))),(s63,((IntKind.wrap .i64 (s64+1)),())))))) (
 tif ((decide (s64=1))) (
 a0s n f (r1.2,(s2,((x.1,(x.2.1,(x.2.2.1,((x.2.2.2.1.1,(r1.1,x.2.2.2.1.2.2)),x.2.2.2.2)))),(s63,((IntKind.wrap .i64 (s64+1)),())))))) (
 tif ((decide (s64=2))) (
 a0s n f (r1.2,(s2,((x.1,(x.2.1,(x.2.2.1,((x.2.2.2.1.1,(x.2.2.2.1.2.1,r1.1)),x.2.2.2.2)))),(s63,((IntKind.wrap .i64 (s64+1)),())))))) (
 none)))) (
 tif ((decide (s64=2))) (
 a0a (f0t n p s63.2.2) fun r2 =>
 tif ((decide (s64=0))) (
 a0s n f (r2.2,(s2,((x.1,(x.2.1,(x.2.2.1,((r2.1,x.2.2.2.1.2),x.2.2.2.2)))),(s63,((IntKind.wrap .i64 (s64+1)),())))))) (
 tif ((decide (s64=1))) (
 a0s n f (r2.2,(s2,((x.1,(x.2.1,(x.2.2.1,((x.2.2.2.1.1,(r2.1,x.2.2.2.1.2.2)),x.2.2.2.2)))),(s63,((IntKind.wrap .i64 (s64+1)),())))))) (
 tif ((decide (s64=2))) (
 a0s n f (r2.2,(s2,((x.1,(x.2.1,(x.2.2.1,((x.2.2.2.1.1,(x.2.2.2.1.2.1,r2.1)),x.2.2.2.2)))),(s63,((IntKind.wrap .i64 (s64+1)),())))))) (
 none)))) (
 none)))) (
 some (.inl (p,(s2,(x,()))))):=by kernel_rfl
theorem y0h (n:Nat) (s1:(List (List UInt8))) (s2:(List (List UInt8))):i0y (n+1) s1 s2 =
 tif ((!(decide ((((List.length s1):Nat):Int)=(((List.length s2):Nat):Int))))) (
 some false) (
 a0a (g0c n a0b (s1,(s2,((((List.length s1):Nat):Int),(0,()))))) fun r0 =>
 b0z (fun y1 =>
 some true) (fun z2 =>
 some z2) r0):=by kernel_rfl
theorem k0r (n f:Nat) (s1:(List (List UInt8))) (s2:(List (List UInt8))) (s12:Int) (s13:Int):g0c n (f+1) (s1,s2,s12,s13,()) =
 tif ((decide (s13<s12))) (
 a0a (at? s1 s13) fun r0 =>
 a0a (at? s2 s13) fun r1 =>
 tif ((!(r0==r1))) (
 some (.inr false)) (
 g0c n f (s1,(s2,(s12,((IntKind.wrap .i64 (s13+1)),())))))) (
 some (.inl ())):=by kernel_rfl
theorem q1s (n:Nat) (s:b0k):x0y (n+1) s =
 a0a (d0t n s ([],(0,((0,(0,[])),(([],([],[])),(0,(0,((0,(0,(0,false))),((0,(0,(0,false))),((0,0),(0,(0,0)))))))))))) fun r0 =>
 some r0:=by kernel_rfl
theorem f1c (n:Nat) (c:c0e) (s:b0k):o0e (n+1) c s =
 a0a (r0f n c s) fun r0 =>
 oelim (r0.1) (
 some r0.2) fun r1 =>
 some r0.2:=by kernel_rfl
theorem c1x (n:Nat) (v:a0r):q0u (n+1) v =
 tif ((decide (v.1.2.1.1=0))) (
 none) (
 some (IntKind.wrap .i64 (v.2.1-(Int.tmod v.2.1 v.1.2.1.1)))):=by kernel_rfl
theorem c1w (n:Nat) (v:a0r) (i:Int):q0t (n+1) v i =
 a0a (f0v n v (fun y0=>g0h n y0.1 i v)) fun r1 =>
 tif ((decide (r1<i))) (
 a0a (f0w n v i) fun r2 =>
 some r2) (
 some false):=by kernel_rfl
theorem i1h (n:Nat) (l:(List (Int×(List UInt8×List UInt8)))):w0s (n+1) l =
 tif ((decide ((16:Int)<(((List.length l):Nat):Int)))) (
 some (2:Int)) (
 a0a (d0o n l (fun y0=>r0q n y0.1)) fun r1 =>
 tif (r1) (
 some (2:Int)) (
 some (0:Int))):=by kernel_rfl
theorem v1f (n:Nat) (s:a0r):m1a (n+1) s =
 a0a (x0x n s) fun r0 =>
 tif ((!(decide (r0.2=0)))) (
 some []) (
 a0a (j0q n a0b (r0.1,([],((((List.length r0.1.2.2.2):Nat):Int),(0,()))))) fun r1 =>
 b0z (fun y2 =>
 some y2.1) (fun z3 =>
 some z3) r1):=by kernel_rfl
theorem v0l (n f:Nat) (v:a0r) (out:(List Int)) (s17:Int) (s18:Int):j0q n (f+1) (v,out,s17,s18,()) =
 tif ((decide (s18<s17))) (
 a0a (f0w n v s18) fun r0 =>
 tif (r0) (
 tif ((decide ((((List.length out)+1)*8)≤140737488355328))) (
 j0q n f (v,((out++(s18::[])),(s17,((IntKind.wrap .i64 (s18+1)),()))))) (
 none)) (
 j0q n f (v,(out,(s17,((IntKind.wrap .i64 (s18+1)),())))))) (
 some (.inl (out,()))):=by kernel_rfl
theorem s1f (n:Nat) (ms:(List (Int×(List UInt8×List UInt8)))) (l:(List (List UInt8×List UInt8))):f1x (n+1) ms l =
 a0a (d0o n ms (fun y0=>w0t n y0.1 l)) fun r1 =>
 some (!r1):=by kernel_rfl
theorem i1n (n:Nat) (l:(List (List UInt8×List UInt8))):i0h (n+1) l =
 tif ((decide ((((List.length l):Nat):Int)=0))) (
 some (8:Int)) (
 tif ((decide ((16:Int)<(((List.length l):Nat):Int)))) (
 some (8:Int)) (
 a0a (f0y n a0b (l,(256,(l,((((List.length l):Nat):Int),(0,())))))) fun r0 =>
 b0z (fun y1 =>
 some (0:Int)) (fun z2 =>
 some z2) r0)):=by kernel_rfl
theorem p0y (n f:Nat) (l:(List (List UInt8×List UInt8))) (left:Int) (s14:(List (List UInt8×List UInt8))) (s15:Int) (s16:Int):f0y n (f+1) (l,left,s14,s15,s16,()) =
 tif ((decide (s16<s15))) (
 a0a (at? s14 s16) fun r0 =>
 a0a (a1y n r0.1) fun r1 =>
 tif ((!r1)) (
 some (.inr (8:Int))) (
 tif ((decide ((128:Int)<(((List.length r0.2):Nat):Int)))) (
 some (.inr (8:Int))) (
 tif ((decide ((IntKind.wrap .i64 (left-(IntKind.wrap .i64 ((((List.length r0.1):Nat):Int)+(((List.length r0.2):Nat):Int)))))<0))) (
 some (.inr (8:Int))) (
 tif ((decide ((0:Int)<s16))) (
 a0a (at? l (IntKind.wrap .i64 (s16-1))) fun r2 =>
 tif ((!(Go.Op.bytesLess r2.1 r0.1))) (
 some (.inr (8:Int))) (
 f0y n f (l,((IntKind.wrap .i64 (left-(IntKind.wrap .i64 ((((List.length r0.1):Nat):Int)+(((List.length r0.2):Nat):Int))))),(s14,(s15,((IntKind.wrap .i64 (s16+1)),()))))))) (
 f0y n f (l,((IntKind.wrap .i64 (left-(IntKind.wrap .i64 ((((List.length r0.1):Nat):Int)+(((List.length r0.2):Nat):Int))))),(s14,(s15,((IntKind.wrap .i64 (s16+1)),())))))))))) (
 some (.inl ())):=by kernel_rfl
theorem y0o (n:Nat) (s:a0r) (from_:Int) (to:Int):n0h (n+1) s from_ to =
 a0a (d0i n a0b (from_,(to,(s,(10,(1,())))))) fun r0 =>
 b0z (fun y1 =>
 some (0,y1.1)) (fun z2 =>
 some z2) r0:=by kernel_rfl
theorem k0t (n f:Nat) (from_:Int) (to:Int) (s_:a0r) (why:Int) (tier:Int):d0i n (f+1) (from_,to,s_,why,tier,()) =
 tif ((decide (tier≤3))) (
 a0a (y0q n s_ tier from_ to) fun r0 =>
 tif ((decide (r0=0))) (
 some (.inr (tier,0))) (
 tif ((decide (r0=10))) (
 d0i n f (from_,(to,(s_,(why,((IntKind.wrap .i64 (tier+1)),())))))) (
 tif ((decide (r0=11))) (
 d0i n f (from_,(to,(s_,(r0,((IntKind.wrap .i64 (tier+1)),())))))) (
 some (.inr (0,r0)))))) (
 some (.inl (why,()))):=by kernel_rfl
theorem r1k (n:Nat) (s:a0r) (tier:Int) (from_:Int) (to:Int):y0q (n+1) s tier from_ to =
 tif ((decide ((IntKind.wrap .i64 (tier-1))=0))) (
 a0a (i0u n from_ to s.1.2.1.1) fun r0 =>
 tif ((!(decide (r0.2.2=0)))) (
 some r0.2.2) (
 a0a (z0l n s (IntKind.wrap .i64 (tier-1))) fun r1 =>
 tif ((decide (r1.2.2=0))) (
 tif ((decide (r0.1<r1.1))) (
 some (11:Int)) (
 some r1.2.2)) (
 some r1.2.2))) (
 tif ((decide ((IntKind.wrap .i64 (tier-1))=1))) (
 a0a (i0u n from_ to s.1.2.1.2.1) fun r2 =>
 tif ((!(decide (r2.2.2=0)))) (
 some r2.2.2) (
 a0a (z0l n s (IntKind.wrap .i64 (tier-1))) fun r3 =>
 tif ((decide (r3.2.2=0))) (
 tif ((decide (r2.1<r3.1))) (
 some (11:Int)) (
 some r3.2.2)) (
 some r3.2.2))) (
 tif ((decide ((IntKind.wrap .i64 (tier-1))=2))) (
 a0a (i0u n from_ to s.1.2.1.2.2) fun r4 =>
 tif ((!(decide (r4.2.2=0)))) (
 some r4.2.2) (
 a0a (z0l n s (IntKind.wrap .i64 (tier-1))) fun r5 =>
 tif ((decide (r5.2.2=0))) (
 tif ((decide (r4.1<r5.1))) (
 some (11:Int)) (
 some r5.2.2)) (
 some r5.2.2))) (
 none))):=by kernel_rfl
theorem v1g (n:Nat) (s:a0r) (l:(List (List UInt8×List UInt8))):m1c (n+1) s l =
 a0a (x0x n s) fun r0 =>
 tif ((!(decide (r0.2=0)))) (
 some (0,r0.2)) (
 a0a (f0v n r0.1 (fun y1=>g0s n y1.1 s l r0.1)) fun r2 =>
 tif ((decide (r2<0))) (
 some (0,3)) (
 some (r2,0))):=by kernel_rfl
theorem m0y (n:Nat) (c:c0e) (s:b0k) (k:Int) (i:Int) (j:Int):e0g (n+1) c s k i j =
 a0a (r0f n c s) fun r0 =>
 oelim (r0.1) (
 tif ((!(decide (r0.2=0)))) (
 some ((0,((0,(0,(0,false))),((0,(0,(0,false))),((0,0),(0,(0,0)))))),r0.2)) (
 tif ((decide (k<0))) (
 some ((0,((0,(0,(0,false))),((0,(0,(0,false))),((0,0),(0,(0,0)))))),1)) (
 tif ((decide ((3:Int)≤k))) (
 some ((0,((0,(0,(0,false))),((0,(0,(0,false))),((0,0),(0,(0,0)))))),1)) (
 tif ((decide (i<0))) (
 some ((0,((0,(0,(0,false))),((0,(0,(0,false))),((0,0),(0,(0,0)))))),1)) (
 tif ((decide (j<i))) (
 some ((0,((0,(0,(0,false))),((0,(0,(0,false))),((0,0),(0,(0,0)))))),1)) (
 none)))))) fun r1 =>
 tif ((!(decide (r0.2=0)))) (
 some ((0,((0,(0,(0,false))),((0,(0,(0,false))),((0,0),(0,(0,0)))))),r0.2)) (
 tif ((decide (k<0))) (
 some ((0,((0,(0,(0,false))),((0,(0,(0,false))),((0,0),(0,(0,0)))))),1)) (
 tif ((decide ((3:Int)≤k))) (
 some ((0,((0,(0,(0,false))),((0,(0,(0,false))),((0,0),(0,(0,0)))))),1)) (
 tif ((decide (i<0))) (
 some ((0,((0,(0,(0,false))),((0,(0,(0,false))),((0,0),(0,(0,0)))))),1)) (
 tif ((decide (j<i))) (
 some ((0,((0,(0,(0,false))),((0,(0,(0,false))),((0,0),(0,(0,0)))))),1)) (
 a0a (q0v n r1 k i j) fun r2 =>
 some r2))))):=by kernel_rfl
theorem m1x (n:Nat) (inc:(Int×Int)) (ms:Int):a1k (n+1) inc ms =
 tif ((decide (ms=0))) (
 some (((0,0),(0,0)),12)) (
 a0a (u0h n inc (1000:Int)) fun r0 =>
 tif ((!(decide (r0.2=0)))) (
 some (((0,0),(0,0)),r0.2)) (
 a0a (w0d n ms) fun r1 =>
 a0a (t0j n r0.1 r1) fun r2 =>
 some r2)):=by kernel_rfl
theorem x0k (n:Nat) (w:(List Int)) (s:List UInt8):e0c (n+1) w s =
 tif ((decide ((((List.length w)+(List.length (List.map (fun y1=>(((UInt8.toNat y1):Nat):Int)) s)))*1)≤140737488355328))) (
 some (w++(List.map (fun y0=>(((UInt8.toNat y0):Nat):Int)) s))) (
 none):=by kernel_rfl
theorem p1e (n:Nat) (c:c0e):b1h (n+1) c =
 a0a (e0b n c) fun r0 =>
 tif ((!(decide (r0=0)))) (
 some []) (
 a0a (a0q n [] (4:Int) (IntKind.wrap .u64 c.1)) fun r1 =>
 a0a (a0q n r1 (8:Int) (IntKind.wrap .u64 c.2.1.1)) fun r2 =>
 a0a (a0q n r2 (8:Int) (IntKind.wrap .u64 c.2.1.2.1)) fun r3 =>
 a0a (a0q n r3 (8:Int) (IntKind.wrap .u64 c.2.1.2.2)) fun r4 =>
 a0a (a0q n r4 (4:Int) (IntKind.wrap .u64 c.2.2.1.1)) fun r6 =>
 a0a (a0q n r6 (4:Int) (IntKind.wrap .u64 c.2.2.1.2.1)) fun r8 =>
 a0a (a0q n r8 (4:Int) (IntKind.wrap .u64 c.2.2.1.2.2)) fun r10 =>
 a0a (a0q n r10 (4:Int) (IntKind.wrap .u64 c.2.2.2.1)) fun r12 =>
 a0a (a0q n r12 (4:Int) (IntKind.wrap .u64 c.2.2.2.2)) fun r14 =>
 a0a (a0q n r14 (8:Int) (0:Int)) fun r15 =>
 a0a (c0u n r15) fun r16 =>
 some r16.1):=by kernel_rfl
theorem s1w (n:Nat) (w:(List Int)) (l:(List Int)):n0n (n+1) w l =
 a0a (o0m n a0b (w,(l,((((List.length l):Nat):Int),(0,()))))) fun r0 =>
 b0z (fun y1 =>
 some y1.1) (fun z2 =>
 some z2) r0:=by kernel_rfl
theorem t0v (n f:Nat) (w:(List Int)) (s6:(List Int)) (s7:Int) (s8:Int):o0m n (f+1) (w,s6,s7,s8,()) =
 tif ((decide (s8<s7))) (
 a0a (at? s6 s8) fun r0 =>
 a0a (a0q n w (8:Int) (IntKind.wrap .u64 r0)) fun r1 =>
 o0m n f (r1,(s6,(s7,((IntKind.wrap .i64 (s8+1)),()))))) (
 some (.inl (w,()))):=by kernel_rfl
theorem s1v (n:Nat) (s:List UInt8) (n_:Int):g0k (n+1) s n_ =
 a0a (strings_Repeat n ((0:UInt8)::[]) (if (IntKind.wrap .i64 (n_-(((List.length s):Nat):Int)))<0 then (0:Int) else (IntKind.wrap .i64 (n_-(((List.length s):Nat):Int))))) fun r0 =>
 tif ((decide (((List.length s)+(List.length r0))≤9223372036854775807))) (
 some (s++r0)) (
 none):=by kernel_rfl
theorem n0t (n:Nat) (w:(List Int)):c0u (n+1) w =
 some ((List.map (fun y0=>(UInt8.ofNat (Int.toNat y0))) w),w):=by kernel_rfl
theorem i1t (n:Nat) (x:b0k):x0e (n+1) x =
 a0a (d0t n x ([],(0,((0,(0,[])),(([],([],[])),(0,(0,((0,(0,(0,false))),((0,(0,(0,false))),((0,0),(0,(0,0)))))))))))) fun r0 =>
 some r0:=by kernel_rfl
theorem w0k (n:Nat) (x:(List (List UInt8))) (count:Int):l0e (n+1) x count =
 tif ((decide (count<0))) (
 none) (
 a0a (r0p n (IntKind.wrap .u64 (((List.length x):Nat):Int)) (IntKind.wrap .u64 count)) fun r0 =>
 tif ((decide ((0:Int)<r0.1))) (
 none) (
 tif ((decide ((9223372036854775807:Int)<r0.2))) (
 none) (
 tif (((decide ((0:Int)≤(IntKind.wrap .i64 r0.2)))&&((decide ((IntKind.wrap .i64 r0.2)≤(IntKind.wrap .i64 r0.2)))&&(decide (((IntKind.wrap .i64 r0.2)*16)≤140737488355328))))) (
 a0a (f0j n a0b ((Go.Flat.putRow (List.replicate (Int.toNat (IntKind.wrap .i64 r0.2)) ([]:List UInt8)) 0 (List.take (List.length (List.replicate (Int.toNat (IntKind.wrap .i64 r0.2)) ([]:List UInt8))) x)),((((List.length (List.take (List.length (List.replicate (Int.toNat (IntKind.wrap .i64 r0.2)) ([]:List UInt8))) x)):Nat):Int),()))) fun r1 =>
 b0z (fun y2 =>
 some y2.1) (fun z3 =>
 some z3) r1) (
 none)))):=by kernel_rfl
theorem j0j (n f:Nat) (newslice:(List (List UInt8))) (n_:Int):f0j n (f+1) (newslice,n_,()) =
 tif ((decide (n_<(((List.length newslice):Nat):Int)))) (
 tif ((decide ((0:Int)≤n_))) (
 tif ((decide ((Int.toNat n_)≤(List.length newslice)))) (
 tif (((decide ((0:Int)≤n_))&&(decide (n_≤(((List.length newslice):Nat):Int))))) (
 tif ((decide (((Int.toNat n_)+((List.length newslice)-(Int.toNat n_)))≤(List.length newslice)))) (
 f0j n f ((Go.Flat.putRow newslice (Int.toNat n_) (List.take ((List.length newslice)-(Int.toNat n_)) (List.take ((Int.toNat n_)-0) (List.drop 0 newslice)))),((IntKind.wrap .i64 (n_+(((List.length (List.take ((List.length newslice)-(Int.toNat n_)) (List.take ((Int.toNat n_)-0) (List.drop 0 newslice)))):Nat):Int))),()))) (
 none)) (
 none)) (
 none)) (
 none)) (
 some (.inl (newslice,()))):=by kernel_rfl
theorem i1s (n:Nat) (x:b0k):x0d (n+1) x =
 a0a (w0w n x.1) fun r0 =>
 a0a (a0q n [] (2:Int) (IntKind.wrap .u64 (((List.length r0.1):Nat):Int))) fun r1 =>
 a0a (g0k n r0.1 (320:Int)) fun r2 =>
 a0a (e0c n r1 r2) fun r3 =>
 a0a (n0n n r3 (x.2.1::(x.2.2.1.1::(x.2.2.1.2.1::[])))) fun r4 =>
 a0a (a0q n r4 (2:Int) (IntKind.wrap .u64 (((List.length x.2.2.1.2.2):Nat):Int))) fun r5 =>
 a0a (j0y n x.2.2.2.2) fun r6 =>
 a0a (e0c n r5 r6) fun r7 =>
 a0a (c0u n r7) fun r8 =>
 a0a (g0k n r8.1 (512:Int)) fun r9 =>
 some (r9,r0.2):=by kernel_rfl
theorem z0g (n:Nat) (out:(List (List UInt8))) (l:(List a0o)) (each:Int) (bytes:((a0o×Unit)→Option (List UInt8))):n0o (n+1) out l each bytes =
 a0a (p0b n l each) fun r0 =>
 a0a (e0k n r0 (out,(bytes,()))) fun r1 =>
 some r1.1:=by kernel_rfl
theorem s0q (n:Nat) (x:((List (List UInt8))×(((a0o×Unit)→Option (List UInt8))×Unit))):e0k n [] x=some x:=by kernel_rfl
theorem r0u (n:Nat) (y:((List a0o)×Unit)) (r:List ((List a0o)×Unit)) (out_:(List (List UInt8))) (bytes_:((a0o×Unit)→Option (List UInt8))):e0k n (y::r) (out_,bytes_,()) =
 a0a (a0a (g0d n a0b (out_,(bytes_,([],(y.1,((((List.length y.1):Nat):Int),(0,()))))))) fun r0 =>
 b0z (fun y1 =>
 a0a (b0o n y1.2.2.1) fun r2 =>
 a0a (g0k n r2.1 (512:Int)) fun r3 =>
 tif ((decide ((((List.length y1.1)+1)*16)≤140737488355328))) (
 some ((y1.1++(r3::[])),(y1.2.1,()))) (
 none)) (fun z4 =>
 none) r0) fun r5 =>
 e0k n r r5:=by kernel_rfl
theorem l0a (n f:Nat) (out_:(List (List UInt8))) (bytes_:((a0o×Unit)→Option (List UInt8))) (b:List UInt8) (s17:(List a0o)) (s18:Int) (s19:Int):g0d n (f+1) (out_,bytes_,b,s17,s18,s19,()) =
 tif ((decide (s19<s18))) (
 a0a (at? s17 s19) fun r0 =>
 a0a (bytes_ (r0,())) fun r1 =>
 a0a (a0m n b r1) fun r2 =>
 g0d n f (out_,(bytes_,(r2.2.2,(s17,(s18,((IntKind.wrap .i64 (s19+1)),()))))))) (
 some (.inl (out_,(bytes_,(b,()))))):=by kernel_rfl
theorem i1r (n:Nat) (r:(Int×(Int×(List a0o)))) (room:Int):w0z (n+1) r room =
 tif (((decide ((0:Int)≤room))&&((decide (room≤room))&&(decide ((room*32)≤140737488355328))))) (
 a0a (k0i n a0b (room,(r,((List.replicate (Int.toNat room) (0,(0,(0,false)))),(r.2.2,((((List.length r.2.2):Nat):Int),(0,()))))))) fun r0 =>
 b0z (fun y1 =>
 some y1.1) (fun z2 =>
 some z2) r0) (
 none):=by kernel_rfl
theorem q0b (n f:Nat) (room:Int) (r_:(Int×(Int×(List a0o)))) (out:(List a0o)) (s11:(List a0o)) (s12:Int) (s13:Int):k0i n (f+1) (room,r_,out,s11,s12,s13,()) =
 tif ((decide (s13<s12))) (
 a0a (at? s11 s13) fun r0 =>
 tif ((decide (room=0))) (
 none) (
 a0a (at? out (Int.tmod (IntKind.wrap .i64 (r_.1+s13)) room)) fun r1 =>
 a0a ((out)[(Int.toNat (Int.tmod (IntKind.wrap .i64 (r_.1+s13)) room))]?) fun r2 =>
 k0i n f (room,(r_,((List.set out (Int.toNat (Int.tmod (IntKind.wrap .i64 (r_.1+s13)) room)) r0),(s11,(s12,((IntKind.wrap .i64 (s13+1)),())))))))) (
 some (.inl (out,()))):=by kernel_rfl
theorem i1w (n:Nat) (e:a0o):r0v (n+1) e =
 a0a (n0l n [] e) fun r0 =>
 a0a (c0u n r0) fun r1 =>
 a0a (g0k n r1.1 (32:Int)) fun r2 =>
 some r2:=by kernel_rfl
theorem b1a (n:Nat) (out:(List (List UInt8))) (l:(List a0c)) (each:Int) (bytes:((a0c×Unit)→Option (List UInt8))):i0b (n+1) out l each bytes =
 a0a (r0d n l each) fun r0 =>
 a0a (e0y n r0 (out,(bytes,()))) fun r1 =>
 some r1.1:=by kernel_rfl
theorem t0w (n:Nat) (x:((List (List UInt8))×(((a0c×Unit)→Option (List UInt8))×Unit))):e0y n [] x=some x:=by kernel_rfl
theorem s0p (n:Nat) (y:((List a0c)×Unit)) (r:List ((List a0c)×Unit)) (out_:(List (List UInt8))) (bytes_:((a0c×Unit)→Option (List UInt8))):e0y n (y::r) (out_,bytes_,()) =
 a0a (a0a (g0y n a0b (out_,(bytes_,([],(y.1,((((List.length y.1):Nat):Int),(0,()))))))) fun r0 =>
 b0z (fun y1 =>
 a0a (b0o n y1.2.2.1) fun r2 =>
 a0a (g0k n r2.1 (512:Int)) fun r3 =>
 tif ((decide ((((List.length y1.1)+1)*16)≤140737488355328))) (
 some ((y1.1++(r3::[])),(y1.2.1,()))) (
 none)) (fun z4 =>
 none) r0) fun r5 =>
 e0y n r r5:=by kernel_rfl
theorem l0r (n f:Nat) (out_:(List (List UInt8))) (bytes_:((a0c×Unit)→Option (List UInt8))) (b:List UInt8) (s17:(List a0c)) (s18:Int) (s19:Int):g0y n (f+1) (out_,bytes_,b,s17,s18,s19,()) =
 tif ((decide (s19<s18))) (
 a0a (at? s17 s19) fun r0 =>
 a0a (bytes_ (r0,())) fun r1 =>
 a0a (a0m n b r1) fun r2 =>
 g0y n f (out_,(bytes_,(r2.2.2,(s17,(s18,((IntKind.wrap .i64 (s19+1)),()))))))) (
 some (.inl (out_,(bytes_,(b,()))))):=by kernel_rfl
theorem o1f (n:Nat) (s:a0c):j0y (n+1) s =
 a0a (n0n n [] (s.1::(s.2.1::[]))) fun r0 =>
 a0a (n0l n r0 s.2.2.1) fun r1 =>
 a0a (n0l n r1 s.2.2.2.1) fun r2 =>
 a0a (n0n n r2 ((IntKind.wrap .i64 s.2.2.2.2.1.1)::((IntKind.wrap .i64 s.2.2.2.2.1.2)::(s.2.2.2.2.2.1::(s.2.2.2.2.2.2.1::(s.2.2.2.2.2.2.2::[])))))) fun r3 =>
 a0a (c0u n r3) fun r4 =>
 a0a (g0k n r4.1 (128:Int)) fun r5 =>
 some r5:=by kernel_rfl
theorem p0a (n:Nat) (s:(List (List UInt8))) (f_:((List UInt8×Unit)→Option Bool)):j0k (n+1) s f_ =
 a0a (m0u n s f_) fun r0 =>
 some (decide ((0:Int)≤r0)):=by kernel_rfl
theorem d1f (n:Nat) (s:List UInt8):l0x (n+1) s =
 some (!(decide ((((List.length s):Nat):Int)=512))):=by kernel_rfl
theorem i0i (n:Nat) (r:(List UInt8×Bool)):i0g (n+1) r =
 some r.2:=by kernel_rfl
theorem l0t (n:Nat) (r:(List UInt8×Bool)):k0a (n+1) r =
 some (((List.length r.1):Nat):Int):=by kernel_rfl
theorem p1b (n:Nat) (c:c0e):j0z (n+1) c =
 a0a (m0h n c.1 (16:Int)) fun r0 =>
 a0a (m0h n c.2.2.1.1 (4:Int)) fun r1 =>
 a0a (m0h n c.2.2.1.2.1 (4:Int)) fun r2 =>
 a0a (m0h n c.2.2.1.2.2 (4:Int)) fun r3 =>
 some (IntKind.wrap .i64 ((IntKind.wrap .i64 ((IntKind.wrap .i64 ((IntKind.wrap .i64 ((1:Int)+r0))+r1))+r2))+r3)):=by kernel_rfl
theorem v0f (n:Nat) (r:(List UInt8×Bool)):b0u (n+1) r =
 some ([],true):=by kernel_rfl
theorem n0u (n:Nat) (r:(List UInt8×Bool)) (n_:Int):e0d (n+1) r n_ =
 tif (r.2) (
 a0a (b0u n r) fun r0 =>
 some ([],r0)) (
 tif ((decide (n_<0))) (
 a0a (b0u n r) fun r1 =>
 some ([],r1)) (
 tif ((decide ((((List.length r.1):Nat):Int)<n_))) (
 a0a (b0u n r) fun r2 =>
 some ([],r2)) (
 tif (((decide ((0:Int)≤n_))&&(decide (n_≤(((List.length r.1):Nat):Int))))) (
 tif ((decide ((0:Int)≤n_))) (
 tif ((decide ((Int.toNat n_)≤(List.length r.1)))) (
 some ((List.drop 0 (List.take (Int.toNat n_) r.1)),((List.drop (Int.toNat n_) (List.take (List.length r.1) r.1)),r.2))) (
 none)) (
 none)) (
 none)))):=by kernel_rfl
theorem x0c (n:Nat) (p:b0c) (n_:Int) (each:Int):c0i (n+1) p n_ each =
 tif ((decide (each=0))) (
 none) (
 tif (((decide ((0:Int)≤(if (((List.length p.2):Nat):Int)<(IntKind.wrap .i64 (Int.tdiv (IntKind.wrap .i64 ((IntKind.wrap .i64 (n_+each))-1)) each)) then (((List.length p.2):Nat):Int) else (IntKind.wrap .i64 (Int.tdiv (IntKind.wrap .i64 ((IntKind.wrap .i64 (n_+each))-1)) each)))))&&(decide ((if (((List.length p.2):Nat):Int)<(IntKind.wrap .i64 (Int.tdiv (IntKind.wrap .i64 ((IntKind.wrap .i64 (n_+each))-1)) each)) then (((List.length p.2):Nat):Int) else (IntKind.wrap .i64 (Int.tdiv (IntKind.wrap .i64 ((IntKind.wrap .i64 (n_+each))-1)) each)))≤(((List.length p.2):Nat):Int))))) (
 a0a (strings_Join n (List.drop 0 (List.take (Int.toNat (if (((List.length p.2):Nat):Int)<(IntKind.wrap .i64 (Int.tdiv (IntKind.wrap .i64 ((IntKind.wrap .i64 (n_+each))-1)) each)) then (((List.length p.2):Nat):Int) else (IntKind.wrap .i64 (Int.tdiv (IntKind.wrap .i64 ((IntKind.wrap .i64 (n_+each))-1)) each)))) p.2)) []) fun r0 =>
 tif ((decide ((0:Int)≤(if (((List.length p.2):Nat):Int)<(IntKind.wrap .i64 (Int.tdiv (IntKind.wrap .i64 ((IntKind.wrap .i64 (n_+each))-1)) each)) then (((List.length p.2):Nat):Int) else (IntKind.wrap .i64 (Int.tdiv (IntKind.wrap .i64 ((IntKind.wrap .i64 (n_+each))-1)) each)))))) (
 tif ((decide ((Int.toNat (if (((List.length p.2):Nat):Int)<(IntKind.wrap .i64 (Int.tdiv (IntKind.wrap .i64 ((IntKind.wrap .i64 (n_+each))-1)) each)) then (((List.length p.2):Nat):Int) else (IntKind.wrap .i64 (Int.tdiv (IntKind.wrap .i64 ((IntKind.wrap .i64 (n_+each))-1)) each))))≤(List.length p.2)))) (
 some (r0,(p.1,(List.drop (Int.toNat (if (((List.length p.2):Nat):Int)<(IntKind.wrap .i64 (Int.tdiv (IntKind.wrap .i64 ((IntKind.wrap .i64 (n_+each))-1)) each)) then (((List.length p.2):Nat):Int) else (IntKind.wrap .i64 (Int.tdiv (IntKind.wrap .i64 ((IntKind.wrap .i64 (n_+each))-1)) each)))) (List.take (List.length p.2) p.2))))) (
 none)) (
 none)) (
 none)):=by kernel_rfl
theorem w1y (n:Nat) (s:List UInt8):d1w (n+1) s =
 a0a (k0b n s) fun r0 =>
 a0a (d0s n r0) fun r1 =>
 a0a (r0t n a0b (r1.2,([],(r1.1,())))) fun r2 =>
 b0z (fun y3 =>
 a0a (i0g n y3.1) fun r4 =>
 tif (r4) (
 some ([],4)) (
 a0a (k0a n y3.1) fun r5 =>
 tif ((decide ((0:Int)<r5))) (
 some ([],4)) (
 a0a (i0h n y3.2.1) fun r6 =>
 tif ((!(decide (r6=0)))) (
 some ([],4)) (
 some (y3.2.1,0))))) (fun z7 =>
 some z7) r2:=by kernel_rfl
theorem v0w (n f:Nat) (r:(List UInt8×Bool)) (out:(List (List UInt8×List UInt8))) (n_:Int):r0t n (f+1) (r,out,n_,()) =
 tif ((decide ((0:Int)<n_))) (
 a0a (i0g n r) fun r0 =>
 tif ((!r0)) (
 tif ((decide ((((List.length out):Nat):Int)≤16))) (
 a0a (h0e n r (64:Int)) fun r1 =>
 a0a (h0e n r1.2 (128:Int)) fun r2 =>
 tif ((decide ((((List.length out)+1)*32)≤140737488355328))) (
 r0t n f (r2.2,((out++((r1.1,r2.1)::[])),((IntKind.wrap .u64 (n_-1)),())))) (
 none)) (
 some (.inl (r,(out,()))))) (
 some (.inl (r,(out,()))))) (
 some (.inl (r,(out,())))):=by kernel_rfl
theorem a1z (n:Nat) (s:List UInt8):k0j (n+1) s =
 a0a (k0b n s) fun r0 =>
 a0a (a0e n r0 (8:Int)) fun r1 =>
 a0a (a0e n r1.2 (8:Int)) fun r2 =>
 a0a (g0j n r2.2) fun r3 =>
 a0a (g0j n r3.2) fun r4 =>
 a0a (a0e n r4.2 (8:Int)) fun r5 =>
 a0a (a0e n r5.2 (8:Int)) fun r6 =>
 a0a (a0e n r6.2 (8:Int)) fun r7 =>
 a0a (a0e n r7.2 (8:Int)) fun r8 =>
 a0a (a0e n r8.2 (8:Int)) fun r9 =>
 some ((IntKind.wrap .i64 r1.1),((IntKind.wrap .i64 r2.1),(r3.1,(r4.1,((r5.1,r6.1),((IntKind.wrap .i64 r7.1),((IntKind.wrap .i64 r8.1),(IntKind.wrap .i64 r9.1)))))))):=by kernel_rfl
theorem z0f (n:Nat) (p:b0c) (r:(Int×(Int×(List a0o)))) (many:Int):n0m (n+1) p r many =
 a0a (c0i n p p.1.1 (16:Int)) fun r0 =>
 tif ((decide (r.1<0))) (
 some (r,r0.2)) (
 tif ((decide (r0.2.1.1<many))) (
 some (r,r0.2)) (
 a0a (e0j n a0b (r0.2,(r,((0,(0,[])),(r0.1,(r0.2.1.1,(many,(0,())))))))) fun r1 =>
 b0z (fun y2 =>
 some (y2.2.1,y2.1)) (fun z3 =>
 some z3) r1)):=by kernel_rfl
theorem k0z (n f:Nat) (p:b0c) (r_:(Int×(Int×(List a0o)))) (s6:(Int×(Int×(List a0o)))) (all:List UInt8) (room:Int) (s36:Int) (s37:Int):e0j n (f+1) (p,r_,s6,all,room,s36,s37,()) =
 tif ((decide (s37<s36))) (
 tif ((decide (room=0))) (
 none) (
 tif ((decide (room=0))) (
 none) (
 tif ((decide ((0:Int)≤(IntKind.wrap .i64 ((32:Int)*(Int.tmod (IntKind.wrap .i64 ((Int.tmod r_.1 room)+s37)) room)))))) (
 tif ((decide ((Int.toNat (IntKind.wrap .i64 ((32:Int)*(Int.tmod (IntKind.wrap .i64 ((Int.tmod r_.1 room)+s37)) room))))≤(List.length all)))) (
 a0a (k0b n (List.drop (Int.toNat (IntKind.wrap .i64 ((32:Int)*(Int.tmod (IntKind.wrap .i64 ((Int.tmod r_.1 room)+s37)) room)))) (List.take (List.length all) all))) fun r0 =>
 a0a (g0j n r0) fun r1 =>
 tif ((decide ((((List.length r_.2.2)+1)*32)≤140737488355328))) (
 e0j n f (p,((r_.1,(r_.2.1,(r_.2.2++(r1.1::[])))),(s6,(all,(room,(s36,((IntKind.wrap .i64 (s37+1)),())))))))) (
 none)) (
 none)) (
 none)))) (
 some (.inl (p,(r_,(s6,()))))):=by kernel_rfl
theorem x0b (n:Nat) (p:b0c) (n_:Int):f0t (n+1) p n_ =
 a0a (c0i n p n_ (4:Int)) fun r0 =>
 tif (((decide ((0:Int)≤n_))&&((decide (n_≤n_))&&(decide ((n_*120)≤140737488355328))))) (
 a0a (d0v n a0b (r0.2,(r0.1,((List.replicate (Int.toNat n_) ((0:Int),((0:Int),(((0:Int),((0:Int),((0:Int),false))),(((0:Int),((0:Int),((0:Int),false))),(((0:Int),(0:Int)),((0:Int),((0:Int),(0:Int))))))))),((((List.length (List.replicate (Int.toNat n_) ((0:Int),((0:Int),(((0:Int),((0:Int),((0:Int),false))),(((0:Int),((0:Int),((0:Int),false))),(((0:Int),(0:Int)),((0:Int),((0:Int),(0:Int)))))))))):Nat):Int),((0:Int),())))))) fun r1 =>
 b0z (fun y2 =>
 some (y2.2.1,y2.1)) (fun z3 =>
 some z3) r1) (
 none):=by kernel_rfl
theorem j0m (n f:Nat) (p:b0c) (all:List UInt8) (out:(List a0c)) (s14:Int) (s15:Int):d0v n (f+1) (p,all,out,s14,s15,()) =
 tif ((decide (s15<s14))) (
 tif ((decide ((0:Int)≤(IntKind.wrap .i64 ((128:Int)*s15))))) (
 tif ((decide ((Int.toNat (IntKind.wrap .i64 ((128:Int)*s15)))≤(List.length all)))) (
 a0a (k0j n (List.drop (Int.toNat (IntKind.wrap .i64 ((128:Int)*s15))) (List.take (List.length all) all))) fun r0 =>
 a0a (at? out s15) fun r1 =>
 a0a ((out)[(Int.toNat s15)]?) fun r2 =>
 d0v n f (p,(all,((List.set out (Int.toNat s15) r0),(s14,((IntKind.wrap .i64 (s15+1)),())))))) (
 none)) (
 none)) (
 some (.inl (p,(out,())))):=by kernel_rfl
theorem v1x (n:Nat) (a:(Int×(Int×(List a0o)))) (b:(Int×(Int×(List a0o)))):y1x (n+1) a b =
 tif ((decide (a.1=b.1))) (
 tif ((decide (a.2.1=b.2.1))) (
 a0a (o0z n a.2.2 b.2.2) fun r0 =>
 some r0) (
 some false)) (
 some false):=by kernel_rfl
theorem c1y (n:Nat) (s1:(List a0c)) (s2:(List a0c)):i0z (n+1) s1 s2 =
 tif ((!(decide ((((List.length s1):Nat):Int)=(((List.length s2):Nat):Int))))) (
 some false) (
 a0a (i0d n a0b (s1,(s2,((((List.length s1):Nat):Int),(0,()))))) fun r0 =>
 b0z (fun y1 =>
 some true) (fun z2 =>
 some z2) r0):=by kernel_rfl
theorem m0v (n f:Nat) (s1:(List a0c)) (s2:(List a0c)) (s12:Int) (s13:Int):i0d n (f+1) (s1,s2,s12,s13,()) =
 tif ((decide (s13<s12))) (
 a0a (at? s1 s13) fun r0 =>
 a0a (at? s2 s13) fun r1 =>
 tif ((!((decide (r0.1=r1.1))&&((decide (r0.2.1=r1.2.1))&&((decide (r0.2.2.1.1=r1.2.2.1.1))&&((decide (r0.2.2.1.2.1=r1.2.2.1.2.1))&&((decide (r0.2.2.1.2.2.1=r1.2.2.1.2.2.1))&&((r0.2.2.1.2.2.2==r1.2.2.1.2.2.2)&&((decide (r0.2.2.2.1.1=r1.2.2.2.1.1))&&((decide (r0.2.2.2.1.2.1=r1.2.2.2.1.2.1))&&((decide (r0.2.2.2.1.2.2.1=r1.2.2.2.1.2.2.1))&&((r0.2.2.2.1.2.2.2==r1.2.2.2.1.2.2.2)&&((decide (r0.2.2.2.2.1.1=r1.2.2.2.2.1.1))&&((decide (r0.2.2.2.2.1.2=r1.2.2.2.2.1.2))&&((decide (r0.2.2.2.2.2.1=r1.2.2.2.2.2.1))&&((decide (r0.2.2.2.2.2.2.1=r1.2.2.2.2.2.2.1))&&(decide (r0.2.2.2.2.2.2.2=r1.2.2.2.2.2.2.2)))))))))))))))))) (
 some (.inr false)) (
 i0d n f (s1,(s2,(s12,((IntKind.wrap .i64 (s13+1)),())))))) (
 some (.inl ())):=by kernel_rfl
theorem p1z (n:Nat) (now:Int) (w:Int) (n_:Int):f0o (n+1) now w n_ =
 a0a (a2y n now w) fun r0 =>
 tif ((!(decide (r0.2=0)))) (
 some (0,1)) (
 a0a (p1y n n_ (1:Int) (4096:Int)) fun r1 =>
 tif ((!r1)) (
 some (0,1)) (
 some ((if (0:Int)<(IntKind.wrap .i64 ((IntKind.wrap .i64 (r0.1+1))-n_)) then (IntKind.wrap .i64 ((IntKind.wrap .i64 (r0.1+1))-n_)) else (0:Int)),0))):=by kernel_rfl
theorem i1i (n:Nat) (m:(Int×(List UInt8×List UInt8))) (p1:(List (List UInt8×List UInt8))):w0t (n+1) m p1 =
 a0a (a1w n m p1) fun r0 =>
 some (!r0):=by kernel_rfl
theorem n1s (n:Nat) (m:(Int×(List UInt8×List UInt8))) (l:(List (List UInt8×List UInt8))):a1w (n+1) m l =
 a0a (w0v n l m.2.1) fun r0 =>
 tif ((decide (m.1=1))) (
 some (r0==m.2.2)) (
 tif ((decide (m.1=2))) (
 some (!(r0==m.2.2))) (
 tif ((decide (m.1=3))) (
 a0a (strings_HasPrefix n r0 m.2.2) fun r1 =>
 some r1) (
 some false))):=by kernel_rfl
end Go.Proofs.YtagnkfbpgkckiaaGreatDoor
