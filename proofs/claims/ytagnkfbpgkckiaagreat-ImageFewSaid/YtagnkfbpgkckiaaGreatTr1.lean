/- Trees, printed by program. -/
import Derived.Test.YtagnkfbpgkckiaaGreatTr0
import Derived.KernelRfl
set_option linter.unusedVariables false
namespace Go.Proofs.YtagnkfbpgkckiaaGreat
open Go.Flat
theorem f1p (n:Nat) (s:a0v) (l:(List (List UInt8×List UInt8))) (e:a0j) (now:Int):b1x (n+1) s l e now =
 a0a (f1o n ) fun r0 =>
 tif ((!r0)) (
 some false) (
 a0a (y0o n s) fun r1 =>
 tif ((decide (r1=0))) (
 some true) (
 a0a (t0d n l) fun r2 =>
 tif ((decide (r2=0))) (
 some true) (
 a0a (f1n n s.1) fun r3 =>
 tif ((!r3)) (
 some true) (
 a0a (h0x n s) fun r4 =>
 tif ((!(decide (r4=0)))) (
 some true) (
 a0a (g0l n s) fun r5 =>
 a0a (o1h n s now) fun r6 =>
 a0a (l1q n r6.1) fun r7 =>
 a0a (g0l n r7.1) fun r8 =>
 tif ((!(decide (r5.2=0)))) (
 some false) (
 tif ((!(decide (r7.2.2=0)))) (
 some false) (
 tif ((!(decide (r8.2=0)))) (
 some false) (
 a0a (h0a n r5.1 r8.1 (0:Int)) fun r9 =>
 tif ((decide ((1:Int)<(((List.length r9):Nat):Int)))) (
 some false) (
 tif ((decide ((((List.length r9):Nat):Int)=1))) (
 a0a (at? r9 (0:Int)) fun r10 =>
 tif ((!(decide (r10.1=0)))) (
 some false) (
 a0a (o0x n s l e) fun r11 =>
 tif ((!(decide (r11.2=0)))) (
 some true) (
 a0a (t0w n r11.1 l) fun r12 =>
 a0a (g0l n r11.1) fun r13 =>
 tif ((!(decide (r12.2=0)))) (
 some false) (
 tif ((!(decide (r13.2=0)))) (
 some false) (
 a0a (i0r n s.1) fun r14 =>
 a0a (h0a n r5.1 r13.1 (0:Int)) fun r15 =>
 a0a (e0e n a0b (s,(r15,(r12.1,(r14,(r15,((((List.length r15):Nat):Int),(0,())))))))) fun r16 =>
 b0z (fun y17 =>
 tif ((decide ((1:Int)≤(((List.length y17.2.1):Nat):Int)))) (
 tif ((decide ((((List.length y17.2.1):Nat):Int)≤y17.2.2.1))) (
 some (decide (y17.2.2.1<y17.1.1.2.2.2.2))) (
 some false)) (
 some false)) (fun z18 =>
 some z18) r16))))) (
 a0a (o0x n s l e) fun r19 =>
 tif ((!(decide (r19.2=0)))) (
 some true) (
 a0a (t0w n r19.1 l) fun r20 =>
 a0a (g0l n r19.1) fun r21 =>
 tif ((!(decide (r20.2=0)))) (
 some false) (
 tif ((!(decide (r21.2=0)))) (
 some false) (
 a0a (i0r n s.1) fun r22 =>
 a0a (h0a n r5.1 r21.1 (0:Int)) fun r23 =>
 a0a (e0e n a0b (s,(r23,(r20.1,(r22,(r23,((((List.length r23):Nat):Int),(0,())))))))) fun r24 =>
 b0z (fun y25 =>
 tif ((decide ((1:Int)≤(((List.length y25.2.1):Nat):Int)))) (
 tif ((decide ((((List.length y25.2.1):Nat):Int)≤y25.2.2.1))) (
 some (decide (y25.2.2.1<y25.1.1.2.2.2.2))) (
 some false)) (
 some false)) (fun z26 =>
 some z26) r24))))))))))))):=by kernel_rfl
theorem m0z (n f:Nat) (s_:a0v) (d:(List (Int×List UInt8))) (at_:Int) (n_:Int) (s131:(List (Int×List UInt8))) (s132:Int) (s133:Int):e0e n (f+1) (s_,d,at_,n_,s131,s132,s133,()) =
 tif ((decide (s133<s132))) (
 a0a (at? s131 s133) fun r0 =>
 tif ((decide (r0.1<(IntKind.wrap .i64 ((1:Int)+(IntKind.wrap .i64 (at_*n_))))))) (
 some (.inr false)) (
 tif ((decide ((IntKind.wrap .i64 ((1:Int)+(IntKind.wrap .i64 ((IntKind.wrap .i64 (at_+1))*n_))))≤r0.1))) (
 some (.inr false)) (
 e0e n f (s_,(d,(at_,(n_,(s131,(s132,((IntKind.wrap .i64 (s133+1)),())))))))))) (
 some (.inl (s_,(d,(n_,()))))):=by kernel_rfl
theorem r1x (n:Nat) (s:a0v):y0o (n+1) s =
 tif ((decide ((8:Int)<(((List.length s.2.2.2):Nat):Int)))) (
 some (0:Int)) (
 a0a (k0t n a0b (s.2.2.2,((((List.length s.2.2.2):Nat):Int),(0,())))) fun r0 =>
 b0z (fun y1 =>
 some (1:Int)) (fun z2 =>
 some z2) r0):=by kernel_rfl
theorem t0b (n f:Nat) (s10:(List b0d)) (s11:Int) (s12:Int):k0t n (f+1) (s10,s11,s12,()) =
 tif ((decide (s12<s11))) (
 a0a (at? s10 s12) fun r0 =>
 a0a (y0p n r0) fun r1 =>
 tif ((decide (r1=0))) (
 some (.inr (0:Int))) (
 k0t n f (s10,(s11,((IntKind.wrap .i64 (s12+1)),()))))) (
 some (.inl ())):=by kernel_rfl
theorem r1w (n:Nat) (c:b0k):f1n (n+1) c =
 tif ((decide (c.2.2.2.1≤8))) (
 tif ((decide (c.1≤64))) (
 tif ((decide (c.2.2.1.1≤40))) (
 tif ((decide (c.2.2.1.2.1≤40))) (
 some (decide (c.2.2.1.2.2≤40))) (
 some false)) (
 some false)) (
 some false)) (
 some false):=by kernel_rfl
theorem s1i (n:Nat) (s:a0v):g0l (n+1) s =
 a0a (r0g n s) fun r0 =>
 a0a (o0e n a0b (s,(r0.2,((r0.1::[]),(0,()))))) fun r1 =>
 b0z (fun y2 =>
 tif ((!(decide (y2.1=0)))) (
 some ([],y2.1)) (
 some (y2.2.1,0))) (fun z3 =>
 some z3) r1:=by kernel_rfl
theorem n0j (n f:Nat) (s_:a0v) (why:Int) (out:(List (List UInt8))) (i:Int):o0e n (f+1) (s_,why,out,i,()) =
 tif ((decide (why=0))) (
 tif ((decide (i<(((List.length s_.2.2.2):Nat):Int)))) (
 a0a (at? s_.2.2.2 i) fun r0 =>
 a0a (r0h n s_.1 r0) fun r1 =>
 tif ((decide ((((List.length out)+(List.length r1.1))*16)≤140737488355328))) (
 o0e n f (s_,(r1.2,((out++r1.1),((IntKind.wrap .i64 (i+1)),()))))) (
 none)) (
 some (.inl (why,(out,()))))) (
 some (.inl (why,(out,())))):=by kernel_rfl
theorem i1j (n:Nat) (s:a0v):r0g (n+1) s =
 a0a (h0x n s) fun r0 =>
 tif ((!(decide (r0=0)))) (
 some ([],r0)) (
 a0a (b1b n s.1) fun r1 =>
 tif ((decide ((8+(List.length r1))≤9223372036854775807))) (
 a0a (e0f n [] (((112:UInt8)::((108:UInt8)::((105:UInt8)::((109:UInt8)::((115:UInt8)::((111:UInt8)::((108:UInt8)::((108:UInt8)::[]))))))))++r1)) fun r2 =>
 a0a (n0g n r2 (s.2.1::((IntKind.wrap .i64 (s.2.2.1+1))::[]))) fun r3 =>
 a0a (c0r n r3) fun r4 =>
 a0a (g0j n r4.1 (512:Int)) fun r5 =>
 some (r5,0)) (
 none)):=by kernel_rfl
theorem i1k (n:Nat) (c:b0k) (x:b0d):r0h (n+1) c x =
 a0a (d0l n c) fun r0 =>
 tif ((!(decide (r0=0)))) (
 some ([],2)) (
 a0a (w0j n x) fun r1 =>
 tif (r1) (
 a0a (g0j n [] (512:Int)) fun r2 =>
 a0a (i0r n c) fun r3 =>
 a0a (l0b n (r2::[]) r3) fun r4 =>
 some (r4,0)) (
 a0a (n0t n c x) fun r5 =>
 tif ((!(decide (r5=0)))) (
 some ([],2)) (
 a0a (w0i n x) fun r6 =>
 tif ((!(decide (r6.2=0)))) (
 some ([],r6.2)) (
 a0a (w0f n x.2.2.1 c.1) fun r7 =>
 a0a (n0h n (r6.1::[]) r7 (16:Int) (fun y8=>n0i n y8.1)) fun r9 =>
 a0a (f0d n a0b (r9,(x.2.2.2.1,(0,())))) fun r10 =>
 b0z (fun y11 =>
 some (y11.1,0)) (fun z12 =>
 some z12) r10)))):=by kernel_rfl
theorem g0c (n f:Nat) (out:(List (List UInt8))) (s45:((List a0c)×((List a0c)×(List a0c)))) (s46:Int):f0d n (f+1) (out,s45,s46,()) =
 tif ((decide (s46<3))) (
 tif ((decide (s46=0))) (
 a0a (i0a n out s45.1 (4:Int) (fun y0=>i0o n y0.1)) fun r1 =>
 f0d n f (r1,(s45,((IntKind.wrap .i64 (s46+1)),())))) (
 tif ((decide (s46=1))) (
 a0a (i0a n out s45.2.1 (4:Int) (fun y2=>i0o n y2.1)) fun r3 =>
 f0d n f (r3,(s45,((IntKind.wrap .i64 (s46+1)),())))) (
 tif ((decide (s46=2))) (
 a0a (i0a n out s45.2.2 (4:Int) (fun y4=>i0o n y4.1)) fun r5 =>
 f0d n f (r5,(s45,((IntKind.wrap .i64 (s46+1)),())))) (
 none)))) (
 some (.inl (out,()))):=by kernel_rfl
theorem i1l (n:Nat) (e:a0j):n0i (n+1) e =
 a0a (n0e n [] e) fun r0 =>
 a0a (c0r n r0) fun r1 =>
 a0a (g0j n r1.1 (32:Int)) fun r2 =>
 some r2:=by kernel_rfl
theorem n1h (n:Nat) (s:a0c):i0o (n+1) s =
 a0a (n0g n [] (s.1::(s.2.1::[]))) fun r0 =>
 a0a (n0e n r0 s.2.2.1) fun r1 =>
 a0a (n0e n r1 s.2.2.2.1) fun r2 =>
 a0a (n0g n r2 ((IntKind.wrap .i64 s.2.2.2.2.1.1)::((IntKind.wrap .i64 s.2.2.2.2.1.2)::(s.2.2.2.2.2.1::(s.2.2.2.2.2.2.1::(s.2.2.2.2.2.2.2::[])))))) fun r3 =>
 a0a (c0r n r3) fun r4 =>
 a0a (g0j n r4.1 (128:Int)) fun r5 =>
 some r5:=by kernel_rfl
theorem s1z (n:Nat) (s:List UInt8):t0k (n+1) s =
 a0a (k0b n s) fun r0 =>
 a0a (a0e n r0 (4:Int)) fun r1 =>
 a0a (a0e n r1.2 (8:Int)) fun r2 =>
 a0a (a0e n r2.2 (8:Int)) fun r3 =>
 a0a (a0e n r3.2 (8:Int)) fun r4 =>
 a0a (a0e n r4.2 (4:Int)) fun r5 =>
 a0a (a0e n r5.2 (4:Int)) fun r6 =>
 a0a (a0e n r6.2 (4:Int)) fun r7 =>
 a0a (a0e n r7.2 (4:Int)) fun r8 =>
 a0a (a0e n r8.2 (4:Int)) fun r9 =>
 a0a (a0e n r9.2 (8:Int)) fun r10 =>
 tif ((!(decide (r10.1=0)))) (
 some ((0,((0,(0,0)),((0,(0,0)),(0,0)))),4)) (
 a0a (i0g n r10.2) fun r11 =>
 tif (r11) (
 some ((0,((0,(0,0)),((0,(0,0)),(0,0)))),4)) (
 a0a (k0a n r10.2) fun r12 =>
 tif ((decide ((0:Int)<r12))) (
 some ((0,((0,(0,0)),((0,(0,0)),(0,0)))),4)) (
 a0a (d0l n ((IntKind.wrap .i64 r1.1),(((IntKind.wrap .i64 r2.1),((IntKind.wrap .i64 r3.1),(IntKind.wrap .i64 r4.1))),(((IntKind.wrap .i64 r5.1),((IntKind.wrap .i64 r6.1),(IntKind.wrap .i64 r7.1))),((IntKind.wrap .i64 r8.1),(IntKind.wrap .i64 r9.1)))))) fun r13 =>
 tif ((!(decide (r13=0)))) (
 some ((0,((0,(0,0)),((0,(0,0)),(0,0)))),4)) (
 some (((IntKind.wrap .i64 r1.1),(((IntKind.wrap .i64 r2.1),((IntKind.wrap .i64 r3.1),(IntKind.wrap .i64 r4.1))),(((IntKind.wrap .i64 r5.1),((IntKind.wrap .i64 r6.1),(IntKind.wrap .i64 r7.1))),((IntKind.wrap .i64 r8.1),(IntKind.wrap .i64 r9.1))))),0))))):=by kernel_rfl
theorem w1h (n:Nat) (l:(List (List UInt8))):r0i (n+1) l =
 a0a (w0e n l) fun r0 =>
 tif ((!r0)) (
 some (((0,((0,(0,0)),((0,(0,0)),(0,0)))),(0,(0,[]))),4)) (
 a0a (at? l (0:Int)) fun r1 =>
 tif ((true&&(decide ((64:Int)≤(((List.length r1):Nat):Int))))) (
 a0a (t0k n (List.drop 8 (List.take 64 r1))) fun r2 =>
 tif ((!(decide (r2.2=0)))) (
 some (((0,((0,(0,0)),((0,(0,0)),(0,0)))),(0,(0,[]))),4)) (
 a0a (i0r n r2.1) fun r3 =>
 tif ((!(decide ((IntKind.wrap .i64 ((((List.length l):Nat):Int)-1))=(IntKind.wrap .i64 (r2.1.2.2.2.1*r3)))))) (
 some (((0,((0,(0,0)),((0,(0,0)),(0,0)))),(0,(0,[]))),4)) (
 a0a (at? l (0:Int)) fun r4 =>
 tif ((decide (64≤(List.length r4)))) (
 a0a (k0b n (List.drop 64 (List.take (List.length r4) r4))) fun r5 =>
 a0a (a0e n r5 (8:Int)) fun r6 =>
 a0a (a0e n r6.2 (8:Int)) fun r7 =>
 tif ((decide (1≤(List.length l)))) (
 a0a (i0r n r2.1) fun r8 =>
 a0a (m0r n (List.drop 1 (List.take (List.length l) l)) r8) fun r9 =>
 a0a (g0k n r9 (l,(((0,((0,(0,0)),((0,(0,0)),(0,0)))),(0,(0,[]))),(r2.1,((r2.1,((IntKind.wrap .i64 r6.1),((IntKind.wrap .i64 ((IntKind.wrap .i64 r7.1)-1)),[]))),()))))) fun r10 =>
 a0a (g0l n r10.2.2.2.1) fun r11 =>
 tif ((!(decide (r11.2=0)))) (
 some (((0,((0,(0,0)),((0,(0,0)),(0,0)))),(0,(0,[]))),4)) (
 a0a (i0x n r10.1 r11.1) fun r12 =>
 tif ((!r12)) (
 some (((0,((0,(0,0)),((0,(0,0)),(0,0)))),(0,(0,[]))),4)) (
 some (r10.2.2.2.1,0)))) (
 none)) (
 none)))) (
 none)):=by kernel_rfl
theorem s0a (n:Nat) (x:((List (List UInt8))×(a0v×(b0k×(a0v×Unit))))):g0k n [] x=some x:=by kernel_rfl
theorem p0p (n:Nat) (y:((List (List UInt8))×Unit)) (r:List ((List (List UInt8))×Unit)) (l:(List (List UInt8))) (s2:a0v) (c:b0k) (s:a0v):g0k n (y::r) (l,s2,c,s,()) =
 a0a (a0a (d0k n (c,y.1)) fun r0 =>
 tif ((decide ((((List.length s.2.2.2)+1)*264)≤140737488355328))) (
 some (l,(s2,(c,((s.1,(s.2.1,(s.2.2.1,(s.2.2.2++(r0.1::[]))))),()))))) (
 none)) fun r1 =>
 g0k n r r1:=by kernel_rfl
theorem y0v (n:Nat) (a:(List (List UInt8))) (b:(List (List UInt8))) (from_:Int):h0a (n+1) a b from_ =
 a0a (g0z n a0b (a,(from_,([],(b,((((List.length b):Nat):Int),(0,()))))))) fun r0 =>
 b0z (fun y1 =>
 some y1.1) (fun z2 =>
 some z2) r0:=by kernel_rfl
theorem f0t (n f:Nat) (a:(List (List UInt8))) (from_:Int) (out:(List (Int×List UInt8))) (s10:(List (List UInt8))) (s11:Int) (s12:Int):g0z n (f+1) (a,from_,out,s10,s11,s12,()) =
 tif ((decide (s12<s11))) (
 a0a (at? s10 s12) fun r0 =>
 tif ((decide ((((List.length a):Nat):Int)≤s12))) (
 tif ((decide ((((List.length out)+1)*24)≤140737488355328))) (
 g0z n f (a,(from_,((out++(((IntKind.wrap .i64 (from_+s12)),r0)::[])),(s10,(s11,((IntKind.wrap .i64 (s12+1)),()))))))) (
 none)) (
 a0a (at? a s12) fun r1 =>
 tif ((!(r1==r0))) (
 tif ((decide ((((List.length out)+1)*24)≤140737488355328))) (
 g0z n f (a,(from_,((out++(((IntKind.wrap .i64 (from_+s12)),r0)::[])),(s10,(s11,((IntKind.wrap .i64 (s12+1)),()))))))) (
 none)) (
 g0z n f (a,(from_,(out,(s10,(s11,((IntKind.wrap .i64 (s12+1)),()))))))))) (
 some (.inl (out,()))):=by kernel_rfl
theorem q1a (n:Nat) (s:a0v):h0x (n+1) s =
 a0a (q0i n s) fun r0 =>
 tif ((!(decide (r0.2=0)))) (
 some (2:Int)) (
 a0a (o0m n r0.1) fun r1 =>
 tif ((!r1)) (
 some (2:Int)) (
 a0a (e0o n r0.1 (fun y2=>f0k n y2.1 r0.1)) fun r3 =>
 tif ((decide ((0:Int)≤r3))) (
 some (2:Int)) (
 some (0:Int)))):=by kernel_rfl
theorem u1q (n:Nat) (a:a0v) (b:a0v):l1r (n+1) a b =
 tif (((decide (a.1.1=b.1.1))&&((decide (a.1.2.1.1=b.1.2.1.1))&&((decide (a.1.2.1.2.1=b.1.2.1.2.1))&&((decide (a.1.2.1.2.2=b.1.2.1.2.2))&&((decide (a.1.2.2.1.1=b.1.2.2.1.1))&&((decide (a.1.2.2.1.2.1=b.1.2.2.1.2.1))&&((decide (a.1.2.2.1.2.2=b.1.2.2.1.2.2))&&((decide (a.1.2.2.2.1=b.1.2.2.2.1))&&(decide (a.1.2.2.2.2=b.1.2.2.2.2))))))))))) (
 tif ((decide (a.2.1=b.2.1))) (
 tif ((decide (a.2.2.1=b.2.2.1))) (
 a0a (d0e n a.2.2.2 b.2.2.2 (fun y0=>d0w n y0.1 y0.2.1)) fun r1 =>
 some r1) (
 some false)) (
 some false)) (
 some false):=by kernel_rfl
theorem s1b (n:Nat) (l:(List (List UInt8×List UInt8))):t0d (n+1) l =
 a0a (k0u n a0b (l,((((List.length l):Nat):Int),(0,())))) fun r0 =>
 b0z (fun y1 =>
 some (1:Int)) (fun z2 =>
 some z2) r0:=by kernel_rfl
theorem t0c (n f:Nat) (s5:(List (List UInt8×List UInt8))) (s6:Int) (s7:Int):k0u n (f+1) (s5,s6,s7,()) =
 tif ((decide (s7<s6))) (
 a0a (at? s5 s7) fun r0 =>
 tif ((decide (s7=40))) (
 some (.inr (0:Int))) (
 tif ((decide ((1000:Int)<(((List.length r0.1):Nat):Int)))) (
 some (.inr (0:Int))) (
 tif ((decide ((1000:Int)<(((List.length r0.2):Nat):Int)))) (
 some (.inr (0:Int))) (
 k0u n f (s5,(s6,((IntKind.wrap .i64 (s7+1)),()))))))) (
 some (.inl ())):=by kernel_rfl
theorem x1c (n:Nat) (s:a0v) (now:Int):o1h (n+1) s now =
 tif ((decide (now≤s.2.1))) (
 some (s,false)) (
 tif ((decide ((35184372088832:Int)≤now))) (
 some (s,false)) (
 a0a (h0x n s) fun r0 =>
 tif ((!(decide (r0=0)))) (
 some (s,false)) (
 some ((s.1,(now,s.2.2)),true)))):=by kernel_rfl
theorem u1l (n:Nat) (s:a0v):l1q (n+1) s =
 a0a (h0x n s) fun r0 =>
 tif ((!(decide (r0=0)))) (
 some (((0,((0,(0,0)),((0,(0,0)),(0,0)))),(0,(0,[]))),(0,r0))) (
 a0a (e1b n s) fun r1 =>
 some ((s.1,(s.2.1,(s.2.1,s.2.2.2))),((((List.length r1):Nat):Int),0))):=by kernel_rfl
theorem p1d (n:Nat) (s:a0v) (l:(List (List UInt8×List UInt8))) (e:a0j):o0x (n+1) s l e =
 a0a (v0x n s l e) fun r0 =>
 tif ((!(decide (r0.2.2=0)))) (
 some (((0,((0,(0,0)),((0,(0,0)),(0,0)))),(0,(0,[]))),r0.2.2)) (
 a0a (d1o n s r0.1 r0.2.1 l) fun r1 =>
 tif ((!(decide (r1.2=0)))) (
 some (((0,((0,(0,0)),((0,(0,0)),(0,0)))),(0,(0,[]))),r1.2)) (
 a0a (a1a n s.1 r1.1 e) fun r2 =>
 tif ((!(decide (r2.2=0)))) (
 some (((0,((0,(0,0)),((0,(0,0)),(0,0)))),(0,(0,[]))),r2.2)) (
 a0a (m0q n s.2.2.2) fun r3 =>
 a0a (at? r3 r0.1) fun r4 =>
 a0a ((r3)[(Int.toNat r0.1)]?) fun r5 =>
 some ((s.1,(s.2.1,(s.2.2.1,(List.set r3 (Int.toNat r0.1) r2.1)))),0)))):=by kernel_rfl
theorem u1u (n:Nat) (s:a0v) (l:(List (List UInt8×List UInt8))):t0w (n+1) s l =
 a0a (q0i n s) fun r0 =>
 tif ((!(decide (r0.2=0)))) (
 some (0,r0.2)) (
 a0a (e0o n r0.1 (fun y1=>g0t n y1.1 s l r0.1)) fun r2 =>
 tif ((decide (r2<0))) (
 some (0,3)) (
 some (r2,0))):=by kernel_rfl
theorem o1m (n:Nat) (c:b0k):i0r (n+1) c =
 a0a (d0l n c) fun r0 =>
 tif ((!(decide (r0=0)))) (
 some (0:Int)) (
 a0a (j0z n c) fun r1 =>
 some r1):=by kernel_rfl
theorem r1y (n:Nat) (s:b0d):y0p (n+1) s =
 a0a (t0d n s.1) fun r0 =>
 tif ((decide (r0=0))) (
 some (0:Int)) (
 tif ((decide ((60:Int)<(((List.length s.2.2.1.2.2):Nat):Int)))) (
 some (0:Int)) (
 a0a (f1q n s.2.2.2.1) fun r1 =>
 some r1)):=by kernel_rfl
theorem w0n (n:Nat) (w:(List Int)) (s:List UInt8):e0f (n+1) w s =
 tif ((decide ((((List.length w)+(List.length (List.map (fun y1=>(((UInt8.toNat y1):Nat):Int)) s)))*1)≤140737488355328))) (
 some (w++(List.map (fun y0=>(((UInt8.toNat y0):Nat):Int)) s))) (
 none):=by kernel_rfl
theorem o1n (n:Nat) (c:b0k):b1b (n+1) c =
 a0a (d0l n c) fun r0 =>
 tif ((!(decide (r0=0)))) (
 some []) (
 a0a (a0r n [] (4:Int) (IntKind.wrap .u64 c.1)) fun r1 =>
 a0a (a0r n r1 (8:Int) (IntKind.wrap .u64 c.2.1.1)) fun r2 =>
 a0a (a0r n r2 (8:Int) (IntKind.wrap .u64 c.2.1.2.1)) fun r3 =>
 a0a (a0r n r3 (8:Int) (IntKind.wrap .u64 c.2.1.2.2)) fun r4 =>
 a0a (a0r n r4 (4:Int) (IntKind.wrap .u64 c.2.2.1.1)) fun r6 =>
 a0a (a0r n r6 (4:Int) (IntKind.wrap .u64 c.2.2.1.2.1)) fun r8 =>
 a0a (a0r n r8 (4:Int) (IntKind.wrap .u64 c.2.2.1.2.2)) fun r10 =>
 a0a (a0r n r10 (4:Int) (IntKind.wrap .u64 c.2.2.2.1)) fun r12 =>
 a0a (a0r n r12 (4:Int) (IntKind.wrap .u64 c.2.2.2.2)) fun r14 =>
 a0a (a0r n r14 (8:Int) (0:Int)) fun r15 =>
 a0a (c0r n r15) fun r16 =>
 some r16.1):=by kernel_rfl
theorem s1h (n:Nat) (w:(List Int)) (l:(List Int)):n0g (n+1) w l =
 a0a (o0d n a0b (w,(l,((((List.length l):Nat):Int),(0,()))))) fun r0 =>
 b0z (fun y1 =>
 some y1.1) (fun z2 =>
 some z2) r0:=by kernel_rfl
theorem t0e (n f:Nat) (w:(List Int)) (s6:(List Int)) (s7:Int) (s8:Int):o0d n (f+1) (w,s6,s7,s8,()) =
 tif ((decide (s8<s7))) (
 a0a (at? s6 s8) fun r0 =>
 a0a (a0r n w (8:Int) (IntKind.wrap .u64 r0)) fun r1 =>
 o0d n f (r1,(s6,(s7,((IntKind.wrap .i64 (s8+1)),()))))) (
 some (.inl (w,()))):=by kernel_rfl
theorem s1g (n:Nat) (s:List UInt8) (n_:Int):g0j (n+1) s n_ =
 a0a (strings_Repeat n ((0:UInt8)::[]) (if (IntKind.wrap .i64 (n_-(((List.length s):Nat):Int)))<0 then (0:Int) else (IntKind.wrap .i64 (n_-(((List.length s):Nat):Int))))) fun r0 =>
 tif ((decide (((List.length s)+(List.length r0))≤9223372036854775807))) (
 some (s++r0)) (
 none):=by kernel_rfl
theorem n0m (n:Nat) (w:(List Int)):c0r (n+1) w =
 some ((List.map (fun y0=>(UInt8.ofNat (Int.toNat y0))) w),w):=by kernel_rfl
theorem z0d (n:Nat) (c:b0k):d0l (n+1) c =
 a0a (g0o n c.1 (1:Int) (4096:Int)) fun r0 =>
 tif (r0) (
 a0a (g0o n c.2.2.2.1 (1:Int) (65536:Int)) fun r1 =>
 tif (r1) (
 a0a (g0o n c.2.2.2.2 (1:Int) (8192:Int)) fun r2 =>
 tif (r2) (
 a0a (j0e n c.2.1.1 (1:Int) (1099511627776:Int)) fun r3 =>
 tif (r3) (
 a0a (g0o n c.2.2.1.1 (1:Int) (4096:Int)) fun r4 =>
 tif (r4) (
 a0a (j0e n c.2.1.2.1 (1:Int) (1099511627776:Int)) fun r5 =>
 tif (r5) (
 a0a (g0o n c.2.2.1.2.1 (1:Int) (4096:Int)) fun r6 =>
 tif (r6) (
 a0a (j0e n c.2.1.2.2 (1:Int) (1099511627776:Int)) fun r7 =>
 tif (r7) (
 a0a (g0o n c.2.2.1.2.2 (1:Int) (4096:Int)) fun r8 =>
 tif (r8) (
 tif ((decide (c.2.1.1=0))) (
 none) (
 tif ((decide ((Int.tmod c.2.1.2.1 c.2.1.1)=0))) (
 tif ((decide (c.2.1.1=0))) (
 none) (
 tif ((decide ((IntKind.wrap .i64 (Int.tdiv c.2.1.2.1 c.2.1.1))≤c.2.2.1.1))) (
 tif ((decide (c.2.1.2.1=0))) (
 none) (
 tif ((decide ((Int.tmod c.2.1.2.2 c.2.1.2.1)=0))) (
 tif ((decide (c.2.1.2.1=0))) (
 none) (
 tif ((decide ((IntKind.wrap .i64 (Int.tdiv c.2.1.2.2 c.2.1.2.1))≤c.2.2.1.2.1))) (
 tif ((!(decide ((IntKind.wrap .i64 (Int.tdiv c.2.1.2.2 c.2.1.2.1))≤c.2.2.1.2.1)))) (
 some (2:Int)) (
 a0a (j0z n c) fun r9 =>
 tif ((decide (c.2.2.2.2≤r9))) (
 some (2:Int)) (
 some (0:Int)))) (
 tif ((!(decide ((IntKind.wrap .i64 (Int.tdiv c.2.1.2.2 c.2.1.2.1))≤c.2.2.1.2.1)))) (
 some (2:Int)) (
 a0a (j0z n c) fun r10 =>
 tif ((decide (c.2.2.2.2≤r10))) (
 some (2:Int)) (
 some (0:Int)))))) (
 some (2:Int)))) (
 tif ((!(decide ((IntKind.wrap .i64 (Int.tdiv c.2.1.2.1 c.2.1.1))≤c.2.2.1.1)))) (
 some (2:Int)) (
 a0a (j0z n c) fun r11 =>
 tif ((decide (c.2.2.2.2≤r11))) (
 some (2:Int)) (
 some (0:Int)))))) (
 some (2:Int)))) (
 tif ((!r8)) (
 some (2:Int)) (
 a0a (j0z n c) fun r12 =>
 tif ((decide (c.2.2.2.2≤r12))) (
 some (2:Int)) (
 some (0:Int))))) (
 some (2:Int))) (
 some (2:Int))) (
 some (2:Int))) (
 some (2:Int))) (
 some (2:Int))) (
 some (2:Int))) (
 some (2:Int))) (
 some (2:Int)):=by kernel_rfl
theorem i1i (n:Nat) (x:b0d):w0j (n+1) x =
 a0a (d0w n x ([],(0,((0,(0,[])),(([],([],[])),(0,(0,((0,(0,(0,false))),((0,(0,(0,false))),((0,0),(0,(0,0)))))))))))) fun r0 =>
 some r0:=by kernel_rfl
theorem v0u (n:Nat) (x:(List (List UInt8))) (count:Int):l0b (n+1) x count =
 tif ((decide (count<0))) (
 none) (
 a0a (r0d n (IntKind.wrap .u64 (((List.length x):Nat):Int)) (IntKind.wrap .u64 count)) fun r0 =>
 tif ((decide ((0:Int)<r0.1))) (
 none) (
 tif ((decide ((9223372036854775807:Int)<r0.2))) (
 none) (
 tif (((decide ((0:Int)≤(IntKind.wrap .i64 r0.2)))&&((decide ((IntKind.wrap .i64 r0.2)≤(IntKind.wrap .i64 r0.2)))&&(decide (((IntKind.wrap .i64 r0.2)*16)≤140737488355328))))) (
 a0a (f0m n a0b ((Go.Flat.putRow (List.replicate (Int.toNat (IntKind.wrap .i64 r0.2)) ([]:List UInt8)) 0 (List.take (List.length (List.replicate (Int.toNat (IntKind.wrap .i64 r0.2)) ([]:List UInt8))) x)),((((List.length (List.take (List.length (List.replicate (Int.toNat (IntKind.wrap .i64 r0.2)) ([]:List UInt8))) x)):Nat):Int),()))) fun r1 =>
 b0z (fun y2 =>
 some y2.1) (fun z3 =>
 some z3) r1) (
 none)))):=by kernel_rfl
theorem j0k (n f:Nat) (newslice:(List (List UInt8))) (n_:Int):f0m n (f+1) (newslice,n_,()) =
 tif ((decide (n_<(((List.length newslice):Nat):Int)))) (
 tif ((decide ((0:Int)≤n_))) (
 tif ((decide ((Int.toNat n_)≤(List.length newslice)))) (
 tif (((decide ((0:Int)≤n_))&&(decide (n_≤(((List.length newslice):Nat):Int))))) (
 tif ((decide (((Int.toNat n_)+((List.length newslice)-(Int.toNat n_)))≤(List.length newslice)))) (
 f0m n f ((Go.Flat.putRow newslice (Int.toNat n_) (List.take ((List.length newslice)-(Int.toNat n_)) (List.take ((Int.toNat n_)-0) (List.drop 0 newslice)))),((IntKind.wrap .i64 (n_+(((List.length (List.take ((List.length newslice)-(Int.toNat n_)) (List.take ((Int.toNat n_)-0) (List.drop 0 newslice)))):Nat):Int))),()))) (
 none)) (
 none)) (
 none)) (
 none)) (
 some (.inl (newslice,()))):=by kernel_rfl
theorem e1p (n:Nat) (c:b0k) (s:b0d):n0t (n+1) c s =
 a0a (q0q n c s) fun r0 =>
 f1d (r0.1) (
 some r0.2) fun r1 =>
 some r0.2:=by kernel_rfl
theorem i1h (n:Nat) (x:b0d):w0i (n+1) x =
 a0a (w0d n x.1) fun r0 =>
 a0a (a0r n [] (2:Int) (IntKind.wrap .u64 (((List.length r0.1):Nat):Int))) fun r1 =>
 a0a (g0j n r0.1 (320:Int)) fun r2 =>
 a0a (e0f n r1 r2) fun r3 =>
 a0a (n0g n r3 (x.2.1::(x.2.2.1.1::(x.2.2.1.2.1::[])))) fun r4 =>
 a0a (a0r n r4 (2:Int) (IntKind.wrap .u64 (((List.length x.2.2.1.2.2):Nat):Int))) fun r5 =>
 a0a (i0o n x.2.2.2.2) fun r6 =>
 a0a (e0f n r5 r6) fun r7 =>
 a0a (c0r n r7) fun r8 =>
 a0a (g0j n r8.1 (512:Int)) fun r9 =>
 some (r9,r0.2):=by kernel_rfl
theorem y0u (n:Nat) (out:(List (List UInt8))) (l:(List a0j)) (each:Int) (bytes:((a0j×Unit)→Option (List UInt8))):n0h (n+1) out l each bytes =
 a0a (o0t n l each) fun r0 =>
 a0a (e0k n r0 (out,(bytes,()))) fun r1 =>
 some r1.1:=by kernel_rfl
theorem s0g (n:Nat) (x:((List (List UInt8))×(((a0j×Unit)→Option (List UInt8))×Unit))):e0k n [] x=some x:=by kernel_rfl
theorem r0f (n:Nat) (y:((List a0j)×Unit)) (r:List ((List a0j)×Unit)) (out_:(List (List UInt8))) (bytes_:((a0j×Unit)→Option (List UInt8))):e0k n (y::r) (out_,bytes_,()) =
 a0a (a0a (g0b n a0b (out_,(bytes_,([],(y.1,((((List.length y.1):Nat):Int),(0,()))))))) fun r0 =>
 b0z (fun y1 =>
 a0a (b0n n y1.2.2.1) fun r2 =>
 a0a (g0j n r2.1 (512:Int)) fun r3 =>
 tif ((decide ((((List.length y1.1)+1)*16)≤140737488355328))) (
 some ((y1.1++(r3::[])),(y1.2.1,()))) (
 none)) (fun z4 =>
 none) r0) fun r5 =>
 e0k n r r5:=by kernel_rfl
theorem k0x (n f:Nat) (out_:(List (List UInt8))) (bytes_:((a0j×Unit)→Option (List UInt8))) (b:List UInt8) (s17:(List a0j)) (s18:Int) (s19:Int):g0b n (f+1) (out_,bytes_,b,s17,s18,s19,()) =
 tif ((decide (s19<s18))) (
 a0a (at? s17 s19) fun r0 =>
 a0a (bytes_ (r0,())) fun r1 =>
 a0a (a0m n b r1) fun r2 =>
 g0b n f (out_,(bytes_,(r2.2.2,(s17,(s18,((IntKind.wrap .i64 (s19+1)),()))))))) (
 some (.inl (out_,(bytes_,(b,()))))):=by kernel_rfl
theorem i1f (n:Nat) (r:(Int×(Int×(List a0j)))) (room:Int):w0f (n+1) r room =
 tif (((decide ((0:Int)≤room))&&((decide (room≤room))&&(decide ((room*32)≤140737488355328))))) (
 a0a (k0i n a0b (room,(r,((List.replicate (Int.toNat room) (0,(0,(0,false)))),(r.2.2,((((List.length r.2.2):Nat):Int),(0,()))))))) fun r0 =>
 b0z (fun y1 =>
 some y1.1) (fun z2 =>
 some z2) r0) (
 none):=by kernel_rfl
theorem p0o (n f:Nat) (room:Int) (r_:(Int×(Int×(List a0j)))) (out:(List a0j)) (s11:(List a0j)) (s12:Int) (s13:Int):k0i n (f+1) (room,r_,out,s11,s12,s13,()) =
 tif ((decide (s13<s12))) (
 a0a (at? s11 s13) fun r0 =>
 tif ((decide (room=0))) (
 none) (
 a0a (at? out (Int.tmod (IntKind.wrap .i64 (r_.1+s13)) room)) fun r1 =>
 a0a ((out)[(Int.toNat (Int.tmod (IntKind.wrap .i64 (r_.1+s13)) room))]?) fun r2 =>
 k0i n f (room,(r_,((List.set out (Int.toNat (Int.tmod (IntKind.wrap .i64 (r_.1+s13)) room)) r0),(s11,(s12,((IntKind.wrap .i64 (s13+1)),())))))))) (
 some (.inl (out,()))):=by kernel_rfl
theorem a1s (n:Nat) (out:(List (List UInt8))) (l:(List a0c)) (each:Int) (bytes:((a0c×Unit)→Option (List UInt8))):i0a (n+1) out l each bytes =
 a0a (q0m n l each) fun r0 =>
 a0a (f0c n r0 (out,(bytes,()))) fun r1 =>
 some r1.1:=by kernel_rfl
theorem t0f (n:Nat) (x:((List (List UInt8))×(((a0c×Unit)→Option (List UInt8))×Unit))):f0c n [] x=some x:=by kernel_rfl
theorem s0f (n:Nat) (y:((List a0c)×Unit)) (r:List ((List a0c)×Unit)) (out_:(List (List UInt8))) (bytes_:((a0c×Unit)→Option (List UInt8))):f0c n (y::r) (out_,bytes_,()) =
 a0a (a0a (g0y n a0b (out_,(bytes_,([],(y.1,((((List.length y.1):Nat):Int),(0,()))))))) fun r0 =>
 b0z (fun y1 =>
 a0a (b0n n y1.2.2.1) fun r2 =>
 a0a (g0j n r2.1 (512:Int)) fun r3 =>
 tif ((decide ((((List.length y1.1)+1)*16)≤140737488355328))) (
 some ((y1.1++(r3::[])),(y1.2.1,()))) (
 none)) (fun z4 =>
 none) r0) fun r5 =>
 f0c n r r5:=by kernel_rfl
theorem l0m (n f:Nat) (out_:(List (List UInt8))) (bytes_:((a0c×Unit)→Option (List UInt8))) (b:List UInt8) (s17:(List a0c)) (s18:Int) (s19:Int):g0y n (f+1) (out_,bytes_,b,s17,s18,s19,()) =
 tif ((decide (s19<s18))) (
 a0a (at? s17 s19) fun r0 =>
 a0a (bytes_ (r0,())) fun r1 =>
 a0a (a0m n b r1) fun r2 =>
 g0y n f (out_,(bytes_,(r2.2.2,(s17,(s18,((IntKind.wrap .i64 (s19+1)),()))))))) (
 some (.inl (out_,(bytes_,(b,()))))):=by kernel_rfl
theorem q1x (n:Nat) (c:b0k):e1t (n+1) c =
 tif ((decide (c.1<1))) (
 some (2:Int)) (
 tif ((decide ((4096:Int)<c.1))) (
 some (2:Int)) (
 tif ((decide (c.2.2.2.1<1))) (
 some (2:Int)) (
 tif ((decide ((65536:Int)<c.2.2.2.1))) (
 some (2:Int)) (
 tif ((decide (c.2.2.2.2<1))) (
 some (2:Int)) (
 tif ((decide ((8192:Int)<c.2.2.2.2))) (
 some (2:Int)) (
 tif ((decide (c.2.1.1<1))) (
 some (2:Int)) (
 tif ((decide ((1099511627776:Int)<c.2.1.1))) (
 some (2:Int)) (
 tif ((decide (c.2.2.1.1<1))) (
 some (2:Int)) (
 tif ((decide ((4096:Int)<c.2.2.1.1))) (
 some (2:Int)) (
 tif ((decide (c.2.1.2.1<1))) (
 some (2:Int)) (
 tif ((decide ((1099511627776:Int)<c.2.1.2.1))) (
 some (2:Int)) (
 tif ((decide (c.2.2.1.2.1<1))) (
 some (2:Int)) (
 tif ((decide ((4096:Int)<c.2.2.1.2.1))) (
 some (2:Int)) (
 tif ((decide (c.2.1.1=0))) (
 none) (
 tif ((!(decide ((Int.tmod c.2.1.2.1 c.2.1.1)=0)))) (
 some (2:Int)) (
 tif ((decide (c.2.1.1=0))) (
 none) (
 tif ((decide (c.2.2.1.1<(IntKind.wrap .i64 (Int.tdiv c.2.1.2.1 c.2.1.1))))) (
 some (2:Int)) (
 tif ((decide (c.2.1.2.2<1))) (
 some (2:Int)) (
 tif ((decide ((1099511627776:Int)<c.2.1.2.2))) (
 some (2:Int)) (
 tif ((decide (c.2.2.1.2.2<1))) (
 some (2:Int)) (
 tif ((decide ((4096:Int)<c.2.2.1.2.2))) (
 some (2:Int)) (
 tif ((decide (c.2.1.2.1=0))) (
 none) (
 tif ((!(decide ((Int.tmod c.2.1.2.2 c.2.1.2.1)=0)))) (
 some (2:Int)) (
 tif ((decide (c.2.1.2.1=0))) (
 none) (
 tif ((decide (c.2.2.1.2.1<(IntKind.wrap .i64 (Int.tdiv c.2.1.2.2 c.2.1.2.1))))) (
 some (2:Int)) (
 a0a (y0c n c) fun r0 =>
 tif ((decide (c.2.2.2.2≤r0))) (
 some (2:Int)) (
 some (0:Int)))))))))))))))))))))))))))):=by kernel_rfl
theorem q1v (n:Nat) (c:b0k):q1w (n+1) c =
 a0a (e1t n c) fun r0 =>
 tif ((!(decide (r0=0)))) (
 some (0:Int)) (
 a0a (y0c n c) fun r1 =>
 some r1):=by kernel_rfl
theorem i1e (n:Nat) (w:(List Int)) (e:a0j):n0e (n+1) w e =
 a0a (n0g n w (e.1::((IntKind.wrap .i64 e.2.1)::(e.2.2.1::[])))) fun r0 =>
 tif (e.2.2.2) (
 a0a (a0r n r0 (1:Int) (1:Int)) fun r1 =>
 some r1) (
 a0a (a0r n r0 (1:Int) (0:Int)) fun r2 =>
 some r2):=by kernel_rfl
theorem e0n (n:Nat) (s:List UInt8):k0b (n+1) s =
 some (s,false):=by kernel_rfl
theorem t0m (n:Nat) (r:(List UInt8×Bool)) (width:Int):a0e (n+1) r width =
 tif ((decide (width<1))) (
 a0a (b0t n r) fun r0 =>
 some ((0:Int),r0)) (
 tif ((decide ((8:Int)<width))) (
 a0a (b0t n r) fun r1 =>
 some ((0:Int),r1)) (
 a0a (d0m n r width) fun r2 =>
 a0a (c0i n a0b (r2.2,((0:Int),((List.map (fun y3=>(((UInt8.toNat y3):Nat):Int)) r2.1),((((List.length (List.map (fun y4=>(((UInt8.toNat y4):Nat):Int)) r2.1)):Nat):Int),((0:Int),())))))) fun r5 =>
 b0z (fun y6 =>
 some (y6.2.1,y6.1)) (fun z7 =>
 some z7) r5)):=by kernel_rfl
theorem i0t (n f:Nat) (r:(List UInt8×Bool)) (n_:Int) (s19:(List Int)) (s20:Int) (s21:Int):c0i n (f+1) (r,n_,s19,s20,s21,()) =
 tif ((decide (s21<s20))) (
 a0a (at? s19 s21) fun r0 =>
 c0i n f (r,((orI .u64 (shlI .u64 n_ (8:Int)) (IntKind.wrap .u64 r0)),(s19,(s20,((IntKind.wrap .i64 (s21+1)),())))))) (
 some (.inl (r,(n_,())))):=by kernel_rfl
theorem d0a (n:Nat) (r:(List UInt8×Bool)):i0g (n+1) r =
 some r.2:=by kernel_rfl
theorem h0u (n:Nat) (r:(List UInt8×Bool)):k0a (n+1) r =
 some (((List.length r.1):Nat):Int):=by kernel_rfl
theorem i1d (n:Nat) (l:(List (List UInt8))):w0e (n+1) l =
 tif ((decide ((0:Int)<(((List.length l):Nat):Int)))) (
 a0a (j0m n l (fun y0=>l0s n y0.1)) fun r1 =>
 some (!r1)) (
 some false):=by kernel_rfl
theorem k0v (n:Nat) (p:b0b):d0k (n+1) p =
 a0a (c0e n p (1:Int) (1:Int)) fun r0 =>
 a0a (k0b n r0.1) fun r1 =>
 a0a (a0e n r1 (2:Int)) fun r2 =>
 tif ((decide ((IntKind.wrap .i64 r2.1)=0))) (
 some (([],(0,((0,(0,[])),(([],([],[])),(0,(0,((0,(0,(0,false))),((0,(0,(0,false))),((0,0),(0,(0,0))))))))))),r0.2)) (
 tif ((decide ((320:Int)<(IntKind.wrap .i64 r2.1)))) (
 some (([],(0,((0,(0,[])),(([],([],[])),(0,(0,((0,(0,(0,false))),((0,(0,(0,false))),((0,0),(0,(0,0))))))))))),r0.2)) (
 a0a (d0m n r2.2 (320:Int)) fun r3 =>
 tif (((decide ((0:Int)≤(IntKind.wrap .i64 r2.1)))&&(decide ((IntKind.wrap .i64 r2.1)≤(((List.length r3.1):Nat):Int))))) (
 a0a (y0n n (List.drop 0 (List.take (Int.toNat (IntKind.wrap .i64 r2.1)) r3.1))) fun r4 =>
 a0a (a0e n r3.2 (8:Int)) fun r5 =>
 a0a (a0e n r5.2 (8:Int)) fun r6 =>
 a0a (a0e n r6.2 (8:Int)) fun r7 =>
 a0a (a0e n r7.2 (2:Int)) fun r8 =>
 a0a (d0m n r8.2 (128:Int)) fun r9 =>
 a0a (k0j n r9.1) fun r10 =>
 a0a (n0f n r0.2 ((IntKind.wrap .i64 r6.1),((IntKind.wrap .i64 r7.1),[])) (IntKind.wrap .i64 r8.1)) fun r11 =>
 a0a (a0s n a0b (r11.2,(([],(0,((0,(0,[])),(([],([],[])),(0,(0,((0,(0,(0,false))),((0,(0,(0,false))),((0,0),(0,(0,0))))))))))),((r4.1,((IntKind.wrap .i64 r5.1),(r11.1,(([],([],[])),r10)))),(r11.2.1.2.2.1,(0,())))))) fun r12 =>
 b0z (fun y13 =>
 some (y13.2.2.1,y13.1)) (fun z14 =>
 some z14) r12) (
 none))):=by kernel_rfl
theorem d0d (n f:Nat) (p:b0b) (s2:b0d) (x:b0d) (s63:(Int×(Int×Int))) (s64:Int):a0s n (f+1) (p,s2,x,s63,s64,()) =
 tif ((decide (s64<3))) (
 tif ((decide (s64=0))) (
 a0a (f0s n p s63.1) fun r0 =>
 tif ((decide (s64=0))) (
 a0s n f (r0.2,(s2,((x.1,(x.2.1,(x.2.2.1,((r0.1,x.2.2.2.1.2),x.2.2.2.2)))),(s63,((IntKind.wrap .i64 (s64+1)),())))))) (
 tif ((decide (s64=1))) (
 a0s n f (r0.2,(s2,((x.1,(x.2.1,(x.2.2.1,((x.2.2.2.1.1,(r0.1,x.2.2.2.1.2.2)),x.2.2.2.2)))),(s63,((IntKind.wrap .i64 (s64+1)),())))))) (
 tif ((decide (s64=2))) (
 a0s n f (r0.2,(s2,((x.1,(x.2.1,(x.2.2.1,((x.2.2.2.1.1,(x.2.2.2.1.2.1,r0.1)),x.2.2.2.2)))),(s63,((IntKind.wrap .i64 (s64+1)),())))))) (
 none)))) (
 tif ((decide (s64=1))) (
 a0a (f0s n p s63.2.1) fun r1 =>
 tif ((decide (s64=0))) (
 a0s n f (r1.2,(s2,((x.1,(x.2.1,(x.2.2.1,((r1.1,x.2.2.2.1.2),x.2.2.2.2)))),(s63,((IntKind.wrap .i64 (s64+1)),())))))) (
 tif ((decide (s64=1))) (
 a0s n f (r1.2,(s2,((x.1,(x.2.1,(x.2.2.1,((x.2.2.2.1.1,(r1.1,x.2.2.2.1.2.2)),x.2.2.2.2)))),(s63,((IntKind.wrap .i64 (s64+1)),())))))) (
 tif ((decide (s64=2))) (
 a0s n f (r1.2,(s2,((x.1,(x.2.1,(x.2.2.1,((x.2.2.2.1.1,(x.2.2.2.1.2.1,r1.1)),x.2.2.2.2)))),(s63,((IntKind.wrap .i64 (s64+1)),())))))) (
 none)))) (
 tif ((decide (s64=2))) (
 a0a (f0s n p s63.2.2) fun r2 =>
 tif ((decide (s64=0))) (
 a0s n f (r2.2,(s2,((x.1,(x.2.1,(x.2.2.1,((r2.1,x.2.2.2.1.2),x.2.2.2.2)))),(s63,((IntKind.wrap .i64 (s64+1)),())))))) (
 tif ((decide (s64=1))) (
 a0s n f (r2.2,(s2,((x.1,(x.2.1,(x.2.2.1,((x.2.2.2.1.1,(r2.1,x.2.2.2.1.2.2)),x.2.2.2.2)))),(s63,((IntKind.wrap .i64 (s64+1)),())))))) (
 tif ((decide (s64=2))) (
 a0s n f (r2.2,(s2,((x.1,(x.2.1,(x.2.2.1,((x.2.2.2.1.1,(x.2.2.2.1.2.1,r2.1)),x.2.2.2.2)))),(s63,((IntKind.wrap .i64 (s64+1)),())))))) (
 none)))) (
 none)))) (
 some (.inl (p,(s2,(x,()))))):=by kernel_rfl
theorem x0s (n:Nat) (s1:(List (List UInt8))) (s2:(List (List UInt8))):i0x (n+1) s1 s2 =
 tif ((!(decide ((((List.length s1):Nat):Int)=(((List.length s2):Nat):Int))))) (
 some false) (
 a0a (g0a n a0b (s1,(s2,((((List.length s1):Nat):Int),(0,()))))) fun r0 =>
 b0z (fun y1 =>
 some true) (fun z2 =>
 some z2) r0):=by kernel_rfl
theorem k0q (n f:Nat) (s1:(List (List UInt8))) (s2:(List (List UInt8))) (s12:Int) (s13:Int):g0a n (f+1) (s1,s2,s12,s13,()) =
 tif ((decide (s13<s12))) (
 a0a (at? s1 s13) fun r0 =>
 a0a (at? s2 s13) fun r1 =>
 tif ((!(r0==r1))) (
 some (.inr false)) (
 g0a n f (s1,(s2,(s12,((IntKind.wrap .i64 (s13+1)),())))))) (
 some (.inl ())):=by kernel_rfl
theorem u1p (n:Nat) (s:a0v):q0i (n+1) s =
 a0a (d0l n s.1) fun r0 =>
 tif ((!(decide (r0=0)))) (
 some (((0,((0,(0,0)),((0,(0,0)),(0,0)))),(0,(0,[]))),2)) (
 tif ((!(decide ((((List.length s.2.2.2):Nat):Int)=s.1.2.2.2.1)))) (
 some (((0,((0,(0,0)),((0,(0,0)),(0,0)))),(0,(0,[]))),2)) (
 some (s,0))):=by kernel_rfl
theorem z0r (n:Nat) (v:a0v):o0m (n+1) v =
 a0a (x0h n v.2.1) fun r0 =>
 tif (r0) (
 tif ((decide (v.2.2.1=((-1):Int)))) (
 some (decide (v.2.2.1≤v.2.1))) (
 a0a (x0h n v.2.2.1) fun r1 =>
 tif (r1) (
 some (decide (v.2.2.1≤v.2.1))) (
 some false))) (
 some false):=by kernel_rfl
theorem z0p (n:Nat) (v:a0v) (is:((Int×Unit)→Option Bool)):e0o (n+1) v is =
 a0a (c0x n a0b (is,((((List.length v.2.2.2):Nat):Int),(0,())))) fun r0 =>
 b0z (fun y1 =>
 some ((-1):Int)) (fun z2 =>
 some z2) r0:=by kernel_rfl
theorem l0h (n f:Nat) (is:((Int×Unit)→Option Bool)) (s9:Int) (s10:Int):c0x n (f+1) (is,s9,s10,()) =
 tif ((decide (s10<s9))) (
 a0a (is (s10,())) fun r0 =>
 tif (r0) (
 some (.inr s10)) (
 c0x n f (is,(s9,((IntKind.wrap .i64 (s10+1)),()))))) (
 some (.inl ())):=by kernel_rfl
theorem h1e (n:Nat) (i:Int) (p1:a0v):f0k (n+1) i p1 =
 a0a (o0l n p1 i) fun r0 =>
 some (!r0):=by kernel_rfl
theorem z0o (n:Nat) (v:a0v) (i:Int):o0l (n+1) v i =
 a0a (at? v.2.2.2 i) fun r0 =>
 a0a (x0i n r0) fun r1 =>
 tif (r1) (
 some true) (
 a0a (n0t n v.1 r0) fun r2 =>
 tif ((decide (r2=0))) (
 tif ((decide ((0:Int)≤r0.2.1))) (
 a0a (l0p n v) fun r3 =>
 tif ((decide (r0.2.1<(IntKind.wrap .i64 (r3+v.1.2.1.1))))) (
 a0a (q0h n v i) fun r4 =>
 some (!r4)) (
 some false)) (
 some false)) (
 some false)):=by kernel_rfl
theorem f0q (n:Nat) (s1:(List b0d)) (s2:(List b0d)) (eq:((b0d×(b0d×Unit))→Option Bool)):d0e (n+1) s1 s2 eq =
 tif ((!(decide ((((List.length s1):Nat):Int)=(((List.length s2):Nat):Int))))) (
 some false) (
 a0a (b0j n a0b (s2,(eq,(s1,((((List.length s1):Nat):Int),(0,())))))) fun r0 =>
 b0z (fun y1 =>
 some true) (fun z2 =>
 some z2) r0):=by kernel_rfl
theorem c0h (n f:Nat) (s2:(List b0d)) (eq:((b0d×(b0d×Unit))→Option Bool)) (s15:(List b0d)) (s16:Int) (s17:Int):b0j n (f+1) (s2,eq,s15,s16,s17,()) =
 tif ((decide (s17<s16))) (
 a0a (at? s15 s17) fun r0 =>
 a0a (at? s2 s17) fun r1 =>
 a0a (eq (r0,(r1,()))) fun r2 =>
 tif ((!r2)) (
 some (.inr false)) (
 b0j n f (s2,(eq,(s15,(s16,((IntKind.wrap .i64 (s17+1)),()))))))) (
 some (.inl ())):=by kernel_rfl
theorem h1h (n:Nat) (a:b0d) (b:b0d):d0w (n+1) a b =
 a0a (p0k n a.1 b.1) fun r0 =>
 tif (r0) (
 tif ((decide (a.2.1=b.2.1))) (
 a0a (y1k n a.2.2.1 b.2.2.1) fun r1 =>
 tif (r1) (
 tif (((decide (a.2.2.2.2.1=b.2.2.2.2.1))&&((decide (a.2.2.2.2.2.1=b.2.2.2.2.2.1))&&((decide (a.2.2.2.2.2.2.1.1=b.2.2.2.2.2.2.1.1))&&((decide (a.2.2.2.2.2.2.1.2.1=b.2.2.2.2.2.2.1.2.1))&&((decide (a.2.2.2.2.2.2.1.2.2.1=b.2.2.2.2.2.2.1.2.2.1))&&((a.2.2.2.2.2.2.1.2.2.2==b.2.2.2.2.2.2.1.2.2.2)&&((decide (a.2.2.2.2.2.2.2.1.1=b.2.2.2.2.2.2.2.1.1))&&((decide (a.2.2.2.2.2.2.2.1.2.1=b.2.2.2.2.2.2.2.1.2.1))&&((decide (a.2.2.2.2.2.2.2.1.2.2.1=b.2.2.2.2.2.2.2.1.2.2.1))&&((a.2.2.2.2.2.2.2.1.2.2.2==b.2.2.2.2.2.2.2.1.2.2.2)&&((decide (a.2.2.2.2.2.2.2.2.1.1=b.2.2.2.2.2.2.2.2.1.1))&&((decide (a.2.2.2.2.2.2.2.2.1.2=b.2.2.2.2.2.2.2.2.1.2))&&((decide (a.2.2.2.2.2.2.2.2.2.1=b.2.2.2.2.2.2.2.2.2.1))&&((decide (a.2.2.2.2.2.2.2.2.2.2.1=b.2.2.2.2.2.2.2.2.2.2.1))&&(decide (a.2.2.2.2.2.2.2.2.2.2.2=b.2.2.2.2.2.2.2.2.2.2.2))))))))))))))))) (
 a0a (i0y n a.2.2.2.1.1 b.2.2.2.1.1) fun r2 =>
 tif (r2) (
 a0a (i0y n a.2.2.2.1.2.1 b.2.2.2.1.2.1) fun r3 =>
 tif (r3) (
 a0a (i0y n a.2.2.2.1.2.2 b.2.2.2.1.2.2) fun r4 =>
 some r4) (
 some false)) (
 some false)) (
 some false)) (
 some false)) (
 some false)) (
 some false):=by kernel_rfl
theorem p1w (n:Nat) (s:a0v):e1b (n+1) s =
 a0a (h0x n s) fun r0 =>
 tif ((!(decide (r0=0)))) (
 some []) (
 a0a (l1u n s) fun r1 =>
 a0a (j0s n r1 (fun y2=>m0k n y2.1 s)) fun r3 =>
 some r3):=by kernel_rfl
theorem h1l (n:Nat) (s:a0v) (l:(List (List UInt8×List UInt8))) (e:a0j):v0x (n+1) s l e =
 a0a (h0x n s) fun r0 =>
 tif ((!(decide (r0=0)))) (
 some (0,(false,r0))) (
 a0a (i0h n l) fun r1 =>
 tif ((!(decide (r1=0)))) (
 some (0,(false,r1))) (
 a0a (e0r n e) fun r2 =>
 tif ((!(decide (r2=0)))) (
 some (0,(false,r2))) (
 a0a (a1b n s) fun r3 =>
 a0a (t0w n s l) fun r4 =>
 tif ((decide (e.1<r3.1))) (
 some (0,(false,9))) (
 tif ((decide (r3.2≤e.1))) (
 some (0,(false,9))) (
 tif ((decide (r4.2=0))) (
 a0a (at? s.2.2.2 r4.1) fun r5 =>
 tif ((decide (e.1≤r5.2.1))) (
 some (0,(false,9))) (
 tif ((decide (r4.2=0))) (
 some (r4.1,(false,0))) (
 tif (e.2.2.2) (
 some (0,(false,3))) (
 a0a (d1b n s) fun r6 =>
 some (r6.1,((decide (r6.2=0)),r6.2)))))) (
 tif ((decide (r4.2=0))) (
 some (r4.1,(false,0))) (
 tif (e.2.2.2) (
 some (0,(false,3))) (
 a0a (d1b n s) fun r7 =>
 some (r7.1,((decide (r7.2=0)),r7.2)))))))))):=by kernel_rfl
theorem g1w (n:Nat) (s:a0v) (i:Int) (fresh:Bool) (l:(List (List UInt8×List UInt8))):d1o (n+1) s i fresh l =
 tif (fresh) (
 a0a (u0c n s.1 l) fun r0 =>
 some r0) (
 a0a (at? s.2.2.2 i) fun r1 =>
 some (r1,0)):=by kernel_rfl
theorem m1b (n:Nat) (c:b0k) (s:b0d) (e:a0j):a1a (n+1) c s e =
 a0a (q0q n c s) fun r0 =>
 f1d (r0.1) (
 tif ((!(decide (r0.2=0)))) (
 some (([],(0,((0,(0,[])),(([],([],[])),(0,(0,((0,(0,(0,false))),((0,(0,(0,false))),((0,0),(0,(0,0))))))))))),2)) (
 a0a (e0r n e) fun r1 =>
 tif ((!(decide (r1=0)))) (
 some (([],(0,((0,(0,[])),(([],([],[])),(0,(0,((0,(0,(0,false))),((0,(0,(0,false))),((0,0),(0,(0,0))))))))))),2)) (
 tif ((decide (e.1≤s.2.1))) (
 some (([],(0,((0,(0,[])),(([],([],[])),(0,(0,((0,(0,(0,false))),((0,(0,(0,false))),((0,0),(0,(0,0))))))))))),9)) (
 tif ((decide (c.2.1.1=0))) (
 none) (
 none))))) fun r2 =>
 tif ((!(decide (r0.2=0)))) (
 some (([],(0,((0,(0,[])),(([],([],[])),(0,(0,((0,(0,(0,false))),((0,(0,(0,false))),((0,0),(0,(0,0))))))))))),2)) (
 a0a (e0r n e) fun r3 =>
 tif ((!(decide (r3=0)))) (
 some (([],(0,((0,(0,[])),(([],([],[])),(0,(0,((0,(0,(0,false))),((0,(0,(0,false))),((0,0),(0,(0,0))))))))))),2)) (
 tif ((decide (e.1≤s.2.1))) (
 some (([],(0,((0,(0,[])),(([],([],[])),(0,(0,((0,(0,(0,false))),((0,(0,(0,false))),((0,0),(0,(0,0))))))))))),9)) (
 tif ((decide (c.2.1.1=0))) (
 none) (
 a0a (l1w n r2 (IntKind.wrap .i64 (Int.tdiv e.1 c.2.1.1))) fun r4 =>
 tif ((!(decide (r4.1=0)))) (
 some (([],(0,((0,(0,[])),(([],([],[])),(0,(0,((0,(0,(0,false))),((0,(0,(0,false))),((0,0),(0,(0,0))))))))))),r4.1)) (
 a0a (f2o n r4.2 (IntKind.wrap .i64 (Int.tdiv e.1 c.2.1.1)) e) fun r5 =>
 tif ((!(decide (r5.1=0)))) (
 some (([],(0,((0,(0,[])),(([],([],[])),(0,(0,((0,(0,(0,false))),((0,(0,(0,false))),((0,0),(0,(0,0))))))))))),r5.1)) (
 some (r5.2.2,0))))))):=by kernel_rfl
theorem x0t (n:Nat) (s:(List b0d)):m0q (n+1) s =
 tif ((decide ((List.length s)=0))) (
 both (
 some []) (
 tif ((decide (((0+(List.length s))*264)≤140737488355328))) (
 some ([]++s)) (
 none))) (
 tif ((decide (((0+(List.length s))*264)≤140737488355328))) (
 some ([]++s)) (
 none)):=by kernel_rfl
theorem l1v (n:Nat) (i:Int) (p1:a0v) (p2:(List (List UInt8×List UInt8))) (p3:a0v):g0t (n+1) i p1 p2 p3 =
 a0a (at? p1.2.2.2 i) fun r0 =>
 a0a (p0k n r0.1 p2) fun r1 =>
 tif (r1) (
 a0a (e0p n p3 i) fun r2 =>
 some r2) (
 some false):=by kernel_rfl
theorem y0m (n:Nat) (a:(List (List UInt8×List UInt8))) (b:(List (List UInt8×List UInt8))):p0k (n+1) a b =
 a0a (o0p n a b) fun r0 =>
 some r0:=by kernel_rfl
theorem z0q (n:Nat) (v:a0v) (i:Int):e0p (n+1) v i =
 a0a (at? v.2.2.2 i) fun r0 =>
 a0a (x0i n r0) fun r1 =>
 tif ((!r1)) (
 tif ((decide (v.2.2.1=((-1):Int)))) (
 some true) (
 a0a (q0r n v.1 r0.2.1 v.2.2.1) fun r2 =>
 some (!r2))) (
 some false):=by kernel_rfl
theorem o1k (n:Nat) (c:b0k):j0z (n+1) c =
 a0a (m0e n c.1 (16:Int)) fun r0 =>
 a0a (m0e n c.2.2.1.1 (4:Int)) fun r1 =>
 a0a (m0e n c.2.2.1.2.1 (4:Int)) fun r2 =>
 a0a (m0e n c.2.2.1.2.2 (4:Int)) fun r3 =>
 some (IntKind.wrap .i64 ((IntKind.wrap .i64 ((IntKind.wrap .i64 ((IntKind.wrap .i64 ((1:Int)+r0))+r1))+r2))+r3)):=by kernel_rfl
theorem r1z (n:Nat) (s:((List a0c)×((List a0c)×(List a0c)))):f1q (n+1) s =
 a0a (e0i n a0b (s,(0,()))) fun r0 =>
 b0z (fun y1 =>
 some (1:Int)) (fun z2 =>
 some z2) r0:=by kernel_rfl
theorem j0c (n f:Nat) (s_:((List a0c)×((List a0c)×(List a0c)))) (s4:Int):e0i n (f+1) (s_,s4,()) =
 tif ((decide (s4<3))) (
 tif ((decide (s4=0))) (
 tif ((decide ((40:Int)<(((List.length s_.1):Nat):Int)))) (
 some (.inr (0:Int))) (
 e0i n f (s_,((IntKind.wrap .i64 (s4+1)),())))) (
 tif ((decide (s4=1))) (
 tif ((decide ((40:Int)<(((List.length s_.2.1):Nat):Int)))) (
 some (.inr (0:Int))) (
 e0i n f (s_,((IntKind.wrap .i64 (s4+1)),())))) (
 tif ((decide (s4=2))) (
 tif ((decide ((40:Int)<(((List.length s_.2.2):Nat):Int)))) (
 some (.inr (0:Int))) (
 e0i n f (s_,((IntKind.wrap .i64 (s4+1)),())))) (
 none)))) (
 some (.inl ())):=by kernel_rfl
theorem t0l (n:Nat) (w:(List Int)) (width:Int) (n_:Int):a0r (n+1) w width n_ =
 tif ((decide (width<1))) (
 some w) (
 tif ((decide ((8:Int)<width))) (
 some w) (
 a0a (e0m n a0b (w,(n_,((IntKind.wrap .i64 ((8:Int)*(IntKind.wrap .i64 (width-1)))),())))) fun r0 =>
 b0z (fun y1 =>
 some y1.1) (fun z2 =>
 some z2) r0)):=by kernel_rfl
theorem i0s (n f:Nat) (w:(List Int)) (n_:Int) (up:Int):e0m n (f+1) (w,n_,up,()) =
 tif ((decide ((0:Int)≤up))) (
 tif ((decide (up<0))) (
 none) (
 tif ((decide ((((List.length w)+1)*1)≤140737488355328))) (
 e0m n f ((w++((IntKind.wrap .u8 (shrI .u64 n_ up))::[])),(n_,((IntKind.wrap .i64 (up-8)),())))) (
 none))) (
 some (.inl (w,()))):=by kernel_rfl
end Go.Proofs.YtagnkfbpgkckiaaGreat
