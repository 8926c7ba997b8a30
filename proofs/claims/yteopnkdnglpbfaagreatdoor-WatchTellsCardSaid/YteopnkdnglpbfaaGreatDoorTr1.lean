/- Trees, printed by program. -/
import Derived.Test.YteopnkdnglpbfaaGreatDoorTr0
import Derived.KernelRfl
open Go.IntKind (wrap)
set_option linter.unusedVariables false
namespace Go.Proofs.YteopnkdnglpbfaaGreatDoor
open Go.Flat
theorem z0x (n:Nat) (s:a0m) (o:a0m) (ws:(List b0w)):u0r (n+1) s o ws =
 a0a (s0l n s) fun r0 =>
 tif (r0=0) (
 a0a (o0n n ) fun r1 =>
 some r1) (
 a0a (s0l n o) fun r2 =>
 tif (r2=0) (
 a0a (o0n n ) fun r3 =>
 some r3) (
 a0a (y0d n ws) fun r4 =>
 tif (r4=0) (
 a0a (o0n n ) fun r5 =>
 some r5) (
 a0a (g0e n a0b (ws,(s,(o,(ws,((ws.length:Int),(0,()))))))) fun r6 =>
 b0x (fun y7 =>
 a0a (l0e n y7.2.1 y7.1) fun r8 =>
 a0a (d1p n y7.2.1 y7.1) fun r9 =>
 a0a (f0o n y7.2.1 y7.2.2.1 y7.1) fun r10 =>
 a0a (z0g n y7.2.1 y7.2.2.1 y7.1) fun r11 =>
 a0a (o0n n ) fun r12 =>
 tif (r12) (
 a0a (i0z n r8.1 r9.1) fun r13 =>
 tif (r13) (
 tif (r8.2=r9.2) (
 a0a (i0z n r10.1 r11.1) fun r14 =>
 tif (r14) (
 a0a (i0z n r10.2.1 r11.2.1) fun r15 =>
 tif (r15) (
 some (decide (r10.2.2=r11.2.2))) (
 some false)) (
 some false)) (
 some false)) (
 some false)) (
 some false)) (fun z16 =>
 some z16) r6))):=by kernel_rfl
theorem k0c (n f:Nat) (ws:(List b0w)) (s_:a0m) (o_:a0m) (s37:(List b0w)) (s38:Int) (s39:Int):g0e n (f+1) (ws,s_,o_,s37,s38,s39,()) =
 tif (s39<s38) (
 a0a (at? s37 s39) fun r0 =>
 tif (s39=12) (
 some (.inl (ws,(s_,(o_,()))))) (
 a0a (c0r n s_ r0) fun r1 =>
 a0a (n1k n s_ r0) fun r2 =>
 tif (!(r1.1==r2.1)) (
 some (.inr false)) (
 tif (!(r1.2=r2.2)) (
 some (.inr false)) (
 g0e n f (ws,(s_,(o_,(s37,(s38,((wrap .i64 (s39+1)),())))))))))) (
 some (.inl (ws,(s_,(o_,()))))):=by kernel_rfl
theorem u1i (n:Nat) (s:a0m):s0l (n+1) s =
 tif ((8:Int)<(s.2.2.2.length:Int)) (
 some (0:Int)) (
 a0a (j0p n a0b (s.2.2.2,((s.2.2.2.length:Int),(0,())))) fun r0 =>
 b0x (fun y1 =>
 some (1:Int)) (fun z2 =>
 some z2) r0):=by kernel_rfl
theorem s0k (n f:Nat) (s10:(List b0j)) (s11:Int) (s12:Int):j0p n (f+1) (s10,s11,s12,()) =
 tif (s12<s11) (
 a0a (at? s10 s12) fun r0 =>
 a0a (y0e n r0) fun r1 =>
 tif (r1=0) (
 some (.inr (0:Int))) (
 j0p n f (s10,(s11,((wrap .i64 (s12+1)),()))))) (
 some (.inl ())):=by kernel_rfl
theorem u1g (n:Nat) (ws:(List b0w)):y0d (n+1) ws =
 tif ((12:Int)<(ws.length:Int)) (
 tif ((ws.length:Int)<=256) (
 some (0:Int)) (
 tif ((300:Int)<(ws.length:Int)) (
 some (0:Int)) (
 a0a (e0s n a0b (ws,((ws.length:Int),(0,())))) fun r0 =>
 b0x (fun y1 =>
 some (1:Int)) (fun z2 =>
 some z2) r0))) (
 tif ((300:Int)<(ws.length:Int)) (
 some (0:Int)) (
 a0a (e0s n a0b (ws,((ws.length:Int),(0,())))) fun r3 =>
 b0x (fun y4 =>
 some (1:Int)) (fun z5 =>
 some z5) r3)):=by kernel_rfl
theorem s0j (n f:Nat) (s18:(List b0w)) (s19:Int) (s20:Int):e0s n (f+1) (s18,s19,s20,()) =
 tif (s20<s19) (
 a0a (at? s18 s20) fun r0 =>
 a0a (s0n n r0.1.1) fun r1 =>
 tif (r1=0) (
 some (.inr (0:Int))) (
 e0s n f (s18,(s19,((wrap .i64 (s20+1)),()))))) (
 some (.inl ())):=by kernel_rfl
theorem c0y (n:Nat) (s:a0m) (w:b0w):c0r (n+1) s w =
 a0a (h0g n s) fun r0 =>
 tif (!(r0=0)) (
 some (false,2)) (
 a0a (e0z n w.2) fun r1 =>
 tif (!(r1=0)) (
 some (false,2)) (
 a0a (x0p n s w.1) fun r2 =>
 tif (r2.2=0) (
 tif (!(r2.1.2.2.2=0)) (
 some (false,r2.1.2.2.2)) (
 a0a (i0s n r2.1.2.2.1 w.2) fun r3 =>
 tif (r3.2=0) (
 some ((!r3.1),r3.2)) (
 some (false,r3.2)))) (
 tif (!(r2.2=0)) (
 some (false,r2.2)) (
 a0a (i0s n r2.1.2.2.1 w.2) fun r4 =>
 tif (r4.2=0) (
 some ((!r4.1),r4.2)) (
 some (false,r4.2)))))):=by kernel_rfl
theorem d2s (n:Nat) (s:a0m) (w:b0w):n1k (n+1) s w =
 a0a (h0s n s) fun r0 =>
 tif (!(r0=0)) (
 some (false,2)) (
 a0a (s0c n w.2) fun r1 =>
 tif (!(r1=0)) (
 some (false,2)) (
 a0a (h2v n s w.1) fun r2 =>
 tif (!(r2.2=0)) (
 some (false,r2.2)) (
 tif (!(r2.1.2.2.2=0)) (
 some (false,r2.1.2.2.2)) (
 a0a (n1z n r2.1.2.2.1 w.2) fun r3 =>
 tif (!(r3.2=0)) (
 some (false,r3.2)) (
 some ((!r3.1),0)))))):=by kernel_rfl
theorem t0u (n:Nat) (s:a0m) (ws:(List b0w)):l0e (n+1) s ws =
 a0a (c0s n ws (s::[])) fun r0 =>
 tif (!(r0=0)) (
 some ([],r0)) (
 a0a (s0t n s) fun r1 =>
 a0a (b0q n ws r1) fun r2 =>
 some (r2,0)):=by kernel_rfl
theorem s1b (n:Nat) (s:a0m) (ws:(List b0w)):d1p (n+1) s ws =
 tif ((256:Int)<(ws.length:Int)) (
 some ([],6)) (
 a0a (h0s n s) fun r0 =>
 tif (!(r0=0)) (
 some ([],2)) (
 a0a (j0k n a0b (s,([],(ws,((ws.length:Int),(0,())))))) fun r1 =>
 b0x (fun y2 =>
 some (y2.1,0)) (fun z3 =>
 some z3) r1)):=by kernel_rfl
theorem r0l (n f:Nat) (s_:a0m) (out:(List Int)) (s15:(List b0w)) (s16:Int) (s17:Int):j0k n (f+1) (s_,out,s15,s16,s17,()) =
 tif (s17<s16) (
 a0a (at? s15 s17) fun r0 =>
 a0a (r0k n s_ r0) fun r1 =>
 tif (r1) (
 tif ((((List.length out)+1)*8)<=140737488355328) (
 j0k n f (s_,((out++(s17::[])),(s15,(s16,((wrap .i64 (s17+1)),())))))) (
 none)) (
 j0k n f (s_,(out,(s15,(s16,((wrap .i64 (s17+1)),()))))))) (
 some (.inl (out,()))):=by kernel_rfl
theorem l0d (n:Nat) (a:a0m) (b:a0m) (ws:(List b0w)):f0o (n+1) a b ws =
 a0a (c0s n ws (a::(b::[]))) fun r0 =>
 tif (!(r0=0)) (
 some ([],([],r0))) (
 a0a (s0t n a) fun r1 =>
 a0a (s0t n b) fun r2 =>
 a0a (b0q n ws (fun y3=>b0h n y3.1 r2 r1)) fun r4 =>
 a0a (b0q n ws (fun y5=>b0g n y5.1 r1 r2)) fun r6 =>
 some (r4,(r6,0))):=by kernel_rfl
theorem n1i (n:Nat) (a:a0m) (b:a0m) (ws:(List b0w)):z0g (n+1) a b ws =
 tif ((256:Int)<(ws.length:Int)) (
 some ([],([],6))) (
 a0a (h0s n a) fun r0 =>
 tif (!(r0=0)) (
 some ([],([],2))) (
 a0a (h0s n b) fun r1 =>
 tif (!(r1=0)) (
 some ([],([],2))) (
 a0a (c0k n a0b (a,(b,([],([],(ws,((ws.length:Int),(0,())))))))) fun r2 =>
 b0x (fun y3 =>
 some (y3.1,(y3.2.1,0))) (fun z4 =>
 some z4) r2))):=by kernel_rfl
theorem q0r (n f:Nat) (a_:a0m) (b_:a0m) (up:(List Int)) (down:(List Int)) (s26:(List b0w)) (s27:Int) (s28:Int):c0k n (f+1) (a_,b_,up,down,s26,s27,s28,()) =
 tif (s28<s27) (
 a0a (at? s26 s28) fun r0 =>
 a0a (r0k n a_ r0) fun r1 =>
 a0a (r0k n b_ r0) fun r2 =>
 tif (r2) (
 tif (!r1) (
 tif ((((List.length up)+1)*8)<=140737488355328) (
 tif (r1) (
 tif (!r2) (
 tif ((((List.length down)+1)*8)<=140737488355328) (
 c0k n f (a_,(b_,((up++(s28::[])),((down++(s28::[])),(s26,(s27,((wrap .i64 (s28+1)),())))))))) (
 none)) (
 c0k n f (a_,(b_,((up++(s28::[])),(down,(s26,(s27,((wrap .i64 (s28+1)),()))))))))) (
 c0k n f (a_,(b_,((up++(s28::[])),(down,(s26,(s27,((wrap .i64 (s28+1)),()))))))))) (
 none)) (
 tif (r1) (
 tif (!r2) (
 tif ((((List.length down)+1)*8)<=140737488355328) (
 c0k n f (a_,(b_,(up,((down++(s28::[])),(s26,(s27,((wrap .i64 (s28+1)),())))))))) (
 none)) (
 c0k n f (a_,(b_,(up,(down,(s26,(s27,((wrap .i64 (s28+1)),()))))))))) (
 c0k n f (a_,(b_,(up,(down,(s26,(s27,((wrap .i64 (s28+1)),())))))))))) (
 tif (r1) (
 tif (!r2) (
 tif ((((List.length down)+1)*8)<=140737488355328) (
 c0k n f (a_,(b_,(up,((down++(s28::[])),(s26,(s27,((wrap .i64 (s28+1)),())))))))) (
 none)) (
 c0k n f (a_,(b_,(up,(down,(s26,(s27,((wrap .i64 (s28+1)),()))))))))) (
 c0k n f (a_,(b_,(up,(down,(s26,(s27,((wrap .i64 (s28+1)),())))))))))) (
 some (.inl (up,(down,())))):=by kernel_rfl
theorem y1d (n:Nat) (a:(List Int)) (b:(List Int)):i0z (n+1) a b =
 tif (!((a.length:Int)=(b.length:Int))) (
 some false) (
 a0a (p0x n a0b (a,(b,((a.length:Int),(0,()))))) fun r0 =>
 b0x (fun y1 =>
 some true) (fun z2 =>
 some z2) r0):=by kernel_rfl
theorem u0g (n f:Nat) (a:(List Int)) (b:(List Int)) (s12:Int) (s13:Int):p0x n (f+1) (a,b,s12,s13,()) =
 tif (s13<s12) (
 a0a (at? a s13) fun r0 =>
 a0a (at? b s13) fun r1 =>
 tif (!(r0=r1)) (
 some (.inr false)) (
 p0x n f (a,(b,(s12,((wrap .i64 (s13+1)),())))))) (
 some (.inl ())):=by kernel_rfl
theorem u1j (n:Nat) (s:b0j):y0e (n+1) s =
 a0a (s0n n s.1) fun r0 =>
 tif (r0=0) (
 some (0:Int)) (
 tif ((60:Int)<(s.2.2.1.2.2.length:Int)) (
 some (0:Int)) (
 a0a (e1p n s.2.2.2.1) fun r1 =>
 some r1)):=by kernel_rfl
theorem u1m (n:Nat) (l:(List (List UInt8×List UInt8))):s0n (n+1) l =
 a0a (j0q n a0b (l,((l.length:Int),(0,())))) fun r0 =>
 b0x (fun y1 =>
 some (1:Int)) (fun z2 =>
 some z2) r0:=by kernel_rfl
theorem s0m (n f:Nat) (s5:(List (List UInt8×List UInt8))) (s6:Int) (s7:Int):j0q n (f+1) (s5,s6,s7,()) =
 tif (s7<s6) (
 a0a (at? s5 s7) fun r0 =>
 tif (s7=40) (
 some (.inr (0:Int))) (
 tif ((1000:Int)<(r0.1.length:Int)) (
 some (.inr (0:Int))) (
 tif ((1000:Int)<(r0.2.length:Int)) (
 some (.inr (0:Int))) (
 j0q n f (s5,(s6,((wrap .i64 (s7+1)),()))))))) (
 some (.inl ())):=by kernel_rfl
theorem r1h (n:Nat) (s:a0m):h0g (n+1) s =
 a0a (c1c n s) fun r0 =>
 tif (!(r0.2=0)) (
 some (2:Int)) (
 a0a (m0w n r0.1) fun r1 =>
 tif (!r1) (
 some (2:Int)) (
 a0a (f0g n r0.1 (fun y2=>e0x n y2.1 r0.1)) fun r3 =>
 tif ((0:Int)<=r3) (
 some (2:Int)) (
 some (0:Int)))):=by kernel_rfl
theorem f1w (n:Nat) (f_:c0f):e0z (n+1) f_ =
 a0a (i0q n f_.2) fun r0 =>
 tif (r0) (
 some (2:Int)) (
 a0a (w0q n f_.1 f_.2) fun r1 =>
 a0a (q0u n (1:Int)) fun r2 =>
 tif (!((r1.1=r2.1)&&(r1.2=r2.2))) (
 some (2:Int)) (
 some (0:Int))):=by kernel_rfl
theorem y1p (n:Nat) (s:a0m) (a:TAsk):x0p (n+1) s a =
 a0a (e1c n s a.1) fun r0 =>
 tif (!(r0=0)) (
 some ((0,((0,((0,(0,(0,false))),((0,(0,(0,false))),((0,0),(0,(0,0)))))),(((0,0),(0,0)),0))),r0)) (
 a0a (z0k n s a.2.1 a.2.2.1 a.2.2.2) fun r1 =>
 tif (!(r1.2=0)) (
 some ((0,((0,((0,(0,(0,false))),((0,(0,(0,false))),((0,0),(0,(0,0)))))),(((0,0),(0,0)),0))),r1.2)) (
 a0a (o1d n s a (wrap .i64 (r1.1-1))) fun r2 =>
 tif (!(r2.2=0)) (
 some ((0,((0,((0,(0,(0,false))),((0,(0,(0,false))),((0,0),(0,(0,0)))))),(((0,0),(0,0)),0))),r2.2)) (
 a0a (z0l n r2.1) fun r3 =>
 some ((r1.1,(r2.1,r3)),0)))):=by kernel_rfl
theorem n1g (n:Nat) (a:c0f) (b:c0f):i0s (n+1) a b =
 a0a (e0z n a) fun r0 =>
 tif (!(r0=0)) (
 some (false,2)) (
 a0a (e0z n b) fun r1 =>
 tif (!(r1=0)) (
 some (false,2)) (
 a0a (p0p n a.1 b.2) fun r2 =>
 a0a (p0p n b.1 a.2) fun r3 =>
 tif (!(r2.2=0)) (
 some (false,1)) (
 tif (!(r3.2=0)) (
 some (false,1)) (
 a0a (j0f n r2.1 r3.1) fun r4 =>
 some (r4,0))))):=by kernel_rfl
theorem s1g (n:Nat) (s:a0m):h0s (n+1) s =
 a0a (r0n n s) fun r0 =>
 tif (!r0) (
 some (2:Int)) (
 a0a (w0s n s.2.1) fun r1 =>
 tif (!r1) (
 some (2:Int)) (
 tif (!(s.2.2.1=((-1):Int))) (
 a0a (w0s n s.2.2.1) fun r2 =>
 tif (!r2) (
 some (2:Int)) (
 tif (s.2.1<s.2.2.1) (
 some (2:Int)) (
 a0a (w0t n s) fun r3 =>
 a0a (d0l n a0b (s,((wrap .i64 (r3+s.1.2.1.1)),(s.2.2.2,((s.2.2.2.length:Int),(0,())))))) fun r4 =>
 b0x (fun y5 =>
 some (0:Int)) (fun z6 =>
 some z6) r4))) (
 tif (s.2.1<s.2.2.1) (
 some (2:Int)) (
 a0a (w0t n s) fun r7 =>
 a0a (d0l n a0b (s,((wrap .i64 (r7+s.1.2.1.1)),(s.2.2.2,((s.2.2.2.length:Int),(0,())))))) fun r8 =>
 b0x (fun y9 =>
 some (0:Int)) (fun z10 =>
 some z10) r8)))):=by kernel_rfl
theorem r0q (n f:Nat) (s_:a0m) (end_:Int) (s42:(List b0j)) (s43:Int) (s44:Int):d0l n (f+1) (s_,end_,s42,s43,s44,()) =
 tif (s44<s43) (
 a0a (at? s42 s44) fun r0 =>
 a0a (w0u n r0) fun r1 =>
 tif (r1) (
 d0l n f (s_,(end_,(s42,(s43,((wrap .i64 (s44+1)),())))))) (
 a0a (n0x n s_.1 r0) fun r2 =>
 tif (!(r2=0)) (
 some (.inr (2:Int))) (
 tif (r0.2.1<0) (
 some (.inr (2:Int))) (
 tif (end_<=r0.2.1) (
 some (.inr (2:Int))) (
 tif (((0:Int)<=s44)&&(s44<=(s_.2.2.2.length:Int))) (
 a0a (d0h n a0b (s_,(end_,(s44,(r0,(s42,(s43,(s44,((((List.length (List.drop 0 (List.take (Int.toNat s44) s_.2.2.2))):Nat):Int),((0:Int),())))))))))) fun r3 =>
 b0x (fun y4 =>
 d0l n f (y4.1,(y4.2.1,(y4.2.2.1,(y4.2.2.2.1,((wrap .i64 (y4.2.2.2.2.1+1)),())))))) (fun z5 =>
 some (.inr z5)) r3) (
 none)))))) (
 some (.inl ())):=by kernel_rfl
theorem q0s (n f:Nat) (s_:a0m) (end_:Int) (i:Int) (x:b0j) (s42:(List b0j)) (s43:Int) (s44:Int) (s71:Int) (s72:Int):d0h n (f+1) (s_,end_,i,x,s42,s43,s44,s71,s72,()) =
 tif (s72<s71) (
 a0a (r0p n s_ i) fun r0 =>
 tif (r0) (
 a0a (r0p n s_ s72) fun r1 =>
 tif (r1) (
 a0a (at? s_.2.2.2 s72) fun r2 =>
 a0a (x0g n r2.1 x.1) fun r3 =>
 tif (r3) (
 some (.inr (2:Int))) (
 d0h n f (s_,(end_,(i,(x,(s42,(s43,(s44,(s71,((wrap .i64 (s72+1)),()))))))))))) (
 d0h n f (s_,(end_,(i,(x,(s42,(s43,(s44,(s71,((wrap .i64 (s72+1)),()))))))))))) (
 d0h n f (s_,(end_,(i,(x,(s42,(s43,(s44,(s71,((wrap .i64 (s72+1)),()))))))))))) (
 some (.inl (s_,(end_,(s42,(s43,(s44,()))))))):=by kernel_rfl
theorem t1b (n:Nat) (f_:c0f):s0c (n+1) f_ =
 tif ((f_.2.1=0)&&(f_.2.2=0)) (
 some (2:Int)) (
 a0a (o1a n f_.1 f_.2) fun r0 =>
 tif (!((r0.1=0)&&(r0.2=1))) (
 some (2:Int)) (
 some (0:Int))):=by kernel_rfl
theorem h2u (n:Nat) (s:a0m) (a:TAsk):h2v (n+1) s a =
 a0a (h0s n s) fun r0 =>
 tif (!(r0=0)) (
 some ((0,((0,((0,(0,(0,false))),((0,(0,(0,false))),((0,0),(0,(0,0)))))),(((0,0),(0,0)),0))),2)) (
 a0a (x0h n a.1) fun r1 =>
 tif (!(r1=0)) (
 some ((0,((0,((0,(0,(0,false))),((0,(0,(0,false))),((0,0),(0,(0,0)))))),(((0,0),(0,0)),0))),r1)) (
 a0a (n1o n s a.2.1 a.2.2.1 a.2.2.2) fun r2 =>
 tif (!(r2.2=0)) (
 some ((0,((0,((0,(0,(0,false))),((0,(0,(0,false))),((0,0),(0,(0,0)))))),(((0,0),(0,0)),0))),r2.2)) (
 a0a (n1q n s a.1) fun r3 =>
 tif (r3.2=0) (
 tif ((wrap .i64 (r2.1-1))=0) (
 a0a (f0m n a.2.2.1 a.2.2.2 s.1.2.1.1) fun r4 =>
 a0a (at? s.2.2.2 r3.1) fun r5 =>
 a0a (f0s n s.1 r5 (wrap .i64 (r2.1-1)) r4.1 r4.2.1) fun r6 =>
 tif (!(r6.2=0)) (
 some ((0,((0,((0,(0,(0,false))),((0,(0,(0,false))),((0,0),(0,(0,0)))))),(((0,0),(0,0)),0))),r6.2)) (
 a0a (m0l n r6.1) fun r7 =>
 some ((r2.1,(r6.1,r7)),0))) (
 tif ((wrap .i64 (r2.1-1))=1) (
 a0a (f0m n a.2.2.1 a.2.2.2 s.1.2.1.2.1) fun r8 =>
 a0a (at? s.2.2.2 r3.1) fun r9 =>
 a0a (f0s n s.1 r9 (wrap .i64 (r2.1-1)) r8.1 r8.2.1) fun r10 =>
 tif (!(r10.2=0)) (
 some ((0,((0,((0,(0,(0,false))),((0,(0,(0,false))),((0,0),(0,(0,0)))))),(((0,0),(0,0)),0))),r10.2)) (
 a0a (m0l n r10.1) fun r11 =>
 some ((r2.1,(r10.1,r11)),0))) (
 tif ((wrap .i64 (r2.1-1))=2) (
 a0a (f0m n a.2.2.1 a.2.2.2 s.1.2.1.2.2) fun r12 =>
 a0a (at? s.2.2.2 r3.1) fun r13 =>
 a0a (f0s n s.1 r13 (wrap .i64 (r2.1-1)) r12.1 r12.2.1) fun r14 =>
 tif (!(r14.2=0)) (
 some ((0,((0,((0,(0,(0,false))),((0,(0,(0,false))),((0,0),(0,(0,0)))))),(((0,0),(0,0)),0))),r14.2)) (
 a0a (m0l n r14.1) fun r15 =>
 some ((r2.1,(r14.1,r15)),0))) (
 none)))) (
 a0a (m0l n (0,((0,(0,(0,false))),((0,(0,(0,false))),((0,0),(0,(0,0))))))) fun r16 =>
 some ((r2.1,((0,((0,(0,(0,false))),((0,(0,(0,false))),((0,0),(0,(0,0)))))),r16)),0))))):=by kernel_rfl
theorem y1j (n:Nat) (a:c0f) (b:c0f):n1z (n+1) a b =
 a0a (s0c n a) fun r0 =>
 tif (!(r0=0)) (
 some (false,2)) (
 a0a (s0c n b) fun r1 =>
 tif (!(r1=0)) (
 some (false,2)) (
 a0a (p0y n a.1 b.2) fun r2 =>
 a0a (p0y n b.1 a.2) fun r3 =>
 tif (32=((((((((((((((((((((((((((((((((1+1)+1)+1)+1)+1)+1)+1)+1)+1)+1)+1)+1)+1)+1)+1)+1)+1)+1)+1)+1)+1)+1)+1)+1)+1)+1)+1)+1)+1)+1)+1) / 1)) (
 tif (32=((((((((((((((((((((((((((((((((1+1)+1)+1)+1)+1)+1)+1)+1)+1)+1)+1)+1)+1)+1)+1)+1)+1)+1)+1)+1)+1)+1)+1)+1)+1)+1)+1)+1)+1)+1)+1) / 1)) (
 a0a (rowT (.int .i64) (r2.1::(r2.2.1::(r2.2.2.1::(r2.2.2.2.1::(r2.2.2.2.2.1::(r2.2.2.2.2.2.1::(r2.2.2.2.2.2.2.1::(r2.2.2.2.2.2.2.2.1::(r2.2.2.2.2.2.2.2.2.1::(r2.2.2.2.2.2.2.2.2.2.1::(r2.2.2.2.2.2.2.2.2.2.2.1::(r2.2.2.2.2.2.2.2.2.2.2.2.1::(r2.2.2.2.2.2.2.2.2.2.2.2.2.1::(r2.2.2.2.2.2.2.2.2.2.2.2.2.2.1::(r2.2.2.2.2.2.2.2.2.2.2.2.2.2.2.1::(r2.2.2.2.2.2.2.2.2.2.2.2.2.2.2.2.1::(r2.2.2.2.2.2.2.2.2.2.2.2.2.2.2.2.2.1::(r2.2.2.2.2.2.2.2.2.2.2.2.2.2.2.2.2.2.1::(r2.2.2.2.2.2.2.2.2.2.2.2.2.2.2.2.2.2.2.1::(r2.2.2.2.2.2.2.2.2.2.2.2.2.2.2.2.2.2.2.2.1::(r2.2.2.2.2.2.2.2.2.2.2.2.2.2.2.2.2.2.2.2.2.1::(r2.2.2.2.2.2.2.2.2.2.2.2.2.2.2.2.2.2.2.2.2.2.1::(r2.2.2.2.2.2.2.2.2.2.2.2.2.2.2.2.2.2.2.2.2.2.2.1::(r2.2.2.2.2.2.2.2.2.2.2.2.2.2.2.2.2.2.2.2.2.2.2.2.1::(r2.2.2.2.2.2.2.2.2.2.2.2.2.2.2.2.2.2.2.2.2.2.2.2.2.1::(r2.2.2.2.2.2.2.2.2.2.2.2.2.2.2.2.2.2.2.2.2.2.2.2.2.2.1::(r2.2.2.2.2.2.2.2.2.2.2.2.2.2.2.2.2.2.2.2.2.2.2.2.2.2.2.1::(r2.2.2.2.2.2.2.2.2.2.2.2.2.2.2.2.2.2.2.2.2.2.2.2.2.2.2.2.1::(r2.2.2.2.2.2.2.2.2.2.2.2.2.2.2.2.2.2.2.2.2.2.2.2.2.2.2.2.2.1::(r2.2.2.2.2.2.2.2.2.2.2.2.2.2.2.2.2.2.2.2.2.2.2.2.2.2.2.2.2.2.1::(r2.2.2.2.2.2.2.2.2.2.2.2.2.2.2.2.2.2.2.2.2.2.2.2.2.2.2.2.2.2.2.1::(r2.2.2.2.2.2.2.2.2.2.2.2.2.2.2.2.2.2.2.2.2.2.2.2.2.2.2.2.2.2.2.2::[])))))))))))))))))))))))))))))))) 32 0) fun r4 =>
 a0a (c1g n r4) fun r5 =>
 tif (r5) (
 some (false,1)) (
 a0a (rowT (.int .i64) (r3.1::(r3.2.1::(r3.2.2.1::(r3.2.2.2.1::(r3.2.2.2.2.1::(r3.2.2.2.2.2.1::(r3.2.2.2.2.2.2.1::(r3.2.2.2.2.2.2.2.1::(r3.2.2.2.2.2.2.2.2.1::(r3.2.2.2.2.2.2.2.2.2.1::(r3.2.2.2.2.2.2.2.2.2.2.1::(r3.2.2.2.2.2.2.2.2.2.2.2.1::(r3.2.2.2.2.2.2.2.2.2.2.2.2.1::(r3.2.2.2.2.2.2.2.2.2.2.2.2.2.1::(r3.2.2.2.2.2.2.2.2.2.2.2.2.2.2.1::(r3.2.2.2.2.2.2.2.2.2.2.2.2.2.2.2.1::(r3.2.2.2.2.2.2.2.2.2.2.2.2.2.2.2.2.1::(r3.2.2.2.2.2.2.2.2.2.2.2.2.2.2.2.2.2.1::(r3.2.2.2.2.2.2.2.2.2.2.2.2.2.2.2.2.2.2.1::(r3.2.2.2.2.2.2.2.2.2.2.2.2.2.2.2.2.2.2.2.1::(r3.2.2.2.2.2.2.2.2.2.2.2.2.2.2.2.2.2.2.2.2.1::(r3.2.2.2.2.2.2.2.2.2.2.2.2.2.2.2.2.2.2.2.2.2.1::(r3.2.2.2.2.2.2.2.2.2.2.2.2.2.2.2.2.2.2.2.2.2.2.1::(r3.2.2.2.2.2.2.2.2.2.2.2.2.2.2.2.2.2.2.2.2.2.2.2.1::(r3.2.2.2.2.2.2.2.2.2.2.2.2.2.2.2.2.2.2.2.2.2.2.2.2.1::(r3.2.2.2.2.2.2.2.2.2.2.2.2.2.2.2.2.2.2.2.2.2.2.2.2.2.1::(r3.2.2.2.2.2.2.2.2.2.2.2.2.2.2.2.2.2.2.2.2.2.2.2.2.2.2.1::(r3.2.2.2.2.2.2.2.2.2.2.2.2.2.2.2.2.2.2.2.2.2.2.2.2.2.2.2.1::(r3.2.2.2.2.2.2.2.2.2.2.2.2.2.2.2.2.2.2.2.2.2.2.2.2.2.2.2.2.1::(r3.2.2.2.2.2.2.2.2.2.2.2.2.2.2.2.2.2.2.2.2.2.2.2.2.2.2.2.2.2.1::(r3.2.2.2.2.2.2.2.2.2.2.2.2.2.2.2.2.2.2.2.2.2.2.2.2.2.2.2.2.2.2.1::(r3.2.2.2.2.2.2.2.2.2.2.2.2.2.2.2.2.2.2.2.2.2.2.2.2.2.2.2.2.2.2.2::[])))))))))))))))))))))))))))))))) 32 0) fun r6 =>
 a0a (c1g n r6) fun r7 =>
 tif (r7) (
 some (false,1)) (
 a0a (l0x n a0b ((r2.1::(r2.2.1::(r2.2.2.1::(r2.2.2.2.1::(r2.2.2.2.2.1::(r2.2.2.2.2.2.1::(r2.2.2.2.2.2.2.1::(r2.2.2.2.2.2.2.2.1::(r2.2.2.2.2.2.2.2.2.1::(r2.2.2.2.2.2.2.2.2.2.1::(r2.2.2.2.2.2.2.2.2.2.2.1::(r2.2.2.2.2.2.2.2.2.2.2.2.1::(r2.2.2.2.2.2.2.2.2.2.2.2.2.1::(r2.2.2.2.2.2.2.2.2.2.2.2.2.2.1::(r2.2.2.2.2.2.2.2.2.2.2.2.2.2.2.1::(r2.2.2.2.2.2.2.2.2.2.2.2.2.2.2.2.1::(r2.2.2.2.2.2.2.2.2.2.2.2.2.2.2.2.2.1::(r2.2.2.2.2.2.2.2.2.2.2.2.2.2.2.2.2.2.1::(r2.2.2.2.2.2.2.2.2.2.2.2.2.2.2.2.2.2.2.1::(r2.2.2.2.2.2.2.2.2.2.2.2.2.2.2.2.2.2.2.2.1::(r2.2.2.2.2.2.2.2.2.2.2.2.2.2.2.2.2.2.2.2.2.1::(r2.2.2.2.2.2.2.2.2.2.2.2.2.2.2.2.2.2.2.2.2.2.1::(r2.2.2.2.2.2.2.2.2.2.2.2.2.2.2.2.2.2.2.2.2.2.2.1::(r2.2.2.2.2.2.2.2.2.2.2.2.2.2.2.2.2.2.2.2.2.2.2.2.1::(r2.2.2.2.2.2.2.2.2.2.2.2.2.2.2.2.2.2.2.2.2.2.2.2.2.1::(r2.2.2.2.2.2.2.2.2.2.2.2.2.2.2.2.2.2.2.2.2.2.2.2.2.2.1::(r2.2.2.2.2.2.2.2.2.2.2.2.2.2.2.2.2.2.2.2.2.2.2.2.2.2.2.1::(r2.2.2.2.2.2.2.2.2.2.2.2.2.2.2.2.2.2.2.2.2.2.2.2.2.2.2.2.1::(r2.2.2.2.2.2.2.2.2.2.2.2.2.2.2.2.2.2.2.2.2.2.2.2.2.2.2.2.2.1::(r2.2.2.2.2.2.2.2.2.2.2.2.2.2.2.2.2.2.2.2.2.2.2.2.2.2.2.2.2.2.1::(r2.2.2.2.2.2.2.2.2.2.2.2.2.2.2.2.2.2.2.2.2.2.2.2.2.2.2.2.2.2.2.1::(r2.2.2.2.2.2.2.2.2.2.2.2.2.2.2.2.2.2.2.2.2.2.2.2.2.2.2.2.2.2.2.2::[])))))))))))))))))))))))))))))))),((r3.1::(r3.2.1::(r3.2.2.1::(r3.2.2.2.1::(r3.2.2.2.2.1::(r3.2.2.2.2.2.1::(r3.2.2.2.2.2.2.1::(r3.2.2.2.2.2.2.2.1::(r3.2.2.2.2.2.2.2.2.1::(r3.2.2.2.2.2.2.2.2.2.1::(r3.2.2.2.2.2.2.2.2.2.2.1::(r3.2.2.2.2.2.2.2.2.2.2.2.1::(r3.2.2.2.2.2.2.2.2.2.2.2.2.1::(r3.2.2.2.2.2.2.2.2.2.2.2.2.2.1::(r3.2.2.2.2.2.2.2.2.2.2.2.2.2.2.1::(r3.2.2.2.2.2.2.2.2.2.2.2.2.2.2.2.1::(r3.2.2.2.2.2.2.2.2.2.2.2.2.2.2.2.2.1::(r3.2.2.2.2.2.2.2.2.2.2.2.2.2.2.2.2.2.1::(r3.2.2.2.2.2.2.2.2.2.2.2.2.2.2.2.2.2.2.1::(r3.2.2.2.2.2.2.2.2.2.2.2.2.2.2.2.2.2.2.2.1::(r3.2.2.2.2.2.2.2.2.2.2.2.2.2.2.2.2.2.2.2.2.1::(r3.2.2.2.2.2.2.2.2.2.2.2.2.2.2.2.2.2.2.2.2.2.1::(r3.2.2.2.2.2.2.2.2.2.2.2.2.2.2.2.2.2.2.2.2.2.2.1::(r3.2.2.2.2.2.2.2.2.2.2.2.2.2.2.2.2.2.2.2.2.2.2.2.1::(r3.2.2.2.2.2.2.2.2.2.2.2.2.2.2.2.2.2.2.2.2.2.2.2.2.1::(r3.2.2.2.2.2.2.2.2.2.2.2.2.2.2.2.2.2.2.2.2.2.2.2.2.2.1::(r3.2.2.2.2.2.2.2.2.2.2.2.2.2.2.2.2.2.2.2.2.2.2.2.2.2.2.1::(r3.2.2.2.2.2.2.2.2.2.2.2.2.2.2.2.2.2.2.2.2.2.2.2.2.2.2.2.1::(r3.2.2.2.2.2.2.2.2.2.2.2.2.2.2.2.2.2.2.2.2.2.2.2.2.2.2.2.2.1::(r3.2.2.2.2.2.2.2.2.2.2.2.2.2.2.2.2.2.2.2.2.2.2.2.2.2.2.2.2.2.1::(r3.2.2.2.2.2.2.2.2.2.2.2.2.2.2.2.2.2.2.2.2.2.2.2.2.2.2.2.2.2.2.1::(r3.2.2.2.2.2.2.2.2.2.2.2.2.2.2.2.2.2.2.2.2.2.2.2.2.2.2.2.2.2.2.2::[])))))))))))))))))))))))))))))))),(31,())))) fun r8 =>
 b0x (fun y9 =>
 some (false,0)) (fun z10 =>
 some z10) r8))) (
 none)) (
 none))):=by kernel_rfl
theorem u0j (n f:Nat) (p:(List Int)) (q:(List Int)) (i:Int):l0x n (f+1) (p,q,i,()) =
 tif ((0:Int)<=i) (
 tif (((0:Int)<=i)&&((i<32)&&(i<(p.length:Int)))) (
 a0a ((p)[(Int.toNat i)]?) fun r0 =>
 tif (((0:Int)<=i)&&((i<32)&&(i<(q.length:Int)))) (
 a0a ((q)[(Int.toNat i)]?) fun r1 =>
 tif (!(r0=r1)) (
 tif (((0:Int)<=i)&&((i<32)&&(i<(p.length:Int)))) (
 a0a ((p)[(Int.toNat i)]?) fun r2 =>
 tif (((0:Int)<=i)&&((i<32)&&(i<(q.length:Int)))) (
 a0a ((q)[(Int.toNat i)]?) fun r3 =>
 some (.inr ((decide (r2<r3)),0))) (
 none)) (
 none)) (
 l0x n f (p,(q,((wrap .i64 (i-1)),()))))) (
 none)) (
 none)) (
 some (.inl ())):=by kernel_rfl
theorem e0j (n:Nat) (l:(List b0w)) (all:(List a0m)):c0s (n+1) l all =
 tif ((256:Int)<(l.length:Int)) (
 some (6:Int)) (
 a0a (b0e n a0b (all,((all.length:Int),(0,())))) fun r0 =>
 b0x (fun y1 =>
 some (0:Int)) (fun z2 =>
 some z2) r0):=by kernel_rfl
theorem b0f (n f:Nat) (s11:(List a0m)) (s12:Int) (s13:Int):b0e n (f+1) (s11,s12,s13,()) =
 tif (s13<s12) (
 a0a (at? s11 s13) fun r0 =>
 a0a (h0g n r0) fun r1 =>
 tif (!(r1=0)) (
 some (.inr r1)) (
 b0e n f (s11,(s12,((wrap .i64 (s13+1)),()))))) (
 some (.inl ())):=by kernel_rfl
theorem c0h (n:Nat) (l:(List b0w)) (is:((b0w×Unit)->Option Bool)):b0q (n+1) l is =
 a0a (a0g n a0b (is,([],(l,((l.length:Int),(0,())))))) fun r0 =>
 b0x (fun y1 =>
 some y1.1) (fun z2 =>
 some z2) r0:=by kernel_rfl
theorem a0f (n f:Nat) (is:((b0w×Unit)->Option Bool)) (out:(List Int)) (s8:(List b0w)) (s9:Int) (s10:Int):a0g n (f+1) (is,out,s8,s9,s10,()) =
 tif (s10<s9) (
 a0a (at? s8 s10) fun r0 =>
 a0a (is (r0,())) fun r1 =>
 tif (r1) (
 tif ((((List.length out)+1)*8)<=140737488355328) (
 a0g n f (is,((out++(s10::[])),(s8,(s9,((wrap .i64 (s10+1)),())))))) (
 none)) (
 a0g n f (is,(out,(s8,(s9,((wrap .i64 (s10+1)),()))))))) (
 some (.inl (out,()))):=by kernel_rfl
theorem l0c (n:Nat) (s:a0m):s0t (n+1) s =
 some (fun y0=>a0e n y0.1 s):=by kernel_rfl
theorem s1a (n:Nat) (s:a0m) (w:b0w):r0k (n+1) s w =
 a0a (n1k n s w) fun r0 =>
 tif (r0.1) (
 some (decide (r0.2=0))) (
 some false):=by kernel_rfl
theorem d0o (n:Nat) (w:b0w) (p1:((b0w×Unit)->Option Bool)) (p2:((b0w×Unit)->Option Bool)):b0h (n+1) w p1 p2 =
 a0a (p1 (w,())) fun r0 =>
 tif (r0) (
 a0a (p2 (w,())) fun r1 =>
 some (!r1)) (
 some false):=by kernel_rfl
theorem d0n (n:Nat) (w:b0w) (p1:((b0w×Unit)->Option Bool)) (p2:((b0w×Unit)->Option Bool)):b0g (n+1) w p1 p2 =
 a0a (p1 (w,())) fun r0 =>
 tif (r0) (
 a0a (p2 (w,())) fun r1 =>
 some (!r1)) (
 some false):=by kernel_rfl
theorem u1k (n:Nat) (s:((List a0c)×((List a0c)×(List a0c)))):e1p (n+1) s =
 a0a (e0b n a0b (s,(0,()))) fun r0 =>
 b0x (fun y1 =>
 some (1:Int)) (fun z2 =>
 some z2) r0:=by kernel_rfl
theorem i0c (n f:Nat) (s_:((List a0c)×((List a0c)×(List a0c)))) (s4:Int):e0b n (f+1) (s_,s4,()) =
 tif (s4<3) (
 tif (s4=0) (
 tif ((40:Int)<(s_.1.length:Int)) (
 some (.inr (0:Int))) (
 e0b n f (s_,((wrap .i64 (s4+1)),())))) (
 tif (s4=1) (
 tif ((40:Int)<(s_.2.1.length:Int)) (
 some (.inr (0:Int))) (
 e0b n f (s_,((wrap .i64 (s4+1)),())))) (
 tif (s4=2) (
 tif ((40:Int)<(s_.2.2.length:Int)) (
 some (.inr (0:Int))) (
 e0b n f (s_,((wrap .i64 (s4+1)),())))) (
 none)))) (
 some (.inl ())):=by kernel_rfl
theorem w1j (n:Nat) (s:a0m):c1c (n+1) s =
 a0a (i0u n s.1) fun r0 =>
 tif (!(r0=0)) (
 some (((0,((0,(0,0)),((0,(0,0)),(0,0)))),(0,(0,[]))),2)) (
 tif (!((s.2.2.2.length:Int)=s.1.2.2.2.1)) (
 some (((0,((0,(0,0)),((0,(0,0)),(0,0)))),(0,(0,[]))),2)) (
 some (s,0))):=by kernel_rfl
theorem y0x (n:Nat) (v:a0m):m0w (n+1) v =
 a0a (c1b n v.2.1) fun r0 =>
 tif (r0) (
 tif (v.2.2.1=((-1):Int)) (
 some (decide (v.2.2.1<=v.2.1))) (
 a0a (c1b n v.2.2.1) fun r1 =>
 tif (r1) (
 some (decide (v.2.2.1<=v.2.1))) (
 some false))) (
 some false):=by kernel_rfl
theorem y0v (n:Nat) (v:a0m) (is:((Int×Unit)->Option Bool)):f0g (n+1) v is =
 a0a (c0t n a0b (is,((v.2.2.2.length:Int),(0,())))) fun r0 =>
 b0x (fun y1 =>
 some ((-1):Int)) (fun z2 =>
 some z2) r0:=by kernel_rfl
theorem j0x (n f:Nat) (is:((Int×Unit)->Option Bool)) (s9:Int) (s10:Int):c0t n (f+1) (is,s9,s10,()) =
 tif (s10<s9) (
 a0a (is (s10,())) fun r0 =>
 tif (r0) (
 some (.inr s10)) (
 c0t n f (is,(s9,((wrap .i64 (s10+1)),()))))) (
 some (.inl ())):=by kernel_rfl
theorem f1p (n:Nat) (i:Int) (p1:a0m):e0x (n+1) i p1 =
 a0a (m0v n p1 i) fun r0 =>
 some (!r0):=by kernel_rfl
theorem y0u (n:Nat) (v:a0m) (i:Int):m0v (n+1) v i =
 a0a (at? v.2.2.2 i) fun r0 =>
 a0a (w0d n r0) fun r1 =>
 tif (r1) (
 some true) (
 a0a (r0d n v.1 r0) fun r2 =>
 tif (r2=0) (
 tif ((0:Int)<=r0.2.1) (
 a0a (p0f n v) fun r3 =>
 tif (r0.2.1<(wrap .i64 (r3+v.1.2.1.1))) (
 a0a (p0e n v i) fun r4 =>
 some (!r4)) (
 some false)) (
 some false)) (
 some false)):=by kernel_rfl
theorem m1y (n:Nat) (a:(Int×Int)):i0q (n+1) a =
 some ((decide (a.1=0))&&(decide (a.2=0))):=by kernel_rfl
theorem r1y (n:Nat) (a:(Int×Int)) (b:(Int×Int)):w0q (n+1) a b =
 a0a (i0q n a) fun r0 =>
 tif (r0) (
 some ((orI .u64 a.1 b.1),(orI .u64 a.2 b.2))) (
 a0a (i0q n b) fun r1 =>
 tif (r1) (
 some ((orI .u64 a.1 b.1),(orI .u64 a.2 b.2))) (
 a0a (g0d n a) fun r2 =>
 a0a (g0d n b) fun r3 =>
 a0a (g0d n a) fun r4 =>
 a0a (t0c n a r4) fun r5 =>
 a0a (d0k n a0b (r5,(b,((0,0),((if r3<r2 then r3 else r2),()))))) fun r6 =>
 b0x (fun y7 =>
 a0a (w0p n y7.1 y7.2.2.1) fun r8 =>
 some r8) (fun z9 =>
 some z9) r6)):=by kernel_rfl
theorem l0r (n f:Nat) (a_:(Int×Int)) (b_:(Int×Int)) (s4:(Int×Int)) (twos:Int):d0k n (f+1) (a_,b_,s4,twos,()) =
 a0a (i0q n b_) fun r0 =>
 tif (!r0) (
 a0a (g0d n b_) fun r1 =>
 a0a (t0c n b_ r1) fun r2 =>
 a0a (j0f n r2 a_) fun r3 =>
 tif (r3) (
 a0a (i0r n a_ r2) fun r4 =>
 d0k n f (r2,(r4,(s4,(twos,()))))) (
 a0a (i0r n r2 a_) fun r5 =>
 d0k n f (a_,(r5,(s4,(twos,())))))) (
 some (.inl (a_,(s4,(twos,()))))):=by kernel_rfl
theorem c2n (n:Nat) (n_:Int):q0u (n+1) n_ =
 some (0,n_):=by kernel_rfl
theorem t1j (n:Nat) (s:a0m) (l:(List (List UInt8×List UInt8))):e1c (n+1) s l =
 a0a (h0g n s) fun r0 =>
 tif (!(r0=0)) (
 some r0) (
 a0a (q0h n l) fun r1 =>
 some r1):=by kernel_rfl
theorem o1f (n:Nat) (s:a0m) (tier:Int) (from_:Int) (to:Int):z0k (n+1) s tier from_ to =
 a0a (h0g n s) fun r0 =>
 tif (!(r0=0)) (
 some (0,r0)) (
 tif (tier<0) (
 some (0,1)) (
 tif ((3:Int)<tier) (
 some (0,1)) (
 tif (tier=0) (
 a0a (l0z n s from_ to) fun r1 =>
 some r1) (
 a0a (x0o n s tier from_ to) fun r2 =>
 tif (!(r2=0)) (
 some (0,r2)) (
 some (tier,0)))))):=by kernel_rfl
theorem y1o (n:Nat) (s:a0m) (a:TAsk) (k:Int):o1d (n+1) s a k =
 a0a (m1h n s a.1) fun r0 =>
 tif (!(r0.2=0)) (
 some ((0,((0,(0,(0,false))),((0,(0,(0,false))),((0,0),(0,(0,0)))))),0)) (
 tif (k=0) (
 a0a (h0f n a.2.2.1 a.2.2.2 s.1.2.1.1) fun r1 =>
 tif (!(r1.2.2=0)) (
 some ((0,((0,(0,(0,false))),((0,(0,(0,false))),((0,0),(0,(0,0)))))),r1.2.2)) (
 a0a (at? s.2.2.2 r0.1) fun r2 =>
 a0a (d0z n s.1 r2 k r1.1 r1.2.1) fun r3 =>
 some r3)) (
 tif (k=1) (
 a0a (h0f n a.2.2.1 a.2.2.2 s.1.2.1.2.1) fun r4 =>
 tif (!(r4.2.2=0)) (
 some ((0,((0,(0,(0,false))),((0,(0,(0,false))),((0,0),(0,(0,0)))))),r4.2.2)) (
 a0a (at? s.2.2.2 r0.1) fun r5 =>
 a0a (d0z n s.1 r5 k r4.1 r4.2.1) fun r6 =>
 some r6)) (
 tif (k=2) (
 a0a (h0f n a.2.2.1 a.2.2.2 s.1.2.1.2.2) fun r7 =>
 tif (!(r7.2.2=0)) (
 some ((0,((0,(0,(0,false))),((0,(0,(0,false))),((0,0),(0,(0,0)))))),r7.2.2)) (
 a0a (at? s.2.2.2 r0.1) fun r8 =>
 a0a (d0z n s.1 r8 k r7.1 r7.2.1) fun r9 =>
 some r9)) (
 none)))):=by kernel_rfl
theorem o1g (n:Nat) (c:b0v):z0l (n+1) c =
 tif (c.2.2.2.2.2.2<1) (
 some (((0,0),(0,0)),12)) (
 a0a (z0d n c.2.2.2.1 (wrap .u64 c.2.2.2.2.2.2)) fun r0 =>
 some r0):=by kernel_rfl
theorem f1v (n:Nat) (a:(Int×Int)) (b:(Int×Int)):p0p (n+1) a b =
 tif (!(a.1=0)) (
 tif (!(b.1=0)) (
 some ((0,0),1)) (
 a0a (k0q n a b.2) fun r0 =>
 some r0)) (
 tif (!(a.1=0)) (
 some ((0,0),1)) (
 a0a (k0q n b a.2) fun r1 =>
 some r1)):=by kernel_rfl
theorem q1o (n:Nat) (a:(Int×Int)) (b:(Int×Int)):j0f (n+1) a b =
 tif (a.1<b.1) (
 some true) (
 tif (a.1=b.1) (
 some (decide (a.2<b.2))) (
 some false)):=by kernel_rfl
theorem s1c (n:Nat) (s:a0m):r0n (n+1) s =
 a0a (h0w n s.1) fun r0 =>
 tif (r0=0) (
 some (decide ((s.2.2.2.length:Int)=s.1.2.2.2.1))) (
 some false):=by kernel_rfl
theorem x1h (n:Nat) (t:Int):w0s (n+1) t =
 tif ((0:Int)<=t) (
 some (decide (t<35184372088832))) (
 some false):=by kernel_rfl
theorem x1j (n:Nat) (s:a0m):w0t (n+1) s =
 a0a (r0n n s) fun r0 =>
 tif (!r0) (
 some (0:Int)) (
 a0a (w0s n s.2.1) fun r1 =>
 tif (!r1) (
 some (0:Int)) (
 tif (s.1.2.1.1=0) (
 none) (
 some (wrap .i64 ((wrap .i64 (Int.tdiv s.2.1 s.1.2.1.1))*s.1.2.1.1))))):=by kernel_rfl
theorem s1f (n:Nat) (s:b0j):w0u (n+1) s =
 a0a (w0w n s ([],(0,((0,(0,[])),(([],([],[])),(0,(0,((0,(0,(0,false))),((0,(0,(0,false))),((0,0),(0,(0,0)))))))))))) fun r0 =>
 some r0:=by kernel_rfl
theorem s1k (n:Nat) (c:b0p) (s:b0j):n0x (n+1) c s =
 a0a (h0w n c) fun r0 =>
 tif (!(r0=0)) (
 some (2:Int)) (
 a0a (x0h n s.1) fun r1 =>
 tif (!(r1=0)) (
 some (2:Int)) (
 a0a (d1v n s.2.2.1 c.1) fun r2 =>
 tif (!(r2=0)) (
 some (2:Int)) (
 a0a (d1r n c s.2.2.2.1) fun r3 =>
 tif (!(r3=0)) (
 some (2:Int)) (
 tif (s.2.1=((-1):Int)) (
 tif ((0:Int)<(s.2.2.1.2.2.length:Int)) (
 some (2:Int)) (
 tif (!((decide (s.2.2.2.2.1=0))&&((decide (s.2.2.2.2.2.1=0))&&((decide (s.2.2.2.2.2.2.1.1=0))&&((decide (s.2.2.2.2.2.2.1.2.1=0))&&((decide (s.2.2.2.2.2.2.1.2.2.1=0))&&((s.2.2.2.2.2.2.1.2.2.2==false)&&((decide (s.2.2.2.2.2.2.2.1.1=0))&&((decide (s.2.2.2.2.2.2.2.1.2.1=0))&&((decide (s.2.2.2.2.2.2.2.1.2.2.1=0))&&((s.2.2.2.2.2.2.2.1.2.2.2==false)&&((decide (s.2.2.2.2.2.2.2.2.1.1=0))&&((decide (s.2.2.2.2.2.2.2.2.1.2=0))&&((decide (s.2.2.2.2.2.2.2.2.2.1=0))&&((decide (s.2.2.2.2.2.2.2.2.2.2.1=0))&&(decide (s.2.2.2.2.2.2.2.2.2.2.2=0))))))))))))))))) (
 some (2:Int)) (
 a0a (f0t n a0b (s,(0,()))) fun r4 =>
 b0x (fun y5 =>
 some (0:Int)) (fun z6 =>
 some z6) r4))) (
 a0a (n1t n s.2.2.1) fun r7 =>
 tif (!(r7.2=0)) (
 some (2:Int)) (
 tif (!(r7.1.1=s.2.1)) (
 some (2:Int)) (
 a0a (c1e n s.2.2.2.2.2 c.2.1.1 s.2.2.2.2.1) fun r8 =>
 tif (!r8) (
 some (2:Int)) (
 tif (!(s.2.2.2.2.2.2.2.1.1=s.2.1)) (
 some (2:Int)) (
 a0a (f0b n a0b (c,(s,(0,())))) fun r9 =>
 b0x (fun y10 =>
 some (0:Int)) (fun z11 =>
 some z11) r9))))))))):=by kernel_rfl
theorem h0u (n f:Nat) (s_:b0j) (k:Int):f0t n (f+1) (s_,k,()) =
 tif (k<3) (
 tif (k=0) (
 a0a (p0v n s_.2.2.2.1.1) fun r0 =>
 tif ((0:Int)<(r0.length:Int)) (
 some (.inr (2:Int))) (
 f0t n f (s_,((wrap .i64 (k+1)),())))) (
 tif (k=1) (
 a0a (p0v n s_.2.2.2.1.2.1) fun r1 =>
 tif ((0:Int)<(r1.length:Int)) (
 some (.inr (2:Int))) (
 f0t n f (s_,((wrap .i64 (k+1)),())))) (
 tif (k=2) (
 a0a (p0v n s_.2.2.2.1.2.2) fun r2 =>
 tif ((0:Int)<(r2.length:Int)) (
 some (.inr (2:Int))) (
 f0t n f (s_,((wrap .i64 (k+1)),())))) (
 none)))) (
 some (.inl ())):=by kernel_rfl
theorem g0s (n f:Nat) (c_:b0p) (s_:b0j) (k_:Int):f0b n (f+1) (c_,s_,k_,()) =
 tif (k_<3) (
 tif (k_=0) (
 a0a (p0v n s_.2.2.2.1.1) fun r0 =>
 a0a (c0i n a0b (c_,(s_,(k_,(r0,((r0.length:Int),(0,()))))))) fun r1 =>
 b0x (fun y2 =>
 f0b n f (y2.1,(y2.2.1,((wrap .i64 (y2.2.2.1+1)),())))) (fun z3 =>
 some (.inr z3)) r1) (
 tif (k_=1) (
 a0a (p0v n s_.2.2.2.1.2.1) fun r4 =>
 a0a (c0i n a0b (c_,(s_,(k_,(r4,((r4.length:Int),(0,()))))))) fun r5 =>
 b0x (fun y6 =>
 f0b n f (y6.1,(y6.2.1,((wrap .i64 (y6.2.2.1+1)),())))) (fun z7 =>
 some (.inr z7)) r5) (
 tif (k_=2) (
 a0a (p0v n s_.2.2.2.1.2.2) fun r8 =>
 a0a (c0i n a0b (c_,(s_,(k_,(r8,((r8.length:Int),(0,()))))))) fun r9 =>
 b0x (fun y10 =>
 f0b n f (y10.1,(y10.2.1,((wrap .i64 (y10.2.2.1+1)),())))) (fun z11 =>
 some (.inr z11)) r9) (
 none)))) (
 some (.inl ())):=by kernel_rfl
theorem d0v (n f:Nat) (c_:b0p) (s_:b0j) (k_:Int) (s106:(List a0c)) (s107:Int) (s108:Int):c0i n (f+1) (c_,s_,k_,s106,s107,s108,()) =
 tif (s108<s107) (
 a0a (at? s106 s108) fun r0 =>
 tif (k_=0) (
 tif (c_.2.1.1=0) (
 none) (
 tif ((wrap .i64 (Int.tdiv s_.2.1 c_.2.1.1))<=r0.1) (
 some (.inr (2:Int))) (
 c0i n f (c_,(s_,(k_,(s106,(s107,((wrap .i64 (s108+1)),()))))))))) (
 tif (k_=1) (
 tif (c_.2.1.2.1=0) (
 none) (
 tif ((wrap .i64 (Int.tdiv s_.2.1 c_.2.1.2.1))<=r0.1) (
 some (.inr (2:Int))) (
 c0i n f (c_,(s_,(k_,(s106,(s107,((wrap .i64 (s108+1)),()))))))))) (
 tif (k_=2) (
 tif (c_.2.1.2.2=0) (
 none) (
 tif ((wrap .i64 (Int.tdiv s_.2.1 c_.2.1.2.2))<=r0.1) (
 some (.inr (2:Int))) (
 c0i n f (c_,(s_,(k_,(s106,(s107,((wrap .i64 (s108+1)),()))))))))) (
 none)))) (
 some (.inl (c_,(s_,(k_,()))))):=by kernel_rfl
theorem s1d (n:Nat) (s:a0m) (i:Int):r0p (n+1) s i =
 a0a (at? s.2.2.2 i) fun r0 =>
 a0a (w0u n r0) fun r1 =>
 tif (!r1) (
 tif (s.2.2.1=((-1):Int)) (
 some true) (
 a0a (at? s.2.2.2 i) fun r2 =>
 a0a (n1r n s.1 r2.2.1 s.2.2.1) fun r3 =>
 some (!r3))) (
 some false):=by kernel_rfl
theorem y1g (n:Nat) (a:(List (List UInt8×List UInt8))) (b:(List (List UInt8×List UInt8))):x0g (n+1) a b =
 tif (!((a.length:Int)=(b.length:Int))) (
 some false) (
 a0a (l0v n a0b (a,(b,((a.length:Int),(0,()))))) fun r0 =>
 b0x (fun y1 =>
 some true) (fun z2 =>
 some z2) r0):=by kernel_rfl
theorem j0a (n f:Nat) (a:(List (List UInt8×List UInt8))) (b:(List (List UInt8×List UInt8))) (s12:Int) (s13:Int):l0v n (f+1) (a,b,s12,s13,()) =
 tif (s13<s12) (
 a0a (at? a s13) fun r0 =>
 a0a (at? b s13) fun r1 =>
 tif (!((r0.1==r1.1)&&(r0.2==r1.2))) (
 some (.inr false)) (
 l0v n f (a,(b,(s12,((wrap .i64 (s13+1)),())))))) (
 some (.inl ())):=by kernel_rfl
theorem e2h (n:Nat) (a:(Int×Int)) (b:(Int×Int)):o1a (n+1) a b =
 a0a (t0f n a0b (a,(b,((0,0),())))) fun r0 =>
 b0x (fun y1 =>
 some y1.1) (fun z2 =>
 some z2) r0:=by kernel_rfl
theorem p0z (n f:Nat) (a_:(Int×Int)) (b_:(Int×Int)) (s4:(Int×Int)):t0f n (f+1) (a_,b_,s4,()) =
 tif (!((b_.1=0)&&(b_.2=0))) (
 a0a (s0b n a_ b_) fun r0 =>
 t0f n f (b_,(r0.2,(s4,())))) (
 some (.inl (a_,(s4,())))):=by kernel_rfl
theorem s1y (n:Nat) (l:(List (List UInt8×List UInt8))):x0h (n+1) l =
 tif ((l.length:Int)<1) (
 some (8:Int)) (
 tif ((16:Int)<(l.length:Int)) (
 some (8:Int)) (
 a0a (h0a n a0b (l,(0,(l,((l.length:Int),(0,())))))) fun r0 =>
 b0x (fun y1 =>
 tif ((256:Int)<y1.1) (
 some (8:Int)) (
 some (0:Int))) (fun z2 =>
 some z2) r0)):=by kernel_rfl
theorem r0z (n f:Nat) (l:(List (List UInt8×List UInt8))) (all:Int) (s14:(List (List UInt8×List UInt8))) (s15:Int) (s16:Int):h0a n (f+1) (l,all,s14,s15,s16,()) =
 tif (s16<s15) (
 a0a (at? s14 s16) fun r0 =>
 a0a (n1w n r0.1) fun r1 =>
 tif (!r1) (
 some (.inr (8:Int))) (
 tif ((128:Int)<(r0.2.length:Int)) (
 some (.inr (8:Int))) (
 tif ((0:Int)<s16) (
 a0a (at? l (wrap .i64 (s16-1))) fun r2 =>
 tif (!(Go.Op.bytesLess r2.1 r0.1)) (
 some (.inr (8:Int))) (
 h0a n f (l,((wrap .i64 (all+(wrap .i64 ((r0.1.length:Int)+(r0.2.length:Int))))),(s14,(s15,((wrap .i64 (s16+1)),()))))))) (
 h0a n f (l,((wrap .i64 (all+(wrap .i64 ((r0.1.length:Int)+(r0.2.length:Int))))),(s14,(s15,((wrap .i64 (s16+1)),()))))))))) (
 some (.inl (all,()))):=by kernel_rfl
theorem x1e (n:Nat) (s:a0m) (tier:Int) (from_:Int) (to:Int):n1o (n+1) s tier from_ to =
 a0a (h0s n s) fun r0 =>
 tif (!(r0=0)) (
 some (0,2)) (
 tif (tier<0) (
 some (0,1)) (
 tif ((3:Int)<tier) (
 some (0,1)) (
 tif ((0:Int)<tier) (
 a0a (n1n n s tier from_ to) fun r1 =>
 tif (!(r1=0)) (
 some (0,r1)) (
 some (tier,0))) (
 a0a (j0l n a0b (from_,(to,(s,(false,(1,())))))) fun r2 =>
 b0x (fun y3 =>
 tif (y3.1) (
 some (0,11)) (
 some (0,10))) (fun z4 =>
 some z4) r2)))):=by kernel_rfl
theorem r0m (n f:Nat) (from_:Int) (to:Int) (s_:a0m) (expired:Bool) (k:Int):j0l n (f+1) (from_,to,s_,expired,k,()) =
 tif (k<=3) (
 a0a (n1n n s_ k from_ to) fun r0 =>
 tif (r0=0) (
 some (.inr (k,0))) (
 tif (r0=1) (
 some (.inr (0,r0))) (
 tif (expired) (
 j0l n f (from_,(to,(s_,(true,((wrap .i64 (k+1)),())))))) (
 j0l n f (from_,(to,(s_,((decide (r0=11)),((wrap .i64 (k+1)),()))))))))) (
 some (.inl (expired,()))):=by kernel_rfl
theorem x1k (n:Nat) (s:a0m) (l:(List (List UInt8×List UInt8))):n1q (n+1) s l =
 a0a (r0n n s) fun r0 =>
 tif (!r0) (
 some (0,2)) (
 a0a (e0e n a0b (l,(s,(s.2.2.2,((s.2.2.2.length:Int),(0,())))))) fun r1 =>
 b0x (fun y2 =>
 some (0,3)) (fun z3 =>
 some z3) r1):=by kernel_rfl
theorem u0d (n f:Nat) (l:(List (List UInt8×List UInt8))) (s_:a0m) (s12:(List b0j)) (s13:Int) (s14:Int):e0e n (f+1) (l,s_,s12,s13,s14,()) =
 tif (s14<s13) (
 a0a (at? s12 s14) fun r0 =>
 a0a (r0p n s_ s14) fun r1 =>
 tif (r1) (
 a0a (x0g n r0.1 l) fun r2 =>
 tif (r2) (
 some (.inr (s14,0))) (
 e0e n f (l,(s_,(s12,(s13,((wrap .i64 (s14+1)),()))))))) (
 e0e n f (l,(s_,(s12,(s13,((wrap .i64 (s14+1)),()))))))) (
 some (.inl ())):=by kernel_rfl
theorem x1x (n:Nat) (a:Int) (b:Int) (w:Int):f0m (n+1) a b w =
 a0a (d1x n w) fun r0 =>
 tif (!r0) (
 some (0,(0,1))) (
 tif (a<0) (
 some (0,(0,1))) (
 tif ((35184372088832:Int)<b) (
 some (0,(0,1))) (
 tif (b<=a) (
 some (0,(0,1))) (
 tif (w=0) (
 none) (
 tif (!((Int.tmod a w)=0)) (
 some (0,(0,10))) (
 tif (w=0) (
 none) (
 tif (!((Int.tmod b w)=0)) (
 some (0,(0,10))) (
 tif (w=0) (
 none) (
 tif (w=0) (
 none) (
 some ((wrap .i64 (Int.tdiv a w)),((wrap .i64 (Int.tdiv b w)),0)))))))))))):=by kernel_rfl
theorem g1b (n:Nat) (c:b0p) (s:b0j) (i:Int) (j:Int):f0s (n+1) c s (0:Int) i j =
 a0a (n0x n c s) fun r0 =>
 tif (!(r0=0)) (
 some ((0,((0,(0,(0,false))),((0,(0,(0,false))),((0,0),(0,(0,0)))))),2)) (
 tif (i<0) (
 some ((0,((0,(0,(0,false))),((0,(0,(0,false))),((0,0),(0,(0,0)))))),1)) (
 tif (j<i) (
 some ((0,((0,(0,(0,false))),((0,(0,(0,false))),((0,0),(0,(0,0)))))),1)) (
 tif (s.2.1=((-1):Int)) (
 some ((0,((0,(0,(0,false))),((0,(0,(0,false))),((0,0),(0,(0,0)))))),0)) (
 tif (c.2.1.1=0) (
 none) (
 a0a (p0u n s.2.2.2.1.1 i (if i<(if (wrap .i64 (Int.tdiv s.2.1 c.2.1.1))<j then (wrap .i64 (Int.tdiv s.2.1 c.2.1.1)) else j) then (if (wrap .i64 (Int.tdiv s.2.1 c.2.1.1))<j then (wrap .i64 (Int.tdiv s.2.1 c.2.1.1)) else j) else i)) fun r1 =>
 tif (!(r1.2=0)) (
 some r1) (
 tif ((wrap .i64 (Int.tdiv s.2.1 c.2.1.1))<i) (
 some r1) (
 tif (j<=(wrap .i64 (Int.tdiv s.2.1 c.2.1.1))) (
 some r1) (
 a0a (l0t n c s (0:Int) (wrap .i64 (Int.tdiv s.2.1 c.2.1.1))) fun r2 =>
 tif (!(r2.2=0)) (
 some ((0,((0,(0,(0,false))),((0,(0,(0,false))),((0,0),(0,(0,0)))))),r2.2)) (
 a0a (j0m n r1.1 r2.1) fun r3 =>
 some r3))))))))):=by kernel_rfl
theorem g1a (n:Nat) (c:b0p) (s:b0j) (i:Int) (j:Int):f0s (n+1) c s (1:Int) i j =
 a0a (n0x n c s) fun r0 =>
 tif (!(r0=0)) (
 some ((0,((0,(0,(0,false))),((0,(0,(0,false))),((0,0),(0,(0,0)))))),2)) (
 tif (i<0) (
 some ((0,((0,(0,(0,false))),((0,(0,(0,false))),((0,0),(0,(0,0)))))),1)) (
 tif (j<i) (
 some ((0,((0,(0,(0,false))),((0,(0,(0,false))),((0,0),(0,(0,0)))))),1)) (
 tif (s.2.1=((-1):Int)) (
 some ((0,((0,(0,(0,false))),((0,(0,(0,false))),((0,0),(0,(0,0)))))),0)) (
 tif (c.2.1.2.1=0) (
 none) (
 a0a (p0u n s.2.2.2.1.2.1 i (if i<(if (wrap .i64 (Int.tdiv s.2.1 c.2.1.2.1))<j then (wrap .i64 (Int.tdiv s.2.1 c.2.1.2.1)) else j) then (if (wrap .i64 (Int.tdiv s.2.1 c.2.1.2.1))<j then (wrap .i64 (Int.tdiv s.2.1 c.2.1.2.1)) else j) else i)) fun r1 =>
 tif (!(r1.2=0)) (
 some r1) (
 tif ((wrap .i64 (Int.tdiv s.2.1 c.2.1.2.1))<i) (
 some r1) (
 tif (j<=(wrap .i64 (Int.tdiv s.2.1 c.2.1.2.1))) (
 some r1) (
 a0a (l0t n c s (1:Int) (wrap .i64 (Int.tdiv s.2.1 c.2.1.2.1))) fun r2 =>
 tif (!(r2.2=0)) (
 some ((0,((0,(0,(0,false))),((0,(0,(0,false))),((0,0),(0,(0,0)))))),r2.2)) (
 a0a (j0m n r1.1 r2.1) fun r3 =>
 some r3))))))))):=by kernel_rfl
theorem f1z (n:Nat) (c:b0p) (s:b0j) (i:Int) (j:Int):f0s (n+1) c s (2:Int) i j =
 a0a (n0x n c s) fun r0 =>
 tif (!(r0=0)) (
 some ((0,((0,(0,(0,false))),((0,(0,(0,false))),((0,0),(0,(0,0)))))),2)) (
 tif (i<0) (
 some ((0,((0,(0,(0,false))),((0,(0,(0,false))),((0,0),(0,(0,0)))))),1)) (
 tif (j<i) (
 some ((0,((0,(0,(0,false))),((0,(0,(0,false))),((0,0),(0,(0,0)))))),1)) (
 tif (s.2.1=((-1):Int)) (
 some ((0,((0,(0,(0,false))),((0,(0,(0,false))),((0,0),(0,(0,0)))))),0)) (
 tif (c.2.1.2.2=0) (
 none) (
 a0a (p0u n s.2.2.2.1.2.2 i (if i<(if (wrap .i64 (Int.tdiv s.2.1 c.2.1.2.2))<j then (wrap .i64 (Int.tdiv s.2.1 c.2.1.2.2)) else j) then (if (wrap .i64 (Int.tdiv s.2.1 c.2.1.2.2))<j then (wrap .i64 (Int.tdiv s.2.1 c.2.1.2.2)) else j) else i)) fun r1 =>
 tif (!(r1.2=0)) (
 some r1) (
 tif ((wrap .i64 (Int.tdiv s.2.1 c.2.1.2.2))<i) (
 some r1) (
 tif (j<=(wrap .i64 (Int.tdiv s.2.1 c.2.1.2.2))) (
 some r1) (
 a0a (l0t n c s (2:Int) (wrap .i64 (Int.tdiv s.2.1 c.2.1.2.2))) fun r2 =>
 tif (!(r2.2=0)) (
 some ((0,((0,(0,(0,false))),((0,(0,(0,false))),((0,0),(0,(0,0)))))),r2.2)) (
 a0a (j0m n r1.1 r2.1) fun r3 =>
 some r3))))))))):=by kernel_rfl
theorem x1f (n:Nat) (c:b0v):m0l (n+1) c =
 tif (c.2.2.2.2.2.2<1) (
 some (((0,0),(0,0)),12)) (
 a0a (n1y n c.2.2.2.1 (wrap .u64 c.2.2.2.2.2.2)) fun r0 =>
 some r0):=by kernel_rfl
theorem o0f (n f:Nat) (s4:(List Int)) (out:(List Int)) (x:(List Int)) (y:(List Int)) (s16:Int):f0h n (f+1) (s4,out,x,y,s16,()) =
 tif (s16<16) (
 a0a (j0b n a0b (s4,(out,(x,(y,(s16,(0,(s16,(0,()))))))))) fun r0 =>
 b0x (fun y1 =>
 tif (((0:Int)<=(wrap .i64 (y1.2.2.2.2.1+16)))&&(((wrap .i64 (y1.2.2.2.2.1+16))<32)&&((wrap .i64 (y1.2.2.2.2.1+16))<(y1.2.1.length:Int)))) (
 a0a ((y1.2.1)[(Int.toNat (wrap .i64 (y1.2.2.2.2.1+16)))]?) fun r2 =>
 tif (((0:Int)<=(wrap .i64 (y1.2.2.2.2.1+16)))&&(((wrap .i64 (y1.2.2.2.2.1+16))<32)&&((wrap .i64 (y1.2.2.2.2.1+16))<(y1.2.1.length:Int)))) (
 a0a ((y1.2.1)[(Int.toNat (wrap .i64 (y1.2.2.2.2.1+16)))]?) fun r3 =>
 f0h n f (y1.1,((List.set y1.2.1 (Int.toNat (wrap .i64 (y1.2.2.2.2.1+16))) (wrap .i64 (r2+y1.2.2.2.2.2.1))),(y1.2.2.1,(y1.2.2.2.1,((wrap .i64 (y1.2.2.2.2.2.2.1+1)),())))))) (
 none)) (
 none)) (fun z4 =>
 some (.inr z4)) r0) (
 some (.inl (s4,(out,())))):=by kernel_rfl
theorem o0e (n f:Nat) (s4:(List Int)) (out:(List Int)) (x:(List Int)) (y:(List Int)) (i:Int) (more:Int) (s16:Int) (s19:Int):j0b n (f+1) (s4,out,x,y,i,more,s16,s19,()) =
 tif (s19<16) (
 tif (((0:Int)<=(wrap .i64 (i+s19)))&&(((wrap .i64 (i+s19))<32)&&((wrap .i64 (i+s19))<(out.length:Int)))) (
 a0a ((out)[(Int.toNat (wrap .i64 (i+s19)))]?) fun r0 =>
 tif (((0:Int)<=i)&&((i<16)&&(i<(x.length:Int)))) (
 a0a ((x)[(Int.toNat i)]?) fun r1 =>
 tif (((0:Int)<=s19)&&((s19<16)&&(s19<(y.length:Int)))) (
 a0a ((y)[(Int.toNat s19)]?) fun r2 =>
 tif (((0:Int)<=(wrap .i64 (i+s19)))&&(((wrap .i64 (i+s19))<32)&&((wrap .i64 (i+s19))<(out.length:Int)))) (
 a0a ((out)[(Int.toNat (wrap .i64 (i+s19)))]?) fun r3 =>
 j0b n f (s4,((List.set out (Int.toNat (wrap .i64 (i+s19))) (Int.tmod (wrap .i64 ((wrap .i64 (r0+(wrap .i64 (r1*r2))))+more)) (256:Int))),(x,(y,(i,((wrap .i64 (Int.tdiv (wrap .i64 ((wrap .i64 (r0+(wrap .i64 (r1*r2))))+more)) (256:Int))),(s16,((wrap .i64 (s19+1)),()))))))))) (
 none)) (
 none)) (
 none)) (
 none)) (
 some (.inl (s4,(out,(x,(y,(i,(more,(s16,()))))))))):=by kernel_rfl
theorem y1h (n:Nat) (p:(Int×(Int×(Int×(Int×(Int×(Int×(Int×(Int×(Int×(Int×(Int×(Int×(Int×(Int×(Int×(Int×(Int×(Int×(Int×(Int×(Int×(Int×(Int×(Int×(Int×(Int×(Int×(Int×(Int×(Int×(Int×Int)))))))))))))))))))))))))))))))):c1g (n+1) p =
 a0a (l0w n a0b ((List.drop 16 (List.take 32 (p.1::(p.2.1::(p.2.2.1::(p.2.2.2.1::(p.2.2.2.2.1::(p.2.2.2.2.2.1::(p.2.2.2.2.2.2.1::(p.2.2.2.2.2.2.2.1::(p.2.2.2.2.2.2.2.2.1::(p.2.2.2.2.2.2.2.2.2.1::(p.2.2.2.2.2.2.2.2.2.2.1::(p.2.2.2.2.2.2.2.2.2.2.2.1::(p.2.2.2.2.2.2.2.2.2.2.2.2.1::(p.2.2.2.2.2.2.2.2.2.2.2.2.2.1::(p.2.2.2.2.2.2.2.2.2.2.2.2.2.2.1::(p.2.2.2.2.2.2.2.2.2.2.2.2.2.2.2.1::(p.2.2.2.2.2.2.2.2.2.2.2.2.2.2.2.2.1::(p.2.2.2.2.2.2.2.2.2.2.2.2.2.2.2.2.2.1::(p.2.2.2.2.2.2.2.2.2.2.2.2.2.2.2.2.2.2.1::(p.2.2.2.2.2.2.2.2.2.2.2.2.2.2.2.2.2.2.2.1::(p.2.2.2.2.2.2.2.2.2.2.2.2.2.2.2.2.2.2.2.2.1::(p.2.2.2.2.2.2.2.2.2.2.2.2.2.2.2.2.2.2.2.2.2.1::(p.2.2.2.2.2.2.2.2.2.2.2.2.2.2.2.2.2.2.2.2.2.2.1::(p.2.2.2.2.2.2.2.2.2.2.2.2.2.2.2.2.2.2.2.2.2.2.2.1::(p.2.2.2.2.2.2.2.2.2.2.2.2.2.2.2.2.2.2.2.2.2.2.2.2.1::(p.2.2.2.2.2.2.2.2.2.2.2.2.2.2.2.2.2.2.2.2.2.2.2.2.2.1::(p.2.2.2.2.2.2.2.2.2.2.2.2.2.2.2.2.2.2.2.2.2.2.2.2.2.2.1::(p.2.2.2.2.2.2.2.2.2.2.2.2.2.2.2.2.2.2.2.2.2.2.2.2.2.2.2.1::(p.2.2.2.2.2.2.2.2.2.2.2.2.2.2.2.2.2.2.2.2.2.2.2.2.2.2.2.2.1::(p.2.2.2.2.2.2.2.2.2.2.2.2.2.2.2.2.2.2.2.2.2.2.2.2.2.2.2.2.2.1::(p.2.2.2.2.2.2.2.2.2.2.2.2.2.2.2.2.2.2.2.2.2.2.2.2.2.2.2.2.2.2.1::(p.2.2.2.2.2.2.2.2.2.2.2.2.2.2.2.2.2.2.2.2.2.2.2.2.2.2.2.2.2.2.2::[])))))))))))))))))))))))))))))))))),((((List.length (List.drop 16 (List.take 32 (p.1::(p.2.1::(p.2.2.1::(p.2.2.2.1::(p.2.2.2.2.1::(p.2.2.2.2.2.1::(p.2.2.2.2.2.2.1::(p.2.2.2.2.2.2.2.1::(p.2.2.2.2.2.2.2.2.1::(p.2.2.2.2.2.2.2.2.2.1::(p.2.2.2.2.2.2.2.2.2.2.1::(p.2.2.2.2.2.2.2.2.2.2.2.1::(p.2.2.2.2.2.2.2.2.2.2.2.2.1::(p.2.2.2.2.2.2.2.2.2.2.2.2.2.1::(p.2.2.2.2.2.2.2.2.2.2.2.2.2.2.1::(p.2.2.2.2.2.2.2.2.2.2.2.2.2.2.2.1::(p.2.2.2.2.2.2.2.2.2.2.2.2.2.2.2.2.1::(p.2.2.2.2.2.2.2.2.2.2.2.2.2.2.2.2.2.1::(p.2.2.2.2.2.2.2.2.2.2.2.2.2.2.2.2.2.2.1::(p.2.2.2.2.2.2.2.2.2.2.2.2.2.2.2.2.2.2.2.1::(p.2.2.2.2.2.2.2.2.2.2.2.2.2.2.2.2.2.2.2.2.1::(p.2.2.2.2.2.2.2.2.2.2.2.2.2.2.2.2.2.2.2.2.2.1::(p.2.2.2.2.2.2.2.2.2.2.2.2.2.2.2.2.2.2.2.2.2.2.1::(p.2.2.2.2.2.2.2.2.2.2.2.2.2.2.2.2.2.2.2.2.2.2.2.1::(p.2.2.2.2.2.2.2.2.2.2.2.2.2.2.2.2.2.2.2.2.2.2.2.2.1::(p.2.2.2.2.2.2.2.2.2.2.2.2.2.2.2.2.2.2.2.2.2.2.2.2.2.1::(p.2.2.2.2.2.2.2.2.2.2.2.2.2.2.2.2.2.2.2.2.2.2.2.2.2.2.1::(p.2.2.2.2.2.2.2.2.2.2.2.2.2.2.2.2.2.2.2.2.2.2.2.2.2.2.2.1::(p.2.2.2.2.2.2.2.2.2.2.2.2.2.2.2.2.2.2.2.2.2.2.2.2.2.2.2.2.1::(p.2.2.2.2.2.2.2.2.2.2.2.2.2.2.2.2.2.2.2.2.2.2.2.2.2.2.2.2.2.1::(p.2.2.2.2.2.2.2.2.2.2.2.2.2.2.2.2.2.2.2.2.2.2.2.2.2.2.2.2.2.2.1::(p.2.2.2.2.2.2.2.2.2.2.2.2.2.2.2.2.2.2.2.2.2.2.2.2.2.2.2.2.2.2.2::[]))))))))))))))))))))))))))))))))))):Nat):Int),((0:Int),())))) fun r0 =>
 b0x (fun y1 =>
 some false) (fun z2 =>
 some z2) r0:=by kernel_rfl
theorem u0i (n f:Nat) (s5:(List Int)) (s6:Int) (s7:Int):l0w n (f+1) (s5,s6,s7,()) =
 tif (s7<s6) (
 a0a (at? s5 s7) fun r0 =>
 tif (!(r0=0)) (
 some (.inr true)) (
 l0w n f (s5,(s6,((wrap .i64 (s7+1)),()))))) (
 some (.inl ())):=by kernel_rfl
theorem e0v (n:Nat) (w:b0w) (p1:a0m):a0e (n+1) w p1 =
 a0a (c0r n p1 w) fun r0 =>
 some r0.1:=by kernel_rfl
theorem y0l (n:Nat) (c:b0p):i0u (n+1) c =
 a0a (f0w n c.1 (1:Int) (4096:Int)) fun r0 =>
 tif (r0) (
 a0a (f0w n c.2.2.2.1 (1:Int) (65536:Int)) fun r1 =>
 tif (r1) (
 a0a (f0w n c.2.2.2.2 (1:Int) (8192:Int)) fun r2 =>
 tif (r2) (
 a0a (i0d n c.2.1.1 (1:Int) (1099511627776:Int)) fun r3 =>
 tif (r3) (
 a0a (f0w n c.2.2.1.1 (1:Int) (4096:Int)) fun r4 =>
 tif (r4) (
 a0a (i0d n c.2.1.2.1 (1:Int) (1099511627776:Int)) fun r5 =>
 tif (r5) (
 a0a (f0w n c.2.2.1.2.1 (1:Int) (4096:Int)) fun r6 =>
 tif (r6) (
 a0a (i0d n c.2.1.2.2 (1:Int) (1099511627776:Int)) fun r7 =>
 tif (r7) (
 a0a (f0w n c.2.2.1.2.2 (1:Int) (4096:Int)) fun r8 =>
 tif (r8) (
 tif (c.2.1.1=0) (
 none) (
 tif ((Int.tmod c.2.1.2.1 c.2.1.1)=0) (
 tif (c.2.1.1=0) (
 none) (
 tif ((wrap .i64 (Int.tdiv c.2.1.2.1 c.2.1.1))<=c.2.2.1.1) (
 tif (c.2.1.2.1=0) (
 none) (
 tif ((Int.tmod c.2.1.2.2 c.2.1.2.1)=0) (
 tif (c.2.1.2.1=0) (
 none) (
 tif ((wrap .i64 (Int.tdiv c.2.1.2.2 c.2.1.2.1))<=c.2.2.1.2.1) (
 tif (!((wrap .i64 (Int.tdiv c.2.1.2.2 c.2.1.2.1))<=c.2.2.1.2.1)) (
 some (2:Int)) (
 a0a (k0x n c) fun r9 =>
 tif (c.2.2.2.2<=r9) (
 some (2:Int)) (
 some (0:Int)))) (
 tif (!((wrap .i64 (Int.tdiv c.2.1.2.2 c.2.1.2.1))<=c.2.2.1.2.1)) (
 some (2:Int)) (
 a0a (k0x n c) fun r10 =>
 tif (c.2.2.2.2<=r10) (
 some (2:Int)) (
 some (0:Int)))))) (
 some (2:Int)))) (
 tif (!((wrap .i64 (Int.tdiv c.2.1.2.1 c.2.1.1))<=c.2.2.1.1)) (
 some (2:Int)) (
 a0a (k0x n c) fun r11 =>
 tif (c.2.2.2.2<=r11) (
 some (2:Int)) (
 some (0:Int)))))) (
 some (2:Int)))) (
 tif (!r8) (
 some (2:Int)) (
 a0a (k0x n c) fun r12 =>
 tif (c.2.2.2.2<=r12) (
 some (2:Int)) (
 some (0:Int))))) (
 some (2:Int))) (
 some (2:Int))) (
 some (2:Int))) (
 some (2:Int))) (
 some (2:Int))) (
 some (2:Int))) (
 some (2:Int))) (
 some (2:Int)):=by kernel_rfl
theorem w1i (n:Nat) (t:Int):c1b (n+1) t =
 tif ((0:Int)<=t) (
 some (decide (t<35184372088832))) (
 some false):=by kernel_rfl
theorem r1g (n:Nat) (s:b0j):w0d (n+1) s =
 a0a (l0n n s ([],(0,((0,(0,[])),(([],([],[])),(0,(0,((0,(0,(0,false))),((0,(0,(0,false))),((0,0),(0,(0,0)))))))))))) fun r0 =>
 some r0:=by kernel_rfl
theorem d1j (n:Nat) (c:b0p) (s:b0j):r0d (n+1) c s =
 a0a (p0m n c s) fun r0 =>
 oelim (r0.1) (
 some r0.2) fun r1 =>
 some r0.2:=by kernel_rfl
theorem b1o (n:Nat) (v:a0m):p0f (n+1) v =
 tif (v.1.2.1.1=0) (
 none) (
 some (wrap .i64 (v.2.1-(Int.tmod v.2.1 v.1.2.1.1)))):=by kernel_rfl
theorem b1n (n:Nat) (v:a0m) (i:Int):p0e (n+1) v i =
 a0a (f0g n v (fun y0=>f0q n y0.1 i v)) fun r1 =>
 tif (r1<i) (
 a0a (g0n n v i) fun r2 =>
 some r2) (
 some false):=by kernel_rfl
theorem b1s (n:Nat) (a:(Int×Int)):g0d (n+1) a =
 tif (a.2=0) (
 a0a (j0s n a.1) fun r0 =>
 some (wrap .i64 ((64:Int)+r0))) (
 a0a (j0s n a.2) fun r1 =>
 some r1):=by kernel_rfl
theorem n1d (n:Nat) (a:(Int×Int)) (by_:Int):t0c (n+1) a by_ =
 tif ((64:Int)<=by_) (
 tif ((wrap .i64 (by_-64))<0) (
 none) (
 some (0,(shrI .u64 a.1 (wrap .i64 (by_-64)))))) (
 tif (by_<0) (
 none) (
 tif (by_<0) (
 none) (
 tif ((wrap .i64 ((64:Int)-by_))<0) (
 none) (
 some ((shrI .u64 a.1 by_),(orI .u64 (shrI .u64 a.2 by_) (shlI .u64 a.1 (wrap .i64 ((64:Int)-by_))))))))):=by kernel_rfl
theorem n1a (n:Nat) (a:(Int×Int)) (b:(Int×Int)):i0r (n+1) a b =
 a0a (l1t n a b) fun r0 =>
 some r0.1:=by kernel_rfl
theorem x1a (n:Nat) (a:(Int×Int)) (by_:Int):w0p (n+1) a by_ =
 tif ((64:Int)<=by_) (
 tif ((wrap .i64 (by_-64))<0) (
 none) (
 some ((shlI .u64 a.2 (wrap .i64 (by_-64))),0))) (
 tif (by_<0) (
 none) (
 tif ((wrap .i64 ((64:Int)-by_))<0) (
 none) (
 tif (by_<0) (
 none) (
 some ((orI .u64 (shlI .u64 a.1 by_) (shrI .u64 a.2 (wrap .i64 ((64:Int)-by_)))),(shlI .u64 a.2 by_)))))):=by kernel_rfl
theorem j1l (n:Nat) (l:(List (List UInt8×List UInt8))):q0h (n+1) l =
 tif ((l.length:Int)=0) (
 some (8:Int)) (
 tif ((16:Int)<(l.length:Int)) (
 some (8:Int)) (
 a0a (f0j n a0b (l,(256,(l,((l.length:Int),(0,())))))) fun r0 =>
 b0x (fun y1 =>
 some (0:Int)) (fun z2 =>
 some z2) r0)):=by kernel_rfl
theorem o0m (n f:Nat) (l:(List (List UInt8×List UInt8))) (left:Int) (s14:(List (List UInt8×List UInt8))) (s15:Int) (s16:Int):f0j n (f+1) (l,left,s14,s15,s16,()) =
 tif (s16<s15) (
 a0a (at? s14 s16) fun r0 =>
 a0a (z0w n r0.1) fun r1 =>
 tif (!r1) (
 some (.inr (8:Int))) (
 tif ((128:Int)<(r0.2.length:Int)) (
 some (.inr (8:Int))) (
 tif ((wrap .i64 (left-(wrap .i64 ((r0.1.length:Int)+(r0.2.length:Int)))))<0) (
 some (.inr (8:Int))) (
 tif ((0:Int)<s16) (
 a0a (at? l (wrap .i64 (s16-1))) fun r2 =>
 tif (!(Go.Op.bytesLess r2.1 r0.1)) (
 some (.inr (8:Int))) (
 f0j n f (l,((wrap .i64 (left-(wrap .i64 ((r0.1.length:Int)+(r0.2.length:Int))))),(s14,(s15,((wrap .i64 (s16+1)),()))))))) (
 f0j n f (l,((wrap .i64 (left-(wrap .i64 ((r0.1.length:Int)+(r0.2.length:Int))))),(s14,(s15,((wrap .i64 (s16+1)),())))))))))) (
 some (.inl ())):=by kernel_rfl
theorem x0m (n:Nat) (s:a0m) (from_:Int) (to:Int):l0z (n+1) s from_ to =
 a0a (d0b n a0b (from_,(to,(s,(10,(1,())))))) fun r0 =>
 b0x (fun y1 =>
 some (0,y1.1)) (fun z2 =>
 some z2) r0:=by kernel_rfl
theorem j0n (n f:Nat) (from_:Int) (to:Int) (s_:a0m) (why:Int) (tier:Int):d0b n (f+1) (from_,to,s_,why,tier,()) =
 tif (tier<=3) (
 a0a (x0o n s_ tier from_ to) fun r0 =>
 tif (r0=0) (
 some (.inr (tier,0))) (
 tif (r0=10) (
 d0b n f (from_,(to,(s_,(why,((wrap .i64 (tier+1)),())))))) (
 tif (r0=11) (
 d0b n f (from_,(to,(s_,(r0,((wrap .i64 (tier+1)),())))))) (
 some (.inr (0,r0)))))) (
 some (.inl (why,()))):=by kernel_rfl
theorem t1h (n:Nat) (s:a0m) (tier:Int) (from_:Int) (to:Int):x0o (n+1) s tier from_ to =
 tif ((wrap .i64 (tier-1))=0) (
 a0a (h0f n from_ to s.1.2.1.1) fun r0 =>
 tif (!(r0.2.2=0)) (
 some r0.2.2) (
 a0a (y0j n s (wrap .i64 (tier-1))) fun r1 =>
 tif (r1.2.2=0) (
 tif (r0.1<r1.1) (
 some (11:Int)) (
 some r1.2.2)) (
 some r1.2.2))) (
 tif ((wrap .i64 (tier-1))=1) (
 a0a (h0f n from_ to s.1.2.1.2.1) fun r2 =>
 tif (!(r2.2.2=0)) (
 some r2.2.2) (
 a0a (y0j n s (wrap .i64 (tier-1))) fun r3 =>
 tif (r3.2.2=0) (
 tif (r2.1<r3.1) (
 some (11:Int)) (
 some r3.2.2)) (
 some r3.2.2))) (
 tif ((wrap .i64 (tier-1))=2) (
 a0a (h0f n from_ to s.1.2.1.2.2) fun r4 =>
 tif (!(r4.2.2=0)) (
 some r4.2.2) (
 a0a (y0j n s (wrap .i64 (tier-1))) fun r5 =>
 tif (r5.2.2=0) (
 tif (r4.1<r5.1) (
 some (11:Int)) (
 some r5.2.2)) (
 some r5.2.2))) (
 none))):=by kernel_rfl
theorem w1k (n:Nat) (s:a0m) (l:(List (List UInt8×List UInt8))):m1h (n+1) s l =
 a0a (c1c n s) fun r0 =>
 tif (!(r0.2=0)) (
 some (0,r0.2)) (
 a0a (f0g n r0.1 (fun y1=>f0y n y1.1 s l r0.1)) fun r2 =>
 tif (r2<0) (
 some (0,3)) (
 some (r2,0))):=by kernel_rfl
theorem c2o (n:Nat) (a:Int) (b:Int) (w:Int):h0f (n+1) a b w =
 a0a (l1v n w) fun r0 =>
 tif (!r0) (
 some (0,(0,1))) (
 tif (a<0) (
 some (0,(0,1))) (
 tif ((35184372088832:Int)<b) (
 some (0,(0,1))) (
 tif (b<=a) (
 some (0,(0,1))) (
 tif (w=0) (
 none) (
 tif (!((Int.tmod a w)=0)) (
 some (0,(0,10))) (
 tif (w=0) (
 none) (
 tif (!((Int.tmod b w)=0)) (
 some (0,(0,10))) (
 tif (w=0) (
 none) (
 tif (w=0) (
 none) (
 some ((wrap .i64 (Int.tdiv a w)),((wrap .i64 (Int.tdiv b w)),0)))))))))))):=by kernel_rfl
theorem l0o (n:Nat) (c:b0p) (s:b0j) (k:Int) (i:Int) (j:Int):d0z (n+1) c s k i j =
 a0a (p0m n c s) fun r0 =>
 oelim (r0.1) (
 tif (!(r0.2=0)) (
 some ((0,((0,(0,(0,false))),((0,(0,(0,false))),((0,0),(0,(0,0)))))),r0.2)) (
 tif (k<0) (
 some ((0,((0,(0,(0,false))),((0,(0,(0,false))),((0,0),(0,(0,0)))))),1)) (
 tif ((3:Int)<=k) (
 some ((0,((0,(0,(0,false))),((0,(0,(0,false))),((0,0),(0,(0,0)))))),1)) (
 tif (i<0) (
 some ((0,((0,(0,(0,false))),((0,(0,(0,false))),((0,0),(0,(0,0)))))),1)) (
 tif (j<i) (
 some ((0,((0,(0,(0,false))),((0,(0,(0,false))),((0,0),(0,(0,0)))))),1)) (
 none)))))) fun r1 =>
 tif (!(r0.2=0)) (
 some ((0,((0,(0,(0,false))),((0,(0,(0,false))),((0,0),(0,(0,0)))))),r0.2)) (
 tif (k<0) (
 some ((0,((0,(0,(0,false))),((0,(0,(0,false))),((0,0),(0,(0,0)))))),1)) (
 tif ((3:Int)<=k) (
 some ((0,((0,(0,(0,false))),((0,(0,(0,false))),((0,0),(0,(0,0)))))),1)) (
 tif (i<0) (
 some ((0,((0,(0,(0,false))),((0,(0,(0,false))),((0,0),(0,(0,0)))))),1)) (
 tif (j<i) (
 some ((0,((0,(0,(0,false))),((0,(0,(0,false))),((0,0),(0,(0,0)))))),1)) (
 a0a (p0g n r1 k i j) fun r2 =>
 some r2))))):=by kernel_rfl
theorem n1e (n:Nat) (inc:(Int×Int)) (ms:Int):z0d (n+1) inc ms =
 tif (ms=0) (
 some (((0,0),(0,0)),12)) (
 a0a (k0q n inc (1000:Int)) fun r0 =>
 tif (!(r0.2=0)) (
 some (((0,0),(0,0)),r0.2)) (
 a0a (q0u n ms) fun r1 =>
 a0a (r0i n r0.1 r1) fun r2 =>
 some r2)):=by kernel_rfl
theorem l1r (n:Nat) (a:(Int×Int)) (n_:Int):k0q (n+1) a n_ =
 a0a (i0a n a.2 n_) fun r0 =>
 a0a (i0a n a.1 n_) fun r1 =>
 tif (((0:Int)<=r1.2)&&(((0:Int)<=r0.1)&&true)) (
 a0a (q0t n ((((r1.2+r0.1)+0) % (18446744073709551616:Int)),r0.2) (orI .u64 r1.1 (((r1.2+r0.1)+0) / (18446744073709551616:Int)))) fun r2 =>
 some r2) (
 none):=by kernel_rfl
theorem a1u (n:Nat) (c:b0p):h0w (n+1) c =
 tif (c.1<1) (
 some (2:Int)) (
 tif ((4096:Int)<c.1) (
 some (2:Int)) (
 tif (c.2.2.2.1<1) (
 some (2:Int)) (
 tif ((65536:Int)<c.2.2.2.1) (
 some (2:Int)) (
 tif (c.2.2.2.2<1) (
 some (2:Int)) (
 tif ((8192:Int)<c.2.2.2.2) (
 some (2:Int)) (
 tif (c.2.1.1<1) (
 some (2:Int)) (
 tif ((1099511627776:Int)<c.2.1.1) (
 some (2:Int)) (
 tif (c.2.2.1.1<1) (
 some (2:Int)) (
 tif ((4096:Int)<c.2.2.1.1) (
 some (2:Int)) (
 tif (c.2.1.2.1<1) (
 some (2:Int)) (
 tif ((1099511627776:Int)<c.2.1.2.1) (
 some (2:Int)) (
 tif (c.2.2.1.2.1<1) (
 some (2:Int)) (
 tif ((4096:Int)<c.2.2.1.2.1) (
 some (2:Int)) (
 tif (c.2.1.1=0) (
 none) (
 tif (!((Int.tmod c.2.1.2.1 c.2.1.1)=0)) (
 some (2:Int)) (
 tif (c.2.1.1=0) (
 none) (
 tif (c.2.2.1.1<(wrap .i64 (Int.tdiv c.2.1.2.1 c.2.1.1))) (
 some (2:Int)) (
 tif (c.2.1.2.2<1) (
 some (2:Int)) (
 tif ((1099511627776:Int)<c.2.1.2.2) (
 some (2:Int)) (
 tif (c.2.2.1.2.2<1) (
 some (2:Int)) (
 tif ((4096:Int)<c.2.2.1.2.2) (
 some (2:Int)) (
 tif (c.2.1.2.1=0) (
 none) (
 tif (!((Int.tmod c.2.1.2.2 c.2.1.2.1)=0)) (
 some (2:Int)) (
 tif (c.2.1.2.1=0) (
 none) (
 tif (c.2.2.1.2.1<(wrap .i64 (Int.tdiv c.2.1.2.2 c.2.1.2.1))) (
 some (2:Int)) (
 a0a (d1w n c) fun r0 =>
 tif (c.2.2.2.2<=r0) (
 some (2:Int)) (
 some (0:Int)))))))))))))))))))))))))))):=by kernel_rfl
theorem x1l (n:Nat) (a:b0j) (b:b0j):w0w (n+1) a b =
 a0a (x0g n a.1 b.1) fun r0 =>
 tif (r0) (
 tif (a.2.1=b.2.1) (
 a0a (a2m n a.2.2.1 b.2.2.1) fun r1 =>
 tif (r1) (
 a0a (a2k n a.2.2.2.1 b.2.2.2.1) fun r2 =>
 tif (r2) (
 some ((decide (a.2.2.2.2.1=b.2.2.2.2.1))&&((decide (a.2.2.2.2.2.1=b.2.2.2.2.2.1))&&((decide (a.2.2.2.2.2.2.1.1=b.2.2.2.2.2.2.1.1))&&((decide (a.2.2.2.2.2.2.1.2.1=b.2.2.2.2.2.2.1.2.1))&&((decide (a.2.2.2.2.2.2.1.2.2.1=b.2.2.2.2.2.2.1.2.2.1))&&((a.2.2.2.2.2.2.1.2.2.2==b.2.2.2.2.2.2.1.2.2.2)&&((decide (a.2.2.2.2.2.2.2.1.1=b.2.2.2.2.2.2.2.1.1))&&((decide (a.2.2.2.2.2.2.2.1.2.1=b.2.2.2.2.2.2.2.1.2.1))&&((decide (a.2.2.2.2.2.2.2.1.2.2.1=b.2.2.2.2.2.2.2.1.2.2.1))&&((a.2.2.2.2.2.2.2.1.2.2.2==b.2.2.2.2.2.2.2.1.2.2.2)&&((decide (a.2.2.2.2.2.2.2.2.1.1=b.2.2.2.2.2.2.2.2.1.1))&&((decide (a.2.2.2.2.2.2.2.2.1.2=b.2.2.2.2.2.2.2.2.1.2))&&((decide (a.2.2.2.2.2.2.2.2.2.1=b.2.2.2.2.2.2.2.2.2.1))&&((decide (a.2.2.2.2.2.2.2.2.2.2.1=b.2.2.2.2.2.2.2.2.2.2.1))&&(decide (a.2.2.2.2.2.2.2.2.2.2.2=b.2.2.2.2.2.2.2.2.2.2.2))))))))))))))))) (
 some false)) (
 some false)) (
 some false)) (
 some false):=by kernel_rfl
theorem s1n (n:Nat) (r:(Int×(Int×(List b0d)))) (room:Int):d1v (n+1) r room =
 tif (room<1) (
 some (2:Int)) (
 tif ((4096:Int)<room) (
 some (2:Int)) (
 tif (room<(r.2.2.length:Int)) (
 some (2:Int)) (
 tif (r.1<0) (
 some (2:Int)) (
 tif ((70368744177664:Int)<r.1) (
 some (2:Int)) (
 a0a (g0z n a0b (room,(r,(r.2.2,((r.2.2.length:Int),(0,())))))) fun r0 =>
 b0x (fun y1 =>
 tif (y1.2.1.1=0) (
 tif (!(y1.2.1.2.1=0)) (
 some (2:Int)) (
 some (0:Int))) (
 tif (y1.2.1.2.1<0) (
 some (2:Int)) (
 tif ((35184372088832:Int)<=y1.2.1.2.1) (
 some (2:Int)) (
 tif (!((y1.2.1.2.2.length:Int)=y1.1)) (
 some (2:Int)) (
 a0a (at? y1.2.1.2.2 (0:Int)) fun r2 =>
 tif (r2.1<=y1.2.1.2.1) (
 some (2:Int)) (
 some (0:Int))))))) (fun z3 =>
 some z3) r0))))):=by kernel_rfl
theorem r0u (n f:Nat) (room:Int) (r_:(Int×(Int×(List b0d)))) (s31:(List b0d)) (s32:Int) (s33:Int):g0z n (f+1) (room,r_,s31,s32,s33,()) =
 tif (s33<s32) (
 a0a (at? s31 s33) fun r0 =>
 a0a (l0u n r0) fun r1 =>
 tif (!(r1=0)) (
 some (.inr (2:Int))) (
 tif ((0:Int)<s33) (
 a0a (at? r_.2.2 (wrap .i64 (s33-1))) fun r2 =>
 tif (r0.1<=r2.1) (
 some (.inr (2:Int))) (
 g0z n f (room,(r_,(s31,(s32,((wrap .i64 (s33+1)),()))))))) (
 g0z n f (room,(r_,(s31,(s32,((wrap .i64 (s33+1)),())))))))) (
 some (.inl (room,(r_,())))):=by kernel_rfl
theorem s1l (n:Nat) (c:b0p) (s:((List a0c)×((List a0c)×(List a0c)))):d1r (n+1) c s =
 a0a (h0w n c) fun r0 =>
 tif (!(r0=0)) (
 some (2:Int)) (
 tif (!((s.1.length:Int)=c.2.2.1.1)) (
 some (2:Int)) (
 a0a (r0s n s.1 c.2.1.1) fun r1 =>
 tif (!(r1=0)) (
 some (2:Int)) (
 tif (!((s.2.1.length:Int)=c.2.2.1.2.1)) (
 some (2:Int)) (
 a0a (r0s n s.2.1 c.2.1.2.1) fun r2 =>
 tif (!(r2=0)) (
 some (2:Int)) (
 tif (!((s.2.2.length:Int)=c.2.2.1.2.2)) (
 some (2:Int)) (
 a0a (r0s n s.2.2 c.2.1.2.2) fun r3 =>
 tif (!(r3=0)) (
 some (2:Int)) (
 some (0:Int)))))))):=by kernel_rfl
theorem e2d (n:Nat) (l:(List a0c)):p0v (n+1) l =
 a0a (n0y n a0b ([],(l,((l.length:Int),(0,()))))) fun r0 =>
 b0x (fun y1 =>
 some y1.1) (fun z2 =>
 some z2) r0:=by kernel_rfl
theorem x0b (n f:Nat) (out:(List a0c)) (s8:(List a0c)) (s9:Int) (s10:Int):n0y n (f+1) (out,s8,s9,s10,()) =
 tif (s10<s9) (
 a0a (at? s8 s10) fun r0 =>
 tif ((decide (r0.1=0))&&((decide (r0.2.1=0))&&((decide (r0.2.2.1.1=0))&&((decide (r0.2.2.1.2.1=0))&&((decide (r0.2.2.1.2.2.1=0))&&((r0.2.2.1.2.2.2==false)&&((decide (r0.2.2.2.1.1=0))&&((decide (r0.2.2.2.1.2.1=0))&&((decide (r0.2.2.2.1.2.2.1=0))&&((r0.2.2.2.1.2.2.2==false)&&((decide (r0.2.2.2.2.1.1=0))&&((decide (r0.2.2.2.2.1.2=0))&&((decide (r0.2.2.2.2.2.1=0))&&((decide (r0.2.2.2.2.2.2.1=0))&&(decide (r0.2.2.2.2.2.2.2=0)))))))))))))))) (
 n0y n f (out,(s8,(s9,((wrap .i64 (s10+1)),()))))) (
 a0a (t0d n a0b (out,(r0,((out.length:Int),(s8,(s9,(s10,()))))))) fun r1 =>
 b0x (fun y2 =>
 tif (((0:Int)<=y2.2.2.1)&&(y2.2.2.1<=(y2.1.length:Int))) (
 tif (((0+(List.length (List.take ((Int.toNat y2.2.2.1)-0) (List.drop 0 y2.1))))*120)<=140737488355328) (
 tif ((((List.length ([]++(List.take ((Int.toNat y2.2.2.1)-0) (List.drop 0 y2.1))))+1)*120)<=140737488355328) (
 tif ((0:Int)<=y2.2.2.1) (
 tif ((Int.toNat y2.2.2.1)<=(List.length y2.1)) (
 tif ((((List.length (([]++(List.take ((Int.toNat y2.2.2.1)-0) (List.drop 0 y2.1)))++(y2.2.1::[])))+(List.length (List.take ((List.length y2.1)-(Int.toNat y2.2.2.1)) (List.drop (Int.toNat y2.2.2.1) y2.1))))*120)<=140737488355328) (
 n0y n f (((([]++(List.take ((Int.toNat y2.2.2.1)-0) (List.drop 0 y2.1)))++(y2.2.1::[]))++(List.take ((List.length y2.1)-(Int.toNat y2.2.2.1)) (List.drop (Int.toNat y2.2.2.1) y2.1))),(y2.2.2.2.1,(y2.2.2.2.2.1,((wrap .i64 (y2.2.2.2.2.2.1+1)),()))))) (
 none)) (
 none)) (
 none)) (
 none)) (
 none)) (
 none)) (fun z3 =>
 some (.inr z3)) r1)) (
 some (.inl (out,()))):=by kernel_rfl
theorem w0z (n f:Nat) (out:(List a0c)) (s:a0c) (at_:Int) (s8:(List a0c)) (s9:Int) (s10:Int):t0d n (f+1) (out,s,at_,s8,s9,s10,()) =
 tif ((0:Int)<at_) (
 a0a (at? out (wrap .i64 (at_-1))) fun r0 =>
 a0a ((out)[(Int.toNat (wrap .i64 (at_-1)))]?) fun r1 =>
 tif (s.1<r1.1) (
 t0d n f (out,(s,((wrap .i64 (at_-1)),(s8,(s9,(s10,()))))))) (
 some (.inl (out,(s,(at_,(s8,(s9,(s10,()))))))))) (
 some (.inl (out,(s,(at_,(s8,(s9,(s10,())))))))):=by kernel_rfl
theorem x1u (n:Nat) (r:(Int×(Int×(List b0d)))):n1t (n+1) r =
 tif ((r.2.2.length:Int)=0) (
 some ((0,(0,(0,false))),3)) (
 a0a (at? r.2.2 (wrap .i64 ((r.2.2.length:Int)-1))) fun r0 =>
 some (r0,0)):=by kernel_rfl
theorem x1r (n:Nat) (c:b0v) (w:Int) (i:Int):c1e (n+1) c w i =
 a0a (r0x n c) fun r0 =>
 tif (!(r0=0)) (
 some false) (
 tif (c.1=0) (
 some false) (
 a0a (d0g n c.2.1.1 w) fun r1 =>
 a0a (d0g n c.2.2.1.1 w) fun r2 =>
 tif (r1.2=0) (
 tif (r2.2=0) (
 tif (r1.1=i) (
 some (decide (r2.1=i))) (
 some false)) (
 some false)) (
 some false))):=by kernel_rfl
theorem x1m (n:Nat) (c:b0p) (last:Int) (now:Int):n1r (n+1) c last now =
 a0a (h0w n c) fun r0 =>
 tif (!(r0=0)) (
 some false) (
 a0a (x0e n last now c.2.1.1 c.2.2.1.1) fun r1 =>
 tif (!r1) (
 some false) (
 a0a (x0e n last now c.2.1.2.1 c.2.2.1.2.1) fun r2 =>
 tif (!r2) (
 some false) (
 a0a (x0e n last now c.2.1.2.2 c.2.2.1.2.2) fun r3 =>
 tif (!r3) (
 some false) (
 some true)))):=by kernel_rfl
theorem t1a (n:Nat) (a:(Int×Int)) (d:(Int×Int)):s0b (n+1) a d =
 tif ((d.1=0)&&(d.2=0)) (
 some ((0,0),a)) (
 a0a (f0e n a) fun r0 =>
 tif (16=((((((((((((((((1+1)+1)+1)+1)+1)+1)+1)+1)+1)+1)+1)+1)+1)+1)+1) / 1)) (
 a0a (f0u n a0b (d,((0,0),((0,0),((List.replicate 16 (0:Int)),((0,0),((r0.1::(r0.2.1::(r0.2.2.1::(r0.2.2.2.1::(r0.2.2.2.2.1::(r0.2.2.2.2.2.1::(r0.2.2.2.2.2.2.1::(r0.2.2.2.2.2.2.2.1::(r0.2.2.2.2.2.2.2.2.1::(r0.2.2.2.2.2.2.2.2.2.1::(r0.2.2.2.2.2.2.2.2.2.2.1::(r0.2.2.2.2.2.2.2.2.2.2.2.1::(r0.2.2.2.2.2.2.2.2.2.2.2.2.1::(r0.2.2.2.2.2.2.2.2.2.2.2.2.2.1::(r0.2.2.2.2.2.2.2.2.2.2.2.2.2.2.1::(r0.2.2.2.2.2.2.2.2.2.2.2.2.2.2.2::[])))))))))))))))),(127,())))))))) fun r1 =>
 b0x (fun y2 =>
 a0a ((y2.2.2.1)[0]?) fun r3 =>
 a0a ((y2.2.2.1)[1]?) fun r4 =>
 a0a ((y2.2.2.1)[2]?) fun r5 =>
 a0a ((y2.2.2.1)[3]?) fun r6 =>
 a0a ((y2.2.2.1)[4]?) fun r7 =>
 a0a ((y2.2.2.1)[5]?) fun r8 =>
 a0a ((y2.2.2.1)[6]?) fun r9 =>
 a0a ((y2.2.2.1)[7]?) fun r10 =>
 a0a ((y2.2.2.1)[8]?) fun r11 =>
 a0a ((y2.2.2.1)[9]?) fun r12 =>
 a0a ((y2.2.2.1)[10]?) fun r13 =>
 a0a ((y2.2.2.1)[11]?) fun r14 =>
 a0a ((y2.2.2.1)[12]?) fun r15 =>
 a0a ((y2.2.2.1)[13]?) fun r16 =>
 a0a ((y2.2.2.1)[14]?) fun r17 =>
 a0a ((y2.2.2.1)[15]?) fun r18 =>
 a0a (a1x n (r3,(r4,(r5,(r6,(r7,(r8,(r9,(r10,(r11,(r12,(r13,(r14,(r15,(r16,(r17,r18)))))))))))))))) fun r19 =>
 some (r19,y2.2.2.2.1)) (fun z20 =>
 some z20) r1) (
 none)):=by kernel_rfl
theorem s0a (n f:Nat) (d_:(Int×Int)) (s4:(Int×Int)) (s5:(Int×Int)) (out:(List Int)) (left:(Int×Int)) (x:(List Int)) (i:Int):f0u n (f+1) (d_,s4,s5,out,left,x,i,()) =
 tif ((0:Int)<=i) (
 a0a (n0g n left left) fun r0 =>
 tif (!(r0.2=0)) (
 a0a (e1b n d_ left) fun r1 =>
 a0a (e1b n left r1.1) fun r2 =>
 tif (((0:Int)<=(wrap .i64 (Int.tdiv i (8:Int))))&&(((wrap .i64 (Int.tdiv i (8:Int)))<16)&&((wrap .i64 (Int.tdiv i (8:Int)))<(x.length:Int)))) (
 a0a ((x)[(Int.toNat (wrap .i64 (Int.tdiv i (8:Int))))]?) fun r3 =>
 tif ((Int.tmod i (8:Int))<0) (
 none) (
 a0a (n0g n r2.1 (0,(wrap .u64 (andI .i64 (shrI .i64 r3 (Int.tmod i (8:Int))) (1:Int))))) fun r4 =>
 tif (((0:Int)<=(wrap .i64 (Int.tdiv i (8:Int))))&&(((wrap .i64 (Int.tdiv i (8:Int)))<16)&&((wrap .i64 (Int.tdiv i (8:Int)))<(out.length:Int)))) (
 a0a ((out)[(Int.toNat (wrap .i64 (Int.tdiv i (8:Int))))]?) fun r5 =>
 tif ((Int.tmod i (8:Int))<0) (
 none) (
 tif (((0:Int)<=(wrap .i64 (Int.tdiv i (8:Int))))&&(((wrap .i64 (Int.tdiv i (8:Int)))<16)&&((wrap .i64 (Int.tdiv i (8:Int)))<(out.length:Int)))) (
 a0a ((out)[(Int.toNat (wrap .i64 (Int.tdiv i (8:Int))))]?) fun r6 =>
 f0u n f (d_,(s4,(s5,((List.set out (Int.toNat (wrap .i64 (Int.tdiv i (8:Int)))) (orI .i64 r5 (shlI .i64 (1:Int) (Int.tmod i (8:Int))))),(r4.1,(x,((wrap .i64 (i-1)),())))))))) (
 none))) (
 none))) (
 none)) (
 tif (((0:Int)<=(wrap .i64 (Int.tdiv i (8:Int))))&&(((wrap .i64 (Int.tdiv i (8:Int)))<16)&&((wrap .i64 (Int.tdiv i (8:Int)))<(x.length:Int)))) (
 a0a ((x)[(Int.toNat (wrap .i64 (Int.tdiv i (8:Int))))]?) fun r7 =>
 tif ((Int.tmod i (8:Int))<0) (
 none) (
 a0a (n0g n r0.1 (0,(wrap .u64 (andI .i64 (shrI .i64 r7 (Int.tmod i (8:Int))) (1:Int))))) fun r8 =>
 a0a (k0i n r8.1 d_) fun r9 =>
 tif (!r9) (
 a0a (e1b n r8.1 d_) fun r10 =>
 tif (((0:Int)<=(wrap .i64 (Int.tdiv i (8:Int))))&&(((wrap .i64 (Int.tdiv i (8:Int)))<16)&&((wrap .i64 (Int.tdiv i (8:Int)))<(out.length:Int)))) (
 a0a ((out)[(Int.toNat (wrap .i64 (Int.tdiv i (8:Int))))]?) fun r11 =>
 tif ((Int.tmod i (8:Int))<0) (
 none) (
 tif (((0:Int)<=(wrap .i64 (Int.tdiv i (8:Int))))&&(((wrap .i64 (Int.tdiv i (8:Int)))<16)&&((wrap .i64 (Int.tdiv i (8:Int)))<(out.length:Int)))) (
 a0a ((out)[(Int.toNat (wrap .i64 (Int.tdiv i (8:Int))))]?) fun r12 =>
 f0u n f (d_,(s4,(s5,((List.set out (Int.toNat (wrap .i64 (Int.tdiv i (8:Int)))) (orI .i64 r11 (shlI .i64 (1:Int) (Int.tmod i (8:Int))))),(r10.1,(x,((wrap .i64 (i-1)),())))))))) (
 none))) (
 none)) (
 f0u n f (d_,(s4,(s5,(out,(r8.1,(x,((wrap .i64 (i-1)),())))))))))) (
 none))) (
 some (.inl (s4,(s5,(out,(left,())))))):=by kernel_rfl
end Go.Proofs.YteopnkdnglpbfaaGreatDoor
