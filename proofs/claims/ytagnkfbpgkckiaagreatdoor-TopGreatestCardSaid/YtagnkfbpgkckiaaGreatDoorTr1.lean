/- Trees, printed by program. -/
import Derived.Test.YtagnkfbpgkckiaaGreatDoorTr0
import Derived.KernelRfl
set_option linter.unusedVariables false
namespace Go.Proofs.YtagnkfbpgkckiaaGreatDoor
open Go.Flat
theorem w0p (n:Nat) (s:b0a) (ms:(List (Int×(List UInt8×List UInt8)))) (tier:Int) (from_:Int) (to:Int) (n_:Int):s0c (n+1) s ms tier from_ to n_ =
 a0b (s0b n ) fun r0 =>
 tif ((!r0)) (
 some false) (
 a0b (y0f n s) fun r1 =>
 tif ((decide (r1=0))) (
 some true) (
 a0b (y0h n ms) fun r2 =>
 tif ((decide (r2=0))) (
 some true) (
 a0b (i0n n s) fun r3 =>
 tif ((!(decide (r3=0)))) (
 some true) (
 tif ((decide (n_<0))) (
 some true) (
 tif ((decide ((1000:Int)<n_))) (
 some true) (
 a0b (v0j n s ms tier from_ to) fun r4 =>
 a0b (w0n n s ms tier from_ to n_) fun r5 =>
 a0b (w0n n s ms tier from_ to (IntKind.wrap .i64 (n_+1))) fun r6 =>
 tif ((!(decide (r4.2=r5.2)))) (
 some false) (
 tif ((!(decide (r4.2=r6.2)))) (
 some false) (
 tif ((!(decide (r4.2=0)))) (
 tif ((decide ((((List.length r4.1):Nat):Int)=0))) (
 tif ((decide ((((List.length r5.1):Nat):Int)=0))) (
 some (decide ((((List.length r6.1):Nat):Int)=0))) (
 some false)) (
 some false)) (
 tif ((!(decide ((((List.length r5.1):Nat):Int)=(if (((List.length r4.1):Nat):Int)<n_ then (((List.length r4.1):Nat):Int) else n_))))) (
 some false) (
 tif ((!(decide ((((List.length r6.1):Nat):Int)=(if (((List.length r4.1):Nat):Int)<(IntKind.wrap .i64 (n_+1)) then (((List.length r4.1):Nat):Int) else (IntKind.wrap .i64 (n_+1))))))) (
 some false) (
 a0b (e0a n a0c (tier,(from_,(to,(s,(r4.1,(r5.1,(r6.1,((0,0),(r5.1,((((List.length r5.1):Nat):Int),(0,())))))))))))) fun r7 =>
 c0d (fun y8 =>
 a0b (d0z n a0c (y8.2.1,(y8.2.2.1,(0,(y8.1,((((List.length y8.1):Nat):Int),(0,()))))))) fun r9 =>
 c0d (fun y10 =>
 tif ((decide ((((List.length y10.1):Nat):Int)=0))) (
 some true) (
 some (decide (y10.2.1<(((List.length y10.1):Nat):Int))))) (fun z11 =>
 some z11) r9) (fun z12 =>
 some z12) r7))))))))))):=by kernel_rfl
theorem j0f (n f:Nat) (tier:Int) (from_:Int) (to:Int) (s_:b0a) (all:(List r0s)) (l:(List (List (List UInt8×List UInt8)))) (m:(List (List (List UInt8×List UInt8)))) (last:(Int×Int)) (s120:(List (List (List UInt8×List UInt8)))) (s121:Int) (s122:Int):e0a n (f+1) (tier,from_,to,s_,all,l,m,last,s120,s121,s122,()) =
 tif ((decide (s122<s121))) (
 a0b (at? s120 s122) fun r0 =>
 a0b (x0p n s_ (r0,(tier,(from_,to)))) fun r1 =>
 tif ((!(decide (r1.2=0)))) (
 some (.inr false)) (
 tif ((decide (r1.1.2.1.1=0))) (
 some (.inr false)) (
 a0b (at? m s122) fun r2 =>
 a0b (l0u n r0 r2) fun r3 =>
 tif ((!r3)) (
 some (.inr false)) (
 tif ((decide ((0:Int)<s122))) (
 a0b (h0w n last r1.1.2.1.2.2.2.1) fun r4 =>
 tif (r4) (
 some (.inr false)) (
 e0a n f (tier,(from_,(to,(s_,(all,(l,(m,(r1.1.2.1.2.2.2.1,(s120,(s121,((IntKind.wrap .i64 (s122+1)),()))))))))))))) (
 e0a n f (tier,(from_,(to,(s_,(all,(l,(m,(r1.1.2.1.2.2.2.1,(s120,(s121,((IntKind.wrap .i64 (s122+1)),())))))))))))))))) (
 some (.inl (all,(l,(last,()))))):=by kernel_rfl
theorem j0e (n f:Nat) (l:(List (List (List UInt8×List UInt8)))) (last:(Int×Int)) (more:Int) (s169:(List r0s)) (s170:Int) (s171:Int):d0z n (f+1) (l,last,more,s169,s170,s171,()) =
 tif ((decide (s171<s170))) (
 a0b (at? s169 s171) fun r0 =>
 a0b (h0w n last r0.2.1.2.2.2.1) fun r1 =>
 tif (r1) (
 d0z n f (l,(last,((IntKind.wrap .i64 (more+1)),(s169,(s170,((IntKind.wrap .i64 (s171+1)),()))))))) (
 d0z n f (l,(last,(more,(s169,(s170,((IntKind.wrap .i64 (s171+1)),())))))))) (
 some (.inl (l,(more,())))):=by kernel_rfl
theorem d1d (n:Nat)  : s0b (n+1)  =
 a0b (g2d n ) fun r0 =>
 a0b (d2r n r0) fun r1 =>
 tif ((!(decide (r1.2=0)))) (
 some false) (
 a0b (o1i n r1.1 ((((97:UInt8)::[]),[])::[]) (2,(1,(0,false)))) fun r2 =>
 a0b (e1y n r2.1) fun r3 =>
 a0b (k1l n r2.1 [] (1:Int) (0:Int) (10:Int)) fun r4 =>
 tif ((decide (r2.2=0))) (
 tif ((decide ((((List.length r3.1):Nat):Int)=25))) (
 tif ((decide (r3.2=0))) (
 tif ((decide (r4.1.2.1=1))) (
 tif ((decide (r4.1.2.2.1=1))) (
 some (decide (r4.2=0))) (
 some false)) (
 some false)) (
 some false)) (
 some false)) (
 some false)):=by kernel_rfl
theorem r1d (n:Nat) (s:b0a):y0f (n+1) s =
 tif ((decide ((8:Int)<(((List.length s.2.2.2):Nat):Int)))) (
 some (0:Int)) (
 a0b (k0q n a0c (s.2.2.2,((((List.length s.2.2.2):Nat):Int),(0,())))) fun r0 =>
 c0d (fun y1 =>
 some (1:Int)) (fun z2 =>
 some z2) r0):=by kernel_rfl
theorem t0b (n f:Nat) (s10:(List d0s)) (s11:Int) (s12:Int):k0q n (f+1) (s10,s11,s12,()) =
 tif ((decide (s12<s11))) (
 a0b (at? s10 s12) fun r0 =>
 a0b (y0g n r0) fun r1 =>
 tif ((decide (r1=0))) (
 some (.inr (0:Int))) (
 k0q n f (s10,(s11,((IntKind.wrap .i64 (s12+1)),()))))) (
 some (.inl ())):=by kernel_rfl
theorem r1g (n:Nat) (l:(List (Int×(List UInt8×List UInt8)))):y0h (n+1) l =
 a0b (k0r n a0c (l,((((List.length l):Nat):Int),(0,())))) fun r0 =>
 c0d (fun y1 =>
 some (1:Int)) (fun z2 =>
 some z2) r0:=by kernel_rfl
theorem t0c (n f:Nat) (s5:(List (Int×(List UInt8×List UInt8)))) (s6:Int) (s7:Int):k0r n (f+1) (s5,s6,s7,()) =
 tif ((decide (s7<s6))) (
 a0b (at? s5 s7) fun r0 =>
 tif ((decide (s7=40))) (
 some (.inr (0:Int))) (
 tif ((decide ((1000:Int)<(((List.length r0.2.1):Nat):Int)))) (
 some (.inr (0:Int))) (
 tif ((decide ((1000:Int)<(((List.length r0.2.2):Nat):Int)))) (
 some (.inr (0:Int))) (
 k0r n f (s5,(s6,((IntKind.wrap .i64 (s7+1)),()))))))) (
 some (.inl ())):=by kernel_rfl
theorem p1i (n:Nat) (s:b0a):i0n (n+1) s =
 a0b (w0v n s) fun r0 =>
 tif ((!(decide (r0.2=0)))) (
 some (2:Int)) (
 a0b (o0f n r0.1) fun r1 =>
 tif ((!r1)) (
 some (2:Int)) (
 a0b (f0v n r0.1 (fun y2=>f0o n y2.1 r0.1)) fun r3 =>
 tif ((decide ((0:Int)≤r3))) (
 some (2:Int)) (
 some (0:Int)))):=by kernel_rfl
theorem g1d (n:Nat) (s:b0a) (ms:(List (Int×(List UInt8×List UInt8)))) (tier:Int) (from_:Int) (to:Int):v0j (n+1) s ms tier from_ to =
 a0b (m0c n s ms tier from_ to) fun r0 =>
 a0b (k0c n a0c (r0.2.2,([],(r0.1,((((List.length r0.1):Nat):Int),(0,())))))) fun r1 =>
 c0d (fun y2 =>
 some (y2.2.1,y2.1)) (fun z3 =>
 some z3) r1:=by kernel_rfl
theorem o0u (n f:Nat) (why:Int) (out:(List r0s)) (s28:(List a0a)) (s29:Int) (s30:Int):k0c n (f+1) (why,out,s28,s29,s30,()) =
 tif ((decide (s30<s29))) (
 a0b (at? s28 s30) fun r0 =>
 a0b ((s28)[(Int.toNat s30)]?) fun r1 =>
 tif ((decide ((((List.length out)+1)*160)≤140737488355328))) (
 k0c n f (why,((out++(r1.2::[])),(s28,(s29,((IntKind.wrap .i64 (s30+1)),())))))) (
 none)) (
 some (.inl (why,(out,())))):=by kernel_rfl
theorem o1v (n:Nat) (s:b0a) (ms:(List (Int×(List UInt8×List UInt8)))) (tier:Int) (from_:Int) (to:Int) (n_:Int):w0n (n+1) s ms tier from_ to n_ =
 a0b (m0c n s ms tier from_ to) fun r0 =>
 tif ((!(decide (r0.2.2=0)))) (
 some ([],r0.2.2)) (
 tif ((decide (n_<0))) (
 some ([],1)) (
 a0b (g0a n r0.1 (fun y1=>y0x n y1.1 y1.2.1)) fun r2 =>
 tif (((decide ((0:Int)≤(if (((List.length r2):Nat):Int)<n_ then (((List.length r2):Nat):Int) else n_)))&&(decide ((if (((List.length r2):Nat):Int)<n_ then (((List.length r2):Nat):Int) else n_)≤(((List.length r2):Nat):Int))))) (
 a0b (n0l n a0c ([],((List.take ((Int.toNat (if (((List.length r2):Nat):Int)<n_ then (((List.length r2):Nat):Int) else n_))-0) r2),(((((Int.toNat (if (((List.length r2):Nat):Int)<n_ then (((List.length r2):Nat):Int) else n_))-0):Nat):Int),(0,()))))) fun r3 =>
 c0d (fun y4 =>
 some (y4.1,0)) (fun z5 =>
 some z5) r3) (
 none))):=by kernel_rfl
theorem s0a (n f:Nat) (out:(List (List (List UInt8×List UInt8)))) (s44:(List a0a)) (s45:Int) (s46:Int):n0l n (f+1) (out,s44,s45,s46,()) =
 tif ((decide (s46<s45))) (
 a0b (at? s44 s46) fun r0 =>
 a0b ((s44)[(Int.toNat s46)]?) fun r1 =>
 tif ((decide ((((List.length out)+1)*24)≤140737488355328))) (
 n0l n f ((out++(r1.1::[])),(s44,(s45,((IntKind.wrap .i64 (s46+1)),()))))) (
 none)) (
 some (.inl (out,()))):=by kernel_rfl
theorem u1n (n:Nat) (s:b0a) (a:TAsk):x0p (n+1) s a =
 a0b (d1z n s a.1) fun r0 =>
 tif ((!(decide (r0=0)))) (
 some ((0,((0,((0,(0,(0,false))),((0,(0,(0,false))),((0,0),(0,(0,0)))))),(((0,0),(0,0)),0))),r0)) (
 a0b (t0x n s a.2.1 a.2.2.1 a.2.2.2) fun r1 =>
 tif ((!(decide (r1.2=0)))) (
 some ((0,((0,((0,(0,(0,false))),((0,(0,(0,false))),((0,0),(0,(0,0)))))),(((0,0),(0,0)),0))),r1.2)) (
 a0b (l1r n s a (IntKind.wrap .i64 (r1.1-1))) fun r2 =>
 tif ((!(decide (r2.2=0)))) (
 some ((0,((0,((0,(0,(0,false))),((0,(0,(0,false))),((0,0),(0,(0,0)))))),(((0,0),(0,0)),0))),r2.2)) (
 a0b (z0p n r2.1) fun r3 =>
 some ((r1.1,(r2.1,r3)),0)))):=by kernel_rfl
theorem y0e (n:Nat) (a:(List (List UInt8×List UInt8))) (b:(List (List UInt8×List UInt8))):l0u (n+1) a b =
 a0b (o0k n a b) fun r0 =>
 some r0:=by kernel_rfl
theorem o1k (n:Nat) (a:(Int×Int)) (b:(Int×Int)):h0w (n+1) a b =
 tif ((decide (a.1<b.1))) (
 some true) (
 tif ((decide (a.1=b.1))) (
 some (decide (a.2<b.2))) (
 some false)):=by kernel_rfl
theorem r1p (n:Nat) (s:b0a):e1y (n+1) s =
 a0b (w0b n s) fun r0 =>
 a0b (n0w n a0c (s,(r0.2,((r0.1::[]),(0,()))))) fun r1 =>
 c0d (fun y2 =>
 tif ((!(decide (y2.1=0)))) (
 some ([],y2.1)) (
 some (y2.2.1,0))) (fun z3 =>
 some z3) r1:=by kernel_rfl
theorem m0u (n f:Nat) (s_:b0a) (why:Int) (out:(List (List UInt8))) (i:Int):n0w n (f+1) (s_,why,out,i,()) =
 tif ((decide (why=0))) (
 tif ((decide (i<(((List.length s_.2.2.2):Nat):Int)))) (
 a0b (at? s_.2.2.2 i) fun r0 =>
 a0b (w0c n s_.1 r0) fun r1 =>
 tif ((decide ((((List.length out)+(List.length r1.1))*16)≤140737488355328))) (
 n0w n f (s_,(r1.2,((out++r1.1),((IntKind.wrap .i64 (i+1)),()))))) (
 none)) (
 some (.inl (why,(out,()))))) (
 some (.inl (why,(out,())))):=by kernel_rfl
theorem r1h (n:Nat) (l:(List (List UInt8×List UInt8))):y0i (n+1) l =
 a0b (k0s n a0c (l,((((List.length l):Nat):Int),(0,())))) fun r0 =>
 c0d (fun y1 =>
 some (1:Int)) (fun z2 =>
 some z2) r0:=by kernel_rfl
theorem t0d (n f:Nat) (s5:(List (List UInt8×List UInt8))) (s6:Int) (s7:Int):k0s n (f+1) (s5,s6,s7,()) =
 tif ((decide (s7<s6))) (
 a0b (at? s5 s7) fun r0 =>
 tif ((decide (s7=40))) (
 some (.inr (0:Int))) (
 tif ((decide ((1000:Int)<(((List.length r0.1):Nat):Int)))) (
 some (.inr (0:Int))) (
 tif ((decide ((1000:Int)<(((List.length r0.2):Nat):Int)))) (
 some (.inr (0:Int))) (
 k0s n f (s5,(s6,((IntKind.wrap .i64 (s7+1)),()))))))) (
 some (.inl ())):=by kernel_rfl
theorem t1g (n:Nat) (s:b0a) (ms:(List (Int×(List UInt8×List UInt8)))) (tier:Int) (from_:Int) (to:Int):k1l (n+1) s ms tier from_ to =
 a0b (m0c n s ms tier from_ to) fun r0 =>
 tif ((!(decide (r0.2.2=0)))) (
 some ((0,(0,(0,((0,0),(0,(0,0)))))),r0.2.2)) (
 a0b (m0d n a0c ((0,(0,(0,((0,0),(0,(0,0)))))),(r0.2.1,((r0.2.1,(0,(0,((0,0),(0,(0,0)))))),(r0.1,((((List.length r0.1):Nat):Int),(0,()))))))) fun r1 =>
 c0d (fun y2 =>
 some (y2.2.1,0)) (fun z3 =>
 some z3) r1):=by kernel_rfl
theorem u0o (n f:Nat) (s10:o0c) (k:Int) (sum:o0c) (s34:(List a0a)) (s35:Int) (s36:Int):m0d n (f+1) (s10,k,sum,s34,s35,s36,()) =
 tif ((decide (s36<s35))) (
 a0b (at? s34 s36) fun r0 =>
 a0b ((s34)[(Int.toNat s36)]?) fun r1 =>
 a0b (o1u n k r1.2.2.1) fun r2 =>
 a0b (w0o n sum r2) fun r3 =>
 tif ((!(decide (r3.2=0)))) (
 some (.inr ((0,(0,(0,((0,0),(0,(0,0)))))),r3.2))) (
 m0d n f (s10,(k,(r3.1,(s34,(s35,((IntKind.wrap .i64 (s36+1)),())))))))) (
 some (.inl (s10,(sum,())))):=by kernel_rfl
theorem r1e (n:Nat) (s:d0s):y0g (n+1) s =
 a0b (y0i n s.1) fun r0 =>
 tif ((decide (r0=0))) (
 some (0:Int)) (
 tif ((decide ((60:Int)<(((List.length s.2.2.1.2.2):Nat):Int)))) (
 some (0:Int)) (
 a0b (e1w n s.2.2.2.1) fun r1 =>
 some r1)):=by kernel_rfl
theorem t1n (n:Nat) (s:b0a):w0v (n+1) s =
 a0b (f0z n s.1) fun r0 =>
 tif ((!(decide (r0=0)))) (
 some (((0,((0,(0,0)),((0,(0,0)),(0,0)))),(0,(0,[]))),2)) (
 tif ((!(decide ((((List.length s.2.2.2):Nat):Int)=s.1.2.2.2.1)))) (
 some (((0,((0,(0,0)),((0,(0,0)),(0,0)))),(0,(0,[]))),2)) (
 some (s,0))):=by kernel_rfl
theorem z0f (n:Nat) (v:b0a):o0f (n+1) v =
 a0b (c1j n v.2.1) fun r0 =>
 tif (r0) (
 tif ((decide (v.2.2.1=((-1):Int)))) (
 some (decide (v.2.2.1≤v.2.1))) (
 a0b (c1j n v.2.2.1) fun r1 =>
 tif (r1) (
 some (decide (v.2.2.1≤v.2.1))) (
 some false))) (
 some false):=by kernel_rfl
theorem z0d (n:Nat) (v:b0a) (is:((Int×Unit)→Option Bool)):f0v (n+1) v is =
 a0b (c0y n a0c (is,((((List.length v.2.2.2):Nat):Int),(0,())))) fun r0 =>
 c0d (fun y1 =>
 some ((-1):Int)) (fun z2 =>
 some z2) r0:=by kernel_rfl
theorem l0f (n f:Nat) (is:((Int×Unit)→Option Bool)) (s9:Int) (s10:Int):c0y n (f+1) (is,s9,s10,()) =
 tif ((decide (s10<s9))) (
 a0b (is (s10,())) fun r0 =>
 tif (r0) (
 some (.inr s10)) (
 c0y n f (is,(s9,((IntKind.wrap .i64 (s10+1)),()))))) (
 some (.inl ())):=by kernel_rfl
theorem g1e (n:Nat) (i:Int) (p1:b0a):f0o (n+1) i p1 =
 a0b (o0e n p1 i) fun r0 =>
 some (!r0):=by kernel_rfl
theorem z0c (n:Nat) (v:b0a) (i:Int):o0e (n+1) v i =
 a0b (at? v.2.2.2 i) fun r0 =>
 a0b (w0w n r0) fun r1 =>
 tif (r1) (
 some true) (
 a0b (n0o n v.1 r0) fun r2 =>
 tif ((decide (r2=0))) (
 tif ((decide ((0:Int)≤r0.2.1))) (
 a0b (q0b n v) fun r3 =>
 tif ((decide (r0.2.1<(IntKind.wrap .i64 (r3+v.1.2.1.1))))) (
 a0b (q0a n v i) fun r4 =>
 some (!r4)) (
 some false)) (
 some false)) (
 some false)):=by kernel_rfl
theorem g1c (n:Nat) (s:b0a) (ms:(List (Int×(List UInt8×List UInt8)))) (tier:Int) (from_:Int) (to:Int):m0c (n+1) s ms tier from_ to =
 a0b (i0n n s) fun r0 =>
 tif ((!(decide (r0=0)))) (
 some ([],(0,2))) (
 a0b (v0t n ms) fun r1 =>
 tif ((!(decide (r1=0)))) (
 some ([],(0,2))) (
 a0b (t0x n s tier from_ to) fun r2 =>
 tif ((!(decide (r2.2=0)))) (
 some ([],(0,r2.2))) (
 a0b (k1t n s) fun r3 =>
 a0b (f0u n a0c (ms,(from_,(to,(s,(r2.1,([],(r3,((((List.length r3):Nat):Int),(0,())))))))))) fun r4 =>
 c0d (fun y5 =>
 some (y5.2.1,(y5.1,0))) (fun z6 =>
 some z6) r4))):=by kernel_rfl
theorem o0t (n f:Nat) (ms:(List (Int×(List UInt8×List UInt8)))) (from_:Int) (to:Int) (s_:b0a) (k:Int) (out:(List a0a)) (s41:(List Int)) (s42:Int) (s43:Int):f0u n (f+1) (ms,from_,to,s_,k,out,s41,s42,s43,()) =
 tif ((decide (s43<s42))) (
 a0b (at? s41 s43) fun r0 =>
 a0b ((s41)[(Int.toNat s43)]?) fun r1 =>
 a0b (at? s_.2.2.2 r1) fun r2 =>
 a0b (e1r n ms r2.1) fun r3 =>
 tif ((!r3)) (
 f0u n f (ms,(from_,(to,(s_,(k,(out,(s41,(s42,((IntKind.wrap .i64 (s43+1)),())))))))))) (
 a0b (x0p n s_ (r2.1,(k,(from_,to)))) fun r4 =>
 tif ((!(decide (r4.2=0)))) (
 some (.inr ([],(0,r4.2)))) (
 tif ((decide ((0:Int)<r4.1.2.1.1))) (
 tif ((decide ((((List.length out)+1)*184)≤140737488355328))) (
 f0u n f (ms,(from_,(to,(s_,(k,((out++((r2.1,r4.1)::[])),(s41,(s42,((IntKind.wrap .i64 (s43+1)),())))))))))) (
 none)) (
 f0u n f (ms,(from_,(to,(s_,(k,(out,(s41,(s42,((IntKind.wrap .i64 (s43+1)),()))))))))))))) (
 some (.inl (k,(out,())))):=by kernel_rfl
theorem o0i (n:Nat) (x:(List a0a)) (cmp:((a0a×(a0a×Unit))→Option Int)):g0a (n+1) x cmp =
 a0b (g0j n x (((List.length x):Nat):Int) cmp) fun r0 =>
 some r0:=by kernel_rfl
theorem k1j (n:Nat) (a:a0a) (b:a0a):y0x (n+1) a b =
 a0b (g0f n b.2.2.1.2.2.2.1.1 a.2.2.1.2.2.2.1.1) fun r0 =>
 a0b (g0f n b.2.2.1.2.2.2.1.2 a.2.2.1.2.2.2.1.2) fun r1 =>
 a0b (a1i n (r0::(r1::[]))) fun r2 =>
 some r2:=by kernel_rfl
theorem p1z (n:Nat) (s:b0a) (l:(List (List UInt8×List UInt8))):d1z (n+1) s l =
 a0b (i0n n s) fun r0 =>
 tif ((!(decide (r0=0)))) (
 some r0) (
 a0b (j0t n l) fun r1 =>
 some r1):=by kernel_rfl
theorem l1u (n:Nat) (s:b0a) (tier:Int) (from_:Int) (to:Int):t0x (n+1) s tier from_ to =
 a0b (i0n n s) fun r0 =>
 tif ((!(decide (r0=0)))) (
 some (0,r0)) (
 tif ((decide (tier<0))) (
 some (0,1)) (
 tif ((decide ((3:Int)<tier))) (
 some (0,1)) (
 tif ((decide (tier=0))) (
 a0b (m0p n s from_ to) fun r1 =>
 some r1) (
 a0b (x0o n s tier from_ to) fun r2 =>
 tif ((!(decide (r2=0)))) (
 some (0,r2)) (
 some (tier,0)))))):=by kernel_rfl
theorem u1m (n:Nat) (s:b0a) (a:TAsk) (k:Int):l1r (n+1) s a k =
 a0b (k1v n s a.1) fun r0 =>
 tif ((!(decide (r0.2=0)))) (
 some ((0,((0,(0,(0,false))),((0,(0,(0,false))),((0,0),(0,(0,0)))))),0)) (
 tif ((decide (k=0))) (
 a0b (i0m n a.2.2.1 a.2.2.2 s.1.2.1.1) fun r1 =>
 tif ((!(decide (r1.2.2=0)))) (
 some ((0,((0,(0,(0,false))),((0,(0,(0,false))),((0,0),(0,(0,0)))))),r1.2.2)) (
 a0b (at? s.2.2.2 r0.1) fun r2 =>
 a0b (e0r n s.1 r2 k r1.1 r1.2.1) fun r3 =>
 some r3)) (
 tif ((decide (k=1))) (
 a0b (i0m n a.2.2.1 a.2.2.2 s.1.2.1.2.1) fun r4 =>
 tif ((!(decide (r4.2.2=0)))) (
 some ((0,((0,(0,(0,false))),((0,(0,(0,false))),((0,0),(0,(0,0)))))),r4.2.2)) (
 a0b (at? s.2.2.2 r0.1) fun r5 =>
 a0b (e0r n s.1 r5 k r4.1 r4.2.1) fun r6 =>
 some r6)) (
 tif ((decide (k=2))) (
 a0b (i0m n a.2.2.1 a.2.2.2 s.1.2.1.2.2) fun r7 =>
 tif ((!(decide (r7.2.2=0)))) (
 some ((0,((0,(0,(0,false))),((0,(0,(0,false))),((0,0),(0,(0,0)))))),r7.2.2)) (
 a0b (at? s.2.2.2 r0.1) fun r8 =>
 a0b (e0r n s.1 r8 k r7.1 r7.2.1) fun r9 =>
 some r9)) (
 none)))):=by kernel_rfl
theorem l1v (n:Nat) (c:d0q):z0p (n+1) c =
 tif ((decide (c.2.2.2.2.2.2<1))) (
 some (((0,0),(0,0)),12)) (
 a0b (z0m n c.2.2.2.1 (IntKind.wrap .u64 c.2.2.2.2.2.2)) fun r0 =>
 some r0):=by kernel_rfl
theorem z0g (n:Nat) (s1:(List (List UInt8×List UInt8))) (s2:(List (List UInt8×List UInt8))):o0k (n+1) s1 s2 =
 tif ((!(decide ((((List.length s1):Nat):Int)=(((List.length s2):Nat):Int))))) (
 some false) (
 a0b (g0u n a0c (s1,(s2,((((List.length s1):Nat):Int),(0,()))))) fun r0 =>
 c0d (fun y1 =>
 some true) (fun z2 =>
 some z2) r0):=by kernel_rfl
theorem l0i (n f:Nat) (s1:(List (List UInt8×List UInt8))) (s2:(List (List UInt8×List UInt8))) (s12:Int) (s13:Int):g0u n (f+1) (s1,s2,s12,s13,()) =
 tif ((decide (s13<s12))) (
 a0b (at? s1 s13) fun r0 =>
 a0b (at? s2 s13) fun r1 =>
 tif ((!((r0.1==r1.1)&&(r0.2==r1.2)))) (
 some (.inr false)) (
 g0u n f (s1,(s2,(s12,((IntKind.wrap .i64 (s13+1)),())))))) (
 some (.inl ())):=by kernel_rfl
theorem h1g (n:Nat) (s:b0a):w0b (n+1) s =
 a0b (i0n n s) fun r0 =>
 tif ((!(decide (r0=0)))) (
 some ([],r0)) (
 a0b (a1h n s.1) fun r1 =>
 tif ((decide ((8+(List.length r1))≤9223372036854775807))) (
 a0b (e0l n [] (((112:UInt8)::((108:UInt8)::((105:UInt8)::((109:UInt8)::((115:UInt8)::((111:UInt8)::((108:UInt8)::((108:UInt8)::[]))))))))++r1)) fun r2 =>
 a0b (m0s n r2 (s.2.1::((IntKind.wrap .i64 (s.2.2.1+1))::[]))) fun r3 =>
 a0b (c0t n r3) fun r4 =>
 a0b (g0m n r4.1 (512:Int)) fun r5 =>
 some (r5,0)) (
 none)):=by kernel_rfl
theorem h1h (n:Nat) (c:d0a) (x:d0s):w0c (n+1) c x =
 a0b (f0z n c) fun r0 =>
 tif ((!(decide (r0=0)))) (
 some ([],2)) (
 a0b (w0a n x) fun r1 =>
 tif (r1) (
 a0b (g0m n [] (512:Int)) fun r2 =>
 a0b (a1g n c) fun r3 =>
 a0b (k0x n (r2::[]) r3) fun r4 =>
 some (r4,0)) (
 a0b (n0o n c x) fun r5 =>
 tif ((!(decide (r5=0)))) (
 some ([],2)) (
 a0b (v0z n x) fun r6 =>
 tif ((!(decide (r6.2=0)))) (
 some ([],r6.2)) (
 a0b (v0y n x.2.2.1 c.1) fun r7 =>
 a0b (m0t n (r6.1::[]) r7 (16:Int) (fun y8=>r0d n y8.1)) fun r9 =>
 a0b (f0i n a0c (r9,(x.2.2.2.1,(0,())))) fun r10 =>
 c0d (fun y11 =>
 some (y11.1,0)) (fun z12 =>
 some z12) r10)))):=by kernel_rfl
theorem g0e (n f:Nat) (out:(List (List UInt8))) (s45:((List a0f)×((List a0f)×(List a0f)))) (s46:Int):f0i n (f+1) (out,s45,s46,()) =
 tif ((decide (s46<3))) (
 tif ((decide (s46=0))) (
 a0b (i0b n out s45.1 (4:Int) (fun y0=>j0v n y0.1)) fun r1 =>
 f0i n f (r1,(s45,((IntKind.wrap .i64 (s46+1)),())))) (
 tif ((decide (s46=1))) (
 a0b (i0b n out s45.2.1 (4:Int) (fun y2=>j0v n y2.1)) fun r3 =>
 f0i n f (r3,(s45,((IntKind.wrap .i64 (s46+1)),())))) (
 tif ((decide (s46=2))) (
 a0b (i0b n out s45.2.2 (4:Int) (fun y4=>j0v n y4.1)) fun r5 =>
 f0i n f (r5,(s45,((IntKind.wrap .i64 (s46+1)),())))) (
 none)))) (
 some (.inl (out,()))):=by kernel_rfl
theorem n1v (n:Nat) (c:d0a):a1g (n+1) c =
 a0b (f0z n c) fun r0 =>
 tif ((!(decide (r0=0)))) (
 some (0:Int)) (
 a0b (j0w n c) fun r1 =>
 some r1):=by kernel_rfl
theorem p1h (n:Nat) (s:d0s):w0w (n+1) s =
 a0b (g0k n s ([],(0,((0,(0,[])),(([],([],[])),(0,(0,((0,(0,(0,false))),((0,(0,(0,false))),((0,0),(0,(0,0)))))))))))) fun r0 =>
 some r0:=by kernel_rfl
theorem d1s (n:Nat) (c:d0a) (s:d0s):n0o (n+1) c s =
 a0b (q0m n c s) fun r0 =>
 oelim (r0.1) (
 some r0.2) fun r1 =>
 some r0.2:=by kernel_rfl
theorem b1u (n:Nat) (v:b0a):q0b (n+1) v =
 tif ((decide (v.1.2.1.1=0))) (
 none) (
 some (IntKind.wrap .i64 (v.2.1-(Int.tmod v.2.1 v.1.2.1.1)))):=by kernel_rfl
theorem b1t (n:Nat) (v:b0a) (i:Int):q0a (n+1) v i =
 a0b (f0v n v (fun y0=>g0i n y0.1 i v)) fun r1 =>
 tif ((decide (r1<i))) (
 a0b (f0w n v i) fun r2 =>
 some r2) (
 some false):=by kernel_rfl
theorem g1p (n:Nat) (l:(List (Int×(List UInt8×List UInt8)))):v0t (n+1) l =
 tif ((decide ((16:Int)<(((List.length l):Nat):Int)))) (
 some (2:Int)) (
 a0b (d0r n l (fun y0=>q0x n y0.1)) fun r1 =>
 tif (r1) (
 some (2:Int)) (
 some (0:Int))):=by kernel_rfl
theorem t1o (n:Nat) (s:b0a):k1t (n+1) s =
 a0b (w0v n s) fun r0 =>
 tif ((!(decide (r0.2=0)))) (
 some []) (
 a0b (j0m n a0c (r0.1,([],((((List.length r0.1.2.2.2):Nat):Int),(0,()))))) fun r1 =>
 c0d (fun y2 =>
 some y2.1) (fun z3 =>
 some z3) r1):=by kernel_rfl
theorem u0p (n f:Nat) (v:b0a) (out:(List Int)) (s17:Int) (s18:Int):j0m n (f+1) (v,out,s17,s18,()) =
 tif ((decide (s18<s17))) (
 a0b (f0w n v s18) fun r0 =>
 tif (r0) (
 tif ((decide ((((List.length out)+1)*8)≤140737488355328))) (
 j0m n f (v,((out++(s18::[])),(s17,((IntKind.wrap .i64 (s18+1)),()))))) (
 none)) (
 j0m n f (v,(out,(s17,((IntKind.wrap .i64 (s18+1)),())))))) (
 some (.inl (out,()))):=by kernel_rfl
theorem q1x (n:Nat) (ms:(List (Int×(List UInt8×List UInt8)))) (l:(List (List UInt8×List UInt8))):e1r (n+1) ms l =
 a0b (d0r n ms (fun y0=>v0u n y0.1 l)) fun r1 =>
 some (!r1):=by kernel_rfl
theorem k0k (n:Nat) (data:(List a0a)) (n_:Int) (cmp:((a0a×(a0a×Unit))→Option Int)):g0j (n+1) data n_ cmp =
 a0b (b0s n a0c (data,(n_,(cmp,(20,(0,(20,()))))))) fun r0 =>
 c0d (fun y1 =>
 a0b (b0w n y1.1 y1.2.2.2.2.1 y1.2.1 y1.2.2.1) fun r2 =>
 a0b (b0j n a0c (r2,(y1.2.1,(y1.2.2.1,(y1.2.2.2.1,()))))) fun r3 =>
 c0d (fun y4 =>
 some y4.1) (fun z5 =>
 some z5) r3) (fun z6 =>
 some z6) r0:=by kernel_rfl
theorem e0p (n f:Nat) (data:(List a0a)) (n_:Int) (cmp:((a0a×(a0a×Unit))→Option Int)) (blockSize:Int) (a:Int) (b:Int):b0s n (f+1) (data,n_,cmp,blockSize,a,b,()) =
 tif ((decide (b≤n_))) (
 a0b (b0w n data a b cmp) fun r0 =>
 b0s n f (r0,(n_,(cmp,(blockSize,(b,((IntKind.wrap .i64 (b+blockSize)),()))))))) (
 some (.inl (data,(n_,(cmp,(blockSize,(a,()))))))):=by kernel_rfl
theorem e0o (n f:Nat) (data:(List a0a)) (n_:Int) (cmp:((a0a×(a0a×Unit))→Option Int)) (blockSize:Int):b0j n (f+1) (data,n_,cmp,blockSize,()) =
 tif ((decide (blockSize<n_))) (
 a0b (c0j n a0c (data,(n_,(cmp,(blockSize,(0,((IntKind.wrap .i64 ((2:Int)*blockSize)),()))))))) fun r0 =>
 c0d (fun y1 =>
 tif ((decide ((IntKind.wrap .i64 (y1.2.2.2.2.1+y1.2.2.2.1))<y1.2.1))) (
 a0b (a0d n y1.1 y1.2.2.2.2.1 (IntKind.wrap .i64 (y1.2.2.2.2.1+y1.2.2.2.1)) y1.2.1 y1.2.2.1) fun r2 =>
 b0j n f (r2,(y1.2.1,(y1.2.2.1,((IntKind.wrap .i64 (y1.2.2.2.1*2)),()))))) (
 b0j n f (y1.1,(y1.2.1,(y1.2.2.1,((IntKind.wrap .i64 (y1.2.2.2.1*2)),())))))) (fun z3 =>
 some (.inr z3)) r0) (
 some (.inl (data,()))):=by kernel_rfl
theorem e0n (n f:Nat) (data:(List a0a)) (n_:Int) (cmp:((a0a×(a0a×Unit))→Option Int)) (blockSize:Int) (a:Int) (b:Int):c0j n (f+1) (data,n_,cmp,blockSize,a,b,()) =
 tif ((decide (b≤n_))) (
 a0b (a0d n data a (IntKind.wrap .i64 (a+blockSize)) b cmp) fun r0 =>
 c0j n f (r0,(n_,(cmp,(blockSize,(b,((IntKind.wrap .i64 (b+(IntKind.wrap .i64 ((2:Int)*blockSize)))),()))))))) (
 some (.inl (data,(n_,(cmp,(blockSize,(a,()))))))):=by kernel_rfl
theorem n1x (n:Nat) (vals:(List Int)):a1i (n+1) vals =
 a0b (i0z n a0c (0,(vals,((((List.length vals):Nat):Int),(0,()))))) fun r0 =>
 c0d (fun y1 =>
 some y1.1) (fun z2 =>
 some z2) r0:=by kernel_rfl
theorem l0a (n f:Nat) (zero:Int) (s6:(List Int)) (s7:Int) (s8:Int):i0z n (f+1) (zero,s6,s7,s8,()) =
 tif ((decide (s8<s7))) (
 a0b (at? s6 s8) fun r0 =>
 tif ((!(decide (r0=zero)))) (
 some (.inr r0)) (
 i0z n f (zero,(s6,(s7,((IntKind.wrap .i64 (s8+1)),())))))) (
 some (.inl (zero,()))):=by kernel_rfl
theorem t0j (n:Nat) (x:Int) (y:Int):g0f (n+1) x y =
 a0b (k0z n x) fun r0 =>
 a0b (k0z n y) fun r1 =>
 tif (r0) (
 tif (r1) (
 some (0:Int)) (
 some ((-1):Int))) (
 tif (r1) (
 some (1:Int)) (
 tif ((decide (x<y))) (
 some ((-1):Int)) (
 tif ((decide (y<x))) (
 some (1:Int)) (
 some (0:Int))))):=by kernel_rfl
theorem g1v (n:Nat) (l:(List (List UInt8×List UInt8))):j0t (n+1) l =
 tif ((decide ((((List.length l):Nat):Int)=0))) (
 some (8:Int)) (
 tif ((decide ((16:Int)<(((List.length l):Nat):Int)))) (
 some (8:Int)) (
 a0b (f0y n a0c (l,(256,(l,((((List.length l):Nat):Int),(0,())))))) fun r0 =>
 c0d (fun y1 =>
 some (0:Int)) (fun z2 =>
 some z2) r0)):=by kernel_rfl
theorem p0i (n f:Nat) (l:(List (List UInt8×List UInt8))) (left:Int) (s14:(List (List UInt8×List UInt8))) (s15:Int) (s16:Int):f0y n (f+1) (l,left,s14,s15,s16,()) =
 tif ((decide (s16<s15))) (
 a0b (at? s14 s16) fun r0 =>
 a0b (a1a n r0.1) fun r1 =>
 tif ((!r1)) (
 some (.inr (8:Int))) (
 tif ((decide ((128:Int)<(((List.length r0.2):Nat):Int)))) (
 some (.inr (8:Int))) (
 tif ((decide ((IntKind.wrap .i64 (left-(IntKind.wrap .i64 ((((List.length r0.1):Nat):Int)+(((List.length r0.2):Nat):Int)))))<0))) (
 some (.inr (8:Int))) (
 tif ((decide ((0:Int)<s16))) (
 a0b (at? l (IntKind.wrap .i64 (s16-1))) fun r2 =>
 tif ((!(Go.Op.bytesLess r2.1 r0.1))) (
 some (.inr (8:Int))) (
 f0y n f (l,((IntKind.wrap .i64 (left-(IntKind.wrap .i64 ((((List.length r0.1):Nat):Int)+(((List.length r0.2):Nat):Int))))),(s14,(s15,((IntKind.wrap .i64 (s16+1)),()))))))) (
 f0y n f (l,((IntKind.wrap .i64 (left-(IntKind.wrap .i64 ((((List.length r0.1):Nat):Int)+(((List.length r0.2):Nat):Int))))),(s14,(s15,((IntKind.wrap .i64 (s16+1)),())))))))))) (
 some (.inl ())):=by kernel_rfl
theorem x0m (n:Nat) (s:b0a) (from_:Int) (to:Int):m0p (n+1) s from_ to =
 a0b (d0i n a0c (from_,(to,(s,(10,(1,())))))) fun r0 =>
 c0d (fun y1 =>
 some (0,y1.1)) (fun z2 =>
 some z2) r0:=by kernel_rfl
theorem k0n (n f:Nat) (from_:Int) (to:Int) (s_:b0a) (why:Int) (tier:Int):d0i n (f+1) (from_,to,s_,why,tier,()) =
 tif ((decide (tier≤3))) (
 a0b (x0o n s_ tier from_ to) fun r0 =>
 tif ((decide (r0=0))) (
 some (.inr (tier,0))) (
 tif ((decide (r0=10))) (
 d0i n f (from_,(to,(s_,(why,((IntKind.wrap .i64 (tier+1)),())))))) (
 tif ((decide (r0=11))) (
 d0i n f (from_,(to,(s_,(r0,((IntKind.wrap .i64 (tier+1)),())))))) (
 some (.inr (0,r0)))))) (
 some (.inl (why,()))):=by kernel_rfl
theorem p1x (n:Nat) (s:b0a) (tier:Int) (from_:Int) (to:Int):x0o (n+1) s tier from_ to =
 tif ((decide ((IntKind.wrap .i64 (tier-1))=0))) (
 a0b (i0m n from_ to s.1.2.1.1) fun r0 =>
 tif ((!(decide (r0.2.2=0)))) (
 some r0.2.2) (
 a0b (y0p n s (IntKind.wrap .i64 (tier-1))) fun r1 =>
 tif ((decide (r1.2.2=0))) (
 tif ((decide (r0.1<r1.1))) (
 some (11:Int)) (
 some r1.2.2)) (
 some r1.2.2))) (
 tif ((decide ((IntKind.wrap .i64 (tier-1))=1))) (
 a0b (i0m n from_ to s.1.2.1.2.1) fun r2 =>
 tif ((!(decide (r2.2.2=0)))) (
 some r2.2.2) (
 a0b (y0p n s (IntKind.wrap .i64 (tier-1))) fun r3 =>
 tif ((decide (r3.2.2=0))) (
 tif ((decide (r2.1<r3.1))) (
 some (11:Int)) (
 some r3.2.2)) (
 some r3.2.2))) (
 tif ((decide ((IntKind.wrap .i64 (tier-1))=2))) (
 a0b (i0m n from_ to s.1.2.1.2.2) fun r4 =>
 tif ((!(decide (r4.2.2=0)))) (
 some r4.2.2) (
 a0b (y0p n s (IntKind.wrap .i64 (tier-1))) fun r5 =>
 tif ((decide (r5.2.2=0))) (
 tif ((decide (r4.1<r5.1))) (
 some (11:Int)) (
 some r5.2.2)) (
 some r5.2.2))) (
 none))):=by kernel_rfl
theorem t1p (n:Nat) (s:b0a) (l:(List (List UInt8×List UInt8))):k1v (n+1) s l =
 a0b (w0v n s) fun r0 =>
 tif ((!(decide (r0.2=0)))) (
 some (0,r0.2)) (
 a0b (f0v n r0.1 (fun y1=>g0t n y1.1 s l r0.1)) fun r2 =>
 tif ((decide (r2<0))) (
 some (0,3)) (
 some (r2,0))):=by kernel_rfl
theorem m0l (n:Nat) (c:d0a) (s:d0s) (k:Int) (i:Int) (j:Int):e0r (n+1) c s k i j =
 a0b (q0m n c s) fun r0 =>
 oelim (r0.1) (
 tif ((!(decide (r0.2=0)))) (
 some ((0,((0,(0,(0,false))),((0,(0,(0,false))),((0,0),(0,(0,0)))))),r0.2)) (
 tif ((decide (k<0))) (
 some ((0,((0,(0,(0,false))),((0,(0,(0,false))),((0,0),(0,(0,0)))))),1)) (
 tif ((decide ((3:Int)≤k))) (
 some ((0,((0,(0,(0,false))),((0,(0,(0,false))),((0,0),(0,(0,0)))))),1)) (
 tif ((decide (i<0))) (
 some ((0,((0,(0,(0,false))),((0,(0,(0,false))),((0,0),(0,(0,0)))))),1)) (
 tif ((decide (j<i))) (
 some ((0,((0,(0,(0,false))),((0,(0,(0,false))),((0,0),(0,(0,0)))))),1)) (
 none)))))) fun r1 =>
 tif ((!(decide (r0.2=0)))) (
 some ((0,((0,(0,(0,false))),((0,(0,(0,false))),((0,0),(0,(0,0)))))),r0.2)) (
 tif ((decide (k<0))) (
 some ((0,((0,(0,(0,false))),((0,(0,(0,false))),((0,0),(0,(0,0)))))),1)) (
 tif ((decide ((3:Int)≤k))) (
 some ((0,((0,(0,(0,false))),((0,(0,(0,false))),((0,0),(0,(0,0)))))),1)) (
 tif ((decide (i<0))) (
 some ((0,((0,(0,(0,false))),((0,(0,(0,false))),((0,0),(0,(0,0)))))),1)) (
 tif ((decide (j<i))) (
 some ((0,((0,(0,(0,false))),((0,(0,(0,false))),((0,0),(0,(0,0)))))),1)) (
 a0b (q0d n r1 k i j) fun r2 =>
 some r2))))):=by kernel_rfl
theorem l1q (n:Nat) (inc:(Int×Int)) (ms:Int):z0m (n+1) inc ms =
 tif ((decide (ms=0))) (
 some (((0,0),(0,0)),12)) (
 a0b (t0n n inc (1000:Int)) fun r0 =>
 tif ((!(decide (r0.2=0)))) (
 some (((0,0),(0,0)),r0.2)) (
 a0b (v0g n ms) fun r1 =>
 a0b (s0r n r0.1 r1) fun r2 =>
 some r2)):=by kernel_rfl
theorem w0g (n:Nat) (w:(List Int)) (s:List UInt8):e0l (n+1) w s =
 tif ((decide ((((List.length w)+(List.length (List.map (fun y1=>(((UInt8.toNat y1):Nat):Int)) s)))*1)≤140737488355328))) (
 some (w++(List.map (fun y0=>(((UInt8.toNat y0):Nat):Int)) s))) (
 none):=by kernel_rfl
theorem n1w (n:Nat) (c:d0a):a1h (n+1) c =
 a0b (f0z n c) fun r0 =>
 tif ((!(decide (r0=0)))) (
 some []) (
 a0b (a0p n [] (4:Int) (IntKind.wrap .u64 c.1)) fun r1 =>
 a0b (a0p n r1 (8:Int) (IntKind.wrap .u64 c.2.1.1)) fun r2 =>
 a0b (a0p n r2 (8:Int) (IntKind.wrap .u64 c.2.1.2.1)) fun r3 =>
 a0b (a0p n r3 (8:Int) (IntKind.wrap .u64 c.2.1.2.2)) fun r4 =>
 a0b (a0p n r4 (4:Int) (IntKind.wrap .u64 c.2.2.1.1)) fun r6 =>
 a0b (a0p n r6 (4:Int) (IntKind.wrap .u64 c.2.2.1.2.1)) fun r8 =>
 a0b (a0p n r8 (4:Int) (IntKind.wrap .u64 c.2.2.1.2.2)) fun r10 =>
 a0b (a0p n r10 (4:Int) (IntKind.wrap .u64 c.2.2.2.1)) fun r12 =>
 a0b (a0p n r12 (4:Int) (IntKind.wrap .u64 c.2.2.2.2)) fun r14 =>
 a0b (a0p n r14 (8:Int) (0:Int)) fun r15 =>
 a0b (c0t n r15) fun r16 =>
 some r16.1):=by kernel_rfl
theorem r1o (n:Nat) (w:(List Int)) (l:(List Int)):m0s (n+1) w l =
 a0b (n0v n a0c (w,(l,((((List.length l):Nat):Int),(0,()))))) fun r0 =>
 c0d (fun y1 =>
 some y1.1) (fun z2 =>
 some z2) r0:=by kernel_rfl
theorem t0e (n f:Nat) (w:(List Int)) (s6:(List Int)) (s7:Int) (s8:Int):n0v n (f+1) (w,s6,s7,s8,()) =
 tif ((decide (s8<s7))) (
 a0b (at? s6 s8) fun r0 =>
 a0b (a0p n w (8:Int) (IntKind.wrap .u64 r0)) fun r1 =>
 n0v n f (r1,(s6,(s7,((IntKind.wrap .i64 (s8+1)),()))))) (
 some (.inl (w,()))):=by kernel_rfl
theorem r1n (n:Nat) (s:List UInt8) (n_:Int):g0m (n+1) s n_ =
 a0b (strings_Repeat n ((0:UInt8)::[]) (if (IntKind.wrap .i64 (n_-(((List.length s):Nat):Int)))<0 then (0:Int) else (IntKind.wrap .i64 (n_-(((List.length s):Nat):Int))))) fun r0 =>
 tif ((decide (((List.length s)+(List.length r0))≤9223372036854775807))) (
 some (s++r0)) (
 none):=by kernel_rfl
theorem m0y (n:Nat) (w:(List Int)):c0t (n+1) w =
 some ((List.map (fun y0=>(UInt8.ofNat (Int.toNat y0))) w),w):=by kernel_rfl
theorem h1e (n:Nat) (x:d0s):w0a (n+1) x =
 a0b (g0k n x ([],(0,((0,(0,[])),(([],([],[])),(0,(0,((0,(0,(0,false))),((0,(0,(0,false))),((0,0),(0,(0,0)))))))))))) fun r0 =>
 some r0:=by kernel_rfl
theorem v0l (n:Nat) (x:(List (List UInt8))) (count:Int):k0x (n+1) x count =
 tif ((decide (count<0))) (
 none) (
 a0b (q0w n (IntKind.wrap .u64 (((List.length x):Nat):Int)) (IntKind.wrap .u64 count)) fun r0 =>
 tif ((decide ((0:Int)<r0.1))) (
 none) (
 tif ((decide ((9223372036854775807:Int)<r0.2))) (
 none) (
 tif (((decide ((0:Int)≤(IntKind.wrap .i64 r0.2)))&&((decide ((IntKind.wrap .i64 r0.2)≤(IntKind.wrap .i64 r0.2)))&&(decide (((IntKind.wrap .i64 r0.2)*16)≤140737488355328))))) (
 a0b (f0q n a0c ((Go.Flat.putRow (List.replicate (Int.toNat (IntKind.wrap .i64 r0.2)) ([]:List UInt8)) 0 (List.take (List.length (List.replicate (Int.toNat (IntKind.wrap .i64 r0.2)) ([]:List UInt8))) x)),((((List.length (List.take (List.length (List.replicate (Int.toNat (IntKind.wrap .i64 r0.2)) ([]:List UInt8))) x)):Nat):Int),()))) fun r1 =>
 c0d (fun y2 =>
 some y2.1) (fun z3 =>
 some z3) r1) (
 none)))):=by kernel_rfl
theorem j0g (n f:Nat) (newslice:(List (List UInt8))) (n_:Int):f0q n (f+1) (newslice,n_,()) =
 tif ((decide (n_<(((List.length newslice):Nat):Int)))) (
 tif ((decide ((0:Int)≤n_))) (
 tif ((decide ((Int.toNat n_)≤(List.length newslice)))) (
 tif (((decide ((0:Int)≤n_))&&(decide (n_≤(((List.length newslice):Nat):Int))))) (
 tif ((decide (((Int.toNat n_)+((List.length newslice)-(Int.toNat n_)))≤(List.length newslice)))) (
 f0q n f ((Go.Flat.putRow newslice (Int.toNat n_) (List.take ((List.length newslice)-(Int.toNat n_)) (List.take ((Int.toNat n_)-0) (List.drop 0 newslice)))),((IntKind.wrap .i64 (n_+(((List.length (List.take ((List.length newslice)-(Int.toNat n_)) (List.take ((Int.toNat n_)-0) (List.drop 0 newslice)))):Nat):Int))),()))) (
 none)) (
 none)) (
 none)) (
 none)) (
 some (.inl (newslice,()))):=by kernel_rfl
theorem g1z (n:Nat) (x:d0s):v0z (n+1) x =
 a0b (v0x n x.1) fun r0 =>
 a0b (a0p n [] (2:Int) (IntKind.wrap .u64 (((List.length r0.1):Nat):Int))) fun r1 =>
 a0b (g0m n r0.1 (320:Int)) fun r2 =>
 a0b (e0l n r1 r2) fun r3 =>
 a0b (m0s n r3 (x.2.1::(x.2.2.1.1::(x.2.2.1.2.1::[])))) fun r4 =>
 a0b (a0p n r4 (2:Int) (IntKind.wrap .u64 (((List.length x.2.2.1.2.2):Nat):Int))) fun r5 =>
 a0b (j0v n x.2.2.2.2) fun r6 =>
 a0b (e0l n r5 r6) fun r7 =>
 a0b (c0t n r7) fun r8 =>
 a0b (g0m n r8.1 (512:Int)) fun r9 =>
 some (r9,r0.2):=by kernel_rfl
theorem y0k (n:Nat) (out:(List (List UInt8))) (l:(List a0v)) (each:Int) (bytes:((a0v×Unit)→Option (List UInt8))):m0t (n+1) out l each bytes =
 a0b (o0m n l each) fun r0 =>
 a0b (e0t n r0 (out,(bytes,()))) fun r1 =>
 some r1.1:=by kernel_rfl
theorem r0v (n:Nat) (x:((List (List UInt8))×(((a0v×Unit)→Option (List UInt8))×Unit))):e0t n [] x=some x:=by kernel_rfl
theorem r0c (n:Nat) (y:((List a0v)×Unit)) (r:List ((List a0v)×Unit)) (out_:(List (List UInt8))) (bytes_:((a0v×Unit)→Option (List UInt8))):e0t n (y::r) (out_,bytes_,()) =
 a0b (a0b (g0d n a0c (out_,(bytes_,([],(y.1,((((List.length y.1):Nat):Int),(0,()))))))) fun r0 =>
 c0d (fun y1 =>
 a0b (c0l n y1.2.2.1) fun r2 =>
 a0b (g0m n r2.1 (512:Int)) fun r3 =>
 tif ((decide ((((List.length y1.1)+1)*16)≤140737488355328))) (
 some ((y1.1++(r3::[])),(y1.2.1,()))) (
 none)) (fun z4 =>
 none) r0) fun r5 =>
 e0t n r r5:=by kernel_rfl
theorem k0t (n f:Nat) (out_:(List (List UInt8))) (bytes_:((a0v×Unit)→Option (List UInt8))) (b:List UInt8) (s17:(List a0v)) (s18:Int) (s19:Int):g0d n (f+1) (out_,bytes_,b,s17,s18,s19,()) =
 tif ((decide (s19<s18))) (
 a0b (at? s17 s19) fun r0 =>
 a0b (bytes_ (r0,())) fun r1 =>
 a0b (b0d n b r1) fun r2 =>
 g0d n f (out_,(bytes_,(r2.2.2,(s17,(s18,((IntKind.wrap .i64 (s19+1)),()))))))) (
 some (.inl (out_,(bytes_,(b,()))))):=by kernel_rfl
theorem g1y (n:Nat) (r:(Int×(Int×(List a0v)))) (room:Int):v0y (n+1) r room =
 tif (((decide ((0:Int)≤room))&&((decide (room≤room))&&(decide ((room*32)≤140737488355328))))) (
 a0b (k0e n a0c (room,(r,((List.replicate (Int.toNat room) (0,(0,(0,false)))),(r.2.2,((((List.length r.2.2):Nat):Int),(0,()))))))) fun r0 =>
 c0d (fun y1 =>
 some y1.1) (fun z2 =>
 some z2) r0) (
 none):=by kernel_rfl
theorem p0l (n f:Nat) (room:Int) (r_:(Int×(Int×(List a0v)))) (out:(List a0v)) (s11:(List a0v)) (s12:Int) (s13:Int):k0e n (f+1) (room,r_,out,s11,s12,s13,()) =
 tif ((decide (s13<s12))) (
 a0b (at? s11 s13) fun r0 =>
 tif ((decide (room=0))) (
 none) (
 a0b (at? out (Int.tmod (IntKind.wrap .i64 (r_.1+s13)) room)) fun r1 =>
 a0b ((out)[(Int.toNat (Int.tmod (IntKind.wrap .i64 (r_.1+s13)) room))]?) fun r2 =>
 k0e n f (room,(r_,((List.set out (Int.toNat (Int.tmod (IntKind.wrap .i64 (r_.1+s13)) room)) r0),(s11,(s12,((IntKind.wrap .i64 (s13+1)),())))))))) (
 some (.inl (out,()))):=by kernel_rfl
theorem h1j (n:Nat) (e:a0v):r0d (n+1) e =
 a0b (m0r n [] e) fun r0 =>
 a0b (c0t n r0) fun r1 =>
 a0b (g0m n r1.1 (32:Int)) fun r2 =>
 some r2:=by kernel_rfl
theorem a1b (n:Nat) (out:(List (List UInt8))) (l:(List a0f)) (each:Int) (bytes:((a0f×Unit)→Option (List UInt8))):i0b (n+1) out l each bytes =
 a0b (q0k n l each) fun r0 =>
 a0b (f0h n r0 (out,(bytes,()))) fun r1 =>
 some r1.1:=by kernel_rfl
theorem t0f (n:Nat) (x:((List (List UInt8))×(((a0f×Unit)→Option (List UInt8))×Unit))):f0h n [] x=some x:=by kernel_rfl
theorem r0u (n:Nat) (y:((List a0f)×Unit)) (r:List ((List a0f)×Unit)) (out_:(List (List UInt8))) (bytes_:((a0f×Unit)→Option (List UInt8))):f0h n (y::r) (out_,bytes_,()) =
 a0b (a0b (g0z n a0c (out_,(bytes_,([],(y.1,((((List.length y.1):Nat):Int),(0,()))))))) fun r0 =>
 c0d (fun y1 =>
 a0b (c0l n y1.2.2.1) fun r2 =>
 a0b (g0m n r2.1 (512:Int)) fun r3 =>
 tif ((decide ((((List.length y1.1)+1)*16)≤140737488355328))) (
 some ((y1.1++(r3::[])),(y1.2.1,()))) (
 none)) (fun z4 =>
 none) r0) fun r5 =>
 f0h n r r5:=by kernel_rfl
theorem l0l (n f:Nat) (out_:(List (List UInt8))) (bytes_:((a0f×Unit)→Option (List UInt8))) (b:List UInt8) (s17:(List a0f)) (s18:Int) (s19:Int):g0z n (f+1) (out_,bytes_,b,s17,s18,s19,()) =
 tif ((decide (s19<s18))) (
 a0b (at? s17 s19) fun r0 =>
 a0b (bytes_ (r0,())) fun r1 =>
 a0b (b0d n b r1) fun r2 =>
 g0z n f (out_,(bytes_,(r2.2.2,(s17,(s18,((IntKind.wrap .i64 (s19+1)),()))))))) (
 some (.inl (out_,(bytes_,(b,()))))):=by kernel_rfl
theorem m1t (n:Nat) (s:a0f):j0v (n+1) s =
 a0b (m0s n [] (s.1::(s.2.1::[]))) fun r0 =>
 a0b (m0r n r0 s.2.2.1) fun r1 =>
 a0b (m0r n r1 s.2.2.2.1) fun r2 =>
 a0b (m0s n r2 ((IntKind.wrap .i64 s.2.2.2.2.1.1)::((IntKind.wrap .i64 s.2.2.2.2.1.2)::(s.2.2.2.2.2.1::(s.2.2.2.2.2.2.1::(s.2.2.2.2.2.2.2::[])))))) fun r3 =>
 a0b (c0t n r3) fun r4 =>
 a0b (g0m n r4.1 (128:Int)) fun r5 =>
 some r5:=by kernel_rfl
theorem n1t (n:Nat) (c:d0a):j0w (n+1) c =
 a0b (l0x n c.1 (16:Int)) fun r0 =>
 a0b (l0x n c.2.2.1.1 (4:Int)) fun r1 =>
 a0b (l0x n c.2.2.1.2.1 (4:Int)) fun r2 =>
 a0b (l0x n c.2.2.1.2.2 (4:Int)) fun r3 =>
 some (IntKind.wrap .i64 ((IntKind.wrap .i64 ((IntKind.wrap .i64 ((IntKind.wrap .i64 ((1:Int)+r0))+r1))+r2))+r3)):=by kernel_rfl
theorem u1g (n:Nat) (a:(Int×(Int×(List a0v)))) (b:(Int×(Int×(List a0v)))):w1y (n+1) a b =
 tif ((decide (a.1=b.1))) (
 tif ((decide (a.2.1=b.2.1))) (
 a0b (o0l n a.2.2 b.2.2) fun r0 =>
 some r0) (
 some false)) (
 some false):=by kernel_rfl
theorem b1v (n:Nat) (s1:(List a0f)) (s2:(List a0f)):i0s (n+1) s1 s2 =
 tif ((!(decide ((((List.length s1):Nat):Int)=(((List.length s2):Nat):Int))))) (
 some false) (
 a0b (i0d n a0c (s1,(s2,((((List.length s1):Nat):Int),(0,()))))) fun r0 =>
 c0d (fun y1 =>
 some true) (fun z2 =>
 some z2) r0):=by kernel_rfl
theorem m0j (n f:Nat) (s1:(List a0f)) (s2:(List a0f)) (s12:Int) (s13:Int):i0d n (f+1) (s1,s2,s12,s13,()) =
 tif ((decide (s13<s12))) (
 a0b (at? s1 s13) fun r0 =>
 a0b (at? s2 s13) fun r1 =>
 tif ((!((decide (r0.1=r1.1))&&((decide (r0.2.1=r1.2.1))&&((decide (r0.2.2.1.1=r1.2.2.1.1))&&((decide (r0.2.2.1.2.1=r1.2.2.1.2.1))&&((decide (r0.2.2.1.2.2.1=r1.2.2.1.2.2.1))&&((r0.2.2.1.2.2.2==r1.2.2.1.2.2.2)&&((decide (r0.2.2.2.1.1=r1.2.2.2.1.1))&&((decide (r0.2.2.2.1.2.1=r1.2.2.2.1.2.1))&&((decide (r0.2.2.2.1.2.2.1=r1.2.2.2.1.2.2.1))&&((r0.2.2.2.1.2.2.2==r1.2.2.2.1.2.2.2)&&((decide (r0.2.2.2.2.1.1=r1.2.2.2.2.1.1))&&((decide (r0.2.2.2.2.1.2=r1.2.2.2.2.1.2))&&((decide (r0.2.2.2.2.2.1=r1.2.2.2.2.2.1))&&((decide (r0.2.2.2.2.2.2.1=r1.2.2.2.2.2.2.1))&&(decide (r0.2.2.2.2.2.2.2=r1.2.2.2.2.2.2.2)))))))))))))))))) (
 some (.inr false)) (
 i0d n f (s1,(s2,(s12,((IntKind.wrap .i64 (s13+1)),())))))) (
 some (.inl ())):=by kernel_rfl
theorem o1o (n:Nat) (now:Int) (w:Int) (n_:Int):f0t (n+1) now w n_ =
 a0b (y1y n now w) fun r0 =>
 tif ((!(decide (r0.2=0)))) (
 some (0,1)) (
 a0b (o1n n n_ (1:Int) (4096:Int)) fun r1 =>
 tif ((!r1)) (
 some (0,1)) (
 some ((if (0:Int)<(IntKind.wrap .i64 ((IntKind.wrap .i64 (r0.1+1))-n_)) then (IntKind.wrap .i64 ((IntKind.wrap .i64 (r0.1+1))-n_)) else (0:Int)),0))):=by kernel_rfl
theorem g1q (n:Nat) (m:(Int×(List UInt8×List UInt8))) (p1:(List (List UInt8×List UInt8))):v0u (n+1) m p1 =
 a0b (z0x n m p1) fun r0 =>
 some (!r0):=by kernel_rfl
theorem m1k (n:Nat) (m:(Int×(List UInt8×List UInt8))) (l:(List (List UInt8×List UInt8))):z0x (n+1) m l =
 a0b (v0w n l m.2.1) fun r0 =>
 tif ((decide (m.1=1))) (
 some (r0==m.2.2)) (
 tif ((decide (m.1=2))) (
 some (!(r0==m.2.2))) (
 tif ((decide (m.1=3))) (
 a0b (strings_HasPrefix n r0 m.2.2) fun r1 =>
 some r1) (
 some false))):=by kernel_rfl
theorem h0q (n:Nat) (data:(List a0a)) (a:Int) (b:Int) (cmp:((a0a×(a0a×Unit))→Option Int)):b0w (n+1) data a b cmp =
 a0b (b0o n a0c (data,(a,(b,(cmp,((IntKind.wrap .i64 (a+1)),())))))) fun r0 =>
 c0d (fun y1 =>
 some y1.1) (fun z2 =>
 some z2) r0:=by kernel_rfl
theorem d0c (n f:Nat) (data:(List a0a)) (a:Int) (b:Int) (cmp:((a0a×(a0a×Unit))→Option Int)) (i:Int):b0o n (f+1) (data,a,b,cmp,i,()) =
 tif ((decide (i<b))) (
 a0b (b0n n a0c (data,(a,(b,(cmp,(i,(i,()))))))) fun r0 =>
 c0d (fun y1 =>
 b0o n f (y1.1,(y1.2.1,(y1.2.2.1,(y1.2.2.2.1,((IntKind.wrap .i64 (y1.2.2.2.2.1+1)),())))))) (fun z2 =>
 some (.inr z2)) r0) (
 some (.inl (data,()))):=by kernel_rfl
theorem d0b (n f:Nat) (data:(List a0a)) (a:Int) (b:Int) (cmp:((a0a×(a0a×Unit))→Option Int)) (i:Int) (j:Int):b0n n (f+1) (data,a,b,cmp,i,j,()) =
 tif ((decide (a<j))) (
 a0b (at? data j) fun r0 =>
 a0b ((data)[(Int.toNat j)]?) fun r1 =>
 a0b (at? data (IntKind.wrap .i64 (j-1))) fun r2 =>
 a0b ((data)[(Int.toNat (IntKind.wrap .i64 (j-1)))]?) fun r3 =>
 a0b (cmp (r1,(r3,()))) fun r4 =>
 tif ((decide (r4<0))) (
 a0b (at? data (IntKind.wrap .i64 (j-1))) fun r5 =>
 a0b ((data)[(Int.toNat (IntKind.wrap .i64 (j-1)))]?) fun r6 =>
 a0b (at? data j) fun r7 =>
 a0b ((data)[(Int.toNat j)]?) fun r8 =>
 a0b (at? data j) fun r9 =>
 a0b ((data)[(Int.toNat j)]?) fun r10 =>
 a0b (at? (List.set data (Int.toNat j) r6) (IntKind.wrap .i64 (j-1))) fun r11 =>
 a0b (((List.set data (Int.toNat j) r6))[(Int.toNat (IntKind.wrap .i64 (j-1)))]?) fun r12 =>
 b0n n f ((List.set (List.set data (Int.toNat j) r6) (Int.toNat (IntKind.wrap .i64 (j-1))) r8),(a,(b,(cmp,(i,((IntKind.wrap .i64 (j-1)),()))))))) (
 some (.inl (data,(a,(b,(cmp,(i,())))))))) (
 some (.inl (data,(a,(b,(cmp,(i,()))))))):=by kernel_rfl
theorem j0d (n:Nat) (data:(List a0a)) (a:Int) (m:Int) (b:Int) (cmp:((a0a×(a0a×Unit))→Option Int)):a0d (n+1) data a m b cmp =
 tif ((decide ((IntKind.wrap .i64 (m-a))=1))) (
 a0b (b0m n a0c (data,(a,(cmp,(m,(b,())))))) fun r0 =>
 c0d (fun y1 =>
 a0b (c0e n a0c (y1.1,(y1.2.2.1,(y1.2.1,())))) fun r2 =>
 c0d (fun y3 =>
 some y3.1) (fun z4 =>
 some z4) r2) (fun z5 =>
 some z5) r0) (
 tif ((decide ((IntKind.wrap .i64 (b-m))=1))) (
 a0b (b0k n a0c (data,(m,(cmp,(a,(m,())))))) fun r6 =>
 c0d (fun y7 =>
 a0b (b0y n a0c (y7.1,(y7.2.2.1,(y7.2.1,())))) fun r8 =>
 c0d (fun y9 =>
 some y9.1) (fun z10 =>
 some z10) r8) (fun z11 =>
 some z11) r6) (
 tif ((decide ((IntKind.wrap .i64 (shrI .u64 (IntKind.wrap .u64 (IntKind.wrap .i64 (a+b))) (1:Int)))<m))) (
 a0b (b0f n a0c (data,(a,(m,(b,(cmp,((IntKind.wrap .i64 (shrI .u64 (IntKind.wrap .u64 (IntKind.wrap .i64 (a+b))) (1:Int))),((IntKind.wrap .i64 ((IntKind.wrap .i64 (shrI .u64 (IntKind.wrap .u64 (IntKind.wrap .i64 (a+b))) (1:Int)))+m)),((IntKind.wrap .i64 ((IntKind.wrap .i64 ((IntKind.wrap .i64 (shrI .u64 (IntKind.wrap .u64 (IntKind.wrap .i64 (a+b))) (1:Int)))+m))-b)),((IntKind.wrap .i64 (shrI .u64 (IntKind.wrap .u64 (IntKind.wrap .i64 (a+b))) (1:Int))),((IntKind.wrap .i64 ((IntKind.wrap .i64 ((IntKind.wrap .i64 (shrI .u64 (IntKind.wrap .u64 (IntKind.wrap .i64 (a+b))) (1:Int)))+m))-1)),()))))))))))) fun r12 =>
 c0d (fun y13 =>
 tif ((decide (y13.2.2.2.2.2.2.2.1<y13.2.2.1))) (
 tif ((decide (y13.2.2.1<(IntKind.wrap .i64 (y13.2.2.2.2.2.2.1-y13.2.2.2.2.2.2.2.1))))) (
 a0b (c0h n y13.1 y13.2.2.2.2.2.2.2.1 y13.2.2.1 (IntKind.wrap .i64 (y13.2.2.2.2.2.2.1-y13.2.2.2.2.2.2.2.1)) y13.2.2.2.2.1) fun r14 =>
 tif ((decide (y13.2.1<y13.2.2.2.2.2.2.2.1))) (
 tif ((decide (y13.2.2.2.2.2.2.2.1<y13.2.2.2.2.2.1))) (
 a0b (a0d n r14 y13.2.1 y13.2.2.2.2.2.2.2.1 y13.2.2.2.2.2.1 y13.2.2.2.2.1) fun r15 =>
 tif ((decide (y13.2.2.2.2.2.1<(IntKind.wrap .i64 (y13.2.2.2.2.2.2.1-y13.2.2.2.2.2.2.2.1))))) (
 tif ((decide ((IntKind.wrap .i64 (y13.2.2.2.2.2.2.1-y13.2.2.2.2.2.2.2.1))<y13.2.2.2.1))) (
 a0b (a0d n r15 y13.2.2.2.2.2.1 (IntKind.wrap .i64 (y13.2.2.2.2.2.2.1-y13.2.2.2.2.2.2.2.1)) y13.2.2.2.1 y13.2.2.2.2.1) fun r16 =>
 some r16) (
 some r15)) (
 some r15)) (
 tif ((decide (y13.2.2.2.2.2.1<(IntKind.wrap .i64 (y13.2.2.2.2.2.2.1-y13.2.2.2.2.2.2.2.1))))) (
 tif ((decide ((IntKind.wrap .i64 (y13.2.2.2.2.2.2.1-y13.2.2.2.2.2.2.2.1))<y13.2.2.2.1))) (
 a0b (a0d n r14 y13.2.2.2.2.2.1 (IntKind.wrap .i64 (y13.2.2.2.2.2.2.1-y13.2.2.2.2.2.2.2.1)) y13.2.2.2.1 y13.2.2.2.2.1) fun r17 =>
 some r17) (
 some r14)) (
 some r14))) (
 tif ((decide (y13.2.2.2.2.2.1<(IntKind.wrap .i64 (y13.2.2.2.2.2.2.1-y13.2.2.2.2.2.2.2.1))))) (
 tif ((decide ((IntKind.wrap .i64 (y13.2.2.2.2.2.2.1-y13.2.2.2.2.2.2.2.1))<y13.2.2.2.1))) (
 a0b (a0d n r14 y13.2.2.2.2.2.1 (IntKind.wrap .i64 (y13.2.2.2.2.2.2.1-y13.2.2.2.2.2.2.2.1)) y13.2.2.2.1 y13.2.2.2.2.1) fun r18 =>
 some r18) (
 some r14)) (
 some r14))) (
 tif ((decide (y13.2.1<y13.2.2.2.2.2.2.2.1))) (
 tif ((decide (y13.2.2.2.2.2.2.2.1<y13.2.2.2.2.2.1))) (
 a0b (a0d n y13.1 y13.2.1 y13.2.2.2.2.2.2.2.1 y13.2.2.2.2.2.1 y13.2.2.2.2.1) fun r19 =>
 tif ((decide (y13.2.2.2.2.2.1<(IntKind.wrap .i64 (y13.2.2.2.2.2.2.1-y13.2.2.2.2.2.2.2.1))))) (
 tif ((decide ((IntKind.wrap .i64 (y13.2.2.2.2.2.2.1-y13.2.2.2.2.2.2.2.1))<y13.2.2.2.1))) (
 a0b (a0d n r19 y13.2.2.2.2.2.1 (IntKind.wrap .i64 (y13.2.2.2.2.2.2.1-y13.2.2.2.2.2.2.2.1)) y13.2.2.2.1 y13.2.2.2.2.1) fun r20 =>
 some r20) (
 some r19)) (
 some r19)) (
 tif ((decide (y13.2.2.2.2.2.1<(IntKind.wrap .i64 (y13.2.2.2.2.2.2.1-y13.2.2.2.2.2.2.2.1))))) (
 tif ((decide ((IntKind.wrap .i64 (y13.2.2.2.2.2.2.1-y13.2.2.2.2.2.2.2.1))<y13.2.2.2.1))) (
 a0b (a0d n y13.1 y13.2.2.2.2.2.1 (IntKind.wrap .i64 (y13.2.2.2.2.2.2.1-y13.2.2.2.2.2.2.2.1)) y13.2.2.2.1 y13.2.2.2.2.1) fun r21 =>
 some r21) (
 some y13.1)) (
 some y13.1))) (
 tif ((decide (y13.2.2.2.2.2.1<(IntKind.wrap .i64 (y13.2.2.2.2.2.2.1-y13.2.2.2.2.2.2.2.1))))) (
 tif ((decide ((IntKind.wrap .i64 (y13.2.2.2.2.2.2.1-y13.2.2.2.2.2.2.2.1))<y13.2.2.2.1))) (
 a0b (a0d n y13.1 y13.2.2.2.2.2.1 (IntKind.wrap .i64 (y13.2.2.2.2.2.2.1-y13.2.2.2.2.2.2.2.1)) y13.2.2.2.1 y13.2.2.2.2.1) fun r22 =>
 some r22) (
 some y13.1)) (
 some y13.1)))) (
 tif ((decide (y13.2.1<y13.2.2.2.2.2.2.2.1))) (
 tif ((decide (y13.2.2.2.2.2.2.2.1<y13.2.2.2.2.2.1))) (
 a0b (a0d n y13.1 y13.2.1 y13.2.2.2.2.2.2.2.1 y13.2.2.2.2.2.1 y13.2.2.2.2.1) fun r23 =>
 tif ((decide (y13.2.2.2.2.2.1<(IntKind.wrap .i64 (y13.2.2.2.2.2.2.1-y13.2.2.2.2.2.2.2.1))))) (
 tif ((decide ((IntKind.wrap .i64 (y13.2.2.2.2.2.2.1-y13.2.2.2.2.2.2.2.1))<y13.2.2.2.1))) (
 a0b (a0d n r23 y13.2.2.2.2.2.1 (IntKind.wrap .i64 (y13.2.2.2.2.2.2.1-y13.2.2.2.2.2.2.2.1)) y13.2.2.2.1 y13.2.2.2.2.1) fun r24 =>
 some r24) (
 some r23)) (
 some r23)) (
 tif ((decide (y13.2.2.2.2.2.1<(IntKind.wrap .i64 (y13.2.2.2.2.2.2.1-y13.2.2.2.2.2.2.2.1))))) (
 tif ((decide ((IntKind.wrap .i64 (y13.2.2.2.2.2.2.1-y13.2.2.2.2.2.2.2.1))<y13.2.2.2.1))) (
 a0b (a0d n y13.1 y13.2.2.2.2.2.1 (IntKind.wrap .i64 (y13.2.2.2.2.2.2.1-y13.2.2.2.2.2.2.2.1)) y13.2.2.2.1 y13.2.2.2.2.1) fun r25 =>
 some r25) (
 some y13.1)) (
 some y13.1))) (
 tif ((decide (y13.2.2.2.2.2.1<(IntKind.wrap .i64 (y13.2.2.2.2.2.2.1-y13.2.2.2.2.2.2.2.1))))) (
 tif ((decide ((IntKind.wrap .i64 (y13.2.2.2.2.2.2.1-y13.2.2.2.2.2.2.2.1))<y13.2.2.2.1))) (
 a0b (a0d n y13.1 y13.2.2.2.2.2.1 (IntKind.wrap .i64 (y13.2.2.2.2.2.2.1-y13.2.2.2.2.2.2.2.1)) y13.2.2.2.1 y13.2.2.2.2.1) fun r26 =>
 some r26) (
 some y13.1)) (
 some y13.1)))) (fun z27 =>
 some z27) r12) (
 a0b (b0f n a0c (data,(a,(m,(b,(cmp,((IntKind.wrap .i64 (shrI .u64 (IntKind.wrap .u64 (IntKind.wrap .i64 (a+b))) (1:Int))),((IntKind.wrap .i64 ((IntKind.wrap .i64 (shrI .u64 (IntKind.wrap .u64 (IntKind.wrap .i64 (a+b))) (1:Int)))+m)),(a,(m,((IntKind.wrap .i64 ((IntKind.wrap .i64 ((IntKind.wrap .i64 (shrI .u64 (IntKind.wrap .u64 (IntKind.wrap .i64 (a+b))) (1:Int)))+m))-1)),()))))))))))) fun r28 =>
 c0d (fun y29 =>
 tif ((decide (y29.2.2.2.2.2.2.2.1<y29.2.2.1))) (
 tif ((decide (y29.2.2.1<(IntKind.wrap .i64 (y29.2.2.2.2.2.2.1-y29.2.2.2.2.2.2.2.1))))) (
 a0b (c0h n y29.1 y29.2.2.2.2.2.2.2.1 y29.2.2.1 (IntKind.wrap .i64 (y29.2.2.2.2.2.2.1-y29.2.2.2.2.2.2.2.1)) y29.2.2.2.2.1) fun r30 =>
 tif ((decide (y29.2.1<y29.2.2.2.2.2.2.2.1))) (
 tif ((decide (y29.2.2.2.2.2.2.2.1<y29.2.2.2.2.2.1))) (
 a0b (a0d n r30 y29.2.1 y29.2.2.2.2.2.2.2.1 y29.2.2.2.2.2.1 y29.2.2.2.2.1) fun r31 =>
 tif ((decide (y29.2.2.2.2.2.1<(IntKind.wrap .i64 (y29.2.2.2.2.2.2.1-y29.2.2.2.2.2.2.2.1))))) (
 tif ((decide ((IntKind.wrap .i64 (y29.2.2.2.2.2.2.1-y29.2.2.2.2.2.2.2.1))<y29.2.2.2.1))) (
 a0b (a0d n r31 y29.2.2.2.2.2.1 (IntKind.wrap .i64 (y29.2.2.2.2.2.2.1-y29.2.2.2.2.2.2.2.1)) y29.2.2.2.1 y29.2.2.2.2.1) fun r32 =>
 some r32) (
 some r31)) (
 some r31)) (
 tif ((decide (y29.2.2.2.2.2.1<(IntKind.wrap .i64 (y29.2.2.2.2.2.2.1-y29.2.2.2.2.2.2.2.1))))) (
 tif ((decide ((IntKind.wrap .i64 (y29.2.2.2.2.2.2.1-y29.2.2.2.2.2.2.2.1))<y29.2.2.2.1))) (
 a0b (a0d n r30 y29.2.2.2.2.2.1 (IntKind.wrap .i64 (y29.2.2.2.2.2.2.1-y29.2.2.2.2.2.2.2.1)) y29.2.2.2.1 y29.2.2.2.2.1) fun r33 =>
 some r33) (
 some r30)) (
 some r30))) (
 tif ((decide (y29.2.2.2.2.2.1<(IntKind.wrap .i64 (y29.2.2.2.2.2.2.1-y29.2.2.2.2.2.2.2.1))))) (
 tif ((decide ((IntKind.wrap .i64 (y29.2.2.2.2.2.2.1-y29.2.2.2.2.2.2.2.1))<y29.2.2.2.1))) (
 a0b (a0d n r30 y29.2.2.2.2.2.1 (IntKind.wrap .i64 (y29.2.2.2.2.2.2.1-y29.2.2.2.2.2.2.2.1)) y29.2.2.2.1 y29.2.2.2.2.1) fun r34 =>
 some r34) (
 some r30)) (
 some r30))) (
 tif ((decide (y29.2.1<y29.2.2.2.2.2.2.2.1))) (
 tif ((decide (y29.2.2.2.2.2.2.2.1<y29.2.2.2.2.2.1))) (
 a0b (a0d n y29.1 y29.2.1 y29.2.2.2.2.2.2.2.1 y29.2.2.2.2.2.1 y29.2.2.2.2.1) fun r35 =>
 tif ((decide (y29.2.2.2.2.2.1<(IntKind.wrap .i64 (y29.2.2.2.2.2.2.1-y29.2.2.2.2.2.2.2.1))))) (
 tif ((decide ((IntKind.wrap .i64 (y29.2.2.2.2.2.2.1-y29.2.2.2.2.2.2.2.1))<y29.2.2.2.1))) (
 a0b (a0d n r35 y29.2.2.2.2.2.1 (IntKind.wrap .i64 (y29.2.2.2.2.2.2.1-y29.2.2.2.2.2.2.2.1)) y29.2.2.2.1 y29.2.2.2.2.1) fun r36 =>
 some r36) (
 some r35)) (
 some r35)) (
 tif ((decide (y29.2.2.2.2.2.1<(IntKind.wrap .i64 (y29.2.2.2.2.2.2.1-y29.2.2.2.2.2.2.2.1))))) (
 tif ((decide ((IntKind.wrap .i64 (y29.2.2.2.2.2.2.1-y29.2.2.2.2.2.2.2.1))<y29.2.2.2.1))) (
 a0b (a0d n y29.1 y29.2.2.2.2.2.1 (IntKind.wrap .i64 (y29.2.2.2.2.2.2.1-y29.2.2.2.2.2.2.2.1)) y29.2.2.2.1 y29.2.2.2.2.1) fun r37 =>
 some r37) (
 some y29.1)) (
 some y29.1))) (
 tif ((decide (y29.2.2.2.2.2.1<(IntKind.wrap .i64 (y29.2.2.2.2.2.2.1-y29.2.2.2.2.2.2.2.1))))) (
 tif ((decide ((IntKind.wrap .i64 (y29.2.2.2.2.2.2.1-y29.2.2.2.2.2.2.2.1))<y29.2.2.2.1))) (
 a0b (a0d n y29.1 y29.2.2.2.2.2.1 (IntKind.wrap .i64 (y29.2.2.2.2.2.2.1-y29.2.2.2.2.2.2.2.1)) y29.2.2.2.1 y29.2.2.2.2.1) fun r38 =>
 some r38) (
 some y29.1)) (
 some y29.1)))) (
 tif ((decide (y29.2.1<y29.2.2.2.2.2.2.2.1))) (
 tif ((decide (y29.2.2.2.2.2.2.2.1<y29.2.2.2.2.2.1))) (
 a0b (a0d n y29.1 y29.2.1 y29.2.2.2.2.2.2.2.1 y29.2.2.2.2.2.1 y29.2.2.2.2.1) fun r39 =>
 tif ((decide (y29.2.2.2.2.2.1<(IntKind.wrap .i64 (y29.2.2.2.2.2.2.1-y29.2.2.2.2.2.2.2.1))))) (
 tif ((decide ((IntKind.wrap .i64 (y29.2.2.2.2.2.2.1-y29.2.2.2.2.2.2.2.1))<y29.2.2.2.1))) (
 a0b (a0d n r39 y29.2.2.2.2.2.1 (IntKind.wrap .i64 (y29.2.2.2.2.2.2.1-y29.2.2.2.2.2.2.2.1)) y29.2.2.2.1 y29.2.2.2.2.1) fun r40 =>
 some r40) (
 some r39)) (
 some r39)) (
 tif ((decide (y29.2.2.2.2.2.1<(IntKind.wrap .i64 (y29.2.2.2.2.2.2.1-y29.2.2.2.2.2.2.2.1))))) (
 tif ((decide ((IntKind.wrap .i64 (y29.2.2.2.2.2.2.1-y29.2.2.2.2.2.2.2.1))<y29.2.2.2.1))) (
 a0b (a0d n y29.1 y29.2.2.2.2.2.1 (IntKind.wrap .i64 (y29.2.2.2.2.2.2.1-y29.2.2.2.2.2.2.2.1)) y29.2.2.2.1 y29.2.2.2.2.1) fun r41 =>
 some r41) (
 some y29.1)) (
 some y29.1))) (
 tif ((decide (y29.2.2.2.2.2.1<(IntKind.wrap .i64 (y29.2.2.2.2.2.2.1-y29.2.2.2.2.2.2.2.1))))) (
 tif ((decide ((IntKind.wrap .i64 (y29.2.2.2.2.2.2.1-y29.2.2.2.2.2.2.2.1))<y29.2.2.2.1))) (
 a0b (a0d n y29.1 y29.2.2.2.2.2.1 (IntKind.wrap .i64 (y29.2.2.2.2.2.2.1-y29.2.2.2.2.2.2.2.1)) y29.2.2.2.1 y29.2.2.2.2.1) fun r42 =>
 some r42) (
 some y29.1)) (
 some y29.1)))) (fun z43 =>
 some z43) r28))):=by kernel_rfl
theorem e0c (n f:Nat) (data:(List a0a)) (a:Int) (cmp:((a0a×(a0a×Unit))→Option Int)) (i:Int) (j:Int):b0m n (f+1) (data,a,cmp,i,j,()) =
 tif ((decide (i<j))) (
 a0b (at? data (IntKind.wrap .i64 (shrI .u64 (IntKind.wrap .u64 (IntKind.wrap .i64 (i+j))) (1:Int)))) fun r0 =>
 a0b ((data)[(Int.toNat (IntKind.wrap .i64 (shrI .u64 (IntKind.wrap .u64 (IntKind.wrap .i64 (i+j))) (1:Int))))]?) fun r1 =>
 a0b (at? data a) fun r2 =>
 a0b ((data)[(Int.toNat a)]?) fun r3 =>
 a0b (cmp (r1,(r3,()))) fun r4 =>
 tif ((decide (r4<0))) (
 b0m n f (data,(a,(cmp,((IntKind.wrap .i64 ((IntKind.wrap .i64 (shrI .u64 (IntKind.wrap .u64 (IntKind.wrap .i64 (i+j))) (1:Int)))+1)),(j,())))))) (
 b0m n f (data,(a,(cmp,(i,((IntKind.wrap .i64 (shrI .u64 (IntKind.wrap .u64 (IntKind.wrap .i64 (i+j))) (1:Int))),()))))))) (
 some (.inl (data,(a,(i,()))))):=by kernel_rfl
theorem e0b (n f:Nat) (data:(List a0a)) (i:Int) (k:Int):c0e n (f+1) (data,i,k,()) =
 tif ((decide (k<(IntKind.wrap .i64 (i-1))))) (
 a0b (at? data (IntKind.wrap .i64 (k+1))) fun r0 =>
 a0b ((data)[(Int.toNat (IntKind.wrap .i64 (k+1)))]?) fun r1 =>
 a0b (at? data k) fun r2 =>
 a0b ((data)[(Int.toNat k)]?) fun r3 =>
 a0b (at? data k) fun r4 =>
 a0b ((data)[(Int.toNat k)]?) fun r5 =>
 a0b (at? (List.set data (Int.toNat k) r1) (IntKind.wrap .i64 (k+1))) fun r6 =>
 a0b (((List.set data (Int.toNat k) r1))[(Int.toNat (IntKind.wrap .i64 (k+1)))]?) fun r7 =>
 c0e n f ((List.set (List.set data (Int.toNat k) r1) (Int.toNat (IntKind.wrap .i64 (k+1))) r3),(i,((IntKind.wrap .i64 (k+1)),())))) (
 some (.inl (data,()))):=by kernel_rfl
theorem d0v (n f:Nat) (data:(List a0a)) (m:Int) (cmp:((a0a×(a0a×Unit))→Option Int)) (i_:Int) (j_:Int):b0k n (f+1) (data,m,cmp,i_,j_,()) =
 tif ((decide (i_<j_))) (
 a0b (at? data m) fun r0 =>
 a0b ((data)[(Int.toNat m)]?) fun r1 =>
 a0b (at? data (IntKind.wrap .i64 (shrI .u64 (IntKind.wrap .u64 (IntKind.wrap .i64 (i_+j_))) (1:Int)))) fun r2 =>
 a0b ((data)[(Int.toNat (IntKind.wrap .i64 (shrI .u64 (IntKind.wrap .u64 (IntKind.wrap .i64 (i_+j_))) (1:Int))))]?) fun r3 =>
 a0b (cmp (r1,(r3,()))) fun r4 =>
 tif ((!(decide (r4<0)))) (
 b0k n f (data,(m,(cmp,((IntKind.wrap .i64 ((IntKind.wrap .i64 (shrI .u64 (IntKind.wrap .u64 (IntKind.wrap .i64 (i_+j_))) (1:Int)))+1)),(j_,())))))) (
 b0k n f (data,(m,(cmp,(i_,((IntKind.wrap .i64 (shrI .u64 (IntKind.wrap .u64 (IntKind.wrap .i64 (i_+j_))) (1:Int))),()))))))) (
 some (.inl (data,(m,(i_,()))))):=by kernel_rfl
theorem d0u (n f:Nat) (data:(List a0a)) (i_:Int) (k_:Int):b0y n (f+1) (data,i_,k_,()) =
 tif ((decide (i_<k_))) (
 a0b (at? data (IntKind.wrap .i64 (k_-1))) fun r0 =>
 a0b ((data)[(Int.toNat (IntKind.wrap .i64 (k_-1)))]?) fun r1 =>
 a0b (at? data k_) fun r2 =>
 a0b ((data)[(Int.toNat k_)]?) fun r3 =>
 a0b (at? data k_) fun r4 =>
 a0b ((data)[(Int.toNat k_)]?) fun r5 =>
 a0b (at? (List.set data (Int.toNat k_) r1) (IntKind.wrap .i64 (k_-1))) fun r6 =>
 a0b (((List.set data (Int.toNat k_) r1))[(Int.toNat (IntKind.wrap .i64 (k_-1)))]?) fun r7 =>
 b0y n f ((List.set (List.set data (Int.toNat k_) r1) (Int.toNat (IntKind.wrap .i64 (k_-1))) r3),(i_,((IntKind.wrap .i64 (k_-1)),())))) (
 some (.inl (data,()))):=by kernel_rfl
theorem d0t (n f:Nat) (data:(List a0a)) (a:Int) (m:Int) (b:Int) (cmp:((a0a×(a0a×Unit))→Option Int)) (mid:Int) (n_:Int) (start:Int) (r:Int) (p:Int):b0f n (f+1) (data,a,m,b,cmp,mid,n_,start,r,p,()) =
 tif ((decide (start<r))) (
 a0b (at? data (IntKind.wrap .i64 (p-(IntKind.wrap .i64 (shrI .u64 (IntKind.wrap .u64 (IntKind.wrap .i64 (start+r))) (1:Int)))))) fun r0 =>
 a0b ((data)[(Int.toNat (IntKind.wrap .i64 (p-(IntKind.wrap .i64 (shrI .u64 (IntKind.wrap .u64 (IntKind.wrap .i64 (start+r))) (1:Int))))))]?) fun r1 =>
 a0b (at? data (IntKind.wrap .i64 (shrI .u64 (IntKind.wrap .u64 (IntKind.wrap .i64 (start+r))) (1:Int)))) fun r2 =>
 a0b ((data)[(Int.toNat (IntKind.wrap .i64 (shrI .u64 (IntKind.wrap .u64 (IntKind.wrap .i64 (start+r))) (1:Int))))]?) fun r3 =>
 a0b (cmp (r1,(r3,()))) fun r4 =>
 tif ((!(decide (r4<0)))) (
 b0f n f (data,(a,(m,(b,(cmp,(mid,(n_,((IntKind.wrap .i64 ((IntKind.wrap .i64 (shrI .u64 (IntKind.wrap .u64 (IntKind.wrap .i64 (start+r))) (1:Int)))+1)),(r,(p,()))))))))))) (
 b0f n f (data,(a,(m,(b,(cmp,(mid,(n_,(start,((IntKind.wrap .i64 (shrI .u64 (IntKind.wrap .u64 (IntKind.wrap .i64 (start+r))) (1:Int))),(p,())))))))))))) (
 some (.inl (data,(a,(m,(b,(cmp,(mid,(n_,(start,())))))))))):=by kernel_rfl
end Go.Proofs.YtagnkfbpgkckiaaGreatDoor
