/- Trees, printed by program. -/
import Derived.Test.YtfibfcjepngbmaaGreatDoorTr0
import Derived.KernelRfl
set_option linter.unusedVariables false
open Go.IntKind (wrap)
namespace Go.Proofs.YtfibfcjepngbmaaGreatDoor
open Go.Flat
theorem z0c (n:Nat)(s:a0l)(rows:(List TRow)):v0m (n+1) s rows =
 a0a (v0n n s) fun r0 =>
 tif (r0=0) (
 a0a (p0s n ) fun r1 =>
 some r1) (
 a0a (v0l n rows) fun r2 =>
 tif (r2=0) (
 a0a (p0s n ) fun r3 =>
 some r3) (
 a0a (m0u n s rows) fun r4 =>
 a0a (i1p n s rows) fun r5 =>
 a0a (p0s n ) fun r6 =>
 tif (r6) (
 a0a (i1t n r4.1 r5.1) fun r7 =>
 tif (r7) (
 a0a (f0k n r4.2 r5.2) fun r8 =>
 some r8) (
 some false)) (
 some false))):=by kernel_rfl
theorem p1l (n:Nat)(rows:(List TRow)):v0l (n+1) rows =
 tif ((40:Int)<(rows.length:Int)) (
 some (0:Int)) (
 a0a (i0i n a0b (rows,((rows.length:Int),(0,())))) fun r0 =>
 b0u (fun y1 =>
 some (1:Int)) (fun z2 =>
 some z2) r0):=by kernel_rfl
theorem p0t (n f:Nat)(s8:(List TRow))(s9:Int)(s10:Int):i0i n (f+1) (s8,s9,s10,()) =
 tif (s10<s9) (
 a0a (at? s8 s10) fun r0 =>
 a0a (k0m n r0.1) fun r1 =>
 tif (r1=0) (
 some (.inr (0:Int))) (
 i0i n f (s8,(s9,((wrap .i64 (s10+1)),()))))) (
 some (.inl ())):=by kernel_rfl
theorem k0u (n f:Nat)(a:(List TRow))(b:(List TRow))(s12:Int)(s13:Int):k0f n (f+1) (a,b,s12,s13,()) =
 tif (s13<s12) (
 a0a (at? a s13) fun r0 =>
 a0a (at? b s13) fun r1 =>
 a0a (i1q n r0 r1) fun r2 =>
 tif (!r2) (
 some (.inr false)) (
 k0f n f (a,(b,(s12,((wrap .i64 (s13+1)),())))))) (
 some (.inl ())):=by kernel_rfl
theorem p1m (n:Nat)(s:a0l):v0n (n+1) s =
 tif ((8:Int)<(s.2.2.2.length:Int)) (
 some (0:Int)) (
 a0a (i0j n a0b (s.2.2.2,((s.2.2.2.length:Int),(0,())))) fun r0 =>
 b0u (fun y1 =>
 some (1:Int)) (fun z2 =>
 some z2) r0):=by kernel_rfl
theorem p0u (n f:Nat)(s10:(List b0c))(s11:Int)(s12:Int):i0j n (f+1) (s10,s11,s12,()) =
 tif (s12<s11) (
 a0a (at? s10 s12) fun r0 =>
 a0a (v0o n r0) fun r1 =>
 tif (r1=0) (
 some (.inr (0:Int))) (
 i0j n f (s10,(s11,((wrap .i64 (s12+1)),()))))) (
 some (.inl ())):=by kernel_rfl
theorem w0b (n:Nat)(s:a0l)(rows:(List TRow)):m0u (n+1) s rows =
 tif (((0:Int)<=(rows.length:Int))&&(((rows.length:Int)<=(rows.length:Int))&&(((rows.length:Int)*8)<=140737488355328))) (
 a0a (c0j n a0b (s,(((0,((0,(0,0)),((0,(0,0)),(0,0)))),(0,(0,[]))),((List.replicate (Int.toNat (rows.length:Int)) (0:Int)),(rows,((rows.length:Int),(0,()))))))) fun r0 =>
 b0u (fun y1 =>
 some (y1.1,y1.2.2.1)) (fun z2 =>
 some z2) r0) (
 none):=by kernel_rfl
theorem c0o (n f:Nat)(s_:a0l)(s4:a0l)(out:(List Int))(s14:(List TRow))(s15:Int)(s16:Int):c0j n (f+1) (s_,s4,out,s14,s15,s16,()) =
 tif (s16<s15) (
 a0a (at? s14 s16) fun r0 =>
 a0a (j0s n s_ r0.1 r0.2) fun r1 =>
 a0a (at? out s16) fun r2 =>
 a0a ((out)[(Int.toNat s16)]?) fun r3 =>
 tif (r1.2=0) (
 c0j n f (r1.1,(s4,((List.set out (Int.toNat s16) r1.2),(s14,(s15,((wrap .i64 (s16+1)),()))))))) (
 c0j n f (s_,(s4,((List.set out (Int.toNat s16) r1.2),(s14,(s15,((wrap .i64 (s16+1)),())))))))) (
 some (.inl (s_,(s4,(out,()))))):=by kernel_rfl
theorem s1n (n:Nat)(s:a0l)(rows:(List TRow)):i1p (n+1) s rows =
 a0a (k0e n a0b (s,(((0,((0,(0,0)),((0,(0,0)),(0,0)))),(0,(0,[]))),([],(rows,((rows.length:Int),(0,()))))))) fun r0 =>
 b0u (fun y1 =>
 some (y1.1,y1.2.2.1)) (fun z2 =>
 some z2) r0:=by kernel_rfl
theorem s0c (n f:Nat)(s_:a0l)(s4:a0l)(out:(List Int))(s11:(List TRow))(s12:Int)(s13:Int):k0e n (f+1) (s_,s4,out,s11,s12,s13,()) =
 tif (s13<s12) (
 a0a (at? s11 s13) fun r0 =>
 a0a (s1p n s_ r0.1 r0.2) fun r1 =>
 tif (r1.2=0) (
 tif ((((List.length out)+1)*8)<=140737488355328) (
 k0e n f (r1.1,(s4,((out++(r1.2::[])),(s11,(s12,((wrap .i64 (s13+1)),()))))))) (
 none)) (
 tif ((((List.length out)+1)*8)<=140737488355328) (
 k0e n f (s_,(s4,((out++(r1.2::[])),(s11,(s12,((wrap .i64 (s13+1)),()))))))) (
 none))) (
 some (.inl (s_,(s4,(out,()))))):=by kernel_rfl
theorem s1u (n:Nat)(a:a0l)(b:a0l):i1t (n+1) a b =
 tif (!((a.1.1=b.1.1)&&((a.1.2.1.1=b.1.2.1.1)&&((a.1.2.1.2.1=b.1.2.1.2.1)&&((a.1.2.1.2.2=b.1.2.1.2.2)&&((a.1.2.2.1.1=b.1.2.2.1.1)&&((a.1.2.2.1.2.1=b.1.2.2.1.2.1)&&((a.1.2.2.1.2.2=b.1.2.2.1.2.2)&&((a.1.2.2.2.1=b.1.2.2.2.1)&&(a.1.2.2.2.2=b.1.2.2.2.2)))))))))) (
 some false) (
 tif (!(a.2.1=b.2.1)) (
 some false) (
 tif (!(a.2.2.1=b.2.2.1)) (
 some false) (
 tif (!((a.2.2.2.length:Int)=(b.2.2.2.length:Int))) (
 some false) (
 a0a (k0g n a0b (a,(b,((a.2.2.2.length:Int),(0,()))))) fun r0 =>
 b0u (fun y1 =>
 some true) (fun z2 =>
 some z2) r0)))):=by kernel_rfl
theorem s0d (n f:Nat)(a_:a0l)(b_:a0l)(s36:Int)(s37:Int):k0g n (f+1) (a_,b_,s36,s37,()) =
 tif (s37<s36) (
 a0a (at? a_.2.2.2 s37) fun r0 =>
 a0a (at? b_.2.2.2 s37) fun r1 =>
 a0a (q0r n r0 r1) fun r2 =>
 tif (!r2) (
 some (.inr false)) (
 k0g n f (a_,(b_,(s36,((wrap .i64 (s37+1)),())))))) (
 some (.inl ())):=by kernel_rfl
theorem w0s (n:Nat)(a:(List Int))(b:(List Int)):f0k (n+1) a b =
 tif (!((a.length:Int)=(b.length:Int))) (
 some false) (
 a0a (f0e n a0b (a,(b,((a.length:Int),(0,()))))) fun r0 =>
 b0u (fun y1 =>
 some true) (fun z2 =>
 some z2) r0):=by kernel_rfl
theorem i0u (n f:Nat)(a:(List Int))(b:(List Int))(s12:Int)(s13:Int):f0e n (f+1) (a,b,s12,s13,()) =
 tif (s13<s12) (
 a0a (at? a s13) fun r0 =>
 a0a (at? b s13) fun r1 =>
 tif (!(r0=r1)) (
 some (.inr false)) (
 f0e n f (a,(b,(s12,((wrap .i64 (s13+1)),())))))) (
 some (.inl ())):=by kernel_rfl
theorem m1p (n:Nat)(s:a0l):t0x (n+1) s =
 a0a (q0j n s) fun r0 =>
 tif (!(r0.2=0)) (
 some (2:Int)) (
 a0a (l0g n r0.1) fun r1 =>
 tif (!r1) (
 some (2:Int)) (
 a0a (d0l n r0.1 (fun y2=>d0z n y2.1 r0.1)) fun r3 =>
 tif ((0:Int)<=r3) (
 some (2:Int)) (
 some (0:Int)))):=by kernel_rfl
theorem y0n (n:Nat)(l:(List (List UInt8×List UInt8))):k0m (n+1) l =
 a0a (e0q n a0b (l,((l.length:Int),(0,())))) fun r0 =>
 b0u (fun y1 =>
 some (1:Int)) (fun z2 =>
 some z2) r0:=by kernel_rfl
theorem g0w (n f:Nat)(s5:(List (List UInt8×List UInt8)))(s6:Int)(s7:Int):e0q n (f+1) (s5,s6,s7,()) =
 tif (s7<s6) (
 a0a (at? s5 s7) fun r0 =>
 tif (s7=40) (
 some (.inr (0:Int))) (
 tif ((1000:Int)<(r0.1.length:Int)) (
 some (.inr (0:Int))) (
 tif ((1000:Int)<(r0.2.length:Int)) (
 some (.inr (0:Int))) (
 e0q n f (s5,(s6,((wrap .i64 (s7+1)),()))))))) (
 some (.inl ())):=by kernel_rfl
theorem o1l (n:Nat)(l:(List (List UInt8×List UInt8))):p0i (n+1) l =
 tif ((l.length:Int)<1) (
 some (8:Int)) (
 tif ((16:Int)<(l.length:Int)) (
 some (8:Int)) (
 a0a (g0e n a0b (l,(0,(l,((l.length:Int),(0,())))))) fun r0 =>
 b0u (fun y1 =>
 tif ((256:Int)<y1.1) (
 some (8:Int)) (
 some (0:Int))) (fun z2 =>
 some z2) r0)):=by kernel_rfl
theorem p0h (n f:Nat)(l:(List (List UInt8×List UInt8)))(all:Int)(s14:(List (List UInt8×List UInt8)))(s15:Int)(s16:Int):g0e n (f+1) (l,all,s14,s15,s16,()) =
 tif (s16<s15) (
 a0a (at? s14 s16) fun r0 =>
 a0a (j1d n r0.1) fun r1 =>
 tif (!r1) (
 some (.inr (8:Int))) (
 tif ((128:Int)<(r0.2.length:Int)) (
 some (.inr (8:Int))) (
 tif ((0:Int)<s16) (
 a0a (at? l (wrap .i64 (s16-1))) fun r2 =>
 tif (!(Go.Op.bytesLess r2.1 r0.1)) (
 some (.inr (8:Int))) (
 g0e n f (l,((wrap .i64 (all+(wrap .i64 ((r0.1.length:Int)+(r0.2.length:Int))))),(s14,(s15,((wrap .i64 (s16+1)),()))))))) (
 g0e n f (l,((wrap .i64 (all+(wrap .i64 ((r0.1.length:Int)+(r0.2.length:Int))))),(s14,(s15,((wrap .i64 (s16+1)),()))))))))) (
 some (.inl (all,()))):=by kernel_rfl
theorem o1j (n:Nat)(e:a0j):e0p (n+1) e =
 tif (e.1<0) (
 some (2:Int)) (
 tif ((35184372088832:Int)<=e.1) (
 some (2:Int)) (
 tif (e.2.2.1<0) (
 some (2:Int)) (
 tif (e.1<e.2.2.1) (
 some (2:Int)) (
 tif (e.2.2.2) (
 tif (!(e.2.1=0)) (
 some (2:Int)) (
 tif (!(e.2.2.1=0)) (
 some (2:Int)) (
 some (0:Int)))) (
 some (0:Int)))))):=by kernel_rfl
theorem t1u (n:Nat)(a:(List (List UInt8×List UInt8)))(b:(List (List UInt8×List UInt8))):q0v (n+1) a b =
 tif (!((a.length:Int)=(b.length:Int))) (
 some false) (
 a0a (k0j n a0b (a,(b,((a.length:Int),(0,()))))) fun r0 =>
 b0u (fun y1 =>
 some true) (fun z2 =>
 some z2) r0):=by kernel_rfl
theorem h0y (n f:Nat)(a:(List (List UInt8×List UInt8)))(b:(List (List UInt8×List UInt8)))(s12:Int)(s13:Int):k0j n (f+1) (a,b,s12,s13,()) =
 tif (s13<s12) (
 a0a (at? a s13) fun r0 =>
 a0a (at? b s13) fun r1 =>
 tif (!((r0.1==r1.1)&&(r0.2==r1.2))) (
 some (.inr false)) (
 k0j n f (a,(b,(s12,((wrap .i64 (s13+1)),())))))) (
 some (.inl ())):=by kernel_rfl
theorem s1o (n:Nat)(a:TRow)(b:TRow):i1q (n+1) a b =
 a0a (q0v n a.1 b.1) fun r0 =>
 tif (r0) (
 some ((decide (a.2.1=b.2.1))&&((decide (a.2.2.1=b.2.2.1))&&((decide (a.2.2.2.1=b.2.2.2.1))&&(a.2.2.2.2==b.2.2.2.2))))) (
 some false):=by kernel_rfl
theorem v0y (n:Nat)(c:a0z):f0f (n+1) c =
 a0a (e0s n c.1 (1:Int) (4096:Int)) fun r0 =>
 tif (r0) (
 a0a (e0s n c.2.2.2.1 (1:Int) (65536:Int)) fun r1 =>
 tif (r1) (
 a0a (e0s n c.2.2.2.2 (1:Int) (8192:Int)) fun r2 =>
 tif (r2) (
 a0a (g0x n c.2.1.1 (1:Int) (1099511627776:Int)) fun r3 =>
 tif (r3) (
 a0a (e0s n c.2.2.1.1 (1:Int) (4096:Int)) fun r4 =>
 tif (r4) (
 a0a (g0x n c.2.1.2.1 (1:Int) (1099511627776:Int)) fun r5 =>
 tif (r5) (
 a0a (e0s n c.2.2.1.2.1 (1:Int) (4096:Int)) fun r6 =>
 tif (r6) (
 a0a (g0x n c.2.1.2.2 (1:Int) (1099511627776:Int)) fun r7 =>
 tif (r7) (
 a0a (e0s n c.2.2.1.2.2 (1:Int) (4096:Int)) fun r8 =>
 tif (r8) (
 tif (c.2.1.1=0) (
 none) (
 tif ((Int.tmod c.2.1.2.1 c.2.1.1)=0) (
 tif (c.2.1.1=0) (
 none) (
 tif ((wrap .i64 (Int.tdiv c.2.1.2.1 c.2.1.1))<=c.2.2.1.1) (
 tif (c.2.1.2.1=0) (
 none) (
 tif ((Int.tmod c.2.1.2.2 c.2.1.2.1)=0) (
 tif (c.2.1.2.1=0) (
 none) (
 tif ((wrap .i64 (Int.tdiv c.2.1.2.2 c.2.1.2.1))<=c.2.2.1.2.1) (
 tif (!((wrap .i64 (Int.tdiv c.2.1.2.2 c.2.1.2.1))<=c.2.2.1.2.1)) (
 some (2:Int)) (
 a0a (j0o n c) fun r9 =>
 tif (c.2.2.2.2<=r9) (
 some (2:Int)) (
 some (0:Int)))) (
 tif (!((wrap .i64 (Int.tdiv c.2.1.2.2 c.2.1.2.1))<=c.2.2.1.2.1)) (
 some (2:Int)) (
 a0a (j0o n c) fun r10 =>
 tif (c.2.2.2.2<=r10) (
 some (2:Int)) (
 some (0:Int)))))) (
 some (2:Int)))) (
 tif (!((wrap .i64 (Int.tdiv c.2.1.2.1 c.2.1.1))<=c.2.2.1.1)) (
 some (2:Int)) (
 a0a (j0o n c) fun r11 =>
 tif (c.2.2.2.2<=r11) (
 some (2:Int)) (
 some (0:Int)))))) (
 some (2:Int)))) (
 tif (!r8) (
 some (2:Int)) (
 a0a (j0o n c) fun r12 =>
 tif (c.2.2.2.2<=r12) (
 some (2:Int)) (
 some (0:Int))))) (
 some (2:Int))) (
 some (2:Int))) (
 some (2:Int))) (
 some (2:Int))) (
 some (2:Int))) (
 some (2:Int))) (
 some (2:Int))) (
 some (2:Int)):=by kernel_rfl
theorem y0g (n:Nat)(c:a0z):e0o (n+1) c =
 tif (c.1<1) (
 some (2:Int)) (
 tif ((4096:Int)<c.1) (
 some (2:Int)) (
 tif (c.2.2.2.1<1) (
 some (2:Int)) (
 tif ((65536:Int)<c.2.2.2.1) (
 some (2:Int)) (
 tif (c.2.2.2.2<1) (
 some (2:Int)) (
 tif ((8192:Int)<c.2.2.2.2) (
 some (2:Int)) (
 tif (c.2.1.1<1) (
 some (2:Int)) (
 tif ((1099511627776:Int)<c.2.1.1) (
 some (2:Int)) (
 tif (c.2.2.1.1<1) (
 some (2:Int)) (
 tif ((4096:Int)<c.2.2.1.1) (
 some (2:Int)) (
 tif (c.2.1.2.1<1) (
 some (2:Int)) (
 tif ((1099511627776:Int)<c.2.1.2.1) (
 some (2:Int)) (
 tif (c.2.2.1.2.1<1) (
 some (2:Int)) (
 tif ((4096:Int)<c.2.2.1.2.1) (
 some (2:Int)) (
 tif (c.2.1.1=0) (
 none) (
 tif (!((Int.tmod c.2.1.2.1 c.2.1.1)=0)) (
 some (2:Int)) (
 tif (c.2.1.1=0) (
 none) (
 tif (c.2.2.1.1<(wrap .i64 (Int.tdiv c.2.1.2.1 c.2.1.1))) (
 some (2:Int)) (
 tif (c.2.1.2.2<1) (
 some (2:Int)) (
 tif ((1099511627776:Int)<c.2.1.2.2) (
 some (2:Int)) (
 tif (c.2.2.1.2.2<1) (
 some (2:Int)) (
 tif ((4096:Int)<c.2.2.1.2.2) (
 some (2:Int)) (
 tif (c.2.1.2.1=0) (
 none) (
 tif (!((Int.tmod c.2.1.2.2 c.2.1.2.1)=0)) (
 some (2:Int)) (
 tif (c.2.1.2.1=0) (
 none) (
 tif (c.2.2.1.2.1<(wrap .i64 (Int.tdiv c.2.1.2.2 c.2.1.2.1))) (
 some (2:Int)) (
 a0a (b1c n c) fun r0 =>
 tif (c.2.2.2.2<=r0) (
 some (2:Int)) (
 some (0:Int)))))))))))))))))))))))))))):=by kernel_rfl
theorem p1n (n:Nat)(s:b0c):v0o (n+1) s =
 a0a (k0m n s.1) fun r0 =>
 tif (r0=0) (
 some (0:Int)) (
 tif ((60:Int)<(s.2.2.1.2.2.length:Int)) (
 some (0:Int)) (
 a0a (b1r n s.2.2.2.1) fun r1 =>
 some r1)):=by kernel_rfl
theorem l1w (n:Nat)(s:a0l)(l:(List (List UInt8×List UInt8)))(e:a0j):j0s (n+1) s l e =
 a0a (s0t n s l e) fun r0 =>
 tif (!(r0.2.2=0)) (
 some (((0,((0,(0,0)),((0,(0,0)),(0,0)))),(0,(0,[]))),r0.2.2)) (
 a0a (a1b n s r0.1 r0.2.1 l) fun r1 =>
 tif (!(r1.2=0)) (
 some (((0,((0,(0,0)),((0,(0,0)),(0,0)))),(0,(0,[]))),r1.2)) (
 a0a (w0n n s.1 r1.1 e) fun r2 =>
 tif (!(r2.2=0)) (
 some (((0,((0,(0,0)),((0,(0,0)),(0,0)))),(0,(0,[]))),r2.2)) (
 a0a (j0z n s.2.2.2) fun r3 =>
 a0a (at? r3 r0.1) fun r4 =>
 a0a ((r3)[(Int.toNat r0.1)]?) fun r5 =>
 some ((s.1,(s.2.1,(s.2.2.1,(List.set r3 (Int.toNat r0.1) r2.1)))),0)))):=by kernel_rfl
theorem z1l (n:Nat)(s:a0l)(l:(List (List UInt8×List UInt8)))(e:a0j):s1p (n+1) s l e =
 a0a (a1v n s l e) fun r0 =>
 tif (!(r0.2.2=0)) (
 some (((0,((0,(0,0)),((0,(0,0)),(0,0)))),(0,(0,[]))),r0.2.2)) (
 a0a (at? s.2.2.2 r0.1) fun r1 =>
 tif (r0.2.1) (
 a0a (s1y n s.1 l) fun r2 =>
 a0a (i1u n s.1 r2.1 e) fun r3 =>
 tif (!(r3.2=0)) (
 some (((0,((0,(0,0)),((0,(0,0)),(0,0)))),(0,(0,[]))),r3.2)) (
 tif (((0+(List.length s.2.2.2))*264)<=140737488355328) (
 a0a (at? ([]++s.2.2.2) r0.1) fun r4 =>
 a0a (([]++s.2.2.2)[(Int.toNat r0.1)]?) fun r5 =>
 some ((s.1,(s.2.1,(s.2.2.1,(List.set ([]++s.2.2.2) (Int.toNat r0.1) r3.1)))),0)) (
 none))) (
 a0a (i1u n s.1 r1 e) fun r6 =>
 tif (!(r6.2=0)) (
 some (((0,((0,(0,0)),((0,(0,0)),(0,0)))),(0,(0,[]))),r6.2)) (
 tif (((0+(List.length s.2.2.2))*264)<=140737488355328) (
 a0a (at? ([]++s.2.2.2) r0.1) fun r7 =>
 a0a (([]++s.2.2.2)[(Int.toNat r0.1)]?) fun r8 =>
 some ((s.1,(s.2.1,(s.2.2.1,(List.set ([]++s.2.2.2) (Int.toNat r0.1) r6.1)))),0)) (
 none)))):=by kernel_rfl
theorem s1x (n:Nat)(a:b0c)(b:b0c):q0r (n+1) a b =
 a0a (q0v n a.1 b.1) fun r0 =>
 tif (r0) (
 tif (a.2.1=b.2.1) (
 a0a (w1k n a.2.2.1 b.2.2.1) fun r1 =>
 tif (r1) (
 a0a (w1i n a.2.2.2.1 b.2.2.2.1) fun r2 =>
 tif (r2) (
 some ((decide (a.2.2.2.2.1=b.2.2.2.2.1))&&((decide (a.2.2.2.2.2.1=b.2.2.2.2.2.1))&&((decide (a.2.2.2.2.2.2.1.1=b.2.2.2.2.2.2.1.1))&&((decide (a.2.2.2.2.2.2.1.2.1=b.2.2.2.2.2.2.1.2.1))&&((decide (a.2.2.2.2.2.2.1.2.2.1=b.2.2.2.2.2.2.1.2.2.1))&&((a.2.2.2.2.2.2.1.2.2.2==b.2.2.2.2.2.2.1.2.2.2)&&((decide (a.2.2.2.2.2.2.2.1.1=b.2.2.2.2.2.2.2.1.1))&&((decide (a.2.2.2.2.2.2.2.1.2.1=b.2.2.2.2.2.2.2.1.2.1))&&((decide (a.2.2.2.2.2.2.2.1.2.2.1=b.2.2.2.2.2.2.2.1.2.2.1))&&((a.2.2.2.2.2.2.2.1.2.2.2==b.2.2.2.2.2.2.2.1.2.2.2)&&((decide (a.2.2.2.2.2.2.2.2.1.1=b.2.2.2.2.2.2.2.2.1.1))&&((decide (a.2.2.2.2.2.2.2.2.1.2=b.2.2.2.2.2.2.2.2.1.2))&&((decide (a.2.2.2.2.2.2.2.2.2.1=b.2.2.2.2.2.2.2.2.2.1))&&((decide (a.2.2.2.2.2.2.2.2.2.2.1=b.2.2.2.2.2.2.2.2.2.2.1))&&(decide (a.2.2.2.2.2.2.2.2.2.2.2=b.2.2.2.2.2.2.2.2.2.2.2))))))))))))))))) (
 some false)) (
 some false)) (
 some false)) (
 some false):=by kernel_rfl
theorem r1n (n:Nat)(s:a0l):q0j (n+1) s =
 a0a (f0f n s.1) fun r0 =>
 tif (!(r0=0)) (
 some (((0,((0,(0,0)),((0,(0,0)),(0,0)))),(0,(0,[]))),2)) (
 tif (!((s.2.2.2.length:Int)=s.1.2.2.2.1)) (
 some (((0,((0,(0,0)),((0,(0,0)),(0,0)))),(0,(0,[]))),2)) (
 some (s,0))):=by kernel_rfl
theorem w0i (n:Nat)(v:a0l):l0g (n+1) v =
 a0a (t0v n v.2.1) fun r0 =>
 tif (r0) (
 tif (v.2.2.1=((-1):Int)) (
 some (decide (v.2.2.1<=v.2.1))) (
 a0a (t0v n v.2.2.1) fun r1 =>
 tif (r1) (
 some (decide (v.2.2.1<=v.2.1))) (
 some false))) (
 some false):=by kernel_rfl
theorem w0g (n:Nat)(v:a0l)(is:((Int×Unit)->Option Bool)):d0l (n+1) v is =
 a0a (c0g n a0b (is,((v.2.2.2.length:Int),(0,())))) fun r0 =>
 b0u (fun y1 =>
 some ((-1):Int)) (fun z2 =>
 some z2) r0:=by kernel_rfl
theorem i0q (n f:Nat)(is:((Int×Unit)->Option Bool))(s9:Int)(s10:Int):c0g n (f+1) (is,s9,s10,()) =
 tif (s10<s9) (
 a0a (is (s10,())) fun r0 =>
 tif (r0) (
 some (.inr s10)) (
 c0g n f (is,(s9,((wrap .i64 (s10+1)),()))))) (
 some (.inl ())):=by kernel_rfl
theorem c1r (n:Nat)(i:Int)(p1:a0l):d0z (n+1) i p1 =
 a0a (l0f n p1 i) fun r0 =>
 some (!r0):=by kernel_rfl
theorem w0f (n:Nat)(v:a0l)(i:Int):l0f (n+1) v i =
 a0a (at? v.2.2.2 i) fun r0 =>
 a0a (t0w n r0) fun r1 =>
 tif (r1) (
 some true) (
 a0a (o0y n v.1 r0) fun r2 =>
 tif (r2=0) (
 tif ((0:Int)<=r0.2.1) (
 a0a (j0a n v) fun r3 =>
 tif (r0.2.1<(wrap .i64 (r3+v.1.2.1.1))) (
 a0a (n0l n v i) fun r4 =>
 some (!r4)) (
 some false)) (
 some false)) (
 some false)):=by kernel_rfl
theorem c1t (n:Nat)(a:b0c)(b:b0c):k0b (n+1) a b =
 a0a (m0l n a.1 b.1) fun r0 =>
 tif (r0) (
 tif (a.2.1=b.2.1) (
 a0a (w1c n a.2.2.1 b.2.2.1) fun r1 =>
 tif (r1) (
 tif ((decide (a.2.2.2.2.1=b.2.2.2.2.1))&&((decide (a.2.2.2.2.2.1=b.2.2.2.2.2.1))&&((decide (a.2.2.2.2.2.2.1.1=b.2.2.2.2.2.2.1.1))&&((decide (a.2.2.2.2.2.2.1.2.1=b.2.2.2.2.2.2.1.2.1))&&((decide (a.2.2.2.2.2.2.1.2.2.1=b.2.2.2.2.2.2.1.2.2.1))&&((a.2.2.2.2.2.2.1.2.2.2==b.2.2.2.2.2.2.1.2.2.2)&&((decide (a.2.2.2.2.2.2.2.1.1=b.2.2.2.2.2.2.2.1.1))&&((decide (a.2.2.2.2.2.2.2.1.2.1=b.2.2.2.2.2.2.2.1.2.1))&&((decide (a.2.2.2.2.2.2.2.1.2.2.1=b.2.2.2.2.2.2.2.1.2.2.1))&&((a.2.2.2.2.2.2.2.1.2.2.2==b.2.2.2.2.2.2.2.1.2.2.2)&&((decide (a.2.2.2.2.2.2.2.2.1.1=b.2.2.2.2.2.2.2.2.1.1))&&((decide (a.2.2.2.2.2.2.2.2.1.2=b.2.2.2.2.2.2.2.2.1.2))&&((decide (a.2.2.2.2.2.2.2.2.2.1=b.2.2.2.2.2.2.2.2.2.1))&&((decide (a.2.2.2.2.2.2.2.2.2.2.1=b.2.2.2.2.2.2.2.2.2.2.1))&&(decide (a.2.2.2.2.2.2.2.2.2.2.2=b.2.2.2.2.2.2.2.2.2.2.2)))))))))))))))) (
 a0a (g0k n a.2.2.2.1.1 b.2.2.2.1.1) fun r2 =>
 tif (r2) (
 a0a (g0k n a.2.2.2.1.2.1 b.2.2.2.1.2.1) fun r3 =>
 tif (r3) (
 a0a (g0k n a.2.2.2.1.2.2 b.2.2.2.1.2.2) fun r4 =>
 some r4) (
 some false)) (
 some false)) (
 some false)) (
 some false)) (
 some false)) (
 some false):=by kernel_rfl
theorem d1x (n:Nat)(l:(List (List UInt8×List UInt8))):k0l (n+1) l =
 tif ((l.length:Int)=0) (
 some (8:Int)) (
 tif ((16:Int)<(l.length:Int)) (
 some (8:Int)) (
 a0a (e0g n a0b (l,(256,(l,((l.length:Int),(0,())))))) fun r0 =>
 b0u (fun y1 =>
 some (0:Int)) (fun z2 =>
 some z2) r0)):=by kernel_rfl
theorem m0m (n f:Nat)(l:(List (List UInt8×List UInt8)))(left:Int)(s14:(List (List UInt8×List UInt8)))(s15:Int)(s16:Int):e0g n (f+1) (l,left,s14,s15,s16,()) =
 tif (s16<s15) (
 a0a (at? s14 s16) fun r0 =>
 a0a (x0e n r0.1) fun r1 =>
 tif (!r1) (
 some (.inr (8:Int))) (
 tif ((128:Int)<(r0.2.length:Int)) (
 some (.inr (8:Int))) (
 tif ((wrap .i64 (left-(wrap .i64 ((r0.1.length:Int)+(r0.2.length:Int)))))<0) (
 some (.inr (8:Int))) (
 tif ((0:Int)<s16) (
 a0a (at? l (wrap .i64 (s16-1))) fun r2 =>
 tif (!(Go.Op.bytesLess r2.1 r0.1)) (
 some (.inr (8:Int))) (
 e0g n f (l,((wrap .i64 (left-(wrap .i64 ((r0.1.length:Int)+(r0.2.length:Int))))),(s14,(s15,((wrap .i64 (s16+1)),()))))))) (
 e0g n f (l,((wrap .i64 (left-(wrap .i64 ((r0.1.length:Int)+(r0.2.length:Int))))),(s14,(s15,((wrap .i64 (s16+1)),())))))))))) (
 some (.inl ())):=by kernel_rfl
theorem e1d (n:Nat)(e:a0j):d0q (n+1) e =
 tif (e.1<0) (
 some (2:Int)) (
 tif ((35184372088832:Int)<=e.1) (
 some (2:Int)) (
 tif (e.2.2.1<0) (
 some (2:Int)) (
 tif (e.1<e.2.2.1) (
 some (2:Int)) (
 tif (e.2.2.2) (
 tif (!((decide (e.1=e.1))&&((decide (e.2.1=0))&&((decide (e.2.2.1=0))&&(e.2.2.2==true))))) (
 some (2:Int)) (
 some (0:Int))) (
 some (0:Int)))))):=by kernel_rfl
theorem t1r (n:Nat)(s:List UInt8):j1d (n+1) s =
 tif ((s.length:Int)<1) (
 some false) (
 tif ((64:Int)<(s.length:Int)) (
 some false) (
 a0a (at? s (0:Int)) fun r0 =>
 tif ((48:Int)<=(((UInt8.toNat r0):Nat):Int)) (
 a0a (at? s (0:Int)) fun r1 =>
 tif ((((UInt8.toNat r1):Nat):Int)<=57) (
 some false) (
 a0a (b0m n a0b (s,(0,()))) fun r2 =>
 b0u (fun y3 =>
 some true) (fun z4 =>
 some z4) r2)) (
 a0a (b0m n a0b (s,(0,()))) fun r5 =>
 b0u (fun y6 =>
 some true) (fun z7 =>
 some z7) r5))):=by kernel_rfl
theorem s0i (n f:Nat)(s:List UInt8)(i:Int):b0m n (f+1) (s,i,()) =
 tif (i<(s.length:Int)) (
 a0a (at? s i) fun r0 =>
 tif ((97:Int)<=(((UInt8.toNat r0):Nat):Int)) (
 tif ((((UInt8.toNat r0):Nat):Int)<=122) (
 b0m n f (s,((wrap .i64 (i+1)),()))) (
 tif ((65:Int)<=(((UInt8.toNat r0):Nat):Int)) (
 tif ((((UInt8.toNat r0):Nat):Int)<=90) (
 b0m n f (s,((wrap .i64 (i+1)),()))) (
 tif ((48:Int)<=(((UInt8.toNat r0):Nat):Int)) (
 tif ((((UInt8.toNat r0):Nat):Int)<=57) (
 b0m n f (s,((wrap .i64 (i+1)),()))) (
 tif (!((((UInt8.toNat r0):Nat):Int)=95)) (
 some (.inr false)) (
 b0m n f (s,((wrap .i64 (i+1)),()))))) (
 tif (!((((UInt8.toNat r0):Nat):Int)=95)) (
 some (.inr false)) (
 b0m n f (s,((wrap .i64 (i+1)),())))))) (
 tif ((48:Int)<=(((UInt8.toNat r0):Nat):Int)) (
 tif ((((UInt8.toNat r0):Nat):Int)<=57) (
 b0m n f (s,((wrap .i64 (i+1)),()))) (
 tif (!((((UInt8.toNat r0):Nat):Int)=95)) (
 some (.inr false)) (
 b0m n f (s,((wrap .i64 (i+1)),()))))) (
 tif (!((((UInt8.toNat r0):Nat):Int)=95)) (
 some (.inr false)) (
 b0m n f (s,((wrap .i64 (i+1)),()))))))) (
 tif ((65:Int)<=(((UInt8.toNat r0):Nat):Int)) (
 tif ((((UInt8.toNat r0):Nat):Int)<=90) (
 b0m n f (s,((wrap .i64 (i+1)),()))) (
 tif ((48:Int)<=(((UInt8.toNat r0):Nat):Int)) (
 tif ((((UInt8.toNat r0):Nat):Int)<=57) (
 b0m n f (s,((wrap .i64 (i+1)),()))) (
 tif (!((((UInt8.toNat r0):Nat):Int)=95)) (
 some (.inr false)) (
 b0m n f (s,((wrap .i64 (i+1)),()))))) (
 tif (!((((UInt8.toNat r0):Nat):Int)=95)) (
 some (.inr false)) (
 b0m n f (s,((wrap .i64 (i+1)),())))))) (
 tif ((48:Int)<=(((UInt8.toNat r0):Nat):Int)) (
 tif ((((UInt8.toNat r0):Nat):Int)<=57) (
 b0m n f (s,((wrap .i64 (i+1)),()))) (
 tif (!((((UInt8.toNat r0):Nat):Int)=95)) (
 some (.inr false)) (
 b0m n f (s,((wrap .i64 (i+1)),()))))) (
 tif (!((((UInt8.toNat r0):Nat):Int)=95)) (
 some (.inr false)) (
 b0m n f (s,((wrap .i64 (i+1)),()))))))) (
 some (.inl ())):=by kernel_rfl
theorem e1g (n:Nat)(n_:Int)(low:Int)(high:Int):e0s (n+1) n_ low high =
 tif (low<=n_) (
 some (decide (n_<=high))) (
 some false):=by kernel_rfl
theorem z0f (n:Nat)(n_:Int)(low:Int)(high:Int):g0x (n+1) n_ low high =
 tif (low<=n_) (
 some (decide (n_<=high))) (
 some false):=by kernel_rfl
theorem l1g (n:Nat)(c:a0z):j0o (n+1) c =
 a0a (j0p n c.1 (16:Int)) fun r0 =>
 a0a (j0p n c.2.2.1.1 (4:Int)) fun r1 =>
 a0a (j0p n c.2.2.1.2.1 (4:Int)) fun r2 =>
 a0a (j0p n c.2.2.1.2.2 (4:Int)) fun r3 =>
 some (wrap .i64 ((wrap .i64 ((wrap .i64 ((wrap .i64 ((1:Int)+r0))+r1))+r2))+r3)):=by kernel_rfl
theorem o1a (n:Nat)(c:a0z):b1c (n+1) c =
 a0a (m0a n c.1 (16:Int)) fun r0 =>
 a0a (m0a n c.2.2.1.1 (4:Int)) fun r1 =>
 a0a (m0a n c.2.2.1.2.1 (4:Int)) fun r2 =>
 a0a (m0a n c.2.2.1.2.2 (4:Int)) fun r3 =>
 some (wrap .i64 ((wrap .i64 ((wrap .i64 ((wrap .i64 ((1:Int)+r0))+r1))+r2))+r3)):=by kernel_rfl
theorem p1o (n:Nat)(s:((List a0c)×((List a0c)×(List a0c)))):b1r (n+1) s =
 a0a (d0i n a0b (s,(0,()))) fun r0 =>
 b0u (fun y1 =>
 some (1:Int)) (fun z2 =>
 some z2) r0:=by kernel_rfl
theorem g0v (n f:Nat)(s_:((List a0c)×((List a0c)×(List a0c))))(s4:Int):d0i n (f+1) (s_,s4,()) =
 tif (s4<3) (
 tif (s4=0) (
 tif ((40:Int)<(s_.1.length:Int)) (
 some (.inr (0:Int))) (
 d0i n f (s_,((wrap .i64 (s4+1)),())))) (
 tif (s4=1) (
 tif ((40:Int)<(s_.2.1.length:Int)) (
 some (.inr (0:Int))) (
 d0i n f (s_,((wrap .i64 (s4+1)),())))) (
 tif (s4=2) (
 tif ((40:Int)<(s_.2.2.length:Int)) (
 some (.inr (0:Int))) (
 d0i n f (s_,((wrap .i64 (s4+1)),())))) (
 none)))) (
 some (.inl ())):=by kernel_rfl
theorem c1w (n:Nat)(s:a0l)(l:(List (List UInt8×List UInt8)))(e:a0j):s0t (n+1) s l e =
 a0a (t0x n s) fun r0 =>
 tif (!(r0=0)) (
 some (0,(false,r0))) (
 a0a (k0l n l) fun r1 =>
 tif (!(r1=0)) (
 some (0,(false,r1))) (
 a0a (d0q n e) fun r2 =>
 tif (!(r2=0)) (
 some (0,(false,r2))) (
 a0a (w0o n s) fun r3 =>
 a0a (h1y n s l) fun r4 =>
 tif (e.1<r3.1) (
 some (0,(false,9))) (
 tif (r3.2<=e.1) (
 some (0,(false,9))) (
 tif (r4.2=0) (
 a0a (at? s.2.2.2 r4.1) fun r5 =>
 tif (e.1<=r5.2.1) (
 some (0,(false,9))) (
 tif (r4.2=0) (
 some (r4.1,(false,0))) (
 tif (e.2.2.2) (
 some (0,(false,3))) (
 a0a (z0h n s) fun r6 =>
 some (r6.1,((decide (r6.2=0)),r6.2)))))) (
 tif (r4.2=0) (
 some (r4.1,(false,0))) (
 tif (e.2.2.2) (
 some (0,(false,3))) (
 a0a (z0h n s) fun r7 =>
 some (r7.1,((decide (r7.2=0)),r7.2)))))))))):=by kernel_rfl
theorem c1o (n:Nat)(s:a0l)(i:Int)(fresh:Bool)(l:(List (List UInt8×List UInt8))):a1b (n+1) s i fresh l =
 tif (fresh) (
 a0a (q0q n s.1 l) fun r0 =>
 some r0) (
 a0a (at? s.2.2.2 i) fun r1 =>
 some (r1,0)):=by kernel_rfl
theorem i1g (n:Nat)(c:a0z)(s:b0c)(e:a0j):w0n (n+1) c s e =
 a0a (n0r n c s) fun r0 =>
 b1n (r0.1) (
 tif (!(r0.2=0)) (
 some (([],(0,((0,(0,[])),(([],([],[])),(0,(0,((0,(0,(0,false))),((0,(0,(0,false))),((0,0),(0,(0,0))))))))))),2)) (
 a0a (d0q n e) fun r1 =>
 tif (!(r1=0)) (
 some (([],(0,((0,(0,[])),(([],([],[])),(0,(0,((0,(0,(0,false))),((0,(0,(0,false))),((0,0),(0,(0,0))))))))))),2)) (
 tif (e.1<=s.2.1) (
 some (([],(0,((0,(0,[])),(([],([],[])),(0,(0,((0,(0,(0,false))),((0,(0,(0,false))),((0,0),(0,(0,0))))))))))),9)) (
 tif (c.2.1.1=0) (
 none) (
 none))))) fun r2 =>
 tif (!(r0.2=0)) (
 some (([],(0,((0,(0,[])),(([],([],[])),(0,(0,((0,(0,(0,false))),((0,(0,(0,false))),((0,0),(0,(0,0))))))))))),2)) (
 a0a (d0q n e) fun r3 =>
 tif (!(r3=0)) (
 some (([],(0,((0,(0,[])),(([],([],[])),(0,(0,((0,(0,(0,false))),((0,(0,(0,false))),((0,0),(0,(0,0))))))))))),2)) (
 tif (e.1<=s.2.1) (
 some (([],(0,((0,(0,[])),(([],([],[])),(0,(0,((0,(0,(0,false))),((0,(0,(0,false))),((0,0),(0,(0,0))))))))))),9)) (
 tif (c.2.1.1=0) (
 none) (
 a0a (i1b n r2 (wrap .i64 (Int.tdiv e.1 c.2.1.1))) fun r4 =>
 tif (!(r4.1=0)) (
 some (([],(0,((0,(0,[])),(([],([],[])),(0,(0,((0,(0,(0,false))),((0,(0,(0,false))),((0,0),(0,(0,0))))))))))),r4.1)) (
 a0a (d2i n r4.2 (wrap .i64 (Int.tdiv e.1 c.2.1.1)) e) fun r5 =>
 tif (!(r5.1=0)) (
 some (([],(0,((0,(0,[])),(([],([],[])),(0,(0,((0,(0,(0,false))),((0,(0,(0,false))),((0,0),(0,(0,0))))))))))),r5.1)) (
 some (r5.2.2,0))))))):=by kernel_rfl
theorem u0h (n:Nat)(s:(List b0c)):j0z (n+1) s =
 tif ((List.length s)=0) (
 both (
 some []) (
 tif (((0+(List.length s))*264)<=140737488355328) (
 some ([]++s)) (
 none))) (
 tif (((0+(List.length s))*264)<=140737488355328) (
 some ([]++s)) (
 none)):=by kernel_rfl
theorem n1h (n:Nat)(s:a0l)(l:(List (List UInt8×List UInt8)))(e:a0j):a1v (n+1) s l e =
 a0a (w0t n s l e) fun r0 =>
 tif (!(r0=0)) (
 some (0,(false,r0))) (
 a0a (z0m n s l) fun r1 =>
 tif (r1.2=0) (
 some (r1.1,(false,0))) (
 a0a (z0l n s) fun r2 =>
 some (r2.1,(true,0)))):=by kernel_rfl
theorem z1p (n:Nat)(c:a0z)(l:(List (List UInt8×List UInt8))):s1y (n+1) c l =
 a0a (e0o n c) fun r0 =>
 tif (!(r0=0)) (
 some (([],(0,((0,(0,[])),(([],([],[])),(0,(0,((0,(0,(0,false))),((0,(0,(0,false))),((0,0),(0,(0,0))))))))))),2)) (
 a0a (p0i n l) fun r1 =>
 tif (!(r1=0)) (
 some (([],(0,((0,(0,[])),(([],([],[])),(0,(0,((0,(0,(0,false))),((0,(0,(0,false))),((0,0),(0,(0,0))))))))))),8)) (
 tif (((0+(List.length l))*32)<=140737488355328) (
 a0a (a1x n c) fun r2 =>
 some ((([]++l),(((-1):Int),((0,(0,[])),(r2,(0,(0,((0,(0,(0,false))),((0,(0,(0,false))),((0,0),(0,(0,0))))))))))),0)) (
 none))):=by kernel_rfl
theorem z1o (n:Nat)(c:a0z)(s:b0c)(e:a0j):i1u (n+1) c s e =
 a0a (u0o n c s) fun r0 =>
 tif (!(r0=0)) (
 some (([],(0,((0,(0,[])),(([],([],[])),(0,(0,((0,(0,(0,false))),((0,(0,(0,false))),((0,0),(0,(0,0))))))))))),2)) (
 a0a (e0p n e) fun r1 =>
 tif (!(r1=0)) (
 some (([],(0,((0,(0,[])),(([],([],[])),(0,(0,((0,(0,(0,false))),((0,(0,(0,false))),((0,0),(0,(0,0))))))))))),2)) (
 tif (e.1<=s.2.1) (
 some (([],(0,((0,(0,[])),(([],([],[])),(0,(0,((0,(0,(0,false))),((0,(0,(0,false))),((0,0),(0,(0,0))))))))))),9)) (
 tif (c.2.1.1=0) (
 none) (
 tif (!((decide (s.2.2.2.2.1=0))&&((decide (s.2.2.2.2.2.1=0))&&((decide (s.2.2.2.2.2.2.1.1=0))&&((decide (s.2.2.2.2.2.2.1.2.1=0))&&((decide (s.2.2.2.2.2.2.1.2.2.1=0))&&((s.2.2.2.2.2.2.1.2.2.2==false)&&((decide (s.2.2.2.2.2.2.2.1.1=0))&&((decide (s.2.2.2.2.2.2.2.1.2.1=0))&&((decide (s.2.2.2.2.2.2.2.1.2.2.1=0))&&((s.2.2.2.2.2.2.2.1.2.2.2==false)&&((decide (s.2.2.2.2.2.2.2.2.1.1=0))&&((decide (s.2.2.2.2.2.2.2.2.1.2=0))&&((decide (s.2.2.2.2.2.2.2.2.2.1=0))&&((decide (s.2.2.2.2.2.2.2.2.2.2.1=0))&&(decide (s.2.2.2.2.2.2.2.2.2.2.2=0))))))))))))))))) (
 tif (!(s.2.2.2.2.1=(wrap .i64 (Int.tdiv e.1 c.2.1.1)))) (
 a0a (a1y n c s.2.2.2.1 s.2.2.2.2 (wrap .i64 (Int.tdiv e.1 c.2.1.1))) fun r2 =>
 tif (!(r2.2=0)) (
 some (([],(0,((0,(0,[])),(([],([],[])),(0,(0,((0,(0,(0,false))),((0,(0,(0,false))),((0,0),(0,(0,0))))))))))),r2.2)) (
 a0a (b1b n s.2.2.1 c.1 e) fun r3 =>
 tif (!(r3.2=0)) (
 some (([],(0,((0,(0,[])),(([],([],[])),(0,(0,((0,(0,(0,false))),((0,(0,(0,false))),((0,0),(0,(0,0))))))))))),r3.2)) (
 a0a (b1e n (0,((0,(0,(0,false))),((0,(0,(0,false))),((0,0),(0,(0,0)))))) e) fun r4 =>
 tif (!(r4.2=0)) (
 some (([],(0,((0,(0,[])),(([],([],[])),(0,(0,((0,(0,(0,false))),((0,(0,(0,false))),((0,0),(0,(0,0))))))))))),r4.2)) (
 some ((s.1,(e.1,(r3.1,(r2.1,((wrap .i64 (Int.tdiv e.1 c.2.1.1)),r4.1))))),0))))) (
 a0a (b1b n s.2.2.1 c.1 e) fun r5 =>
 tif (!(r5.2=0)) (
 some (([],(0,((0,(0,[])),(([],([],[])),(0,(0,((0,(0,(0,false))),((0,(0,(0,false))),((0,0),(0,(0,0))))))))))),r5.2)) (
 a0a (b1e n s.2.2.2.2.2 e) fun r6 =>
 tif (!(r6.2=0)) (
 some (([],(0,((0,(0,[])),(([],([],[])),(0,(0,((0,(0,(0,false))),((0,(0,(0,false))),((0,0),(0,(0,0))))))))))),r6.2)) (
 some ((s.1,(e.1,(r5.1,(s.2.2.2.1,((wrap .i64 (Int.tdiv e.1 c.2.1.1)),r6.1))))),0))))) (
 a0a (b1b n s.2.2.1 c.1 e) fun r7 =>
 tif (!(r7.2=0)) (
 some (([],(0,((0,(0,[])),(([],([],[])),(0,(0,((0,(0,(0,false))),((0,(0,(0,false))),((0,0),(0,(0,0))))))))))),r7.2)) (
 a0a (b1e n s.2.2.2.2.2 e) fun r8 =>
 tif (!(r8.2=0)) (
 some (([],(0,((0,(0,[])),(([],([],[])),(0,(0,((0,(0,(0,false))),((0,(0,(0,false))),((0,0),(0,(0,0))))))))))),r8.2)) (
 some ((s.1,(e.1,(r7.1,(s.2.2.2.1,((wrap .i64 (Int.tdiv e.1 c.2.1.1)),r8.1))))),0)))))))):=by kernel_rfl
theorem t1j (n:Nat)(a:(Int×(Int×(List a0j))))(b:(Int×(Int×(List a0j)))):w1k (n+1) a b =
 tif (a.1=b.1) (
 tif (a.2.1=b.2.1) (
 a0a (p0c n a.2.2 b.2.2) fun r0 =>
 some r0) (
 some false)) (
 some false):=by kernel_rfl
theorem t1a (n:Nat)(a:((List a0c)×((List a0c)×(List a0c))))(b:((List a0c)×((List a0c)×(List a0c)))):w1i (n+1) a b =
 a0a (u0r n a.1 b.1) fun r0 =>
 tif (!r0) (
 some false) (
 a0a (u0r n a.2.1 b.2.1) fun r1 =>
 tif (!r1) (
 some false) (
 a0a (u0r n a.2.2 b.2.2) fun r2 =>
 tif (!r2) (
 some false) (
 some true))):=by kernel_rfl
theorem r1m (n:Nat)(t:Int):t0v (n+1) t =
 tif ((0:Int)<=t) (
 some (decide (t<35184372088832))) (
 some false):=by kernel_rfl
theorem m1n (n:Nat)(s:b0c):t0w (n+1) s =
 a0a (k0b n s ([],(0,((0,(0,[])),(([],([],[])),(0,(0,((0,(0,(0,false))),((0,(0,(0,false))),((0,0),(0,(0,0)))))))))))) fun r0 =>
 some r0:=by kernel_rfl
theorem a1s (n:Nat)(c:a0z)(s:b0c):o0y (n+1) c s =
 a0a (n0r n c s) fun r0 =>
 b1n (r0.1) (
 some r0.2) fun r1 =>
 some r0.2:=by kernel_rfl
theorem y0w (n:Nat)(v:a0l):j0a (n+1) v =
 tif (v.1.2.1.1=0) (
 none) (
 some (wrap .i64 (v.2.1-(Int.tmod v.2.1 v.1.2.1.1)))):=by kernel_rfl
theorem y0v (n:Nat)(v:a0l)(i:Int):n0l (n+1) v i =
 a0a (d0l n v (fun y0=>e0m n y0.1 i v)) fun r1 =>
 tif (r1<i) (
 a0a (e0f n v i) fun r2 =>
 some r2) (
 some false):=by kernel_rfl
theorem v0k (n:Nat)(a:(List (List UInt8×List UInt8)))(b:(List (List UInt8×List UInt8))):m0l (n+1) a b =
 a0a (l0i n a b) fun r0 =>
 some r0:=by kernel_rfl
theorem s1i (n:Nat)(a:(Int×(Int×(List a0j))))(b:(Int×(Int×(List a0j)))):w1c (n+1) a b =
 tif (a.1=b.1) (
 tif (a.2.1=b.2.1) (
 a0a (l0j n a.2.2 b.2.2) fun r0 =>
 some r0) (
 some false)) (
 some false):=by kernel_rfl
theorem y0x (n:Nat)(s1:(List a0c))(s2:(List a0c)):g0k (n+1) s1 s2 =
 tif (!((s1.length:Int)=(s2.length:Int))) (
 some false) (
 a0a (f0q n a0b (s1,(s2,((s1.length:Int),(0,()))))) fun r0 =>
 b0u (fun y1 =>
 some true) (fun z2 =>
 some z2) r0):=by kernel_rfl
theorem j0y (n f:Nat)(s1:(List a0c))(s2:(List a0c))(s12:Int)(s13:Int):f0q n (f+1) (s1,s2,s12,s13,()) =
 tif (s13<s12) (
 a0a (at? s1 s13) fun r0 =>
 a0a (at? s2 s13) fun r1 =>
 tif (!((decide (r0.1=r1.1))&&((decide (r0.2.1=r1.2.1))&&((decide (r0.2.2.1.1=r1.2.2.1.1))&&((decide (r0.2.2.1.2.1=r1.2.2.1.2.1))&&((decide (r0.2.2.1.2.2.1=r1.2.2.1.2.2.1))&&((r0.2.2.1.2.2.2==r1.2.2.1.2.2.2)&&((decide (r0.2.2.2.1.1=r1.2.2.2.1.1))&&((decide (r0.2.2.2.1.2.1=r1.2.2.2.1.2.1))&&((decide (r0.2.2.2.1.2.2.1=r1.2.2.2.1.2.2.1))&&((r0.2.2.2.1.2.2.2==r1.2.2.2.1.2.2.2)&&((decide (r0.2.2.2.2.1.1=r1.2.2.2.2.1.1))&&((decide (r0.2.2.2.2.1.2=r1.2.2.2.2.1.2))&&((decide (r0.2.2.2.2.2.1=r1.2.2.2.2.2.1))&&((decide (r0.2.2.2.2.2.2.1=r1.2.2.2.2.2.2.1))&&(decide (r0.2.2.2.2.2.2.2=r1.2.2.2.2.2.2.2))))))))))))))))) (
 some (.inr false)) (
 f0q n f (s1,(s2,(s12,((wrap .i64 (s13+1)),())))))) (
 some (.inl ())):=by kernel_rfl
theorem w0h (n:Nat)(v:a0l)(i:Int):e0f (n+1) v i =
 a0a (at? v.2.2.2 i) fun r0 =>
 a0a (t0w n r0) fun r1 =>
 tif (!r1) (
 tif (v.2.2.1=((-1):Int)) (
 some true) (
 a0a (s0s n v.1 r0.2.1 v.2.2.1) fun r2 =>
 some (!r2))) (
 some false):=by kernel_rfl
theorem k1c (n:Nat)(s:List UInt8):x0e (n+1) s =
 tif (s==[]) (
 some false) (
 tif ((64:Int)<(s.length:Int)) (
 some false) (
 a0a (at? s (0:Int)) fun r0 =>
 a0a (o0c n (((UInt8.toNat r0):Nat):Int)) fun r1 =>
 tif (r1) (
 some false) (
 a0a (f0i n (List.map (fun y2=>(((UInt8.toNat y2):Nat):Int)) s) (fun y3=>p0q n y3.1)) fun r4 =>
 some (!r4)))):=by kernel_rfl
theorem l1h (n:Nat)(n_:Int)(by_:Int):j0p (n+1) n_ by_ =
 tif (by_=0) (
 none) (
 some (wrap .i64 (Int.tdiv (wrap .i64 ((wrap .i64 (n_+by_))-1)) by_))):=by kernel_rfl
theorem o1b (n:Nat)(n_:Int)(each:Int):m0a (n+1) n_ each =
 a0a (k0x n a0b (n_,(each,(0,())))) fun r0 =>
 b0u (fun y1 =>
 some y1.1) (fun z2 =>
 some z2) r0:=by kernel_rfl
theorem p0e (n f:Nat)(n_:Int)(each:Int)(k:Int):k0x n (f+1) (n_,each,k,()) =
 tif ((0:Int)<n_) (
 k0x n f ((wrap .i64 (n_-each)),(each,((wrap .i64 (k+1)),())))) (
 some (.inl (k,()))):=by kernel_rfl
theorem i1j (n:Nat)(s:a0l):w0o (n+1) s =
 a0a (t0x n s) fun r0 =>
 tif (!(r0=0)) (
 some (0,0)) (
 a0a (h1u n s) fun r1 =>
 some (r1,(if (35184372088832:Int)<(wrap .i64 (r1+s.1.2.1.1)) then (35184372088832:Int) else (wrap .i64 (r1+s.1.2.1.1))))):=by kernel_rfl
theorem r1q (n:Nat)(s:a0l)(l:(List (List UInt8×List UInt8))):h1y (n+1) s l =
 a0a (q0j n s) fun r0 =>
 tif (!(r0.2=0)) (
 some (0,r0.2)) (
 a0a (d0l n r0.1 (fun y1=>e0w n y1.1 s l r0.1)) fun r2 =>
 tif (r2<0) (
 some (0,3)) (
 some (r2,0))):=by kernel_rfl
theorem r1o (n:Nat)(s:a0l):z0h (n+1) s =
 a0a (q0j n s) fun r0 =>
 tif (!(r0.2=0)) (
 some (0,r0.2)) (
 a0a (d0l n r0.1 (fun y1=>e0v n y1.1 r0.1)) fun r2 =>
 tif (r2<0) (
 some (0,7)) (
 some (r2,0))):=by kernel_rfl
theorem i1h (n:Nat)(c:a0z)(l:(List (List UInt8×List UInt8))):q0q (n+1) c l =
 a0a (f0f n c) fun r0 =>
 tif (!(r0=0)) (
 some (([],(0,((0,(0,[])),(([],([],[])),(0,(0,((0,(0,(0,false))),((0,(0,(0,false))),((0,0),(0,(0,0))))))))))),r0)) (
 a0a (k0l n l) fun r1 =>
 tif (!(r1=0)) (
 some (([],(0,((0,(0,[])),(([],([],[])),(0,(0,((0,(0,(0,false))),((0,(0,(0,false))),((0,0),(0,(0,0))))))))))),r1)) (
 a0a (l0k n l) fun r2 =>
 a0a (x0h n c) fun r3 =>
 some ((r2,(((-1):Int),((0,(0,[])),(r3,(0,(0,((0,(0,(0,false))),((0,(0,(0,false))),((0,0),(0,(0,0))))))))))),0))):=by kernel_rfl
theorem c1s (n:Nat)(c:a0z)(s:b0c):n0r (n+1) c s =
 a0a (x0j n c s.2.2.2.1) fun r0 =>
 tif (!(r0=0)) (
 some (none,2)) (
 a0a (k0l n s.1) fun r1 =>
 tif (!(r1=0)) (
 some (none,2)) (
 a0a (u0k n s.2.2.1 c.1) fun r2 =>
 tif (!(r2=0)) (
 some (none,2)) (
 tif (s.2.1=((-1):Int)) (
 a0a (a1m n (c,s)) fun r3 =>
 tif (r3) (
 some ((some (c,s)),0)) (
 tif (!(s.2.1=((-1):Int))) (
 a0a (z0j n (c,s)) fun r4 =>
 tif (r4) (
 some ((some (c,s)),0)) (
 some (none,2))) (
 some (none,2)))) (
 tif (!(s.2.1=((-1):Int))) (
 a0a (z0j n (c,s)) fun r5 =>
 tif (r5) (
 some ((some (c,s)),0)) (
 some (none,2))) (
 some (none,2)))))):=by kernel_rfl
theorem r1s (n:Nat)(s:c0l)(i:Int):i1b (n+1) s i =
 tif (s.2.2.2.2.2.1=i) (
 some (0,s)) (
 tif (s.2.2.2.2.2.2.1=0) (
 some (0,s)) (
 a0a (x0i n s.1 s.2.2.2.2.1 s.2.2.2.2.2 i) fun r0 =>
 tif (r0.2=0) (
 some (r0.2,(s.1,(s.2.1,(s.2.2.1,(s.2.2.2.1,(r0.1,(0,(0,((0,(0,(0,false))),((0,(0,(0,false))),((0,0),(0,(0,0)))))))))))))) (
 some (r0.2,s)))):=by kernel_rfl
theorem y1m (n:Nat)(s:c0l)(i:Int)(e:a0j):d2i (n+1) s i e =
 a0a (s1j n s.2.2.2.1 s.1.1 e) fun r0 =>
 a0a (l1n n s.2.2.2.2.2.2 e) fun r1 =>
 tif (!(r0.2=0)) (
 some (r0.2,s)) (
 some (r1.2,(s.1,(s.2.1,(e.1,(r0.1,(s.2.2.2.2.1,(i,r1.1)))))))):=by kernel_rfl
theorem i1s (n:Nat)(s:a0l)(l:(List (List UInt8×List UInt8)))(e:a0j):w0t (n+1) s l e =
 a0a (u0n n s) fun r0 =>
 tif (!(r0=0)) (
 some (2:Int)) (
 a0a (p0i n l) fun r1 =>
 tif (!(r1=0)) (
 some r1) (
 a0a (e0p n e) fun r2 =>
 tif (!(r2=0)) (
 some (2:Int)) (
 a0a (i1r n s) fun r3 =>
 tif (e.1<r3.1) (
 some (9:Int)) (
 tif (r3.2<=e.1) (
 some (9:Int)) (
 a0a (z0m n s l) fun r4 =>
 tif (r4.2=0) (
 a0a (at? s.2.2.2 r4.1) fun r5 =>
 tif (e.1<=r5.2.1) (
 some (9:Int)) (
 some (0:Int))) (
 tif (e.2.2.2) (
 some (3:Int)) (
 a0a (z0l n s) fun r6 =>
 some r6.2))))))):=by kernel_rfl
theorem s1w (n:Nat)(s:a0l)(l:(List (List UInt8×List UInt8))):z0m (n+1) s l =
 a0a (l0w n s) fun r0 =>
 tif (!r0) (
 some (0,2)) (
 a0a (d0n n a0b (l,(s,(s.2.2.2,((s.2.2.2.length:Int),(0,())))))) fun r1 =>
 b0u (fun y2 =>
 some (0,3)) (fun z3 =>
 some z3) r1):=by kernel_rfl
theorem s0f (n f:Nat)(l:(List (List UInt8×List UInt8)))(s_:a0l)(s12:(List b0c))(s13:Int)(s14:Int):d0n n (f+1) (l,s_,s12,s13,s14,()) =
 tif (s14<s13) (
 a0a (at? s12 s14) fun r0 =>
 a0a (l0x n s_ s14) fun r1 =>
 tif (r1) (
 a0a (q0v n r0.1 l) fun r2 =>
 tif (r2) (
 some (.inr (s14,0))) (
 d0n n f (l,(s_,(s12,(s13,((wrap .i64 (s14+1)),()))))))) (
 d0n n f (l,(s_,(s12,(s13,((wrap .i64 (s14+1)),()))))))) (
 some (.inl ())):=by kernel_rfl
theorem s1v (n:Nat)(s:a0l):z0l (n+1) s =
 a0a (l0w n s) fun r0 =>
 tif (!r0) (
 some (0,2)) (
 a0a (f0s n a0b (s,((s.2.2.2.length:Int),(0,())))) fun r1 =>
 b0u (fun y2 =>
 some (0,7)) (fun z3 =>
 some z3) r1):=by kernel_rfl
theorem s0e (n f:Nat)(s_:a0l)(s10:Int)(s11:Int):f0s n (f+1) (s_,s10,s11,()) =
 tif (s11<s10) (
 a0a (l0x n s_ s11) fun r0 =>
 tif (!r0) (
 some (.inr (s11,0))) (
 f0s n f (s_,(s10,((wrap .i64 (s11+1)),()))))) (
 some (.inl ())):=by kernel_rfl
theorem n1u (n:Nat)(c:a0z):a1x (n+1) c =
 a0a (e0o n c) fun r0 =>
 tif (!(r0=0)) (
 some ([],([],[]))) (
 a0a (a1z n c.2.2.1.1) fun r1 =>
 a0a (a1z n c.2.2.1.2.1) fun r2 =>
 a0a (a1z n c.2.2.1.2.2) fun r3 =>
 some (r1,(r2,r3))):=by kernel_rfl
theorem n1s (n:Nat)(c:a0z)(s:b0c):u0o (n+1) c s =
 a0a (e0o n c) fun r0 =>
 tif (!(r0=0)) (
 some (2:Int)) (
 a0a (p0i n s.1) fun r1 =>
 tif (!(r1=0)) (
 some (2:Int)) (
 a0a (u0u n s.2.2.1 c.1) fun r2 =>
 tif (!(r2=0)) (
 some (2:Int)) (
 a0a (u0p n c s.2.2.2.1) fun r3 =>
 tif (!(r3=0)) (
 some (2:Int)) (
 tif (s.2.1=((-1):Int)) (
 tif ((0:Int)<(s.2.2.1.2.2.length:Int)) (
 some (2:Int)) (
 tif (!((decide (s.2.2.2.2.1=0))&&((decide (s.2.2.2.2.2.1=0))&&((decide (s.2.2.2.2.2.2.1.1=0))&&((decide (s.2.2.2.2.2.2.1.2.1=0))&&((decide (s.2.2.2.2.2.2.1.2.2.1=0))&&((s.2.2.2.2.2.2.1.2.2.2==false)&&((decide (s.2.2.2.2.2.2.2.1.1=0))&&((decide (s.2.2.2.2.2.2.2.1.2.1=0))&&((decide (s.2.2.2.2.2.2.2.1.2.2.1=0))&&((s.2.2.2.2.2.2.2.1.2.2.2==false)&&((decide (s.2.2.2.2.2.2.2.2.1.1=0))&&((decide (s.2.2.2.2.2.2.2.2.1.2=0))&&((decide (s.2.2.2.2.2.2.2.2.2.1=0))&&((decide (s.2.2.2.2.2.2.2.2.2.2.1=0))&&(decide (s.2.2.2.2.2.2.2.2.2.2.2=0))))))))))))))))) (
 some (2:Int)) (
 a0a (e0n n a0b (s,(0,()))) fun r4 =>
 b0u (fun y5 =>
 some (0:Int)) (fun z6 =>
 some z6) r4))) (
 a0a (i1z n s.2.2.1) fun r7 =>
 tif (!(r7.2=0)) (
 some (2:Int)) (
 tif (!(r7.1.1=s.2.1)) (
 some (2:Int)) (
 a0a (q0t n s.2.2.2.2.2 c.2.1.1 s.2.2.2.2.1) fun r8 =>
 tif (!r8) (
 some (2:Int)) (
 tif (!(s.2.2.2.2.2.2.2.1.1=s.2.1)) (
 some (2:Int)) (
 a0a (e0b n a0b (c,(s,(0,())))) fun r9 =>
 b0u (fun y10 =>
 some (0:Int)) (fun z11 =>
 some z11) r9))))))))):=by kernel_rfl
theorem g0p (n f:Nat)(s_:b0c)(k:Int):e0n n (f+1) (s_,k,()) =
 tif (k<3) (
 tif (k=0) (
 a0a (n0x n s_.2.2.2.1.1) fun r0 =>
 tif ((0:Int)<(r0.length:Int)) (
 some (.inr (2:Int))) (
 e0n n f (s_,((wrap .i64 (k+1)),())))) (
 tif (k=1) (
 a0a (n0x n s_.2.2.2.1.2.1) fun r1 =>
 tif ((0:Int)<(r1.length:Int)) (
 some (.inr (2:Int))) (
 e0n n f (s_,((wrap .i64 (k+1)),())))) (
 tif (k=2) (
 a0a (n0x n s_.2.2.2.1.2.2) fun r2 =>
 tif ((0:Int)<(r2.length:Int)) (
 some (.inr (2:Int))) (
 e0n n f (s_,((wrap .i64 (k+1)),())))) (
 none)))) (
 some (.inl ())):=by kernel_rfl
theorem f0r (n f:Nat)(c_:a0z)(s_:b0c)(k_:Int):e0b n (f+1) (c_,s_,k_,()) =
 tif (k_<3) (
 tif (k_=0) (
 a0a (n0x n s_.2.2.2.1.1) fun r0 =>
 a0a (b0t n a0b (c_,(s_,(k_,(r0,((r0.length:Int),(0,()))))))) fun r1 =>
 b0u (fun y2 =>
 e0b n f (y2.1,(y2.2.1,((wrap .i64 (y2.2.2.1+1)),())))) (fun z3 =>
 some (.inr z3)) r1) (
 tif (k_=1) (
 a0a (n0x n s_.2.2.2.1.2.1) fun r4 =>
 a0a (b0t n a0b (c_,(s_,(k_,(r4,((r4.length:Int),(0,()))))))) fun r5 =>
 b0u (fun y6 =>
 e0b n f (y6.1,(y6.2.1,((wrap .i64 (y6.2.2.1+1)),())))) (fun z7 =>
 some (.inr z7)) r5) (
 tif (k_=2) (
 a0a (n0x n s_.2.2.2.1.2.2) fun r8 =>
 a0a (b0t n a0b (c_,(s_,(k_,(r8,((r8.length:Int),(0,()))))))) fun r9 =>
 b0u (fun y10 =>
 e0b n f (y10.1,(y10.2.1,((wrap .i64 (y10.2.2.1+1)),())))) (fun z11 =>
 some (.inr z11)) r9) (
 none)))) (
 some (.inl ())):=by kernel_rfl
theorem d0f (n f:Nat)(c_:a0z)(s_:b0c)(k_:Int)(s106:(List a0c))(s107:Int)(s108:Int):b0t n (f+1) (c_,s_,k_,s106,s107,s108,()) =
 tif (s108<s107) (
 a0a (at? s106 s108) fun r0 =>
 tif (k_=0) (
 tif (c_.2.1.1=0) (
 none) (
 tif ((wrap .i64 (Int.tdiv s_.2.1 c_.2.1.1))<=r0.1) (
 some (.inr (2:Int))) (
 b0t n f (c_,(s_,(k_,(s106,(s107,((wrap .i64 (s108+1)),()))))))))) (
 tif (k_=1) (
 tif (c_.2.1.2.1=0) (
 none) (
 tif ((wrap .i64 (Int.tdiv s_.2.1 c_.2.1.2.1))<=r0.1) (
 some (.inr (2:Int))) (
 b0t n f (c_,(s_,(k_,(s106,(s107,((wrap .i64 (s108+1)),()))))))))) (
 tif (k_=2) (
 tif (c_.2.1.2.2=0) (
 none) (
 tif ((wrap .i64 (Int.tdiv s_.2.1 c_.2.1.2.2))<=r0.1) (
 some (.inr (2:Int))) (
 b0t n f (c_,(s_,(k_,(s106,(s107,((wrap .i64 (s108+1)),()))))))))) (
 none)))) (
 some (.inl (c_,(s_,(k_,()))))):=by kernel_rfl
theorem n1v (n:Nat)(c:a0z)(s:((List a0c)×((List a0c)×(List a0c))))(open_:a0c)(j:Int):a1y (n+1) c s open_ j =
 a0a (u0p n c s) fun r0 =>
 tif (!(r0=0)) (
 some (([],([],[])),2)) (
 tif (!((decide (open_.1=0))&&((decide (open_.2.1=0))&&((decide (open_.2.2.1.1=0))&&((decide (open_.2.2.1.2.1=0))&&((decide (open_.2.2.1.2.2.1=0))&&((open_.2.2.1.2.2.2==false)&&((decide (open_.2.2.2.1.1=0))&&((decide (open_.2.2.2.1.2.1=0))&&((decide (open_.2.2.2.1.2.2.1=0))&&((open_.2.2.2.1.2.2.2==false)&&((decide (open_.2.2.2.2.1.1=0))&&((decide (open_.2.2.2.2.1.2=0))&&((decide (open_.2.2.2.2.2.1=0))&&((decide (open_.2.2.2.2.2.2.1=0))&&(decide (open_.2.2.2.2.2.2.2=0))))))))))))))))) (
 a0a (q0t n open_.2 c.2.1.1 open_.1) fun r1 =>
 tif (!r1) (
 some (([],([],[])),2)) (
 tif ((decide (open_.1=0))&&((decide (open_.2.1=0))&&((decide (open_.2.2.1.1=0))&&((decide (open_.2.2.1.2.1=0))&&((decide (open_.2.2.1.2.2.1=0))&&((open_.2.2.1.2.2.2==false)&&((decide (open_.2.2.2.1.1=0))&&((decide (open_.2.2.2.1.2.1=0))&&((decide (open_.2.2.2.1.2.2.1=0))&&((open_.2.2.2.1.2.2.2==false)&&((decide (open_.2.2.2.2.1.1=0))&&((decide (open_.2.2.2.2.1.2=0))&&((decide (open_.2.2.2.2.2.1=0))&&((decide (open_.2.2.2.2.2.2.1=0))&&(decide (open_.2.2.2.2.2.2.2=0)))))))))))))))) (
 some (s,0)) (
 tif (open_.1=j) (
 some (s,0)) (
 tif (j<open_.1) (
 some (([],([],[])),1)) (
 a0a (q0s n j c.2.1.1) fun r2 =>
 tif (!r2) (
 some (([],([],[])),1)) (
 a0a (k0h n s.1 c.2.1.1 open_.1 open_.2) fun r3 =>
 a0a (w1h n c (r3.1,s.2) open_.1 j) fun r4 =>
 some (r4,0))))))) (
 tif ((decide (open_.1=0))&&((decide (open_.2.1=0))&&((decide (open_.2.2.1.1=0))&&((decide (open_.2.2.1.2.1=0))&&((decide (open_.2.2.1.2.2.1=0))&&((open_.2.2.1.2.2.2==false)&&((decide (open_.2.2.2.1.1=0))&&((decide (open_.2.2.2.1.2.1=0))&&((decide (open_.2.2.2.1.2.2.1=0))&&((open_.2.2.2.1.2.2.2==false)&&((decide (open_.2.2.2.2.1.1=0))&&((decide (open_.2.2.2.2.1.2=0))&&((decide (open_.2.2.2.2.2.1=0))&&((decide (open_.2.2.2.2.2.2.1=0))&&(decide (open_.2.2.2.2.2.2.2=0)))))))))))))))) (
 some (s,0)) (
 tif (open_.1=j) (
 some (s,0)) (
 tif (j<open_.1) (
 some (([],([],[])),1)) (
 a0a (q0s n j c.2.1.1) fun r5 =>
 tif (!r5) (
 some (([],([],[])),1)) (
 a0a (k0h n s.1 c.2.1.1 open_.1 open_.2) fun r6 =>
 a0a (w1h n c (r6.1,s.2) open_.1 j) fun r7 =>
 some (r7,0))))))):=by kernel_rfl
theorem z1y (n:Nat)(r:(Int×(Int×(List a0j))))(room:Int)(e:a0j):b1b (n+1) r room e =
 a0a (u0u n r room) fun r0 =>
 tif (!(r0=0)) (
 some ((0,(0,[])),2)) (
 a0a (e0p n e) fun r1 =>
 tif (!(r1=0)) (
 some ((0,(0,[])),2)) (
 tif ((0:Int)<(r.2.2.length:Int)) (
 a0a (at? r.2.2 (wrap .i64 ((r.2.2.length:Int)-1))) fun r2 =>
 tif (e.1<=r2.1) (
 some ((0,(0,[])),9)) (
 tif ((r.2.2.length:Int)=room) (
 tif (r.1=70368744177664) (
 some ((0,(0,[])),1)) (
 tif (((0+(List.length r.2.2))*32)<=140737488355328) (
 tif ((((List.length ([]++r.2.2))+1)*32)<=140737488355328) (
 tif ((r.2.2.length:Int)<room) (
 some ((r.1,(r.2.1,(([]++r.2.2)++(e::[])))),0)) (
 a0a (at? (([]++r.2.2)++(e::[])) (0:Int)) fun r3 =>
 a0a ((([]++r.2.2)++(e::[]))[0]?) fun r4 =>
 tif (1<=(List.length (([]++r.2.2)++(e::[])))) (
 some (((wrap .i64 (r.1+1)),(r4.1,(List.take ((List.length (([]++r.2.2)++(e::[])))-1) (List.drop 1 (([]++r.2.2)++(e::[])))))),0)) (
 none))) (
 none)) (
 none))) (
 tif (((0+(List.length r.2.2))*32)<=140737488355328) (
 tif ((((List.length ([]++r.2.2))+1)*32)<=140737488355328) (
 tif ((r.2.2.length:Int)<room) (
 some ((r.1,(r.2.1,(([]++r.2.2)++(e::[])))),0)) (
 a0a (at? (([]++r.2.2)++(e::[])) (0:Int)) fun r5 =>
 a0a ((([]++r.2.2)++(e::[]))[0]?) fun r6 =>
 tif (1<=(List.length (([]++r.2.2)++(e::[])))) (
 some (((wrap .i64 (r.1+1)),(r6.1,(List.take ((List.length (([]++r.2.2)++(e::[])))-1) (List.drop 1 (([]++r.2.2)++(e::[])))))),0)) (
 none))) (
 none)) (
 none)))) (
 tif ((r.2.2.length:Int)=room) (
 tif (r.1=70368744177664) (
 some ((0,(0,[])),1)) (
 tif (((0+(List.length r.2.2))*32)<=140737488355328) (
 tif ((((List.length ([]++r.2.2))+1)*32)<=140737488355328) (
 tif ((r.2.2.length:Int)<room) (
 some ((r.1,(r.2.1,(([]++r.2.2)++(e::[])))),0)) (
 a0a (at? (([]++r.2.2)++(e::[])) (0:Int)) fun r7 =>
 a0a ((([]++r.2.2)++(e::[]))[0]?) fun r8 =>
 tif (1<=(List.length (([]++r.2.2)++(e::[])))) (
 some (((wrap .i64 (r.1+1)),(r8.1,(List.take ((List.length (([]++r.2.2)++(e::[])))-1) (List.drop 1 (([]++r.2.2)++(e::[])))))),0)) (
 none))) (
 none)) (
 none))) (
 tif (((0+(List.length r.2.2))*32)<=140737488355328) (
 tif ((((List.length ([]++r.2.2))+1)*32)<=140737488355328) (
 tif ((r.2.2.length:Int)<room) (
 some ((r.1,(r.2.1,(([]++r.2.2)++(e::[])))),0)) (
 a0a (at? (([]++r.2.2)++(e::[])) (0:Int)) fun r9 =>
 a0a ((([]++r.2.2)++(e::[]))[0]?) fun r10 =>
 tif (1<=(List.length (([]++r.2.2)++(e::[])))) (
 some (((wrap .i64 (r.1+1)),(r10.1,(List.take ((List.length (([]++r.2.2)++(e::[])))-1) (List.drop 1 (([]++r.2.2)++(e::[])))))),0)) (
 none))) (
 none)) (
 none))))):=by kernel_rfl
theorem a2b (n:Nat)(c:b0f)(e:a0j):b1e (n+1) c e =
 a0a (e2r n (e::[])) fun r0 =>
 tif (!(r0.2=0)) (
 some ((0,((0,(0,(0,false))),((0,(0,(0,false))),((0,0),(0,(0,0)))))),r0.2)) (
 a0a (u0z n c r0.1) fun r1 =>
 some r1):=by kernel_rfl
theorem b1a (n:Nat)(a:(List a0j))(b:(List a0j)):p0c (n+1) a b =
 tif (!((a.length:Int)=(b.length:Int))) (
 some false) (
 a0a (g0r n a0b (a,(b,((a.length:Int),(0,()))))) fun r0 =>
 b0u (fun y1 =>
 some true) (fun z2 =>
 some z2) r0):=by kernel_rfl
theorem k0w (n f:Nat)(a:(List a0j))(b:(List a0j))(s12:Int)(s13:Int):g0r n (f+1) (a,b,s12,s13,()) =
 tif (s13<s12) (
 a0a (at? a s13) fun r0 =>
 a0a (at? b s13) fun r1 =>
 tif (!((decide (r0.1=r1.1))&&((decide (r0.2.1=r1.2.1))&&((decide (r0.2.2.1=r1.2.2.1))&&(r0.2.2.2==r1.2.2.2))))) (
 some (.inr false)) (
 g0r n f (a,(b,(s12,((wrap .i64 (s13+1)),())))))) (
 some (.inl ())):=by kernel_rfl
theorem t1e (n:Nat)(a:(List a0c))(b:(List a0c)):u0r (n+1) a b =
 tif (!((a.length:Int)=(b.length:Int))) (
 some false) (
 a0a (n0w n a0b (a,(b,((a.length:Int),(0,()))))) fun r0 =>
 b0u (fun y1 =>
 some true) (fun z2 =>
 some z2) r0):=by kernel_rfl
theorem s0g (n f:Nat)(a:(List a0c))(b:(List a0c))(s12:Int)(s13:Int):n0w n (f+1) (a,b,s12,s13,()) =
 tif (s13<s12) (
 a0a (at? a s13) fun r0 =>
 a0a (at? b s13) fun r1 =>
 tif (!((decide (r0.1=r1.1))&&((decide (r0.2.1=r1.2.1))&&((decide (r0.2.2.1.1=r1.2.2.1.1))&&((decide (r0.2.2.1.2.1=r1.2.2.1.2.1))&&((decide (r0.2.2.1.2.2.1=r1.2.2.1.2.2.1))&&((r0.2.2.1.2.2.2==r1.2.2.1.2.2.2)&&((decide (r0.2.2.2.1.1=r1.2.2.2.1.1))&&((decide (r0.2.2.2.1.2.1=r1.2.2.2.1.2.1))&&((decide (r0.2.2.2.1.2.2.1=r1.2.2.2.1.2.2.1))&&((r0.2.2.2.1.2.2.2==r1.2.2.2.1.2.2.2)&&((decide (r0.2.2.2.2.1.1=r1.2.2.2.2.1.1))&&((decide (r0.2.2.2.2.1.2=r1.2.2.2.2.1.2))&&((decide (r0.2.2.2.2.2.1=r1.2.2.2.2.2.1))&&((decide (r0.2.2.2.2.2.2.1=r1.2.2.2.2.2.2.1))&&(decide (r0.2.2.2.2.2.2.2=r1.2.2.2.2.2.2.2))))))))))))))))) (
 some (.inr false)) (
 n0w n f (a,(b,(s12,((wrap .i64 (s13+1)),())))))) (
 some (.inl ())):=by kernel_rfl
theorem t0u (n:Nat)(k:Int)(p1:Int)(p2:a0l):e0m (n+1) k p1 p2 =
 tif (k=p1) (
 some true) (
 a0a (e0f n p2 k) fun r0 =>
 tif (r0) (
 a0a (at? p2.2.2.2 k) fun r1 =>
 a0a (at? p2.2.2.2 p1) fun r2 =>
 a0a (m0l n r1.1 r2.1) fun r3 =>
 some r3) (
 some false)):=by kernel_rfl
theorem w0j (n:Nat)(s1:(List (List UInt8×List UInt8)))(s2:(List (List UInt8×List UInt8))):l0i (n+1) s1 s2 =
 tif (!((s1.length:Int)=(s2.length:Int))) (
 some false) (
 a0a (e0x n a0b (s1,(s2,((s1.length:Int),(0,()))))) fun r0 =>
 b0u (fun y1 =>
 some true) (fun z2 =>
 some z2) r0):=by kernel_rfl
theorem i0s (n f:Nat)(s1:(List (List UInt8×List UInt8)))(s2:(List (List UInt8×List UInt8)))(s12:Int)(s13:Int):e0x n (f+1) (s1,s2,s12,s13,()) =
 tif (s13<s12) (
 a0a (at? s1 s13) fun r0 =>
 a0a (at? s2 s13) fun r1 =>
 tif (!((r0.1==r1.1)&&(r0.2==r1.2))) (
 some (.inr false)) (
 e0x n f (s1,(s2,(s12,((wrap .i64 (s13+1)),())))))) (
 some (.inl ())):=by kernel_rfl
theorem w0k (n:Nat)(s1:(List a0j))(s2:(List a0j)):l0j (n+1) s1 s2 =
 tif (!((s1.length:Int)=(s2.length:Int))) (
 some false) (
 a0a (e0y n a0b (s1,(s2,((s1.length:Int),(0,()))))) fun r0 =>
 b0u (fun y1 =>
 some true) (fun z2 =>
 some z2) r0):=by kernel_rfl
theorem i0t (n f:Nat)(s1:(List a0j))(s2:(List a0j))(s12:Int)(s13:Int):e0y n (f+1) (s1,s2,s12,s13,()) =
 tif (s13<s12) (
 a0a (at? s1 s13) fun r0 =>
 a0a (at? s2 s13) fun r1 =>
 tif (!((decide (r0.1=r1.1))&&((decide (r0.2.1=r1.2.1))&&((decide (r0.2.2.1=r1.2.2.1))&&(r0.2.2.2==r1.2.2.2))))) (
 some (.inr false)) (
 e0y n f (s1,(s2,(s12,((wrap .i64 (s13+1)),())))))) (
 some (.inl ())):=by kernel_rfl
theorem c1u (n:Nat)(c:a0z)(last:Int)(now:Int):s0s (n+1) c last now =
 a0a (f0f n c) fun r0 =>
 tif (r0=0) (
 a0a (a1f n last now c.2.1.1 c.2.2.1.1) fun r1 =>
 tif (r1) (
 a0a (a1f n last now c.2.1.2.1 c.2.2.1.2.1) fun r2 =>
 tif (r2) (
 a0a (a1f n last now c.2.1.2.2 c.2.2.1.2.2) fun r3 =>
 tif (r3) (
 some r3) (
 some r3)) (
 some r2)) (
 some r1)) (
 some (decide (r0=0))):=by kernel_rfl
theorem d1w (n:Nat)(c:Int):o0c (n+1) c =
 tif ((48:Int)<=c) (
 some (decide (c<=57))) (
 some false):=by kernel_rfl
theorem n0n (n:Nat)(s:(List Int))(f_:((Int×Unit)->Option Bool)):f0i (n+1) s f_ =
 a0a (l0v n s f_) fun r0 =>
 some (decide ((0:Int)<=r0)):=by kernel_rfl
theorem b1q (n:Nat)(c:Int):p0q (n+1) c =
 a0a (x0d n c) fun r0 =>
 some (!r0):=by kernel_rfl
theorem k1b (n:Nat)(c:Int):x0d (n+1) c =
 a0a (o0c n c) fun r0 =>
 tif (r0) (
 some true) (
 tif (c=95) (
 some true) (
 tif ((97:Int)<=(orI .u8 c (32:Int))) (
 some (decide ((orI .u8 c (32:Int))<=122))) (
 some false))):=by kernel_rfl
theorem r1p (n:Nat)(s:a0l):h1u (n+1) s =
 a0a (q0j n s) fun r0 =>
 tif (!(r0.2=0)) (
 some (0:Int)) (
 a0a (t0v n s.2.1) fun r1 =>
 tif (!r1) (
 some (0:Int)) (
 a0a (j0a n r0.1) fun r2 =>
 some r2)):=by kernel_rfl
theorem h1w (n:Nat)(i:Int)(p1:a0l)(p2:(List (List UInt8×List UInt8)))(p3:a0l):e0w (n+1) i p1 p2 p3 =
 a0a (at? p1.2.2.2 i) fun r0 =>
 a0a (m0l n r0.1 p2) fun r1 =>
 tif (r1) (
 a0a (e0f n p3 i) fun r2 =>
 some r2) (
 some false):=by kernel_rfl
theorem h1s (n:Nat)(i:Int)(p1:a0l):e0v (n+1) i p1 =
 a0a (e0f n p1 i) fun r0 =>
 some (!r0):=by kernel_rfl
theorem w0l (n:Nat)(s:(List (List UInt8×List UInt8))):l0k (n+1) s =
 tif ((List.length s)=0) (
 both (
 some []) (
 tif (((0+(List.length s))*32)<=140737488355328) (
 some ([]++s)) (
 none))) (
 tif (((0+(List.length s))*32)<=140737488355328) (
 some ([]++s)) (
 none)):=by kernel_rfl
theorem k1h (n:Nat)(c:a0z):x0h (n+1) c =
 a0a (f0f n c) fun r0 =>
 tif (!(r0=0)) (
 some ([],([],[]))) (
 a0a (t0q n c.2.2.1.1) fun r1 =>
 a0a (t0q n c.2.2.1.2.1) fun r2 =>
 a0a (t0q n c.2.2.1.2.2) fun r3 =>
 some (r1,(r2,r3))):=by kernel_rfl
theorem k1j (n:Nat)(c:a0z)(s:((List a0c)×((List a0c)×(List a0c)))):x0j (n+1) c s =
 a0a (v0t n c s) fun r0 =>
 b1n (r0.1) (
 some r0.2) fun r1 =>
 some r0.2:=by kernel_rfl
theorem n1g (n:Nat)(r:(Int×(Int×(List a0j))))(room:Int):u0k (n+1) r room =
 tif (room<1) (
 some (2:Int)) (
 tif ((4096:Int)<room) (
 some (2:Int)) (
 tif (room<(r.2.2.length:Int)) (
 some (2:Int)) (
 tif (r.1<0) (
 some (2:Int)) (
 tif ((70368744177664:Int)<r.1) (
 some (2:Int)) (
 a0a (w0r n r.2.2) fun r0 =>
 tif (!r0) (
 some (2:Int)) (
 a0a (f1i n r room) fun r1 =>
 tif (!r1) (
 some (2:Int)) (
 some (0:Int)))))))):=by kernel_rfl
theorem m1q (n:Nat)(s:c0l):a1m (n+1) s =
 tif ((s.2.2.2.1.2.2.length:Int)=0) (
 tif ((decide (s.2.2.2.2.2.1=0))&&((decide (s.2.2.2.2.2.2.1=0))&&((decide (s.2.2.2.2.2.2.2.1.1=0))&&((decide (s.2.2.2.2.2.2.2.1.2.1=0))&&((decide (s.2.2.2.2.2.2.2.1.2.2.1=0))&&((s.2.2.2.2.2.2.2.1.2.2.2==false)&&((decide (s.2.2.2.2.2.2.2.2.1.1=0))&&((decide (s.2.2.2.2.2.2.2.2.1.2.1=0))&&((decide (s.2.2.2.2.2.2.2.2.1.2.2.1=0))&&((s.2.2.2.2.2.2.2.2.1.2.2.2==false)&&((decide (s.2.2.2.2.2.2.2.2.2.1.1=0))&&((decide (s.2.2.2.2.2.2.2.2.2.1.2=0))&&((decide (s.2.2.2.2.2.2.2.2.2.2.1=0))&&((decide (s.2.2.2.2.2.2.2.2.2.2.2.1=0))&&(decide (s.2.2.2.2.2.2.2.2.2.2.2.2=0)))))))))))))))) (
 a0a (d0h n s.2.2.2.2.1.1 (0:Int)) fun r0 =>
 tif (!r0) (
 a0a (d0h n s.2.2.2.2.1.2.1 (0:Int)) fun r1 =>
 tif (!r1) (
 a0a (d0h n s.2.2.2.2.1.2.2 (0:Int)) fun r2 =>
 some (!r2)) (
 some false)) (
 some false)) (
 some false)) (
 some false):=by kernel_rfl
theorem r1t (n:Nat)(s:c0l):z0j (n+1) s =
 a0a (z0k n s.2.2.2.1) fun r0 =>
 tif (r0.2=0) (
 tif (r0.1.1=s.2.2.1) (
 tif (s.2.2.2.2.2.2.2.2.1.1=s.2.2.1) (
 a0a (j0u n s.2.2.2.2.2.2 s.1.2.1.1 s.2.2.2.2.2.1) fun r1 =>
 tif (r1) (
 tif (s.1.2.1.1=0) (
 none) (
 a0a (d0h n s.2.2.2.2.1.1 (wrap .i64 (Int.tdiv s.2.2.1 s.1.2.1.1))) fun r2 =>
 tif (!r2) (
 tif (s.1.2.1.2.1=0) (
 none) (
 a0a (d0h n s.2.2.2.2.1.2.1 (wrap .i64 (Int.tdiv s.2.2.1 s.1.2.1.2.1))) fun r3 =>
 tif (!r3) (
 tif (s.1.2.1.2.2=0) (
 none) (
 a0a (d0h n s.2.2.2.2.1.2.2 (wrap .i64 (Int.tdiv s.2.2.1 s.1.2.1.2.2))) fun r4 =>
 some (!r4))) (
 some false))) (
 some false))) (
 some false)) (
 some false)) (
 some false)) (
 some false):=by kernel_rfl
end Go.Proofs.YtfibfcjepngbmaaGreatDoor
