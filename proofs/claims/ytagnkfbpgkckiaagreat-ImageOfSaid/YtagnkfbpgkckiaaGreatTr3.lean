/- Trees, printed by program. -/
import Derived.Test.YtagnkfbpgkckiaaGreatTr0
import Derived.KernelRfl
set_option linter.unusedVariables false
open Go.IntKind (wrap)
namespace Go.Proofs.YtagnkfbpgkckiaaGreat
open Go.Flat
theorem t1o (n:Nat)(s:b0b):a1z (n+1) s =
 a0a (f0q n s.1) fun r0 =>
 tif (r0=0) (
 some (decide ((s.2.2.2.length:Int)=s.1.2.2.2.1))) (
 some false):=by kernel_rfl
theorem y1l (n:Nat)(t:Int):b1a (n+1) t =
 tif ((0:Int)<=t) (
 some (decide (t<35184372088832))) (
 some false):=by kernel_rfl
theorem y1n (n:Nat)(s:b0b):b1d (n+1) s =
 a0a (a1z n s) fun r0 =>
 tif (!r0) (
 some (0:Int)) (
 a0a (b1a n s.2.1) fun r1 =>
 tif (!r1) (
 some (0:Int)) (
 tif (s.1.2.1.1=0) (
 none) (
 some (wrap .i64 ((wrap .i64 (Int.tdiv s.2.1 s.1.2.1.1))*s.1.2.1.1))))):=by kernel_rfl
theorem t1q (n:Nat)(s:b0b)(i:Int):b1c (n+1) s i =
 a0a (at? s.2.2.2 i) fun r0 =>
 a0a (u0y n r0) fun r1 =>
 tif (!r1) (
 tif (s.2.2.1=((-1):Int)) (
 some true) (
 a0a (at? s.2.2.2 i) fun r2 =>
 a0a (p1q n s.1 r2.2.1 s.2.2.1) fun r3 =>
 some (!r3))) (
 some false):=by kernel_rfl
theorem z1f (n:Nat)(a:(List (List UInt8×List UInt8)))(b:(List (List UInt8×List UInt8))):g1r (n+1) a b =
 tif (!((a.length:Int)=(b.length:Int))) (
 some false) (
 a0a (s0y n a0b (a,(b,((a.length:Int),(0,()))))) fun r0 =>
 b0g (fun y1 =>
 some true) (fun z2 =>
 some z2) r0):=by kernel_rfl
theorem y0d (n f:Nat)(a:(List (List UInt8×List UInt8)))(b:(List (List UInt8×List UInt8)))(s12:Int)(s13:Int):s0y n (f+1) (a,b,s12,s13,()) =
 tif (s13<s12) (
 a0a (at? a s13) fun r0 =>
 a0a (at? b s13) fun r1 =>
 tif (!((r0.1==r1.1)&&(r0.2==r1.2))) (
 some (.inr false)) (
 s0y n f (a,(b,(s12,((wrap .i64 (s13+1)),())))))) (
 some (.inl ())):=by kernel_rfl
theorem m1j (n:Nat)(n_:Int)(low:Int)(high:Int):h0o (n+1) n_ low high =
 tif (low<=n_) (
 some (decide (n_<=high))) (
 some false):=by kernel_rfl
theorem g1g (n:Nat)(n_:Int)(low:Int)(high:Int):k0j (n+1) n_ low high =
 tif (low<=n_) (
 some (decide (n_<=high))) (
 some false):=by kernel_rfl
theorem u0e (n:Nat)(x:Int)(y:Int):t0g (n+1) x y =
 a0a (h0d n x y) fun r0 =>
 some r0:=by kernel_rfl
theorem l1e (n:Nat)(c:a0r)(s:a0f):y0p (n+1) c s =
 a0a (e1j n c s.2.2.2.1) fun r0 =>
 tif (!(r0=0)) (
 some (none,2)) (
 a0a (o0l n s.1) fun r1 =>
 tif (!(r1=0)) (
 some (none,2)) (
 a0a (i1n n s.2.2.1 c.1) fun r2 =>
 tif (!(r2=0)) (
 some (none,2)) (
 tif (s.2.1=((-1):Int)) (
 a0a (i1a n (c,s)) fun r3 =>
 tif (r3) (
 some ((some (c,s)),0)) (
 tif (!(s.2.1=((-1):Int))) (
 a0a (g1m n (c,s)) fun r4 =>
 tif (r4) (
 some ((some (c,s)),0)) (
 some (none,2))) (
 some (none,2)))) (
 tif (!(s.2.1=((-1):Int))) (
 a0a (g1m n (c,s)) fun r5 =>
 tif (r5) (
 some ((some (c,s)),0)) (
 some (none,2))) (
 some (none,2)))))):=by kernel_rfl
theorem l1t (n:Nat)(l:(List (List UInt8×List UInt8))):y0v (n+1) l =
 a0a (o0l n l) fun r0 =>
 tif (!(r0=0)) (
 some ([],r0)) (
 a0a (i0c n [] (wrap .u64 (l.length:Int))) fun r1 =>
 a0a (l0m n a0b (r1,(l,((l.length:Int),(0,()))))) fun r2 =>
 b0g (fun y3 =>
 a0a (d0h n y3.1) fun r4 =>
 some (r4.1,0)) (fun z5 =>
 some z5) r2):=by kernel_rfl
theorem r0n (n f:Nat)(w:(List Int))(s17:(List (List UInt8×List UInt8)))(s18:Int)(s19:Int):l0m n (f+1) (w,s17,s18,s19,()) =
 tif (s19<s18) (
 a0a (at? s17 s19) fun r0 =>
 a0a (i0d n w r0.1) fun r1 =>
 a0a (i0d n r1 r0.2) fun r2 =>
 l0m n f (r2,(s17,(s18,((wrap .i64 (s19+1)),()))))) (
 some (.inl (w,()))):=by kernel_rfl
theorem u1a (n:Nat)(c:a0r):b1j (n+1) c =
 a0a (r0f n c.1 (16:Int)) fun r0 =>
 a0a (r0f n c.2.2.1.1 (4:Int)) fun r1 =>
 a0a (r0f n c.2.2.1.2.1 (4:Int)) fun r2 =>
 a0a (r0f n c.2.2.1.2.2 (4:Int)) fun r3 =>
 some (wrap .i64 ((wrap .i64 ((wrap .i64 ((wrap .i64 ((1:Int)+r0))+r1))+r2))+r3)):=by kernel_rfl
theorem u1m (n:Nat)(l:(List (List UInt8×List UInt8))):v0m (n+1) l =
 tif ((l.length:Int)<1) (
 some (8:Int)) (
 tif ((16:Int)<(l.length:Int)) (
 some (8:Int)) (
 a0a (j0m n a0b (l,(0,(l,((l.length:Int),(0,())))))) fun r0 =>
 b0g (fun y1 =>
 tif ((256:Int)<y1.1) (
 some (8:Int)) (
 some (0:Int))) (fun z2 =>
 some z2) r0)):=by kernel_rfl
theorem v0l (n f:Nat)(l:(List (List UInt8×List UInt8)))(all:Int)(s14:(List (List UInt8×List UInt8)))(s15:Int)(s16:Int):j0m n (f+1) (l,all,s14,s15,s16,()) =
 tif (s16<s15) (
 a0a (at? s14 s16) fun r0 =>
 a0a (p1v n r0.1) fun r1 =>
 tif (!r1) (
 some (.inr (8:Int))) (
 tif ((128:Int)<(r0.2.length:Int)) (
 some (.inr (8:Int))) (
 tif ((0:Int)<s16) (
 a0a (at? l (wrap .i64 (s16-1))) fun r2 =>
 tif (!(Go.Op.bytesLess r2.1 r0.1)) (
 some (.inr (8:Int))) (
 j0m n f (l,((wrap .i64 (all+(wrap .i64 ((r0.1.length:Int)+(r0.2.length:Int))))),(s14,(s15,((wrap .i64 (s16+1)),()))))))) (
 j0m n f (l,((wrap .i64 (all+(wrap .i64 ((r0.1.length:Int)+(r0.2.length:Int))))),(s14,(s15,((wrap .i64 (s16+1)),()))))))))) (
 some (.inl (all,()))):=by kernel_rfl
theorem t1y (n:Nat)(r:(Int×(Int×(List a0p))))(room:Int):i1y (n+1) r room =
 tif (room<1) (
 some (2:Int)) (
 tif ((4096:Int)<room) (
 some (2:Int)) (
 tif (room<(r.2.2.length:Int)) (
 some (2:Int)) (
 tif (r.1<0) (
 some (2:Int)) (
 tif ((70368744177664:Int)<r.1) (
 some (2:Int)) (
 a0a (j0k n a0b (room,(r,(r.2.2,((r.2.2.length:Int),(0,())))))) fun r0 =>
 b0g (fun y1 =>
 tif (y1.2.1.1=0) (
 tif (!(y1.2.1.2.1=0)) (
 some (2:Int)) (
 some (0:Int))) (
 tif (y1.2.1.2.1<0) (
 some (2:Int)) (
 tif ((35184372088832:Int)<=y1.2.1.2.1) (
 some (2:Int)) (
 tif (!((y1.2.1.2.2.length:Int)=y1.1)) (
 some (2:Int)) (
 a0a (at? y1.2.1.2.2 (0:Int)) fun r2 =>
 tif (r2.1<=y1.2.1.2.1) (
 some (2:Int)) (
 some (0:Int))))))) (fun z3 =>
 some z3) r0))))):=by kernel_rfl
theorem v0e (n f:Nat)(room:Int)(r_:(Int×(Int×(List a0p))))(s31:(List a0p))(s32:Int)(s33:Int):j0k n (f+1) (room,r_,s31,s32,s33,()) =
 tif (s33<s32) (
 a0a (at? s31 s33) fun r0 =>
 a0a (v0j n r0) fun r1 =>
 tif (!(r1=0)) (
 some (.inr (2:Int))) (
 tif ((0:Int)<s33) (
 a0a (at? r_.2.2 (wrap .i64 (s33-1))) fun r2 =>
 tif (r0.1<=r2.1) (
 some (.inr (2:Int))) (
 j0k n f (room,(r_,(s31,(s32,((wrap .i64 (s33+1)),()))))))) (
 j0k n f (room,(r_,(s31,(s32,((wrap .i64 (s33+1)),())))))))) (
 some (.inl (room,(r_,())))):=by kernel_rfl
theorem t1w (n:Nat)(c:a0r)(s:((List a0d)×((List a0d)×(List a0d)))):i1v (n+1) c s =
 a0a (f0q n c) fun r0 =>
 tif (!(r0=0)) (
 some (2:Int)) (
 tif (!((s.1.length:Int)=c.2.2.1.1)) (
 some (2:Int)) (
 a0a (v0b n s.1 c.2.1.1) fun r1 =>
 tif (!(r1=0)) (
 some (2:Int)) (
 tif (!((s.2.1.length:Int)=c.2.2.1.2.1)) (
 some (2:Int)) (
 a0a (v0b n s.2.1 c.2.1.2.1) fun r2 =>
 tif (!(r2=0)) (
 some (2:Int)) (
 tif (!((s.2.2.length:Int)=c.2.2.1.2.2)) (
 some (2:Int)) (
 a0a (v0b n s.2.2 c.2.1.2.2) fun r3 =>
 tif (!(r3=0)) (
 some (2:Int)) (
 some (0:Int)))))))):=by kernel_rfl
theorem f2a (n:Nat)(l:(List a0d)):v0c (n+1) l =
 a0a (r0e n a0b ([],(l,((l.length:Int),(0,()))))) fun r0 =>
 b0g (fun y1 =>
 some y1.1) (fun z2 =>
 some z2) r0:=by kernel_rfl
theorem b1h (n f:Nat)(out:(List a0d))(s8:(List a0d))(s9:Int)(s10:Int):r0e n (f+1) (out,s8,s9,s10,()) =
 tif (s10<s9) (
 a0a (at? s8 s10) fun r0 =>
 tif ((decide (r0.1=0))&&((decide (r0.2.1=0))&&((decide (r0.2.2.1.1=0))&&((decide (r0.2.2.1.2.1=0))&&((decide (r0.2.2.1.2.2.1=0))&&((r0.2.2.1.2.2.2==false)&&((decide (r0.2.2.2.1.1=0))&&((decide (r0.2.2.2.1.2.1=0))&&((decide (r0.2.2.2.1.2.2.1=0))&&((r0.2.2.2.1.2.2.2==false)&&((decide (r0.2.2.2.2.1.1=0))&&((decide (r0.2.2.2.2.1.2=0))&&((decide (r0.2.2.2.2.2.1=0))&&((decide (r0.2.2.2.2.2.2.1=0))&&(decide (r0.2.2.2.2.2.2.2=0)))))))))))))))) (
 r0e n f (out,(s8,(s9,((wrap .i64 (s10+1)),()))))) (
 a0a (w0z n a0b (out,(r0,((out.length:Int),(s8,(s9,(s10,()))))))) fun r1 =>
 b0g (fun y2 =>
 tif (((0:Int)<=y2.2.2.1)&&(y2.2.2.1<=(y2.1.length:Int))) (
 tif (((0+(List.length (List.take ((Int.toNat y2.2.2.1)-0) (List.drop 0 y2.1))))*120)<=140737488355328) (
 tif ((((List.length ([]++(List.take ((Int.toNat y2.2.2.1)-0) (List.drop 0 y2.1))))+1)*120)<=140737488355328) (
 tif ((0:Int)<=y2.2.2.1) (
 tif ((Int.toNat y2.2.2.1)<=(List.length y2.1)) (
 tif ((((List.length (([]++(List.take ((Int.toNat y2.2.2.1)-0) (List.drop 0 y2.1)))++(y2.2.1::[])))+(List.length (List.take ((List.length y2.1)-(Int.toNat y2.2.2.1)) (List.drop (Int.toNat y2.2.2.1) y2.1))))*120)<=140737488355328) (
 r0e n f (((([]++(List.take ((Int.toNat y2.2.2.1)-0) (List.drop 0 y2.1)))++(y2.2.1::[]))++(List.take ((List.length y2.1)-(Int.toNat y2.2.2.1)) (List.drop (Int.toNat y2.2.2.1) y2.1))),(y2.2.2.2.1,(y2.2.2.2.2.1,((wrap .i64 (y2.2.2.2.2.2.1+1)),()))))) (
 none)) (
 none)) (
 none)) (
 none)) (
 none)) (
 none)) (fun z3 =>
 some (.inr z3)) r1)) (
 some (.inl (out,()))):=by kernel_rfl
theorem b1g (n f:Nat)(out:(List a0d))(s:a0d)(at_:Int)(s8:(List a0d))(s9:Int)(s10:Int):w0z n (f+1) (out,s,at_,s8,s9,s10,()) =
 tif ((0:Int)<at_) (
 a0a (at? out (wrap .i64 (at_-1))) fun r0 =>
 a0a ((out)[(Int.toNat (wrap .i64 (at_-1)))]?) fun r1 =>
 tif (s.1<r1.1) (
 w0z n f (out,(s,((wrap .i64 (at_-1)),(s8,(s9,(s10,()))))))) (
 some (.inl (out,(s,(at_,(s8,(s9,(s10,()))))))))) (
 some (.inl (out,(s,(at_,(s8,(s9,(s10,())))))))):=by kernel_rfl
theorem y1w (n:Nat)(r:(Int×(Int×(List a0p)))):p1r (n+1) r =
 tif ((r.2.2.length:Int)=0) (
 some ((0,(0,(0,false))),3)) (
 a0a (at? r.2.2 (wrap .i64 ((r.2.2.length:Int)-1))) fun r0 =>
 some (r0,0)):=by kernel_rfl
theorem y1t (n:Nat)(c:e1x)(w:Int)(i:Int):g1q (n+1) c w i =
 a0a (i1z n c) fun r0 =>
 tif (!(r0=0)) (
 some false) (
 tif (c.1=0) (
 some false) (
 a0a (n1n n c.2.1.1 w) fun r1 =>
 a0a (n1n n c.2.2.1.1 w) fun r2 =>
 tif (r1.2=0) (
 tif (r2.2=0) (
 tif (r1.1=i) (
 some (decide (r2.1=i))) (
 some false)) (
 some false)) (
 some false))):=by kernel_rfl
theorem s0z (n:Nat)(n_:Int):j0a (n+1) n_ =
 tif (n_<128) (
 some ((UInt8.ofNat (Int.toNat (wrap .u8 n_)))::[])) (
 a0a (j0a n (wrap .u64 (Int.tdiv n_ (128:Int)))) fun r0 =>
 tif ((1+(List.length r0))<=9223372036854775807) (
 some (((UInt8.ofNat (Int.toNat (wrap .u8 (wrap .u64 ((Int.tmod n_ (128:Int))+128)))))::[])++r0)) (
 none)):=by kernel_rfl
theorem z1h (n:Nat)(s:List UInt8):g1s (n+1) s =
 a0a (j0a n (wrap .u64 (s.length:Int))) fun r0 =>
 tif (((List.length r0)+(List.length s))<=9223372036854775807) (
 some (r0++s)) (
 none):=by kernel_rfl
theorem d0f (n:Nat)(r:(List UInt8×Bool)):c0e (n+1) r =
 some ([],true):=by kernel_rfl
theorem j0f (n:Nat)(r:(List UInt8×Bool))(n_:Int):e0a (n+1) r n_ =
 tif (r.2) (
 a0a (c0e n r) fun r0 =>
 some ([],r0)) (
 tif (n_<0) (
 a0a (c0e n r) fun r1 =>
 some ([],r1)) (
 tif ((r.1.length:Int)<n_) (
 a0a (c0e n r) fun r2 =>
 some ([],r2)) (
 tif (((0:Int)<=n_)&&(n_<=(r.1.length:Int))) (
 tif ((0:Int)<=n_) (
 tif ((Int.toNat n_)<=(List.length r.1)) (
 some ((List.drop 0 (List.take (Int.toNat n_) r.1)),((List.drop (Int.toNat n_) (List.take (List.length r.1) r.1)),r.2))) (
 none)) (
 none)) (
 none)))):=by kernel_rfl
theorem q0m (n:Nat)(s:(List (List UInt8)))(f_:((List UInt8×Unit)->Option Bool)):k0q (n+1) s f_ =
 a0a (n0z n s f_) fun r0 =>
 some (decide ((0:Int)<=r0)):=by kernel_rfl
theorem g1f (n:Nat)(s:List UInt8):n0e (n+1) s =
 some (!(decide ((s.length:Int)=512))):=by kernel_rfl
theorem z0a (n:Nat)(p:b0f)(n_:Int)(each:Int):c0t (n+1) p n_ each =
 tif (each=0) (
 none) (
 tif (((0:Int)<=(if (p.2.length:Int)<(wrap .i64 (Int.tdiv (wrap .i64 ((wrap .i64 (n_+each))-1)) each)) then (p.2.length:Int) else (wrap .i64 (Int.tdiv (wrap .i64 ((wrap .i64 (n_+each))-1)) each))))&&((if (p.2.length:Int)<(wrap .i64 (Int.tdiv (wrap .i64 ((wrap .i64 (n_+each))-1)) each)) then (p.2.length:Int) else (wrap .i64 (Int.tdiv (wrap .i64 ((wrap .i64 (n_+each))-1)) each)))<=(p.2.length:Int))) (
 a0a (strings_Join n (List.drop 0 (List.take (Int.toNat (if (p.2.length:Int)<(wrap .i64 (Int.tdiv (wrap .i64 ((wrap .i64 (n_+each))-1)) each)) then (p.2.length:Int) else (wrap .i64 (Int.tdiv (wrap .i64 ((wrap .i64 (n_+each))-1)) each)))) p.2)) []) fun r0 =>
 tif ((0:Int)<=(if (p.2.length:Int)<(wrap .i64 (Int.tdiv (wrap .i64 ((wrap .i64 (n_+each))-1)) each)) then (p.2.length:Int) else (wrap .i64 (Int.tdiv (wrap .i64 ((wrap .i64 (n_+each))-1)) each)))) (
 tif ((Int.toNat (if (p.2.length:Int)<(wrap .i64 (Int.tdiv (wrap .i64 ((wrap .i64 (n_+each))-1)) each)) then (p.2.length:Int) else (wrap .i64 (Int.tdiv (wrap .i64 ((wrap .i64 (n_+each))-1)) each))))<=(List.length p.2)) (
 some (r0,(p.1,(List.drop (Int.toNat (if (p.2.length:Int)<(wrap .i64 (Int.tdiv (wrap .i64 ((wrap .i64 (n_+each))-1)) each)) then (p.2.length:Int) else (wrap .i64 (Int.tdiv (wrap .i64 ((wrap .i64 (n_+each))-1)) each)))) (List.take (List.length p.2) p.2))))) (
 none)) (
 none)) (
 none)):=by kernel_rfl
theorem j1s (n:Nat)(s:List UInt8):c1f (n+1) s =
 a0a (l0g n s) fun r0 =>
 a0a (d0n n r0) fun r1 =>
 a0a (o0k n a0b (r1.2,([],(r1.1,())))) fun r2 =>
 b0g (fun y3 =>
 a0a (j0d n y3.1) fun r4 =>
 tif (r4) (
 some ([],4)) (
 a0a (l0f n y3.1) fun r5 =>
 tif ((0:Int)<r5) (
 some ([],4)) (
 a0a (o0l n y3.2.1) fun r6 =>
 tif (!(r6=0)) (
 some ([],4)) (
 some (y3.2.1,0))))) (fun z7 =>
 some z7) r2:=by kernel_rfl
theorem l0l (n f:Nat)(r:(List UInt8×Bool))(out:(List (List UInt8×List UInt8)))(n_:Int):o0k n (f+1) (r,out,n_,()) =
 tif ((0:Int)<n_) (
 a0a (j0d n r) fun r0 =>
 tif (!r0) (
 tif ((out.length:Int)<=16) (
 a0a (f0u n r (64:Int)) fun r1 =>
 a0a (f0u n r1.2 (128:Int)) fun r2 =>
 tif ((((List.length out)+1)*32)<=140737488355328) (
 o0k n f (r2.2,((out++((r1.1,r2.1)::[])),((wrap .u64 (n_-1)),())))) (
 none)) (
 some (.inl (r,(out,()))))) (
 some (.inl (r,(out,()))))) (
 some (.inl (r,(out,())))):=by kernel_rfl
theorem e1g (n:Nat)(s:List UInt8):l0o (n+1) s =
 a0a (l0g n s) fun r0 =>
 a0a (a0h n r0 (8:Int)) fun r1 =>
 a0a (a0h n r1.2 (8:Int)) fun r2 =>
 a0a (h0e n r2.2) fun r3 =>
 a0a (h0e n r3.2) fun r4 =>
 a0a (a0h n r4.2 (8:Int)) fun r5 =>
 a0a (a0h n r5.2 (8:Int)) fun r6 =>
 a0a (a0h n r6.2 (8:Int)) fun r7 =>
 a0a (a0h n r7.2 (8:Int)) fun r8 =>
 a0a (a0h n r8.2 (8:Int)) fun r9 =>
 some ((wrap .i64 r1.1),((wrap .i64 r2.1),(r3.1,(r4.1,((r5.1,r6.1),((wrap .i64 r7.1),((wrap .i64 r8.1),(wrap .i64 r9.1)))))))):=by kernel_rfl
theorem c1i (n:Nat)(p:b0f)(r:(Int×(Int×(List a0p))))(many:Int):o0n (n+1) p r many =
 a0a (c0t n p p.1.1 (16:Int)) fun r0 =>
 tif (r.1<0) (
 some (r,r0.2)) (
 tif (r0.2.1.1<many) (
 some (r,r0.2)) (
 a0a (f0c n a0b (r0.2,(r,((0,(0,[])),(r0.1,(r0.2.1.1,(many,(0,())))))))) fun r1 =>
 b0g (fun y2 =>
 some (y2.2.1,y2.1)) (fun z3 =>
 some z3) r1)):=by kernel_rfl
theorem m0b (n f:Nat)(p:b0f)(r_:(Int×(Int×(List a0p))))(s6:(Int×(Int×(List a0p))))(all:List UInt8)(room:Int)(s36:Int)(s37:Int):f0c n (f+1) (p,r_,s6,all,room,s36,s37,()) =
 tif (s37<s36) (
 tif (room=0) (
 none) (
 tif (room=0) (
 none) (
 tif ((0:Int)<=(wrap .i64 ((32:Int)*(Int.tmod (wrap .i64 ((Int.tmod r_.1 room)+s37)) room)))) (
 tif ((Int.toNat (wrap .i64 ((32:Int)*(Int.tmod (wrap .i64 ((Int.tmod r_.1 room)+s37)) room))))<=(List.length all)) (
 a0a (l0g n (List.drop (Int.toNat (wrap .i64 ((32:Int)*(Int.tmod (wrap .i64 ((Int.tmod r_.1 room)+s37)) room)))) (List.take (List.length all) all))) fun r0 =>
 a0a (h0e n r0) fun r1 =>
 tif ((((List.length r_.2.2)+1)*32)<=140737488355328) (
 f0c n f (p,((r_.1,(r_.2.1,(r_.2.2++(r1.1::[])))),(s6,(all,(room,(s36,((wrap .i64 (s37+1)),())))))))) (
 none)) (
 none)) (
 none)))) (
 some (.inl (p,(r_,(s6,()))))):=by kernel_rfl
theorem y0z (n:Nat)(p:b0f)(n_:Int):g0l (n+1) p n_ =
 a0a (c0t n p n_ (4:Int)) fun r0 =>
 tif (((0:Int)<=n_)&&((n_<=n_)&&((n_*120)<=140737488355328))) (
 a0a (e0n n a0b (r0.2,(r0.1,((List.replicate (Int.toNat n_) ((0:Int),((0:Int),(((0:Int),((0:Int),((0:Int),false))),(((0:Int),((0:Int),((0:Int),false))),(((0:Int),(0:Int)),((0:Int),((0:Int),(0:Int))))))))),((((List.length (List.replicate (Int.toNat n_) ((0:Int),((0:Int),(((0:Int),((0:Int),((0:Int),false))),(((0:Int),((0:Int),((0:Int),false))),(((0:Int),(0:Int)),((0:Int),((0:Int),(0:Int)))))))))):Nat):Int),((0:Int),())))))) fun r1 =>
 b0g (fun y2 =>
 some (y2.2.1,y2.1)) (fun z3 =>
 some z3) r1) (
 none):=by kernel_rfl
theorem k0s (n f:Nat)(p:b0f)(all:List UInt8)(out:(List a0d))(s14:Int)(s15:Int):e0n n (f+1) (p,all,out,s14,s15,()) =
 tif (s15<s14) (
 tif ((0:Int)<=(wrap .i64 ((128:Int)*s15))) (
 tif ((Int.toNat (wrap .i64 ((128:Int)*s15)))<=(List.length all)) (
 a0a (l0o n (List.drop (Int.toNat (wrap .i64 ((128:Int)*s15))) (List.take (List.length all) all))) fun r0 =>
 a0a (at? out s15) fun r1 =>
 a0a ((out)[(Int.toNat s15)]?) fun r2 =>
 e0n n f (p,(all,((List.set out (Int.toNat s15) r0),(s14,((wrap .i64 (s15+1)),())))))) (
 none)) (
 none)) (
 some (.inl (p,(out,())))):=by kernel_rfl
theorem y0s (n:Nat)(r:(List UInt8×Bool))(width:Int):b0t (n+1) r width =
 tif (width<1) (
 some (([],true),0)) (
 tif ((8:Int)<width) (
 some (([],true),0)) (
 a0a (i0t n r width) fun r0 =>
 a0a (d0l n a0b (r0.1,(([],false),(r0.2,(0,(0,())))))) fun r1 =>
 b0g (fun y2 =>
 some (y2.1,y2.2.2.1)) (fun z3 =>
 some z3) r1)):=by kernel_rfl
theorem k0r (n f:Nat)(r_:(List UInt8×Bool))(s4:(List UInt8×Bool))(s:List UInt8)(n_:Int)(i:Int):d0l n (f+1) (r_,s4,s,n_,i,()) =
 tif (i<(s.length:Int)) (
 a0a (at? s i) fun r0 =>
 d0l n f (r_,(s4,(s,((wrap .u64 ((wrap .u64 ((256:Int)*n_))+(wrap .u64 (((UInt8.toNat r0):Nat):Int)))),((wrap .i64 (i+1)),())))))) (
 some (.inl (r_,(s4,(n_,()))))):=by kernel_rfl
theorem u1k (n:Nat)(s:List UInt8):u1l (n+1) s =
 a0a (e0m n (s,false)) fun r0 =>
 tif (r0.1.2) (
 some ([],4)) (
 tif ((16:Int)<r0.2) (
 some ([],4)) (
 a0a (v0k n a0b (r0.1,(r0.2,([],(0,()))))) fun r1 =>
 b0g (fun y2 =>
 tif (y2.1.2) (
 some ([],4)) (
 tif (!(y2.1.1==[])) (
 some ([],4)) (
 a0a (v0m n y2.2.1) fun r3 =>
 tif (!(r3=0)) (
 some ([],4)) (
 some (y2.2.1,0))))) (fun z4 =>
 some z4) r1)):=by kernel_rfl
theorem p0n (n f:Nat)(r:(List UInt8×Bool))(n_:Int)(out:(List (List UInt8×List UInt8)))(i:Int):v0k n (f+1) (r,n_,out,i,()) =
 tif (i<n_) (
 a0a (h0a n r (64:Int)) fun r0 =>
 a0a (h0a n r0.1 (128:Int)) fun r1 =>
 tif ((((List.length out)+1)*32)<=140737488355328) (
 v0k n f (r1.1,(n_,((out++((r0.2,r1.2)::[])),((wrap .u64 (i+1)),()))))) (
 none)) (
 some (.inl (r,(out,())))):=by kernel_rfl
theorem y1g (n:Nat)(s:List UInt8)(at_:Int):w0s (n+1) s at_ =
 a0a (c0y n s (wrap .i64 (at_+8))) fun r0 =>
 a0a (u0v n s (wrap .i64 (at_+16))) fun r1 =>
 a0a (u0v n s (wrap .i64 (at_+41))) fun r2 =>
 a0a (c0y n s (wrap .i64 (at_+66))) fun r3 =>
 a0a (c0y n s (wrap .i64 (at_+74))) fun r4 =>
 a0a (c0y n s (wrap .i64 (at_+82))) fun r5 =>
 a0a (c0y n s (wrap .i64 (at_+90))) fun r6 =>
 a0a (c0y n s (wrap .i64 (at_+98))) fun r7 =>
 a0a (c0y n s at_) fun r8 =>
 some (r8,(r0,(r1,(r2,(((wrap .u64 r3),(wrap .u64 r4)),(r5,(r6,r7))))))):=by kernel_rfl
theorem t1i (n:Nat)(n_:Int)(each:Int):c0x (n+1) n_ each =
 tif (each=0) (
 none) (
 some (wrap .i64 (Int.tdiv (wrap .i64 ((wrap .i64 (n_+each))-1)) each))):=by kernel_rfl
theorem t1j (n:Nat)(s:List UInt8)(at_:Int):u0v (n+1) s at_ =
 a0a (c0y n s at_) fun r0 =>
 a0a (c0y n s (wrap .i64 (at_+8))) fun r1 =>
 a0a (c0y n s (wrap .i64 (at_+16))) fun r2 =>
 a0a (at? s (wrap .i64 (at_+24))) fun r3 =>
 some (r0,((wrap .u64 r1),(r2,(decide ((((UInt8.toNat r3):Nat):Int)=1))))):=by kernel_rfl
theorem y1v (n:Nat)(a:(Int×(Int×(List a0p))))(b:(Int×(Int×(List a0p)))):b2x (n+1) a b =
 tif (a.1=b.1) (
 tif (a.2.1=b.2.1) (
 a0a (v0d n a.2.2 b.2.2) fun r0 =>
 some r0) (
 some false)) (
 some false):=by kernel_rfl
theorem y1q (n:Nat)(a:((List a0d)×((List a0d)×(List a0d))))(b:((List a0d)×((List a0d)×(List a0d)))):b2v (n+1) a b =
 a0a (b1f n a.1 b.1) fun r0 =>
 tif (!r0) (
 some false) (
 a0a (b1f n a.2.1 b.2.1) fun r1 =>
 tif (!r1) (
 some false) (
 a0a (b1f n a.2.2 b.2.2) fun r2 =>
 tif (!r2) (
 some false) (
 some true))):=by kernel_rfl
theorem x1o (n:Nat)(t:Int):g1l (n+1) t =
 tif ((0:Int)<=t) (
 some (decide (t<35184372088832))) (
 some false):=by kernel_rfl
theorem s1p (n:Nat)(s:a0f):a1b (n+1) s =
 a0a (e0l n s ([],(0,((0,(0,[])),(([],([],[])),(0,(0,((0,(0,(0,false))),((0,(0,(0,false))),((0,0),(0,(0,0)))))))))))) fun r0 =>
 some r0:=by kernel_rfl
theorem g1a (n:Nat)(v:b0b):s0h (n+1) v =
 tif (v.1.2.1.1=0) (
 none) (
 some (wrap .i64 (v.2.1-(Int.tmod v.2.1 v.1.2.1.1)))):=by kernel_rfl
theorem f1z (n:Nat)(v:b0b)(i:Int):s0g (n+1) v i =
 a0a (i0r n v (fun y0=>g0y n y0.1 i v)) fun r1 =>
 tif (r1<i) (
 a0a (l0k n v i) fun r2 =>
 some r2) (
 some false):=by kernel_rfl
theorem y1d (n:Nat)(a:(Int×(Int×(List a0p))))(b:(Int×(Int×(List a0p)))):b2t (n+1) a b =
 tif (a.1=b.1) (
 tif (a.2.1=b.2.1) (
 a0a (q0l n a.2.2 b.2.2) fun r0 =>
 some r0) (
 some false)) (
 some false):=by kernel_rfl
theorem g1b (n:Nat)(s1:(List a0d))(s2:(List a0d)):j0x (n+1) s1 s2 =
 tif (!((s1.length:Int)=(s2.length:Int))) (
 some false) (
 a0a (i0w n a0b (s1,(s2,((s1.length:Int),(0,()))))) fun r0 =>
 b0g (fun y1 =>
 some true) (fun z2 =>
 some z2) r0):=by kernel_rfl
theorem o0a (n f:Nat)(s1:(List a0d))(s2:(List a0d))(s12:Int)(s13:Int):i0w n (f+1) (s1,s2,s12,s13,()) =
 tif (s13<s12) (
 a0a (at? s1 s13) fun r0 =>
 a0a (at? s2 s13) fun r1 =>
 tif (!((decide (r0.1=r1.1))&&((decide (r0.2.1=r1.2.1))&&((decide (r0.2.2.1.1=r1.2.2.1.1))&&((decide (r0.2.2.1.2.1=r1.2.2.1.2.1))&&((decide (r0.2.2.1.2.2.1=r1.2.2.1.2.2.1))&&((r0.2.2.1.2.2.2==r1.2.2.1.2.2.2)&&((decide (r0.2.2.2.1.1=r1.2.2.2.1.1))&&((decide (r0.2.2.2.1.2.1=r1.2.2.2.1.2.1))&&((decide (r0.2.2.2.1.2.2.1=r1.2.2.2.1.2.2.1))&&((r0.2.2.2.1.2.2.2==r1.2.2.2.1.2.2.2)&&((decide (r0.2.2.2.2.1.1=r1.2.2.2.2.1.1))&&((decide (r0.2.2.2.2.1.2=r1.2.2.2.2.1.2))&&((decide (r0.2.2.2.2.2.1=r1.2.2.2.2.2.1))&&((decide (r0.2.2.2.2.2.2.1=r1.2.2.2.2.2.2.1))&&(decide (r0.2.2.2.2.2.2.2=r1.2.2.2.2.2.2.2))))))))))))))))) (
 some (.inr false)) (
 i0w n f (s1,(s2,(s12,((wrap .i64 (s13+1)),())))))) (
 some (.inl ())):=by kernel_rfl
theorem r1n (n:Nat)(n_:Int)(by_:Int):n0o (n+1) n_ by_ =
 tif (by_=0) (
 none) (
 some (wrap .i64 (Int.tdiv (wrap .i64 ((wrap .i64 (n_+by_))-1)) by_))):=by kernel_rfl
theorem l1g (n:Nat)(c:a0r)(last:Int)(now:Int):y0q (n+1) c last now =
 a0a (e0u n c) fun r0 =>
 tif (r0=0) (
 a0a (h1p n last now c.2.1.1 c.2.2.1.1) fun r1 =>
 tif (r1) (
 a0a (h1p n last now c.2.1.2.1 c.2.2.1.2.1) fun r2 =>
 tif (r2) (
 a0a (h1p n last now c.2.1.2.2 c.2.2.1.2.2) fun r3 =>
 tif (r3) (
 some r3) (
 some r3)) (
 some r2)) (
 some r1)) (
 some (decide (r0=0))):=by kernel_rfl
theorem l1s (n:Nat)(l:(List (List UInt8×List UInt8))):o0l (n+1) l =
 tif ((l.length:Int)=0) (
 some (8:Int)) (
 tif ((16:Int)<(l.length:Int)) (
 some (8:Int)) (
 a0a (g0o n a0b (l,(256,(l,((l.length:Int),(0,())))))) fun r0 =>
 b0g (fun y1 =>
 some (0:Int)) (fun z2 =>
 some z2) r0)):=by kernel_rfl
theorem r0m (n f:Nat)(l:(List (List UInt8×List UInt8)))(left:Int)(s14:(List (List UInt8×List UInt8)))(s15:Int)(s16:Int):g0o n (f+1) (l,left,s14,s15,s16,()) =
 tif (s16<s15) (
 a0a (at? s14 s16) fun r0 =>
 a0a (e1f n r0.1) fun r1 =>
 tif (!r1) (
 some (.inr (8:Int))) (
 tif ((128:Int)<(r0.2.length:Int)) (
 some (.inr (8:Int))) (
 tif ((wrap .i64 (left-(wrap .i64 ((r0.1.length:Int)+(r0.2.length:Int)))))<0) (
 some (.inr (8:Int))) (
 tif ((0:Int)<s16) (
 a0a (at? l (wrap .i64 (s16-1))) fun r2 =>
 tif (!(Go.Op.bytesLess r2.1 r0.1)) (
 some (.inr (8:Int))) (
 g0o n f (l,((wrap .i64 (left-(wrap .i64 ((r0.1.length:Int)+(r0.2.length:Int))))),(s14,(s15,((wrap .i64 (s16+1)),()))))))) (
 g0o n f (l,((wrap .i64 (left-(wrap .i64 ((r0.1.length:Int)+(r0.2.length:Int))))),(s14,(s15,((wrap .i64 (s16+1)),())))))))))) (
 some (.inl ())):=by kernel_rfl
theorem m1g (n:Nat)(e:a0p):o0u (n+1) e =
 tif (e.1<0) (
 some (2:Int)) (
 tif ((35184372088832:Int)<=e.1) (
 some (2:Int)) (
 tif (e.2.2.1<0) (
 some (2:Int)) (
 tif (e.1<e.2.2.1) (
 some (2:Int)) (
 tif (e.2.2.2) (
 tif (!((decide (e.1=e.1))&&((decide (e.2.1=0))&&((decide (e.2.2.1=0))&&(e.2.2.2==true))))) (
 some (2:Int)) (
 some (0:Int))) (
 some (0:Int)))))):=by kernel_rfl
theorem d1i (n:Nat)(s1:(List (List UInt8×List UInt8)))(s2:(List (List UInt8×List UInt8))):q0k (n+1) s1 s2 =
 tif (!((s1.length:Int)=(s2.length:Int))) (
 some false) (
 a0a (h0q n a0b (s1,(s2,((s1.length:Int),(0,()))))) fun r0 =>
 b0g (fun y1 =>
 some true) (fun z2 =>
 some z2) r0):=by kernel_rfl
theorem m0p (n f:Nat)(s1:(List (List UInt8×List UInt8)))(s2:(List (List UInt8×List UInt8)))(s12:Int)(s13:Int):h0q n (f+1) (s1,s2,s12,s13,()) =
 tif (s13<s12) (
 a0a (at? s1 s13) fun r0 =>
 a0a (at? s2 s13) fun r1 =>
 tif (!((r0.1==r1.1)&&(r0.2==r1.2))) (
 some (.inr false)) (
 h0q n f (s1,(s2,(s12,((wrap .i64 (s13+1)),())))))) (
 some (.inl ())):=by kernel_rfl
theorem y1p (n:Nat)(c:a0r)(last:Int)(now:Int):p1q (n+1) c last now =
 a0a (f0q n c) fun r0 =>
 tif (!(r0=0)) (
 some false) (
 a0a (b1m n last now c.2.1.1 c.2.2.1.1) fun r1 =>
 tif (!r1) (
 some false) (
 a0a (b1m n last now c.2.1.2.1 c.2.2.1.2.1) fun r2 =>
 tif (!r2) (
 some false) (
 a0a (b1m n last now c.2.1.2.2 c.2.2.1.2.2) fun r3 =>
 tif (!r3) (
 some false) (
 some true)))):=by kernel_rfl
theorem c1c (n:Nat)(x:Int)(y:Int):h0d (n+1) x y =
 some ((wrap .u64 ((wrap .u64 ((wrap .u64 ((shrI .u64 x (32:Int))*(shrI .u64 y (32:Int))))+(shrI .u64 (wrap .u64 ((wrap .u64 ((shrI .u64 x (32:Int))*(andI .u64 y (4294967295:Int))))+(shrI .u64 (wrap .u64 ((andI .u64 x (4294967295:Int))*(andI .u64 y (4294967295:Int)))) (32:Int)))) (32:Int))))+(shrI .u64 (wrap .u64 ((andI .u64 (wrap .u64 ((wrap .u64 ((shrI .u64 x (32:Int))*(andI .u64 y (4294967295:Int))))+(shrI .u64 (wrap .u64 ((andI .u64 x (4294967295:Int))*(andI .u64 y (4294967295:Int)))) (32:Int)))) (4294967295:Int))+(wrap .u64 ((andI .u64 x (4294967295:Int))*(shrI .u64 y (32:Int)))))) (32:Int)))),(wrap .u64 (x*y))):=by kernel_rfl
theorem q1w (n:Nat)(c:a0r)(s:((List a0d)×((List a0d)×(List a0d)))):e1j (n+1) c s =
 a0a (j1x n c s) fun r0 =>
 oelim (r0.1) (
 some r0.2) fun r1 =>
 some r0.2:=by kernel_rfl
theorem t1f (n:Nat)(r:(Int×(Int×(List a0p))))(room:Int):i1n (n+1) r room =
 tif (room<1) (
 some (2:Int)) (
 tif ((4096:Int)<room) (
 some (2:Int)) (
 tif (room<(r.2.2.length:Int)) (
 some (2:Int)) (
 tif (r.1<0) (
 some (2:Int)) (
 tif ((70368744177664:Int)<r.1) (
 some (2:Int)) (
 a0a (d1r n r.2.2) fun r0 =>
 tif (!r0) (
 some (2:Int)) (
 a0a (n1k n r room) fun r1 =>
 tif (!r1) (
 some (2:Int)) (
 some (0:Int)))))))):=by kernel_rfl
theorem s1s (n:Nat)(s:m0f):i1a (n+1) s =
 tif ((s.2.2.2.1.2.2.length:Int)=0) (
 tif ((decide (s.2.2.2.2.2.1=0))&&((decide (s.2.2.2.2.2.2.1=0))&&((decide (s.2.2.2.2.2.2.2.1.1=0))&&((decide (s.2.2.2.2.2.2.2.1.2.1=0))&&((decide (s.2.2.2.2.2.2.2.1.2.2.1=0))&&((s.2.2.2.2.2.2.2.1.2.2.2==false)&&((decide (s.2.2.2.2.2.2.2.2.1.1=0))&&((decide (s.2.2.2.2.2.2.2.2.1.2.1=0))&&((decide (s.2.2.2.2.2.2.2.2.1.2.2.1=0))&&((s.2.2.2.2.2.2.2.2.1.2.2.2==false)&&((decide (s.2.2.2.2.2.2.2.2.2.1.1=0))&&((decide (s.2.2.2.2.2.2.2.2.2.1.2=0))&&((decide (s.2.2.2.2.2.2.2.2.2.2.1=0))&&((decide (s.2.2.2.2.2.2.2.2.2.2.2.1=0))&&(decide (s.2.2.2.2.2.2.2.2.2.2.2.2=0)))))))))))))))) (
 a0a (e0x n s.2.2.2.2.1.1 (0:Int)) fun r0 =>
 tif (!r0) (
 a0a (e0x n s.2.2.2.2.1.2.1 (0:Int)) fun r1 =>
 tif (!r1) (
 a0a (e0x n s.2.2.2.2.1.2.2 (0:Int)) fun r2 =>
 some (!r2)) (
 some false)) (
 some false)) (
 some false)) (
 some false):=by kernel_rfl
theorem x1r (n:Nat)(s:m0f):g1m (n+1) s =
 a0a (p1n n s.2.2.2.1) fun r0 =>
 tif (r0.2=0) (
 tif (r0.1.1=s.2.2.1) (
 tif (s.2.2.2.2.2.2.2.2.1.1=s.2.2.1) (
 a0a (z0v n s.2.2.2.2.2.2 s.1.2.1.1 s.2.2.2.2.2.1) fun r1 =>
 tif (r1) (
 tif (s.1.2.1.1=0) (
 none) (
 a0a (e0x n s.2.2.2.2.1.1 (wrap .i64 (Int.tdiv s.2.2.1 s.1.2.1.1))) fun r2 =>
 tif (!r2) (
 tif (s.1.2.1.2.1=0) (
 none) (
 a0a (e0x n s.2.2.2.2.1.2.1 (wrap .i64 (Int.tdiv s.2.2.1 s.1.2.1.2.1))) fun r3 =>
 tif (!r3) (
 tif (s.1.2.1.2.2=0) (
 none) (
 a0a (e0x n s.2.2.2.2.1.2.2 (wrap .i64 (Int.tdiv s.2.2.1 s.1.2.1.2.2))) fun r4 =>
 some (!r4))) (
 some false))) (
 some false))) (
 some false)) (
 some false)) (
 some false)) (
 some false):=by kernel_rfl
theorem x0p (n:Nat)(w:(List Int))(n_:Int):i0c (n+1) w n_ =
 a0a (f0l n a0b (w,(n_,()))) fun r0 =>
 b0g (fun y1 =>
 tif ((((List.length y1.1)+1)*1)<=140737488355328) (
 some (y1.1++((wrap .u8 y1.2.1)::[]))) (
 none)) (fun z2 =>
 some z2) r0:=by kernel_rfl
theorem t0q (n f:Nat)(w:(List Int))(n_:Int):f0l n (f+1) (w,n_,()) =
 tif ((128:Int)<=n_) (
 tif ((((List.length w)+1)*1)<=140737488355328) (
 f0l n f ((w++((orI .u8 (wrap .u8 n_) (128:Int))::[])),((shrI .u64 n_ (7:Int)),()))) (
 none)) (
 some (.inl (w,(n_,())))):=by kernel_rfl
theorem x0q (n:Nat)(w:(List Int))(s:List UInt8):i0d (n+1) w s =
 a0a (i0c n w (wrap .u64 (s.length:Int))) fun r0 =>
 a0a (e0v n r0 s) fun r1 =>
 some r1:=by kernel_rfl
theorem u1b (n:Nat)(n_:Int)(each:Int):r0f (n+1) n_ each =
 a0a (p0m n a0b (n_,(each,(0,())))) fun r0 =>
 b0g (fun y1 =>
 some y1.1) (fun z2 =>
 some z2) r0:=by kernel_rfl
theorem v0f (n f:Nat)(n_:Int)(each:Int)(k:Int):p0m n (f+1) (n_,each,k,()) =
 tif ((0:Int)<n_) (
 p0m n f ((wrap .i64 (n_-each)),(each,((wrap .i64 (k+1)),())))) (
 some (.inl (k,()))):=by kernel_rfl
theorem u1h (n:Nat)(e:a0p):v0j (n+1) e =
 tif (e.1<0) (
 some (2:Int)) (
 tif ((35184372088832:Int)<=e.1) (
 some (2:Int)) (
 tif (e.2.2.1<0) (
 some (2:Int)) (
 tif (e.1<e.2.2.1) (
 some (2:Int)) (
 tif (e.2.2.2) (
 tif (!(e.2.1=0)) (
 some (2:Int)) (
 tif (!(e.2.2.1=0)) (
 some (2:Int)) (
 some (0:Int)))) (
 some (0:Int)))))):=by kernel_rfl
theorem t1x (n:Nat)(l:(List a0d))(w:Int):v0b (n+1) l w =
 tif ((l.length:Int)<1) (
 some (2:Int)) (
 tif ((4096:Int)<(l.length:Int)) (
 some (2:Int)) (
 tif (w<1) (
 some (2:Int)) (
 tif ((1099511627776:Int)<w) (
 some (2:Int)) (
 a0a (j0j n a0b (l,(w,(l,((l.length:Int),(0,())))))) fun r0 =>
 b0g (fun y1 =>
 some (0:Int)) (fun z2 =>
 some z2) r0)))):=by kernel_rfl
theorem v0a (n f:Nat)(l:(List a0d))(w:Int)(s23:(List a0d))(s24:Int)(s25:Int):j0j n (f+1) (l,w,s23,s24,s25,()) =
 tif (s25<s24) (
 a0a (at? s23 s25) fun r0 =>
 tif ((decide (r0.1=0))&&((decide (r0.2.1=0))&&((decide (r0.2.2.1.1=0))&&((decide (r0.2.2.1.2.1=0))&&((decide (r0.2.2.1.2.2.1=0))&&((r0.2.2.1.2.2.2==false)&&((decide (r0.2.2.2.1.1=0))&&((decide (r0.2.2.2.1.2.1=0))&&((decide (r0.2.2.2.1.2.2.1=0))&&((r0.2.2.2.1.2.2.2==false)&&((decide (r0.2.2.2.2.1.1=0))&&((decide (r0.2.2.2.2.1.2=0))&&((decide (r0.2.2.2.2.2.1=0))&&((decide (r0.2.2.2.2.2.2.1=0))&&(decide (r0.2.2.2.2.2.2.2=0)))))))))))))))) (
 j0j n f (l,(w,(s23,(s24,((wrap .i64 (s25+1)),())))))) (
 a0a (g1q n r0.2 w r0.1) fun r1 =>
 tif (!r1) (
 some (.inr (2:Int))) (
 a0a (p1t n r0.1 (l.length:Int)) fun r2 =>
 tif (!(r2=s25)) (
 some (.inr (2:Int))) (
 j0j n f (l,(w,(s23,(s24,((wrap .i64 (s25+1)),()))))))))) (
 some (.inl ())):=by kernel_rfl
theorem u1g (n:Nat)(c:e1x):i1z (n+1) c =
 tif ((decide (c.1=0))&&((decide (c.2.1.1=0))&&((decide (c.2.1.2.1=0))&&((decide (c.2.1.2.2.1=0))&&((c.2.1.2.2.2==false)&&((decide (c.2.2.1.1=0))&&((decide (c.2.2.1.2.1=0))&&((decide (c.2.2.1.2.2.1=0))&&((c.2.2.1.2.2.2==false)&&((decide (c.2.2.2.1.1=0))&&((decide (c.2.2.2.1.2=0))&&((decide (c.2.2.2.2.1=0))&&((decide (c.2.2.2.2.2.1=0))&&(decide (c.2.2.2.2.2.2=0))))))))))))))) (
 some (0:Int)) (
 tif (c.1<1) (
 some (2:Int)) (
 a0a (v0j n c.2.1) fun r0 =>
 tif (!(r0=0)) (
 some (2:Int)) (
 a0a (v0j n c.2.2.1) fun r1 =>
 tif (!(r1=0)) (
 some (2:Int)) (
 tif (c.2.2.1.1<c.2.1.1) (
 some (2:Int)) (
 tif ((wrap .i64 ((wrap .i64 (c.2.2.1.1-c.2.1.1))+1))<c.1) (
 some (2:Int)) (
 tif (c.1=1) (
 tif (!((decide (c.2.1.1=c.2.2.1.1))&&((decide (c.2.1.2.1=c.2.2.1.2.1))&&((decide (c.2.1.2.2.1=c.2.2.1.2.2.1))&&(c.2.1.2.2.2==c.2.2.1.2.2.2))))) (
 some (2:Int)) (
 tif ((1:Int)<c.1) (
 tif (c.2.1.1=c.2.2.1.1) (
 some (2:Int)) (
 tif (c.2.2.2.2.1<0) (
 some (2:Int)) (
 tif (c.2.2.2.2.2.1<0) (
 some (2:Int)) (
 tif (c.2.2.2.2.2.2<0) (
 some (2:Int)) (
 tif (c.1<=c.2.2.2.2.1) (
 some (2:Int)) (
 tif (c.1<=c.2.2.2.2.2.1) (
 some (2:Int)) (
 tif (c.1<=(wrap .i64 (c.2.2.2.2.1+c.2.2.2.2.2.1))) (
 some (2:Int)) (
 tif ((wrap .i64 (c.2.2.1.1-c.2.1.1))<c.2.2.2.2.2.2) (
 some (2:Int)) (
 a0a (r0g n (0,18446744073709551615) (wrap .u64 (wrap .i64 (c.1-1)))) fun r2 =>
 a0a (x0b n r2.1 c.2.2.2.1) fun r3 =>
 tif (r3) (
 some (2:Int)) (
 some (0:Int))))))))))) (
 tif (c.2.2.2.2.1<0) (
 some (2:Int)) (
 tif (c.2.2.2.2.2.1<0) (
 some (2:Int)) (
 tif (c.2.2.2.2.2.2<0) (
 some (2:Int)) (
 tif (c.1<=c.2.2.2.2.1) (
 some (2:Int)) (
 tif (c.1<=c.2.2.2.2.2.1) (
 some (2:Int)) (
 tif (c.1<=(wrap .i64 (c.2.2.2.2.1+c.2.2.2.2.2.1))) (
 some (2:Int)) (
 tif ((wrap .i64 (c.2.2.1.1-c.2.1.1))<c.2.2.2.2.2.2) (
 some (2:Int)) (
 a0a (r0g n (0,18446744073709551615) (wrap .u64 (wrap .i64 (c.1-1)))) fun r4 =>
 a0a (x0b n r4.1 c.2.2.2.1) fun r5 =>
 tif (r5) (
 some (2:Int)) (
 some (0:Int)))))))))))) (
 tif ((1:Int)<c.1) (
 tif (c.2.1.1=c.2.2.1.1) (
 some (2:Int)) (
 tif (c.2.2.2.2.1<0) (
 some (2:Int)) (
 tif (c.2.2.2.2.2.1<0) (
 some (2:Int)) (
 tif (c.2.2.2.2.2.2<0) (
 some (2:Int)) (
 tif (c.1<=c.2.2.2.2.1) (
 some (2:Int)) (
 tif (c.1<=c.2.2.2.2.2.1) (
 some (2:Int)) (
 tif (c.1<=(wrap .i64 (c.2.2.2.2.1+c.2.2.2.2.2.1))) (
 some (2:Int)) (
 tif ((wrap .i64 (c.2.2.1.1-c.2.1.1))<c.2.2.2.2.2.2) (
 some (2:Int)) (
 a0a (r0g n (0,18446744073709551615) (wrap .u64 (wrap .i64 (c.1-1)))) fun r6 =>
 a0a (x0b n r6.1 c.2.2.2.1) fun r7 =>
 tif (r7) (
 some (2:Int)) (
 some (0:Int))))))))))) (
 tif (c.2.2.2.2.1<0) (
 some (2:Int)) (
 tif (c.2.2.2.2.2.1<0) (
 some (2:Int)) (
 tif (c.2.2.2.2.2.2<0) (
 some (2:Int)) (
 tif (c.1<=c.2.2.2.2.1) (
 some (2:Int)) (
 tif (c.1<=c.2.2.2.2.2.1) (
 some (2:Int)) (
 tif (c.1<=(wrap .i64 (c.2.2.2.2.1+c.2.2.2.2.2.1))) (
 some (2:Int)) (
 tif ((wrap .i64 (c.2.2.1.1-c.2.1.1))<c.2.2.2.2.2.2) (
 some (2:Int)) (
 a0a (r0g n (0,18446744073709551615) (wrap .u64 (wrap .i64 (c.1-1)))) fun r8 =>
 a0a (x0b n r8.1 c.2.2.2.1) fun r9 =>
 tif (r9) (
 some (2:Int)) (
 some (0:Int))))))))))))))))):=by kernel_rfl
theorem j2h (n:Nat)(t:Int)(w:Int):n1n (n+1) t w =
 tif (t<0) (
 some (0,1)) (
 tif ((35184372088832:Int)<=t) (
 some (0,1)) (
 a0a (u1f n w) fun r0 =>
 tif (!r0) (
 some (0,1)) (
 tif (w=0) (
 none) (
 tif (w=0) (
 none) (
 some ((wrap .i64 (Int.tdiv (wrap .i64 (t-(Int.tmod t w))) w)),0)))))):=by kernel_rfl
theorem u0h (n:Nat)(s:(List (List UInt8)))(f_:((List UInt8×Unit)->Option Bool)):n0z (n+1) s f_ =
 a0a (d0i n a0b (s,(f_,((s.length:Int),(0,()))))) fun r0 =>
 b0g (fun y1 =>
 some ((-1):Int)) (fun z2 =>
 some z2) r0:=by kernel_rfl
theorem i0s (n f:Nat)(s:(List (List UInt8)))(f_:((List UInt8×Unit)->Option Bool))(s7:Int)(s8:Int):d0i n (f+1) (s,f_,s7,s8,()) =
 tif (s8<s7) (
 a0a (at? s s8) fun r0 =>
 a0a (f_ (r0,())) fun r1 =>
 tif (r1) (
 some (.inr s8)) (
 d0i n f (s,(f_,(s7,((wrap .i64 (s8+1)),())))))) (
 some (.inl ())):=by kernel_rfl
theorem h1y (n:Nat)(elems:(List (List UInt8)))(sep:List UInt8):strings_Join (n+1) elems sep =
 tif ((elems.length:Int)=0) (
 some []) (
 tif ((elems.length:Int)=1) (
 a0a (at? elems (0:Int)) fun r0 =>
 some r0) (
 tif ((0:Int)<(sep.length:Int)) (
 tif ((wrap .i64 ((elems.length:Int)-1))=0) (
 none) (
 tif ((wrap .i64 (Int.tdiv (9223372036854775807:Int) (wrap .i64 ((elems.length:Int)-1))))<=(sep.length:Int)) (
 none) (
 a0a (g0g n a0b (elems,(sep,((wrap .i64 ((0:Int)+(wrap .i64 ((sep.length:Int)*(wrap .i64 ((elems.length:Int)-1)))))),(elems,((elems.length:Int),((0:Int),()))))))) fun r1 =>
 b0g (fun y2 =>
 a0a (c0f n [] y2.2.2.1) fun r3 =>
 a0a (at? y2.1 (0:Int)) fun r4 =>
 a0a (a0t n r3 r4) fun r5 =>
 tif (1<=(List.length y2.1)) (
 a0a (g0f n a0b (y2.2.1,(r5.2.2,((List.drop 1 (List.take (List.length y2.1) y2.1)),((((List.length (List.drop 1 (List.take (List.length y2.1) y2.1))):Nat):Int),((0:Int),())))))) fun r6 =>
 b0g (fun y7 =>
 a0a (b0r n y7.1) fun r8 =>
 some r8.1) (fun z9 =>
 some z9) r6) (
 none)) (fun z10 =>
 some z10) r1))) (
 a0a (g0g n a0b (elems,(sep,((0:Int),(elems,((elems.length:Int),((0:Int),()))))))) fun r11 =>
 b0g (fun y12 =>
 a0a (c0f n [] y12.2.2.1) fun r13 =>
 a0a (at? y12.1 (0:Int)) fun r14 =>
 a0a (a0t n r13 r14) fun r15 =>
 tif (1<=(List.length y12.1)) (
 a0a (g0f n a0b (y12.2.1,(r15.2.2,((List.drop 1 (List.take (List.length y12.1) y12.1)),((((List.length (List.drop 1 (List.take (List.length y12.1) y12.1))):Nat):Int),((0:Int),())))))) fun r16 =>
 b0g (fun y17 =>
 a0a (b0r n y17.1) fun r18 =>
 some r18.1) (fun z19 =>
 some z19) r16) (
 none)) (fun z20 =>
 some z20) r11))):=by kernel_rfl
theorem n0x (n f:Nat)(elems:(List (List UInt8)))(sep:List UInt8)(n_:Int)(s39:(List (List UInt8)))(s40:Int)(s41:Int):g0g n (f+1) (elems,sep,n_,s39,s40,s41,()) =
 tif (s41<s40) (
 a0a (at? s39 s41) fun r0 =>
 tif ((wrap .i64 ((9223372036854775807:Int)-n_))<(r0.length:Int)) (
 none) (
 g0g n f (elems,(sep,((wrap .i64 (n_+(r0.length:Int))),(s39,(s40,((wrap .i64 (s41+1)),())))))))) (
 some (.inl (elems,(sep,(n_,()))))):=by kernel_rfl
theorem n0w (n f:Nat)(sep:List UInt8)(b:List UInt8)(s63:(List (List UInt8)))(s64:Int)(s65:Int):g0f n (f+1) (sep,b,s63,s64,s65,()) =
 tif (s65<s64) (
 a0a (at? s63 s65) fun r0 =>
 a0a (a0t n b sep) fun r1 =>
 a0a (a0t n r1.2.2 r0) fun r2 =>
 g0f n f (sep,(r2.2.2,(s63,(s64,((wrap .i64 (s65+1)),())))))) (
 some (.inl (b,()))):=by kernel_rfl
theorem m0u (n:Nat)(r:(List UInt8×Bool))(long:Int):f0u (n+1) r long =
 a0a (d0n n r) fun r0 =>
 tif (long<0) (
 a0a (c0e n r0.2) fun r1 =>
 some ([],r1)) (
 tif ((wrap .u64 long)<r0.1) (
 a0a (c0e n r0.2) fun r2 =>
 some ([],r2)) (
 tif ((wrap .u64 (r0.2.1.length:Int))<r0.1) (
 a0a (c0e n r0.2) fun r3 =>
 some ([],r3)) (
 a0a (e0a n r0.2 (wrap .i64 r0.1)) fun r4 =>
 some r4))):=by kernel_rfl
theorem c1h (n:Nat)(r:(List UInt8×Bool)):h0e (n+1) r =
 a0a (a0h n r (8:Int)) fun r0 =>
 a0a (a0h n r0.2 (8:Int)) fun r1 =>
 a0a (a0h n r1.2 (8:Int)) fun r2 =>
 a0a (a0h n r2.2 (1:Int)) fun r3 =>
 some (((wrap .i64 r0.1),(r1.1,((wrap .i64 r2.1),(decide (r3.1=1))))),r3.2):=by kernel_rfl
theorem l0a (n:Nat)(r:(List UInt8×Bool))(n_:Int):i0t (n+1) r n_ =
 tif (r.2) (
 some (([],true),[])) (
 tif (n_<0) (
 some (([],true),[])) (
 tif ((r.1.length:Int)<n_) (
 some (([],true),[])) (
 tif ((0:Int)<=n_) (
 tif ((Int.toNat n_)<=(List.length r.1)) (
 tif (((0:Int)<=n_)&&(n_<=(r.1.length:Int))) (
 some (((List.drop (Int.toNat n_) (List.take (List.length r.1) r.1)),false),(List.drop 0 (List.take (Int.toNat n_) r.1)))) (
 none)) (
 none)) (
 none)))):=by kernel_rfl
theorem k0g (n:Nat)(r:(List UInt8×Bool)):e0m (n+1) r =
 tif (r.2) (
 some (r,0)) (
 a0a (f0b n a0b (r,(([],false),(0,(0,()))))) fun r0 =>
 b0g (fun y1 =>
 some (([],true),0)) (fun z2 =>
 some z2) r0):=by kernel_rfl
theorem d0v (n f:Nat)(r_:(List UInt8×Bool))(s2:(List UInt8×Bool))(n_:Int)(i:Int):f0b n (f+1) (r_,s2,n_,i,()) =
 tif (i<(r_.1.length:Int)) (
 tif (i<10) (
 a0a (at? r_.1 i) fun r0 =>
 tif (i=9) (
 tif ((1:Int)<(wrap .u64 (((UInt8.toNat r0):Nat):Int))) (
 some (.inl (s2,()))) (
 tif ((wrap .i64 ((7:Int)*i))<0) (
 none) (
 tif ((128:Int)<=(wrap .u64 (((UInt8.toNat r0):Nat):Int))) (
 f0b n f (r_,(s2,((wrap .u64 (n_+(shlI .u64 (Int.tmod (wrap .u64 (((UInt8.toNat r0):Nat):Int)) (128:Int)) (wrap .i64 ((7:Int)*i))))),((wrap .i64 (i+1)),()))))) (
 a0a (j0a n (wrap .u64 (n_+(shlI .u64 (Int.tmod (wrap .u64 (((UInt8.toNat r0):Nat):Int)) (128:Int)) (wrap .i64 ((7:Int)*i)))))) fun r1 =>
 tif (((0:Int)<=(wrap .i64 (i+1)))&&((wrap .i64 (i+1))<=(r_.1.length:Int))) (
 tif (!(r1==(List.drop 0 (List.take (Int.toNat (wrap .i64 (i+1))) r_.1)))) (
 some (.inl (s2,()))) (
 tif ((0:Int)<=(wrap .i64 (i+1))) (
 tif ((Int.toNat (wrap .i64 (i+1)))<=(List.length r_.1)) (
 some (.inr (((List.drop (Int.toNat (wrap .i64 (i+1))) (List.take (List.length r_.1) r_.1)),false),(wrap .u64 (n_+(shlI .u64 (Int.tmod (wrap .u64 (((UInt8.toNat r0):Nat):Int)) (128:Int)) (wrap .i64 ((7:Int)*i)))))))) (
 none)) (
 none))) (
 none))))) (
 tif ((wrap .i64 ((7:Int)*i))<0) (
 none) (
 tif ((128:Int)<=(wrap .u64 (((UInt8.toNat r0):Nat):Int))) (
 f0b n f (r_,(s2,((wrap .u64 (n_+(shlI .u64 (Int.tmod (wrap .u64 (((UInt8.toNat r0):Nat):Int)) (128:Int)) (wrap .i64 ((7:Int)*i))))),((wrap .i64 (i+1)),()))))) (
 a0a (j0a n (wrap .u64 (n_+(shlI .u64 (Int.tmod (wrap .u64 (((UInt8.toNat r0):Nat):Int)) (128:Int)) (wrap .i64 ((7:Int)*i)))))) fun r2 =>
 tif (((0:Int)<=(wrap .i64 (i+1)))&&((wrap .i64 (i+1))<=(r_.1.length:Int))) (
 tif (!(r2==(List.drop 0 (List.take (Int.toNat (wrap .i64 (i+1))) r_.1)))) (
 some (.inl (s2,()))) (
 tif ((0:Int)<=(wrap .i64 (i+1))) (
 tif ((Int.toNat (wrap .i64 (i+1)))<=(List.length r_.1)) (
 some (.inr (((List.drop (Int.toNat (wrap .i64 (i+1))) (List.take (List.length r_.1) r_.1)),false),(wrap .u64 (n_+(shlI .u64 (Int.tmod (wrap .u64 (((UInt8.toNat r0):Nat):Int)) (128:Int)) (wrap .i64 ((7:Int)*i)))))))) (
 none)) (
 none))) (
 none))))) (
 some (.inl (s2,())))) (
 some (.inl (s2,()))):=by kernel_rfl
theorem p0p (n:Nat)(r:(List UInt8×Bool))(most:Int):h0a (n+1) r most =
 a0a (e0m n r) fun r0 =>
 tif (r0.1.2) (
 some (([],true),[])) (
 tif ((wrap .u64 (r0.1.1.length:Int))<r0.2) (
 some (([],true),[])) (
 tif (most<0) (
 some (([],true),[])) (
 tif ((wrap .u64 most)<r0.2) (
 some (([],true),[])) (
 a0a (i0t n r0.1 (wrap .i64 r0.2)) fun r1 =>
 some r1)))):=by kernel_rfl
theorem i1x (n:Nat)(a:(List a0p))(b:(List a0p)):v0d (n+1) a b =
 tif (!((a.length:Int)=(b.length:Int))) (
 some false) (
 a0a (k0f n a0b (a,(b,((a.length:Int),(0,()))))) fun r0 =>
 b0g (fun y1 =>
 some true) (fun z2 =>
 some z2) r0):=by kernel_rfl
theorem p0l (n f:Nat)(a:(List a0p))(b:(List a0p))(s12:Int)(s13:Int):k0f n (f+1) (a,b,s12,s13,()) =
 tif (s13<s12) (
 a0a (at? a s13) fun r0 =>
 a0a (at? b s13) fun r1 =>
 tif (!((decide (r0.1=r1.1))&&((decide (r0.2.1=r1.2.1))&&((decide (r0.2.2.1=r1.2.2.1))&&(r0.2.2.2==r1.2.2.2))))) (
 some (.inr false)) (
 k0f n f (a,(b,(s12,((wrap .i64 (s13+1)),())))))) (
 some (.inl ())):=by kernel_rfl
theorem y1s (n:Nat)(a:(List a0d))(b:(List a0d)):b1f (n+1) a b =
 tif (!((a.length:Int)=(b.length:Int))) (
 some false) (
 a0a (s0w n a0b (a,(b,((a.length:Int),(0,()))))) fun r0 =>
 b0g (fun y1 =>
 some true) (fun z2 =>
 some z2) r0):=by kernel_rfl
theorem y0b (n f:Nat)(a:(List a0d))(b:(List a0d))(s12:Int)(s13:Int):s0w n (f+1) (a,b,s12,s13,()) =
 tif (s13<s12) (
 a0a (at? a s13) fun r0 =>
 a0a (at? b s13) fun r1 =>
 tif (!((decide (r0.1=r1.1))&&((decide (r0.2.1=r1.2.1))&&((decide (r0.2.2.1.1=r1.2.2.1.1))&&((decide (r0.2.2.1.2.1=r1.2.2.1.2.1))&&((decide (r0.2.2.1.2.2.1=r1.2.2.1.2.2.1))&&((r0.2.2.1.2.2.2==r1.2.2.1.2.2.2)&&((decide (r0.2.2.2.1.1=r1.2.2.2.1.1))&&((decide (r0.2.2.2.1.2.1=r1.2.2.2.1.2.1))&&((decide (r0.2.2.2.1.2.2.1=r1.2.2.2.1.2.2.1))&&((r0.2.2.2.1.2.2.2==r1.2.2.2.1.2.2.2)&&((decide (r0.2.2.2.2.1.1=r1.2.2.2.2.1.1))&&((decide (r0.2.2.2.2.1.2=r1.2.2.2.2.1.2))&&((decide (r0.2.2.2.2.2.1=r1.2.2.2.2.2.1))&&((decide (r0.2.2.2.2.2.2.1=r1.2.2.2.2.2.2.1))&&(decide (r0.2.2.2.2.2.2.2=r1.2.2.2.2.2.2.2))))))))))))))))) (
 some (.inr false)) (
 s0w n f (a,(b,(s12,((wrap .i64 (s13+1)),())))))) (
 some (.inl ())):=by kernel_rfl
theorem a1a (n:Nat)(k:Int)(p1:Int)(p2:b0b):g0y (n+1) k p1 p2 =
 tif (k=p1) (
 some true) (
 a0a (l0k n p2 k) fun r0 =>
 tif (r0) (
 a0a (at? p2.2.2.2 k) fun r1 =>
 a0a (at? p2.2.2.2 p1) fun r2 =>
 a0a (x0f n r1.1 r2.1) fun r3 =>
 some r3) (
 some false)):=by kernel_rfl
theorem d1j (n:Nat)(s1:(List a0p))(s2:(List a0p)):q0l (n+1) s1 s2 =
 tif (!((s1.length:Int)=(s2.length:Int))) (
 some false) (
 a0a (h0s n a0b (s1,(s2,((s1.length:Int),(0,()))))) fun r0 =>
 b0g (fun y1 =>
 some true) (fun z2 =>
 some z2) r0):=by kernel_rfl
theorem m0q (n f:Nat)(s1:(List a0p))(s2:(List a0p))(s12:Int)(s13:Int):h0s n (f+1) (s1,s2,s12,s13,()) =
 tif (s13<s12) (
 a0a (at? s1 s13) fun r0 =>
 a0a (at? s2 s13) fun r1 =>
 tif (!((decide (r0.1=r1.1))&&((decide (r0.2.1=r1.2.1))&&((decide (r0.2.2.1=r1.2.2.1))&&(r0.2.2.2==r1.2.2.2))))) (
 some (.inr false)) (
 h0s n f (s1,(s2,(s12,((wrap .i64 (s13+1)),())))))) (
 some (.inl ())):=by kernel_rfl
theorem d2z (n:Nat)(t:Int)(now:Int)(w:Int)(n_:Int):h1p (n+1) t now w n_ =
 a0a (d2y n t w) fun r0 =>
 a0a (h1o n now w n_) fun r1 =>
 tif (r0.2=0) (
 tif (r1.2=0) (
 some (decide (r0.1<r1.1))) (
 some false)) (
 some false):=by kernel_rfl
theorem q1o (n:Nat)(s:List UInt8):e1f (n+1) s =
 tif (s==[]) (
 some false) (
 tif ((64:Int)<(s.length:Int)) (
 some false) (
 a0a (at? s (0:Int)) fun r0 =>
 a0a (t0h n (((UInt8.toNat r0):Nat):Int)) fun r1 =>
 tif (r1) (
 some false) (
 a0a (i0k n (List.map (fun y2=>(((UInt8.toNat y2):Nat):Int)) s) (fun y3=>v0v n y3.1)) fun r4 =>
 some (!r4)))):=by kernel_rfl
theorem z1a (n:Nat)(t:Int)(now:Int)(w:Int)(n_:Int):b1m (n+1) t now w n_ =
 a0a (n1n n t w) fun r0 =>
 a0a (d1v n now w n_) fun r1 =>
 tif (r0.2=0) (
 tif (r1.2=0) (
 some (decide (r0.1<r1.1))) (
 some false)) (
 some false):=by kernel_rfl
theorem w1a (n:Nat)(c:a0r)(s:((List a0d)×((List a0d)×(List a0d)))):j1x (n+1) c s =
 a0a (e0u n c) fun r0 =>
 tif (!(r0=0)) (
 some (none,r0)) (
 tif (!((s.1.length:Int)=c.2.2.1.1)) (
 some (none,2)) (
 a0a (q0u n s.1 c.2.1.1) fun r1 =>
 tif (!(r1=0)) (
 some (none,2)) (
 tif (!((s.2.1.length:Int)=c.2.2.1.2.1)) (
 some (none,2)) (
 a0a (q0u n s.2.1 c.2.1.2.1) fun r2 =>
 tif (!(r2=0)) (
 some (none,2)) (
 tif (!((s.2.2.length:Int)=c.2.2.1.2.2)) (
 some (none,2)) (
 a0a (q0u n s.2.2 c.2.1.2.2) fun r3 =>
 tif (!(r3=0)) (
 some (none,2)) (
 some ((some (c,s)),0)))))))):=by kernel_rfl
theorem p1k (n:Nat)(l:(List a0p)):d1r (n+1) l =
 a0a (h0v n a0b (l,(l,((l.length:Int),(0,()))))) fun r0 =>
 b0g (fun y1 =>
 some true) (fun z2 =>
 some z2) r0:=by kernel_rfl
theorem t0w (n f:Nat)(l:(List a0p))(s5:(List a0p))(s6:Int)(s7:Int):h0v n (f+1) (l,s5,s6,s7,()) =
 tif (s7<s6) (
 a0a (at? s5 s7) fun r0 =>
 a0a (o0u n r0) fun r1 =>
 tif (!(r1=0)) (
 some (.inr false)) (
 tif ((0:Int)<s7) (
 a0a (at? l (wrap .i64 (s7-1))) fun r2 =>
 a0a (p0y n r2 r0) fun r3 =>
 tif (!r3) (
 some (.inr false)) (
 h0v n f (l,(s5,(s6,((wrap .i64 (s7+1)),())))))) (
 h0v n f (l,(s5,(s6,((wrap .i64 (s7+1)),()))))))) (
 some (.inl ())):=by kernel_rfl
theorem p1m (n:Nat)(r:(Int×(Int×(List a0p))))(room:Int):n1k (n+1) r room =
 tif (r.1=0) (
 some (decide (r.2.1=0))) (
 tif ((r.2.2.length:Int)=room) (
 tif ((0:Int)<=r.2.1) (
 a0a (at? r.2.2 (0:Int)) fun r0 =>
 some (decide (r.2.1<r0.1))) (
 some false)) (
 some false)):=by kernel_rfl
theorem g1e (n:Nat)(l:(List a0d))(i:Int):e0x (n+1) l i =
 a0a (i0l n l (fun y0=>o0c n y0.1 i)) fun r1 =>
 some r1:=by kernel_rfl
theorem y1e (n:Nat)(r:(Int×(Int×(List a0p)))):p1n (n+1) r =
 tif ((r.2.2.length:Int)=0) (
 some ((0,(0,(0,false))),3)) (
 a0a (at? r.2.2 (wrap .i64 ((r.2.2.length:Int)-1))) fun r0 =>
 some (r0,0)):=by kernel_rfl
theorem s1j (n:Nat)(c:e1x)(w:Int)(i:Int):z0v (n+1) c w i =
 tif (c.1=0) (
 some false) (
 a0a (e1r n c) fun r0 =>
 tif (!(r0=0)) (
 some false) (
 a0a (g0x n a0b (w,(i,((c.2.1.1,c.2.2.1.1),(0,()))))) fun r1 =>
 b0g (fun y2 =>
 some true) (fun z3 =>
 some z3) r1)):=by kernel_rfl
theorem n0v (n f:Nat)(w:Int)(i:Int)(s25:(Int×Int))(s26:Int):g0x n (f+1) (w,i,s25,s26,()) =
 tif (s26<2) (
 tif (s26=0) (
 a0a (d2y n s25.1 w) fun r0 =>
 tif (!(r0.2=0)) (
 some (.inr false)) (
 tif (!(r0.1=i)) (
 some (.inr false)) (
 g0x n f (w,(i,(s25,((wrap .i64 (s26+1)),()))))))) (
 tif (s26=1) (
 a0a (d2y n s25.2 w) fun r1 =>
 tif (!(r1.2=0)) (
 some (.inr false)) (
 tif (!(r1.1=i)) (
 some (.inr false)) (
 g0x n f (w,(i,(s25,((wrap .i64 (s26+1)),()))))))) (
 none))) (
 some (.inl ())):=by kernel_rfl
theorem y1z (n:Nat)(i:Int)(n_:Int):p1t (n+1) i n_ =
 tif (i<0) (
 some (0:Int)) (
 tif (n_<1) (
 some (0:Int)) (
 tif (n_=0) (
 none) (
 some (Int.tmod i n_)))):=by kernel_rfl
theorem u1s (n:Nat)(a:(Int×Int))(n_:Int):r0g (n+1) a n_ =
 a0a (e0j n a0b (n_,(a,((0,0),((0,0),(false,())))))) fun r0 =>
 b0g (fun y1 =>
 some (y1.2.1,0)) (fun z2 =>
 some z2) r0:=by kernel_rfl
theorem k0h (n f:Nat)(n_:Int)(a_:(Int×Int))(s4:(Int×Int))(out:(Int×Int))(over:Bool):e0j n (f+1) (n_,a_,s4,out,over,()) =
 tif ((0:Int)<n_) (
 tif ((Int.tmod n_ (2:Int))=1) (
 tif (over) (
 some (.inr ((0,0),1))) (
 a0a (j1e n out a_) fun r0 =>
 tif (!(r0.2=0)) (
 some (.inr ((0,0),r0.2))) (
 a0a (j1e n a_ a_) fun r1 =>
 tif (over) (
 e0j n f ((wrap .u64 (Int.tdiv n_ (2:Int))),(r1.1,(s4,(r0.1,(true,())))))) (
 e0j n f ((wrap .u64 (Int.tdiv n_ (2:Int))),(r1.1,(s4,(r0.1,((!(decide (r1.2=0))),()))))))))) (
 a0a (j1e n a_ a_) fun r2 =>
 tif (over) (
 e0j n f ((wrap .u64 (Int.tdiv n_ (2:Int))),(r2.1,(s4,(out,(true,())))))) (
 e0j n f ((wrap .u64 (Int.tdiv n_ (2:Int))),(r2.1,(s4,(out,((!(decide (r2.2=0))),())))))))) (
 some (.inl (s4,(out,())))):=by kernel_rfl
theorem z1j (n:Nat)(a:(Int×Int))(b:(Int×Int)):x0b (n+1) a b =
 a0a (r0h n a) fun r0 =>
 a0a (r0h n b) fun r1 =>
 tif (!(r0.2.2.2.2.2.2.2.2.2.2.2.2.2.2.2=r1.2.2.2.2.2.2.2.2.2.2.2.2.2.2.2)) (
 some (decide (r0.2.2.2.2.2.2.2.2.2.2.2.2.2.2.2<r1.2.2.2.2.2.2.2.2.2.2.2.2.2.2.2))) (
 tif (!(r0.2.2.2.2.2.2.2.2.2.2.2.2.2.2.1=r1.2.2.2.2.2.2.2.2.2.2.2.2.2.2.1)) (
 some (decide (r0.2.2.2.2.2.2.2.2.2.2.2.2.2.2.1<r1.2.2.2.2.2.2.2.2.2.2.2.2.2.2.1))) (
 tif (!(r0.2.2.2.2.2.2.2.2.2.2.2.2.2.1=r1.2.2.2.2.2.2.2.2.2.2.2.2.2.1)) (
 some (decide (r0.2.2.2.2.2.2.2.2.2.2.2.2.2.1<r1.2.2.2.2.2.2.2.2.2.2.2.2.2.1))) (
 tif (!(r0.2.2.2.2.2.2.2.2.2.2.2.2.1=r1.2.2.2.2.2.2.2.2.2.2.2.2.1)) (
 some (decide (r0.2.2.2.2.2.2.2.2.2.2.2.2.1<r1.2.2.2.2.2.2.2.2.2.2.2.2.1))) (
 tif (!(r0.2.2.2.2.2.2.2.2.2.2.2.1=r1.2.2.2.2.2.2.2.2.2.2.2.1)) (
 some (decide (r0.2.2.2.2.2.2.2.2.2.2.2.1<r1.2.2.2.2.2.2.2.2.2.2.2.1))) (
 tif (!(r0.2.2.2.2.2.2.2.2.2.2.1=r1.2.2.2.2.2.2.2.2.2.2.1)) (
 some (decide (r0.2.2.2.2.2.2.2.2.2.2.1<r1.2.2.2.2.2.2.2.2.2.2.1))) (
 tif (!(r0.2.2.2.2.2.2.2.2.2.1=r1.2.2.2.2.2.2.2.2.2.1)) (
 some (decide (r0.2.2.2.2.2.2.2.2.2.1<r1.2.2.2.2.2.2.2.2.2.1))) (
 tif (!(r0.2.2.2.2.2.2.2.2.1=r1.2.2.2.2.2.2.2.2.1)) (
 some (decide (r0.2.2.2.2.2.2.2.2.1<r1.2.2.2.2.2.2.2.2.1))) (
 tif (!(r0.2.2.2.2.2.2.2.1=r1.2.2.2.2.2.2.2.1)) (
 some (decide (r0.2.2.2.2.2.2.2.1<r1.2.2.2.2.2.2.2.1))) (
 tif (!(r0.2.2.2.2.2.2.1=r1.2.2.2.2.2.2.1)) (
 some (decide (r0.2.2.2.2.2.2.1<r1.2.2.2.2.2.2.1))) (
 tif (!(r0.2.2.2.2.2.1=r1.2.2.2.2.2.1)) (
 some (decide (r0.2.2.2.2.2.1<r1.2.2.2.2.2.1))) (
 tif (!(r0.2.2.2.2.1=r1.2.2.2.2.1)) (
 some (decide (r0.2.2.2.2.1<r1.2.2.2.2.1))) (
 tif (!(r0.2.2.2.1=r1.2.2.2.1)) (
 some (decide (r0.2.2.2.1<r1.2.2.2.1))) (
 tif (!(r0.2.2.1=r1.2.2.1)) (
 some (decide (r0.2.2.1<r1.2.2.1))) (
 tif (!(r0.2.1=r1.2.1)) (
 some (decide (r0.2.1<r1.2.1))) (
 tif (!(r0.1=r1.1)) (
 some (decide (r0.1<r1.1))) (
 some false)))))))))))))))):=by kernel_rfl
theorem u1e (n:Nat)(w:Int):u1f (n+1) w =
 tif ((1:Int)<=w) (
 some (decide (w<=1099511627776))) (
 some false):=by kernel_rfl
theorem wi_Of_eq (n:Nat)(t:Int)(w:Int):d2y (n+1) t w =
 a0a (s0c n t (0:Int) (35184372088831:Int)) fun r0 =>
 tif (!r0) (
 some (0,1)) (
 a0a (b2d n w) fun r1 =>
 tif (!r1) (
 some (0,1)) (
 tif (w=0) (
 none) (
 some ((wrap .i64 (Int.tdiv t w)),0)))):=by kernel_rfl
theorem s1c (n:Nat)(now:Int)(w:Int)(n_:Int):h1o (n+1) now w n_ =
 a0a (d2y n now w) fun r0 =>
 tif (!(r0.2=0)) (
 some (0,1)) (
 a0a (s1b n n_ (1:Int) (4096:Int)) fun r1 =>
 tif (!r1) (
 some (0,1)) (
 some ((if (0:Int)<(wrap .i64 ((wrap .i64 (r0.1+1))-n_)) then (wrap .i64 ((wrap .i64 (r0.1+1))-n_)) else (0:Int)),0))):=by kernel_rfl
theorem l1r (n:Nat)(c:Int):t0h (n+1) c =
 tif ((48:Int)<=c) (
 some (decide (c<=57))) (
 some false):=by kernel_rfl
theorem s0j (n:Nat)(s:(List Int))(f_:((Int×Unit)->Option Bool)):i0k (n+1) s f_ =
 a0a (r0a n s f_) fun r0 =>
 some (decide ((0:Int)<=r0)):=by kernel_rfl
theorem j1r (n:Nat)(c:Int):v0v (n+1) c =
 a0a (e1d n c) fun r0 =>
 some (!r0):=by kernel_rfl
theorem q1m (n:Nat)(c:Int):e1d (n+1) c =
 a0a (t0h n c) fun r0 =>
 tif (r0) (
 some true) (
 tif (c=95) (
 some true) (
 tif ((97:Int)<=(orI .u8 c (32:Int))) (
 some (decide ((orI .u8 c (32:Int))<=122))) (
 some false))):=by kernel_rfl
theorem k1c (n:Nat)(p:a0p)(c:a0p):p0y (n+1) p c =
 a0a (t0o n (p::(c::[]))) fun r0 =>
 tif (r0) (
 some (decide (p.1<c.1))) (
 some false):=by kernel_rfl
theorem p1u (n:Nat)(now:Int)(w:Int)(n_:Int):d1v (n+1) now w n_ =
 a0a (n1n n now w) fun r0 =>
 tif (!(r0.2=0)) (
 some (0,1)) (
 tif (n_<1) (
 some (0,1)) (
 tif ((4096:Int)<n_) (
 some (0,1)) (
 some ((if (wrap .i64 ((wrap .i64 (r0.1-n_))+1))<0 then (0:Int) else (wrap .i64 ((wrap .i64 (r0.1-n_))+1))),0)))):=by kernel_rfl
theorem o1v (n:Nat)(l:(List a0d))(w:Int):q0u (n+1) l w =
 tif ((l.length:Int)=0) (
 some (2:Int)) (
 tif ((4096:Int)<(l.length:Int)) (
 some (2:Int)) (
 tif (w<1) (
 some (2:Int)) (
 tif ((1099511627776:Int)<w) (
 some (2:Int)) (
 a0a (h0p n a0b (l,(w,(l,((l.length:Int),(0,())))))) fun r0 =>
 b0g (fun y1 =>
 some (0:Int)) (fun z2 =>
 some z2) r0)))):=by kernel_rfl
theorem t0t (n f:Nat)(l:(List a0d))(w:Int)(s23:(List a0d))(s24:Int)(s25:Int):h0p n (f+1) (l,w,s23,s24,s25,()) =
 tif (s25<s24) (
 a0a (at? s23 s25) fun r0 =>
 a0a (u0m n r0) fun r1 =>
 tif (!r1) (
 a0a (x1e n r0.1 (l.length:Int)) fun r2 =>
 tif (!(r2=s25)) (
 some (.inr (2:Int))) (
 a0a (z0v n r0.2 w r0.1) fun r3 =>
 tif (!r3) (
 some (.inr (2:Int))) (
 h0p n f (l,(w,(s23,(s24,((wrap .i64 (s25+1)),())))))))) (
 h0p n f (l,(w,(s23,(s24,((wrap .i64 (s25+1)),()))))))) (
 some (.inl ())):=by kernel_rfl
theorem s0k (n:Nat)(s:(List a0d))(f_:((a0d×Unit)->Option Bool)):i0l (n+1) s f_ =
 a0a (k0v n s f_) fun r0 =>
 some (decide ((0:Int)<=r0)):=by kernel_rfl
theorem a1o (n:Nat)(s:a0d)(p1:Int):o0c (n+1) s p1 =
 tif ((0:Int)<s.2.1) (
 some (decide (p1<=s.1))) (
 some false):=by kernel_rfl
theorem r1t (n:Nat)(c:e1x):e1r (n+1) c =
 a0a (k1n n c) fun r0 =>
 tif (r0) (
 some (0:Int)) (
 a0a (e1q n c) fun r1 =>
 tif (!r1) (
 some (2:Int)) (
 a0a (x1b n (18446744073709551615:Int)) fun r2 =>
 a0a (c1y n r2 (wrap .u64 (wrap .i64 (c.1-1)))) fun r3 =>
 tif (!(r3.2=0)) (
 some (2:Int)) (
 a0a (h1m n r3.1 c.2.2.2.1) fun r4 =>
 tif (r4) (
 some (2:Int)) (
 a0a (k1o n c.2.2.2.2.2.1 (wrap .i64 (c.1-1))) fun r5 =>
 tif (!r5) (
 some (2:Int)) (
 a0a (k1o n c.2.2.2.2.1 (wrap .i64 ((wrap .i64 (c.1-1))-c.2.2.2.2.2.1))) fun r6 =>
 tif (!r6) (
 some (2:Int)) (
 a0a (k1o n c.2.2.2.2.2.2 (wrap .i64 (c.2.2.1.1-c.2.1.1))) fun r7 =>
 tif (!r7) (
 some (2:Int)) (
 some (0:Int)))))))):=by kernel_rfl
theorem f2e (n:Nat)(a:(Int×Int))(b:(Int×Int)):j1e (n+1) a b =
 a0a (r0h n a) fun r0 =>
 a0a (r0h n b) fun r1 =>
 tif ((0:Int)<(wrap .i64 (Int.tdiv (wrap .i64 ((wrap .i64 (r0.2.2.2.2.2.2.2.2.2.2.2.2.2.2.2+r1.2.2.2.2.2.2.2.2.2.2.2.2.2.2.2))+(wrap .i64 (Int.tdiv (wrap .i64 ((wrap .i64 (r0.2.2.2.2.2.2.2.2.2.2.2.2.2.2.1+r1.2.2.2.2.2.2.2.2.2.2.2.2.2.2.1))+(wrap .i64 (Int.tdiv (wrap .i64 ((wrap .i64 (r0.2.2.2.2.2.2.2.2.2.2.2.2.2.1+r1.2.2.2.2.2.2.2.2.2.2.2.2.2.1))+(wrap .i64 (Int.tdiv (wrap .i64 ((wrap .i64 (r0.2.2.2.2.2.2.2.2.2.2.2.2.1+r1.2.2.2.2.2.2.2.2.2.2.2.2.1))+(wrap .i64 (Int.tdiv (wrap .i64 ((wrap .i64 (r0.2.2.2.2.2.2.2.2.2.2.2.1+r1.2.2.2.2.2.2.2.2.2.2.2.1))+(wrap .i64 (Int.tdiv (wrap .i64 ((wrap .i64 (r0.2.2.2.2.2.2.2.2.2.2.1+r1.2.2.2.2.2.2.2.2.2.2.1))+(wrap .i64 (Int.tdiv (wrap .i64 ((wrap .i64 (r0.2.2.2.2.2.2.2.2.2.1+r1.2.2.2.2.2.2.2.2.2.1))+(wrap .i64 (Int.tdiv (wrap .i64 ((wrap .i64 (r0.2.2.2.2.2.2.2.2.1+r1.2.2.2.2.2.2.2.2.1))+(wrap .i64 (Int.tdiv (wrap .i64 ((wrap .i64 (r0.2.2.2.2.2.2.2.1+r1.2.2.2.2.2.2.2.1))+(wrap .i64 (Int.tdiv (wrap .i64 ((wrap .i64 (r0.2.2.2.2.2.2.1+r1.2.2.2.2.2.2.1))+(wrap .i64 (Int.tdiv (wrap .i64 ((wrap .i64 (r0.2.2.2.2.2.1+r1.2.2.2.2.2.1))+(wrap .i64 (Int.tdiv (wrap .i64 ((wrap .i64 (r0.2.2.2.2.1+r1.2.2.2.2.1))+(wrap .i64 (Int.tdiv (wrap .i64 ((wrap .i64 (r0.2.2.2.1+r1.2.2.2.1))+(wrap .i64 (Int.tdiv (wrap .i64 ((wrap .i64 (r0.2.2.1+r1.2.2.1))+(wrap .i64 (Int.tdiv (wrap .i64 ((wrap .i64 (r0.2.1+r1.2.1))+(wrap .i64 (Int.tdiv (wrap .i64 ((wrap .i64 (r0.1+r1.1))+0)) (256:Int))))) (256:Int))))) (256:Int))))) (256:Int))))) (256:Int))))) (256:Int))))) (256:Int))))) (256:Int))))) (256:Int))))) (256:Int))))) (256:Int))))) (256:Int))))) (256:Int))))) (256:Int))))) (256:Int))))) (256:Int)))) (
 some ((0,0),1)) (
 a0a (c2a n ((Int.tmod (wrap .i64 ((wrap .i64 (r0.1+r1.1))+0)) (256:Int)),((Int.tmod (wrap .i64 ((wrap .i64 (r0.2.1+r1.2.1))+(wrap .i64 (Int.tdiv (wrap .i64 ((wrap .i64 (r0.1+r1.1))+0)) (256:Int))))) (256:Int)),((Int.tmod (wrap .i64 ((wrap .i64 (r0.2.2.1+r1.2.2.1))+(wrap .i64 (Int.tdiv (wrap .i64 ((wrap .i64 (r0.2.1+r1.2.1))+(wrap .i64 (Int.tdiv (wrap .i64 ((wrap .i64 (r0.1+r1.1))+0)) (256:Int))))) (256:Int))))) (256:Int)),((Int.tmod (wrap .i64 ((wrap .i64 (r0.2.2.2.1+r1.2.2.2.1))+(wrap .i64 (Int.tdiv (wrap .i64 ((wrap .i64 (r0.2.2.1+r1.2.2.1))+(wrap .i64 (Int.tdiv (wrap .i64 ((wrap .i64 (r0.2.1+r1.2.1))+(wrap .i64 (Int.tdiv (wrap .i64 ((wrap .i64 (r0.1+r1.1))+0)) (256:Int))))) (256:Int))))) (256:Int))))) (256:Int)),((Int.tmod (wrap .i64 ((wrap .i64 (r0.2.2.2.2.1+r1.2.2.2.2.1))+(wrap .i64 (Int.tdiv (wrap .i64 ((wrap .i64 (r0.2.2.2.1+r1.2.2.2.1))+(wrap .i64 (Int.tdiv (wrap .i64 ((wrap .i64 (r0.2.2.1+r1.2.2.1))+(wrap .i64 (Int.tdiv (wrap .i64 ((wrap .i64 (r0.2.1+r1.2.1))+(wrap .i64 (Int.tdiv (wrap .i64 ((wrap .i64 (r0.1+r1.1))+0)) (256:Int))))) (256:Int))))) (256:Int))))) (256:Int))))) (256:Int)),((Int.tmod (wrap .i64 ((wrap .i64 (r0.2.2.2.2.2.1+r1.2.2.2.2.2.1))+(wrap .i64 (Int.tdiv (wrap .i64 ((wrap .i64 (r0.2.2.2.2.1+r1.2.2.2.2.1))+(wrap .i64 (Int.tdiv (wrap .i64 ((wrap .i64 (r0.2.2.2.1+r1.2.2.2.1))+(wrap .i64 (Int.tdiv (wrap .i64 ((wrap .i64 (r0.2.2.1+r1.2.2.1))+(wrap .i64 (Int.tdiv (wrap .i64 ((wrap .i64 (r0.2.1+r1.2.1))+(wrap .i64 (Int.tdiv (wrap .i64 ((wrap .i64 (r0.1+r1.1))+0)) (256:Int))))) (256:Int))))) (256:Int))))) (256:Int))))) (256:Int))))) (256:Int)),((Int.tmod (wrap .i64 ((wrap .i64 (r0.2.2.2.2.2.2.1+r1.2.2.2.2.2.2.1))+(wrap .i64 (Int.tdiv (wrap .i64 ((wrap .i64 (r0.2.2.2.2.2.1+r1.2.2.2.2.2.1))+(wrap .i64 (Int.tdiv (wrap .i64 ((wrap .i64 (r0.2.2.2.2.1+r1.2.2.2.2.1))+(wrap .i64 (Int.tdiv (wrap .i64 ((wrap .i64 (r0.2.2.2.1+r1.2.2.2.1))+(wrap .i64 (Int.tdiv (wrap .i64 ((wrap .i64 (r0.2.2.1+r1.2.2.1))+(wrap .i64 (Int.tdiv (wrap .i64 ((wrap .i64 (r0.2.1+r1.2.1))+(wrap .i64 (Int.tdiv (wrap .i64 ((wrap .i64 (r0.1+r1.1))+0)) (256:Int))))) (256:Int))))) (256:Int))))) (256:Int))))) (256:Int))))) (256:Int))))) (256:Int)),((Int.tmod (wrap .i64 ((wrap .i64 (r0.2.2.2.2.2.2.2.1+r1.2.2.2.2.2.2.2.1))+(wrap .i64 (Int.tdiv (wrap .i64 ((wrap .i64 (r0.2.2.2.2.2.2.1+r1.2.2.2.2.2.2.1))+(wrap .i64 (Int.tdiv (wrap .i64 ((wrap .i64 (r0.2.2.2.2.2.1+r1.2.2.2.2.2.1))+(wrap .i64 (Int.tdiv (wrap .i64 ((wrap .i64 (r0.2.2.2.2.1+r1.2.2.2.2.1))+(wrap .i64 (Int.tdiv (wrap .i64 ((wrap .i64 (r0.2.2.2.1+r1.2.2.2.1))+(wrap .i64 (Int.tdiv (wrap .i64 ((wrap .i64 (r0.2.2.1+r1.2.2.1))+(wrap .i64 (Int.tdiv (wrap .i64 ((wrap .i64 (r0.2.1+r1.2.1))+(wrap .i64 (Int.tdiv (wrap .i64 ((wrap .i64 (r0.1+r1.1))+0)) (256:Int))))) (256:Int))))) (256:Int))))) (256:Int))))) (256:Int))))) (256:Int))))) (256:Int))))) (256:Int)),((Int.tmod (wrap .i64 ((wrap .i64 (r0.2.2.2.2.2.2.2.2.1+r1.2.2.2.2.2.2.2.2.1))+(wrap .i64 (Int.tdiv (wrap .i64 ((wrap .i64 (r0.2.2.2.2.2.2.2.1+r1.2.2.2.2.2.2.2.1))+(wrap .i64 (Int.tdiv (wrap .i64 ((wrap .i64 (r0.2.2.2.2.2.2.1+r1.2.2.2.2.2.2.1))+(wrap .i64 (Int.tdiv (wrap .i64 ((wrap .i64 (r0.2.2.2.2.2.1+r1.2.2.2.2.2.1))+(wrap .i64 (Int.tdiv (wrap .i64 ((wrap .i64 (r0.2.2.2.2.1+r1.2.2.2.2.1))+(wrap .i64 (Int.tdiv (wrap .i64 ((wrap .i64 (r0.2.2.2.1+r1.2.2.2.1))+(wrap .i64 (Int.tdiv (wrap .i64 ((wrap .i64 (r0.2.2.1+r1.2.2.1))+(wrap .i64 (Int.tdiv (wrap .i64 ((wrap .i64 (r0.2.1+r1.2.1))+(wrap .i64 (Int.tdiv (wrap .i64 ((wrap .i64 (r0.1+r1.1))+0)) (256:Int))))) (256:Int))))) (256:Int))))) (256:Int))))) (256:Int))))) (256:Int))))) (256:Int))))) (256:Int))))) (256:Int)),((Int.tmod (wrap .i64 ((wrap .i64 (r0.2.2.2.2.2.2.2.2.2.1+r1.2.2.2.2.2.2.2.2.2.1))+(wrap .i64 (Int.tdiv (wrap .i64 ((wrap .i64 (r0.2.2.2.2.2.2.2.2.1+r1.2.2.2.2.2.2.2.2.1))+(wrap .i64 (Int.tdiv (wrap .i64 ((wrap .i64 (r0.2.2.2.2.2.2.2.1+r1.2.2.2.2.2.2.2.1))+(wrap .i64 (Int.tdiv (wrap .i64 ((wrap .i64 (r0.2.2.2.2.2.2.1+r1.2.2.2.2.2.2.1))+(wrap .i64 (Int.tdiv (wrap .i64 ((wrap .i64 (r0.2.2.2.2.2.1+r1.2.2.2.2.2.1))+(wrap .i64 (Int.tdiv (wrap .i64 ((wrap .i64 (r0.2.2.2.2.1+r1.2.2.2.2.1))+(wrap .i64 (Int.tdiv (wrap .i64 ((wrap .i64 (r0.2.2.2.1+r1.2.2.2.1))+(wrap .i64 (Int.tdiv (wrap .i64 ((wrap .i64 (r0.2.2.1+r1.2.2.1))+(wrap .i64 (Int.tdiv (wrap .i64 ((wrap .i64 (r0.2.1+r1.2.1))+(wrap .i64 (Int.tdiv (wrap .i64 ((wrap .i64 (r0.1+r1.1))+0)) (256:Int))))) (256:Int))))) (256:Int))))) (256:Int))))) (256:Int))))) (256:Int))))) (256:Int))))) (256:Int))))) (256:Int))))) (256:Int)),((Int.tmod (wrap .i64 ((wrap .i64 (r0.2.2.2.2.2.2.2.2.2.2.1+r1.2.2.2.2.2.2.2.2.2.2.1))+(wrap .i64 (Int.tdiv (wrap .i64 ((wrap .i64 (r0.2.2.2.2.2.2.2.2.2.1+r1.2.2.2.2.2.2.2.2.2.1))+(wrap .i64 (Int.tdiv (wrap .i64 ((wrap .i64 (r0.2.2.2.2.2.2.2.2.1+r1.2.2.2.2.2.2.2.2.1))+(wrap .i64 (Int.tdiv (wrap .i64 ((wrap .i64 (r0.2.2.2.2.2.2.2.1+r1.2.2.2.2.2.2.2.1))+(wrap .i64 (Int.tdiv (wrap .i64 ((wrap .i64 (r0.2.2.2.2.2.2.1+r1.2.2.2.2.2.2.1))+(wrap .i64 (Int.tdiv (wrap .i64 ((wrap .i64 (r0.2.2.2.2.2.1+r1.2.2.2.2.2.1))+(wrap .i64 (Int.tdiv (wrap .i64 ((wrap .i64 (r0.2.2.2.2.1+r1.2.2.2.2.1))+(wrap .i64 (Int.tdiv (wrap .i64 ((wrap .i64 (r0.2.2.2.1+r1.2.2.2.1))+(wrap .i64 (Int.tdiv (wrap .i64 ((wrap .i64 (r0.2.2.1+r1.2.2.1))+(wrap .i64 (Int.tdiv (wrap .i64 ((wrap .i64 (r0.2.1+r1.2.1))+(wrap .i64 (Int.tdiv (wrap .i64 ((wrap .i64 (r0.1+r1.1))+0)) (256:Int))))) (256:Int))))) (256:Int))))) (256:Int))))) (256:Int))))) (256:Int))))) (256:Int))))) (256:Int))))) (256:Int))))) (256:Int))))) (256:Int)),((Int.tmod (wrap .i64 ((wrap .i64 (r0.2.2.2.2.2.2.2.2.2.2.2.1+r1.2.2.2.2.2.2.2.2.2.2.2.1))+(wrap .i64 (Int.tdiv (wrap .i64 ((wrap .i64 (r0.2.2.2.2.2.2.2.2.2.2.1+r1.2.2.2.2.2.2.2.2.2.2.1))+(wrap .i64 (Int.tdiv (wrap .i64 ((wrap .i64 (r0.2.2.2.2.2.2.2.2.2.1+r1.2.2.2.2.2.2.2.2.2.1))+(wrap .i64 (Int.tdiv (wrap .i64 ((wrap .i64 (r0.2.2.2.2.2.2.2.2.1+r1.2.2.2.2.2.2.2.2.1))+(wrap .i64 (Int.tdiv (wrap .i64 ((wrap .i64 (r0.2.2.2.2.2.2.2.1+r1.2.2.2.2.2.2.2.1))+(wrap .i64 (Int.tdiv (wrap .i64 ((wrap .i64 (r0.2.2.2.2.2.2.1+r1.2.2.2.2.2.2.1))+(wrap .i64 (Int.tdiv (wrap .i64 ((wrap .i64 (r0.2.2.2.2.2.1+r1.2.2.2.2.2.1))+(wrap .i64 (Int.tdiv (wrap .i64 ((wrap .i64 (r0.2.2.2.2.1+r1.2.2.2.2.1))+(wrap .i64 (Int.tdiv (wrap .i64 ((wrap .i64 (r0.2.2.2.1+r1.2.2.2.1))+(wrap .i64 (Int.tdiv (wrap .i64 ((wrap .i64 (r0.2.2.1+r1.2.2.1))+(wrap .i64 (Int.tdiv (wrap .i64 ((wrap .i64 (r0.2.1+r1.2.1))+(wrap .i64 (Int.tdiv (wrap .i64 ((wrap .i64 (r0.1+r1.1))+0)) (256:Int))))) (256:Int))))) (256:Int))))) (256:Int))))) (256:Int))))) (256:Int))))) (256:Int))))) (256:Int))))) (256:Int))))) (256:Int))))) (256:Int))))) (256:Int)),((Int.tmod (wrap .i64 ((wrap .i64 (r0.2.2.2.2.2.2.2.2.2.2.2.2.1+r1.2.2.2.2.2.2.2.2.2.2.2.2.1))+(wrap .i64 (Int.tdiv (wrap .i64 ((wrap .i64 (r0.2.2.2.2.2.2.2.2.2.2.2.1+r1.2.2.2.2.2.2.2.2.2.2.2.1))+(wrap .i64 (Int.tdiv (wrap .i64 ((wrap .i64 (r0.2.2.2.2.2.2.2.2.2.2.1+r1.2.2.2.2.2.2.2.2.2.2.1))+(wrap .i64 (Int.tdiv (wrap .i64 ((wrap .i64 (r0.2.2.2.2.2.2.2.2.2.1+r1.2.2.2.2.2.2.2.2.2.1))+(wrap .i64 (Int.tdiv (wrap .i64 ((wrap .i64 (r0.2.2.2.2.2.2.2.2.1+r1.2.2.2.2.2.2.2.2.1))+(wrap .i64 (Int.tdiv (wrap .i64 ((wrap .i64 (r0.2.2.2.2.2.2.2.1+r1.2.2.2.2.2.2.2.1))+(wrap .i64 (Int.tdiv (wrap .i64 ((wrap .i64 (r0.2.2.2.2.2.2.1+r1.2.2.2.2.2.2.1))+(wrap .i64 (Int.tdiv (wrap .i64 ((wrap .i64 (r0.2.2.2.2.2.1+r1.2.2.2.2.2.1))+(wrap .i64 (Int.tdiv (wrap .i64 ((wrap .i64 (r0.2.2.2.2.1+r1.2.2.2.2.1))+(wrap .i64 (Int.tdiv (wrap .i64 ((wrap .i64 (r0.2.2.2.1+r1.2.2.2.1))+(wrap .i64 (Int.tdiv (wrap .i64 ((wrap .i64 (r0.2.2.1+r1.2.2.1))+(wrap .i64 (Int.tdiv (wrap .i64 ((wrap .i64 (r0.2.1+r1.2.1))+(wrap .i64 (Int.tdiv (wrap .i64 ((wrap .i64 (r0.1+r1.1))+0)) (256:Int))))) (256:Int))))) (256:Int))))) (256:Int))))) (256:Int))))) (256:Int))))) (256:Int))))) (256:Int))))) (256:Int))))) (256:Int))))) (256:Int))))) (256:Int))))) (256:Int)),((Int.tmod (wrap .i64 ((wrap .i64 (r0.2.2.2.2.2.2.2.2.2.2.2.2.2.1+r1.2.2.2.2.2.2.2.2.2.2.2.2.2.1))+(wrap .i64 (Int.tdiv (wrap .i64 ((wrap .i64 (r0.2.2.2.2.2.2.2.2.2.2.2.2.1+r1.2.2.2.2.2.2.2.2.2.2.2.2.1))+(wrap .i64 (Int.tdiv (wrap .i64 ((wrap .i64 (r0.2.2.2.2.2.2.2.2.2.2.2.1+r1.2.2.2.2.2.2.2.2.2.2.2.1))+(wrap .i64 (Int.tdiv (wrap .i64 ((wrap .i64 (r0.2.2.2.2.2.2.2.2.2.2.1+r1.2.2.2.2.2.2.2.2.2.2.1))+(wrap .i64 (Int.tdiv (wrap .i64 ((wrap .i64 (r0.2.2.2.2.2.2.2.2.2.1+r1.2.2.2.2.2.2.2.2.2.1))+(wrap .i64 (Int.tdiv (wrap .i64 ((wrap .i64 (r0.2.2.2.2.2.2.2.2.1+r1.2.2.2.2.2.2.2.2.1))+(wrap .i64 (Int.tdiv (wrap .i64 ((wrap .i64 (r0.2.2.2.2.2.2.2.1+r1.2.2.2.2.2.2.2.1))+(wrap .i64 (Int.tdiv (wrap .i64 ((wrap .i64 (r0.2.2.2.2.2.2.1+r1.2.2.2.2.2.2.1))+(wrap .i64 (Int.tdiv (wrap .i64 ((wrap .i64 (r0.2.2.2.2.2.1+r1.2.2.2.2.2.1))+(wrap .i64 (Int.tdiv (wrap .i64 ((wrap .i64 (r0.2.2.2.2.1+r1.2.2.2.2.1))+(wrap .i64 (Int.tdiv (wrap .i64 ((wrap .i64 (r0.2.2.2.1+r1.2.2.2.1))+(wrap .i64 (Int.tdiv (wrap .i64 ((wrap .i64 (r0.2.2.1+r1.2.2.1))+(wrap .i64 (Int.tdiv (wrap .i64 ((wrap .i64 (r0.2.1+r1.2.1))+(wrap .i64 (Int.tdiv (wrap .i64 ((wrap .i64 (r0.1+r1.1))+0)) (256:Int))))) (256:Int))))) (256:Int))))) (256:Int))))) (256:Int))))) (256:Int))))) (256:Int))))) (256:Int))))) (256:Int))))) (256:Int))))) (256:Int))))) (256:Int))))) (256:Int))))) (256:Int)),((Int.tmod (wrap .i64 ((wrap .i64 (r0.2.2.2.2.2.2.2.2.2.2.2.2.2.2.1+r1.2.2.2.2.2.2.2.2.2.2.2.2.2.2.1))+(wrap .i64 (Int.tdiv (wrap .i64 ((wrap .i64 (r0.2.2.2.2.2.2.2.2.2.2.2.2.2.1+r1.2.2.2.2.2.2.2.2.2.2.2.2.2.1))+(wrap .i64 (Int.tdiv (wrap .i64 ((wrap .i64 (r0.2.2.2.2.2.2.2.2.2.2.2.2.1+r1.2.2.2.2.2.2.2.2.2.2.2.2.1))+(wrap .i64 (Int.tdiv (wrap .i64 ((wrap .i64 (r0.2.2.2.2.2.2.2.2.2.2.2.1+r1.2.2.2.2.2.2.2.2.2.2.2.1))+(wrap .i64 (Int.tdiv (wrap .i64 ((wrap .i64 (r0.2.2.2.2.2.2.2.2.2.2.1+r1.2.2.2.2.2.2.2.2.2.2.1))+(wrap .i64 (Int.tdiv (wrap .i64 ((wrap .i64 (r0.2.2.2.2.2.2.2.2.2.1+r1.2.2.2.2.2.2.2.2.2.1))+(wrap .i64 (Int.tdiv (wrap .i64 ((wrap .i64 (r0.2.2.2.2.2.2.2.2.1+r1.2.2.2.2.2.2.2.2.1))+(wrap .i64 (Int.tdiv (wrap .i64 ((wrap .i64 (r0.2.2.2.2.2.2.2.1+r1.2.2.2.2.2.2.2.1))+(wrap .i64 (Int.tdiv (wrap .i64 ((wrap .i64 (r0.2.2.2.2.2.2.1+r1.2.2.2.2.2.2.1))+(wrap .i64 (Int.tdiv (wrap .i64 ((wrap .i64 (r0.2.2.2.2.2.1+r1.2.2.2.2.2.1))+(wrap .i64 (Int.tdiv (wrap .i64 ((wrap .i64 (r0.2.2.2.2.1+r1.2.2.2.2.1))+(wrap .i64 (Int.tdiv (wrap .i64 ((wrap .i64 (r0.2.2.2.1+r1.2.2.2.1))+(wrap .i64 (Int.tdiv (wrap .i64 ((wrap .i64 (r0.2.2.1+r1.2.2.1))+(wrap .i64 (Int.tdiv (wrap .i64 ((wrap .i64 (r0.2.1+r1.2.1))+(wrap .i64 (Int.tdiv (wrap .i64 ((wrap .i64 (r0.1+r1.1))+0)) (256:Int))))) (256:Int))))) (256:Int))))) (256:Int))))) (256:Int))))) (256:Int))))) (256:Int))))) (256:Int))))) (256:Int))))) (256:Int))))) (256:Int))))) (256:Int))))) (256:Int))))) (256:Int))))) (256:Int)),(Int.tmod (wrap .i64 ((wrap .i64 (r0.2.2.2.2.2.2.2.2.2.2.2.2.2.2.2+r1.2.2.2.2.2.2.2.2.2.2.2.2.2.2.2))+(wrap .i64 (Int.tdiv (wrap .i64 ((wrap .i64 (r0.2.2.2.2.2.2.2.2.2.2.2.2.2.2.1+r1.2.2.2.2.2.2.2.2.2.2.2.2.2.2.1))+(wrap .i64 (Int.tdiv (wrap .i64 ((wrap .i64 (r0.2.2.2.2.2.2.2.2.2.2.2.2.2.1+r1.2.2.2.2.2.2.2.2.2.2.2.2.2.1))+(wrap .i64 (Int.tdiv (wrap .i64 ((wrap .i64 (r0.2.2.2.2.2.2.2.2.2.2.2.2.1+r1.2.2.2.2.2.2.2.2.2.2.2.2.1))+(wrap .i64 (Int.tdiv (wrap .i64 ((wrap .i64 (r0.2.2.2.2.2.2.2.2.2.2.2.1+r1.2.2.2.2.2.2.2.2.2.2.2.1))+(wrap .i64 (Int.tdiv (wrap .i64 ((wrap .i64 (r0.2.2.2.2.2.2.2.2.2.2.1+r1.2.2.2.2.2.2.2.2.2.2.1))+(wrap .i64 (Int.tdiv (wrap .i64 ((wrap .i64 (r0.2.2.2.2.2.2.2.2.2.1+r1.2.2.2.2.2.2.2.2.2.1))+(wrap .i64 (Int.tdiv (wrap .i64 ((wrap .i64 (r0.2.2.2.2.2.2.2.2.1+r1.2.2.2.2.2.2.2.2.1))+(wrap .i64 (Int.tdiv (wrap .i64 ((wrap .i64 (r0.2.2.2.2.2.2.2.1+r1.2.2.2.2.2.2.2.1))+(wrap .i64 (Int.tdiv (wrap .i64 ((wrap .i64 (r0.2.2.2.2.2.2.1+r1.2.2.2.2.2.2.1))+(wrap .i64 (Int.tdiv (wrap .i64 ((wrap .i64 (r0.2.2.2.2.2.1+r1.2.2.2.2.2.1))+(wrap .i64 (Int.tdiv (wrap .i64 ((wrap .i64 (r0.2.2.2.2.1+r1.2.2.2.2.1))+(wrap .i64 (Int.tdiv (wrap .i64 ((wrap .i64 (r0.2.2.2.1+r1.2.2.2.1))+(wrap .i64 (Int.tdiv (wrap .i64 ((wrap .i64 (r0.2.2.1+r1.2.2.1))+(wrap .i64 (Int.tdiv (wrap .i64 ((wrap .i64 (r0.2.1+r1.2.1))+(wrap .i64 (Int.tdiv (wrap .i64 ((wrap .i64 (r0.1+r1.1))+0)) (256:Int))))) (256:Int))))) (256:Int))))) (256:Int))))) (256:Int))))) (256:Int))))) (256:Int))))) (256:Int))))) (256:Int))))) (256:Int))))) (256:Int))))) (256:Int))))) (256:Int))))) (256:Int))))) (256:Int))))) (256:Int)))))))))))))))))) fun r2 =>
 some (r2,0)):=by kernel_rfl
end Go.Proofs.YtagnkfbpgkckiaaGreat
