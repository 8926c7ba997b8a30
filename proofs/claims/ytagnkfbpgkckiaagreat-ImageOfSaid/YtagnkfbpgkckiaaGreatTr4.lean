/- Trees, printed by program. -/
import Derived.Test.YtagnkfbpgkckiaaGreatTr0
import Derived.KernelRfl
set_option linter.unusedVariables false
open Go.IntKind (wrap)
namespace Go.Proofs.YtagnkfbpgkckiaaGreat
open Go.Flat
theorem u1t (n:Nat)(a:(Int×Int)):r0h (n+1) a =
 some ((wrap .i64 (andI .u64 (shrI .u64 a.2 (0:Int)) (255:Int))),((wrap .i64 (andI .u64 (shrI .u64 a.2 (8:Int)) (255:Int))),((wrap .i64 (andI .u64 (shrI .u64 a.2 (16:Int)) (255:Int))),((wrap .i64 (andI .u64 (shrI .u64 a.2 (24:Int)) (255:Int))),((wrap .i64 (andI .u64 (shrI .u64 a.2 (32:Int)) (255:Int))),((wrap .i64 (andI .u64 (shrI .u64 a.2 (40:Int)) (255:Int))),((wrap .i64 (andI .u64 (shrI .u64 a.2 (48:Int)) (255:Int))),((wrap .i64 (andI .u64 (shrI .u64 a.2 (56:Int)) (255:Int))),((wrap .i64 (andI .u64 (shrI .u64 a.1 (0:Int)) (255:Int))),((wrap .i64 (andI .u64 (shrI .u64 a.1 (8:Int)) (255:Int))),((wrap .i64 (andI .u64 (shrI .u64 a.1 (16:Int)) (255:Int))),((wrap .i64 (andI .u64 (shrI .u64 a.1 (24:Int)) (255:Int))),((wrap .i64 (andI .u64 (shrI .u64 a.1 (32:Int)) (255:Int))),((wrap .i64 (andI .u64 (shrI .u64 a.1 (40:Int)) (255:Int))),((wrap .i64 (andI .u64 (shrI .u64 a.1 (48:Int)) (255:Int))),(wrap .i64 (andI .u64 (shrI .u64 a.1 (56:Int)) (255:Int)))))))))))))))))):=by kernel_rfl
theorem l1b (n:Nat)(n_:Int)(low:Int)(high:Int):s0c (n+1) n_ low high =
 tif (low<=n_) (
 some (decide (n_<=high))) (
 some false):=by kernel_rfl
theorem x1c (n:Nat)(w:Int):b2d (n+1) w =
 a0a (s0c n w (1:Int) (1099511627776:Int)) fun r0 =>
 some r0:=by kernel_rfl
theorem s1a (n:Nat)(n_:Int)(low:Int)(high:Int):s1b (n+1) n_ low high =
 tif (low<=n_) (
 some (decide (n_<=high))) (
 some false):=by kernel_rfl
theorem x0m (n:Nat)(s:(List Int))(f_:((Int×Unit)->Option Bool)):r0a (n+1) s f_ =
 a0a (e0c n a0b (s,(f_,((s.length:Int),(0,()))))) fun r0 =>
 b0g (fun y1 =>
 some ((-1):Int)) (fun z2 =>
 some z2) r0:=by kernel_rfl
theorem j0u (n f:Nat)(s:(List Int))(f_:((Int×Unit)->Option Bool))(s7:Int)(s8:Int):e0c n (f+1) (s,f_,s7,s8,()) =
 tif (s8<s7) (
 a0a (at? s s8) fun r0 =>
 a0a (f_ (r0,())) fun r1 =>
 tif (r1) (
 some (.inr s8)) (
 e0c n f (s,(f_,(s7,((wrap .i64 (s8+1)),())))))) (
 some (.inl ())):=by kernel_rfl
theorem m1f (n:Nat)(l:(List a0p)):t0o (n+1) l =
 a0a (l0p n a0b (l,((l.length:Int),(0,())))) fun r0 =>
 b0g (fun y1 =>
 some true) (fun z2 =>
 some z2) r0:=by kernel_rfl
theorem r0t (n f:Nat)(s5:(List a0p))(s6:Int)(s7:Int):l0p n (f+1) (s5,s6,s7,()) =
 tif (s7<s6) (
 a0a (at? s5 s7) fun r0 =>
 a0a (o0u n r0) fun r1 =>
 tif (!(r1=0)) (
 some (.inr false)) (
 l0p n f (s5,(s6,((wrap .i64 (s7+1)),()))))) (
 some (.inl ())):=by kernel_rfl
theorem w1t (n:Nat)(c:e1x):k1n (n+1) c =
 some ((decide (c.1=0))&&((decide (c.2.1.1=0))&&((decide (c.2.1.2.1=0))&&((decide (c.2.1.2.2.1=0))&&((c.2.1.2.2.2==false)&&((decide (c.2.2.1.1=0))&&((decide (c.2.2.1.2.1=0))&&((decide (c.2.2.1.2.2.1=0))&&((c.2.2.1.2.2.2==false)&&((decide (c.2.2.2.1.1=0))&&((decide (c.2.2.2.1.2=0))&&((decide (c.2.2.2.2.1=0))&&((decide (c.2.2.2.2.2.1=0))&&(decide (c.2.2.2.2.2.2=0))))))))))))))):=by kernel_rfl
theorem s1g (n:Nat)(s:a0d):u0m (n+1) s =
 some ((decide (s.1=0))&&((decide (s.2.1=0))&&((decide (s.2.2.1.1=0))&&((decide (s.2.2.1.2.1=0))&&((decide (s.2.2.1.2.2.1=0))&&((s.2.2.1.2.2.2==false)&&((decide (s.2.2.2.1.1=0))&&((decide (s.2.2.2.1.2.1=0))&&((decide (s.2.2.2.1.2.2.1=0))&&((s.2.2.2.1.2.2.2==false)&&((decide (s.2.2.2.2.1.1=0))&&((decide (s.2.2.2.2.1.2=0))&&((decide (s.2.2.2.2.2.1=0))&&((decide (s.2.2.2.2.2.2.1=0))&&(decide (s.2.2.2.2.2.2.2=0)))))))))))))))):=by kernel_rfl
theorem d2x (n:Nat)(i:Int)(n_:Int):x1e (n+1) i n_ =
 tif (i<0) (
 some (0:Int)) (
 tif (n_<1) (
 some (0:Int)) (
 tif (n_=0) (
 none) (
 some (Int.tmod i n_)))):=by kernel_rfl
theorem m0o (n:Nat)(s:(List a0d))(f_:((a0d×Unit)->Option Bool)):k0v (n+1) s f_ =
 a0a (e0d n a0b (s,(f_,((s.length:Int),(0,()))))) fun r0 =>
 b0g (fun y1 =>
 some ((-1):Int)) (fun z2 =>
 some z2) r0:=by kernel_rfl
theorem j0v (n f:Nat)(s:(List a0d))(f_:((a0d×Unit)->Option Bool))(s7:Int)(s8:Int):e0d n (f+1) (s,f_,s7,s8,()) =
 tif (s8<s7) (
 a0a (at? s s8) fun r0 =>
 a0a (f_ (r0,())) fun r1 =>
 tif (r1) (
 some (.inr s8)) (
 e0d n f (s,(f_,(s7,((wrap .i64 (s8+1)),())))))) (
 some (.inl ())):=by kernel_rfl
theorem r1r (n:Nat)(c:e1x):e1q (n+1) c =
 tif (c.1=1) (
 tif ((decide (c.2.1.1=c.2.2.1.1))&&((decide (c.2.1.2.1=c.2.2.1.2.1))&&((decide (c.2.1.2.2.1=c.2.2.1.2.2.1))&&(c.2.1.2.2.2==c.2.2.1.2.2.2)))) (
 a0a (o0u n c.2.1) fun r0 =>
 some (decide (r0=0))) (
 some false)) (
 tif ((1:Int)<c.1) (
 a0a (p0y n c.2.1 c.2.2.1) fun r1 =>
 tif (r1) (
 some (decide ((wrap .i64 (c.1-1))<=(wrap .i64 (c.2.2.1.1-c.2.1.1))))) (
 some false)) (
 some false)):=by kernel_rfl
theorem o1n (n:Nat)(a:(Int×Int))(n_:Int):c1y (n+1) a n_ =
 a0a (h0d n a.2 n_) fun r0 =>
 a0a (h0d n a.1 n_) fun r1 =>
 tif (((0:Int)<=r1.2)&&(((0:Int)<=r0.1)&&true)) (
 a0a (h1l n ((((r1.2+r0.1)+0) % (18446744073709551616:Int)),r0.2) (orI .u64 r1.1 (((r1.2+r0.1)+0) / (18446744073709551616:Int)))) fun r2 =>
 some r2) (
 none):=by kernel_rfl
theorem d2w (n:Nat)(n_:Int):x1b (n+1) n_ =
 some (0,n_):=by kernel_rfl
theorem r1z (n:Nat)(a:(Int×Int))(b:(Int×Int)):h1m (n+1) a b =
 tif (a.1<b.1) (
 some true) (
 tif (a.1=b.1) (
 some (decide (a.2<b.2))) (
 some false)):=by kernel_rfl
theorem g2q (n:Nat)(n_:Int)(most:Int):k1o (n+1) n_ most =
 tif ((0:Int)<=n_) (
 some (decide (n_<=most))) (
 some false):=by kernel_rfl
theorem j2l (n:Nat)(l:(Int×(Int×(Int×(Int×(Int×(Int×(Int×(Int×(Int×(Int×(Int×(Int×(Int×(Int×(Int×Int)))))))))))))))):c2a (n+1) l =
 some ((orI .u64 (orI .u64 (orI .u64 (orI .u64 (orI .u64 (orI .u64 (orI .u64 (orI .u64 (0:Int) (shlI .u64 (wrap .u64 l.2.2.2.2.2.2.2.2.1) (0:Int))) (shlI .u64 (wrap .u64 l.2.2.2.2.2.2.2.2.2.1) (8:Int))) (shlI .u64 (wrap .u64 l.2.2.2.2.2.2.2.2.2.2.1) (16:Int))) (shlI .u64 (wrap .u64 l.2.2.2.2.2.2.2.2.2.2.2.1) (24:Int))) (shlI .u64 (wrap .u64 l.2.2.2.2.2.2.2.2.2.2.2.2.1) (32:Int))) (shlI .u64 (wrap .u64 l.2.2.2.2.2.2.2.2.2.2.2.2.2.1) (40:Int))) (shlI .u64 (wrap .u64 l.2.2.2.2.2.2.2.2.2.2.2.2.2.2.1) (48:Int))) (shlI .u64 (wrap .u64 l.2.2.2.2.2.2.2.2.2.2.2.2.2.2.2) (56:Int))),(orI .u64 (orI .u64 (orI .u64 (orI .u64 (orI .u64 (orI .u64 (orI .u64 (orI .u64 (0:Int) (shlI .u64 (wrap .u64 l.1) (0:Int))) (shlI .u64 (wrap .u64 l.2.1) (8:Int))) (shlI .u64 (wrap .u64 l.2.2.1) (16:Int))) (shlI .u64 (wrap .u64 l.2.2.2.1) (24:Int))) (shlI .u64 (wrap .u64 l.2.2.2.2.1) (32:Int))) (shlI .u64 (wrap .u64 l.2.2.2.2.2.1) (40:Int))) (shlI .u64 (wrap .u64 l.2.2.2.2.2.2.1) (48:Int))) (shlI .u64 (wrap .u64 l.2.2.2.2.2.2.2.1) (56:Int)))):=by kernel_rfl
theorem g1c (n:Nat)(s:(List a0d)):s0l (n+1) s =
 tif ((List.length s)=0) (
 both (
 some []) (
 tif (((0+(List.length s))*120)<=140737488355328) (
 some ([]++s)) (
 none))) (
 tif (((0+(List.length s))*120)<=140737488355328) (
 some ([]++s)) (
 none)):=by kernel_rfl
theorem r1y (n:Nat)(a:(Int×Int))(over:Int):h1l (n+1) a over =
 tif (!(over=0)) (
 some ((0,0),1)) (
 some (a,0)):=by kernel_rfl
theorem u0q (n:Nat)(s:(List a0d))(del:((a0d×Unit)->Option Bool)):j0y (n+1) s del =
 a0a (k0v n s del) fun r0 =>
 tif (r0=((-1):Int)) (
 some s) (
 a0a (d0u n a0b (s,(del,(r0,((wrap .i64 (r0+1)),()))))) fun r1 =>
 b0g (fun y2 =>
 tif ((0:Int)<=y2.2.1) (
 tif ((Int.toNat y2.2.1)<=(List.length y2.1)) (
 tif (((Int.toNat y2.2.1)+((List.length y2.1)-(Int.toNat y2.2.1)))<=(List.length y2.1)) (
 tif (((0:Int)<=y2.2.1)&&(y2.2.1<=(((List.length (Go.Flat.putRow y2.1 (Int.toNat y2.2.1) (List.replicate ((List.length y2.1)-(Int.toNat y2.2.1)) (0,(0,((0,(0,(0,false))),((0,(0,(0,false))),((0,0),(0,(0,0)))))))))):Nat):Int))) (
 some (List.take ((Int.toNat y2.2.1)-0) (Go.Flat.putRow y2.1 (Int.toNat y2.2.1) (List.replicate ((List.length y2.1)-(Int.toNat y2.2.1)) (0,(0,((0,(0,(0,false))),((0,(0,(0,false))),((0,0),(0,(0,0))))))))))) (
 none)) (
 none)) (
 none)) (
 none)) (fun z3 =>
 some z3) r1):=by kernel_rfl
theorem j0i (n f:Nat)(s:(List a0d))(del:((a0d×Unit)->Option Bool))(i:Int)(j:Int):d0u n (f+1) (s,del,i,j,()) =
 tif (j<(s.length:Int)) (
 a0a (at? s j) fun r0 =>
 a0a ((s)[(Int.toNat j)]?) fun r1 =>
 a0a (del (r1,())) fun r2 =>
 tif (!r2) (
 a0a (at? s i) fun r3 =>
 a0a ((s)[(Int.toNat i)]?) fun r4 =>
 d0u n f ((List.set s (Int.toNat i) r1),(del,((wrap .i64 (i+1)),((wrap .i64 (j+1)),()))))) (
 d0u n f (s,(del,(i,((wrap .i64 (j+1)),())))))) (
 some (.inl (s,(i,())))):=by kernel_rfl
theorem q0j (n:Nat)(x:(List a0d))(cmp:((a0d×(a0d×Unit))->Option Int)):g0q (n+1) x cmp =
 a0a (i2e n x (x.length:Int) cmp) fun r0 =>
 some r0:=by kernel_rfl
theorem o1w (n:Nat)(a:a0d)(b:a0d):w0j (n+1) a b =
 a0a (l0h n a.1 b.1) fun r0 =>
 some r0:=by kernel_rfl
theorem x0r (n:Nat)(x:Int)(y:Int):l0h (n+1) x y =
 a0a (o0x n x) fun r0 =>
 a0a (o0x n y) fun r1 =>
 tif (r0) (
 tif (r1) (
 some (0:Int)) (
 some ((-1):Int))) (
 tif (r1) (
 some (1:Int)) (
 tif (x<y) (
 some ((-1):Int)) (
 tif (y<x) (
 some (1:Int)) (
 some (0:Int))))):=by kernel_rfl
theorem e2j (n:Nat)(data:(List a0d))(n_:Int)(cmp:((a0d×(a0d×Unit))->Option Int)):i2e (n+1) data n_ cmp =
 a0a (q0x n a0b (data,(n_,(cmp,(20,(0,(20,()))))))) fun r0 =>
 b0g (fun y1 =>
 a0a (p1f n y1.1 y1.2.2.2.2.1 y1.2.1 y1.2.2.1) fun r2 =>
 a0a (n0j n a0b (r2,(y1.2.1,(y1.2.2.1,(y1.2.2.2.1,()))))) fun r3 =>
 b0g (fun y4 =>
 some y4.1) (fun z5 =>
 some z5) r3) (fun z6 =>
 some z6) r0:=by kernel_rfl
theorem a1j (n f:Nat)(data:(List a0d))(n_:Int)(cmp:((a0d×(a0d×Unit))->Option Int))(blockSize:Int)(a:Int)(b:Int):q0x n (f+1) (data,n_,cmp,blockSize,a,b,()) =
 tif (b<=n_) (
 a0a (p1f n data a b cmp) fun r0 =>
 q0x n f (r0,(n_,(cmp,(blockSize,(b,((wrap .i64 (b+blockSize)),()))))))) (
 some (.inl (data,(n_,(cmp,(blockSize,(a,()))))))):=by kernel_rfl
theorem a1i (n f:Nat)(data:(List a0d))(n_:Int)(cmp:((a0d×(a0d×Unit))->Option Int))(blockSize:Int):n0j n (f+1) (data,n_,cmp,blockSize,()) =
 tif (blockSize<n_) (
 a0a (w0m n a0b (data,(n_,(cmp,(blockSize,(0,((wrap .i64 ((2:Int)*blockSize)),()))))))) fun r0 =>
 b0g (fun y1 =>
 tif ((wrap .i64 (y1.2.2.2.2.1+y1.2.2.2.1))<y1.2.1) (
 a0a (b0w n y1.1 y1.2.2.2.2.1 (wrap .i64 (y1.2.2.2.2.1+y1.2.2.2.1)) y1.2.1 y1.2.2.1) fun r2 =>
 n0j n f (r2,(y1.2.1,(y1.2.2.1,((wrap .i64 (y1.2.2.2.1*2)),()))))) (
 n0j n f (y1.1,(y1.2.1,(y1.2.2.1,((wrap .i64 (y1.2.2.2.1*2)),())))))) (fun z3 =>
 some (.inr z3)) r0) (
 some (.inl (data,()))):=by kernel_rfl
theorem a1h (n f:Nat)(data:(List a0d))(n_:Int)(cmp:((a0d×(a0d×Unit))->Option Int))(blockSize:Int)(a:Int)(b:Int):w0m n (f+1) (data,n_,cmp,blockSize,a,b,()) =
 tif (b<=n_) (
 a0a (b0w n data a (wrap .i64 (a+blockSize)) b cmp) fun r0 =>
 w0m n f (r0,(n_,(cmp,(blockSize,(b,((wrap .i64 (b+(wrap .i64 ((2:Int)*blockSize)))),()))))))) (
 some (.inl (data,(n_,(cmp,(blockSize,(a,()))))))):=by kernel_rfl
theorem q0a (n:Nat)(x:Int):o0x (n+1) x =
 some (!(decide (x=x))):=by kernel_rfl
theorem e2l (n:Nat)(data:(List a0d))(a:Int)(b:Int)(cmp:((a0d×(a0d×Unit))->Option Int)):p1f (n+1) data a b cmp =
 a0a (w0o n a0b (data,(a,(b,(cmp,((wrap .i64 (a+1)),())))))) fun r0 =>
 b0g (fun y1 =>
 some y1.1) (fun z2 =>
 some z2) r0:=by kernel_rfl
theorem a1l (n f:Nat)(data:(List a0d))(a:Int)(b:Int)(cmp:((a0d×(a0d×Unit))->Option Int))(i:Int):w0o n (f+1) (data,a,b,cmp,i,()) =
 tif (i<b) (
 a0a (w0n n a0b (data,(a,(b,(cmp,(i,(i,()))))))) fun r0 =>
 b0g (fun y1 =>
 w0o n f (y1.1,(y1.2.1,(y1.2.2.1,(y1.2.2.2.1,((wrap .i64 (y1.2.2.2.2.1+1)),())))))) (fun z2 =>
 some (.inr z2)) r0) (
 some (.inl (data,()))):=by kernel_rfl
theorem a1k (n f:Nat)(data:(List a0d))(a:Int)(b:Int)(cmp:((a0d×(a0d×Unit))->Option Int))(i:Int)(j:Int):w0n n (f+1) (data,a,b,cmp,i,j,()) =
 tif (a<j) (
 a0a (at? data j) fun r0 =>
 a0a ((data)[(Int.toNat j)]?) fun r1 =>
 a0a (at? data (wrap .i64 (j-1))) fun r2 =>
 a0a ((data)[(Int.toNat (wrap .i64 (j-1)))]?) fun r3 =>
 a0a (cmp (r1,(r3,()))) fun r4 =>
 tif (r4<0) (
 a0a (at? data (wrap .i64 (j-1))) fun r5 =>
 a0a ((data)[(Int.toNat (wrap .i64 (j-1)))]?) fun r6 =>
 a0a (at? data j) fun r7 =>
 a0a ((data)[(Int.toNat j)]?) fun r8 =>
 a0a (at? data j) fun r9 =>
 a0a ((data)[(Int.toNat j)]?) fun r10 =>
 a0a (at? (List.set data (Int.toNat j) r6) (wrap .i64 (j-1))) fun r11 =>
 a0a ((List.set data (Int.toNat j) r6)[(Int.toNat (wrap .i64 (j-1)))]?) fun r12 =>
 w0n n f ((List.set (List.set data (Int.toNat j) r6) (Int.toNat (wrap .i64 (j-1))) r8),(a,(b,(cmp,(i,((wrap .i64 (j-1)),()))))))) (
 some (.inl (data,(a,(b,(cmp,(i,())))))))) (
 some (.inl (data,(a,(b,(cmp,(i,()))))))):=by kernel_rfl
theorem e2h (n:Nat)(data:(List a0d))(a:Int)(m:Int)(b:Int)(cmp:((a0d×(a0d×Unit))->Option Int)):b0w (n+1) data a m b cmp =
 tif ((wrap .i64 (m-a))=1) (
 a0a (q0w n a0b (data,(a,(cmp,(m,(b,())))))) fun r0 =>
 b0g (fun y1 =>
 a0a (w0k n a0b (y1.1,(y1.2.2.1,(y1.2.1,())))) fun r2 =>
 b0g (fun y3 =>
 some y3.1) (fun z4 =>
 some z4) r2) (fun z5 =>
 some z5) r0) (
 tif ((wrap .i64 (b-m))=1) (
 a0a (n0y n a0b (data,(m,(cmp,(a,(m,())))))) fun r6 =>
 b0g (fun y7 =>
 a0a (s0i n a0b (y7.1,(y7.2.2.1,(y7.2.1,())))) fun r8 =>
 b0g (fun y9 =>
 some y9.1) (fun z10 =>
 some z10) r8) (fun z11 =>
 some z11) r6) (
 tif ((wrap .i64 (shrI .u64 (wrap .u64 (wrap .i64 (a+b))) (1:Int)))<m) (
 a0a (k0u n a0b (data,(a,(m,(b,(cmp,((wrap .i64 (shrI .u64 (wrap .u64 (wrap .i64 (a+b))) (1:Int))),((wrap .i64 ((wrap .i64 (shrI .u64 (wrap .u64 (wrap .i64 (a+b))) (1:Int)))+m)),((wrap .i64 ((wrap .i64 ((wrap .i64 (shrI .u64 (wrap .u64 (wrap .i64 (a+b))) (1:Int)))+m))-b)),((wrap .i64 (shrI .u64 (wrap .u64 (wrap .i64 (a+b))) (1:Int))),((wrap .i64 ((wrap .i64 ((wrap .i64 (shrI .u64 (wrap .u64 (wrap .i64 (a+b))) (1:Int)))+m))-1)),()))))))))))) fun r12 =>
 b0g (fun y13 =>
 tif (y13.2.2.2.2.2.2.2.1<y13.2.2.1) (
 tif (y13.2.2.1<(wrap .i64 (y13.2.2.2.2.2.2.1-y13.2.2.2.2.2.2.2.1))) (
 a0a (i1d n y13.1 y13.2.2.2.2.2.2.2.1 y13.2.2.1 (wrap .i64 (y13.2.2.2.2.2.2.1-y13.2.2.2.2.2.2.2.1)) y13.2.2.2.2.1) fun r14 =>
 tif (y13.2.1<y13.2.2.2.2.2.2.2.1) (
 tif (y13.2.2.2.2.2.2.2.1<y13.2.2.2.2.2.1) (
 a0a (b0w n r14 y13.2.1 y13.2.2.2.2.2.2.2.1 y13.2.2.2.2.2.1 y13.2.2.2.2.1) fun r15 =>
 tif (y13.2.2.2.2.2.1<(wrap .i64 (y13.2.2.2.2.2.2.1-y13.2.2.2.2.2.2.2.1))) (
 tif ((wrap .i64 (y13.2.2.2.2.2.2.1-y13.2.2.2.2.2.2.2.1))<y13.2.2.2.1) (
 a0a (b0w n r15 y13.2.2.2.2.2.1 (wrap .i64 (y13.2.2.2.2.2.2.1-y13.2.2.2.2.2.2.2.1)) y13.2.2.2.1 y13.2.2.2.2.1) fun r16 =>
 some r16) (
 some r15)) (
 some r15)) (
 tif (y13.2.2.2.2.2.1<(wrap .i64 (y13.2.2.2.2.2.2.1-y13.2.2.2.2.2.2.2.1))) (
 tif ((wrap .i64 (y13.2.2.2.2.2.2.1-y13.2.2.2.2.2.2.2.1))<y13.2.2.2.1) (
 a0a (b0w n r14 y13.2.2.2.2.2.1 (wrap .i64 (y13.2.2.2.2.2.2.1-y13.2.2.2.2.2.2.2.1)) y13.2.2.2.1 y13.2.2.2.2.1) fun r17 =>
 some r17) (
 some r14)) (
 some r14))) (
 tif (y13.2.2.2.2.2.1<(wrap .i64 (y13.2.2.2.2.2.2.1-y13.2.2.2.2.2.2.2.1))) (
 tif ((wrap .i64 (y13.2.2.2.2.2.2.1-y13.2.2.2.2.2.2.2.1))<y13.2.2.2.1) (
 a0a (b0w n r14 y13.2.2.2.2.2.1 (wrap .i64 (y13.2.2.2.2.2.2.1-y13.2.2.2.2.2.2.2.1)) y13.2.2.2.1 y13.2.2.2.2.1) fun r18 =>
 some r18) (
 some r14)) (
 some r14))) (
 tif (y13.2.1<y13.2.2.2.2.2.2.2.1) (
 tif (y13.2.2.2.2.2.2.2.1<y13.2.2.2.2.2.1) (
 a0a (b0w n y13.1 y13.2.1 y13.2.2.2.2.2.2.2.1 y13.2.2.2.2.2.1 y13.2.2.2.2.1) fun r19 =>
 tif (y13.2.2.2.2.2.1<(wrap .i64 (y13.2.2.2.2.2.2.1-y13.2.2.2.2.2.2.2.1))) (
 tif ((wrap .i64 (y13.2.2.2.2.2.2.1-y13.2.2.2.2.2.2.2.1))<y13.2.2.2.1) (
 a0a (b0w n r19 y13.2.2.2.2.2.1 (wrap .i64 (y13.2.2.2.2.2.2.1-y13.2.2.2.2.2.2.2.1)) y13.2.2.2.1 y13.2.2.2.2.1) fun r20 =>
 some r20) (
 some r19)) (
 some r19)) (
 tif (y13.2.2.2.2.2.1<(wrap .i64 (y13.2.2.2.2.2.2.1-y13.2.2.2.2.2.2.2.1))) (
 tif ((wrap .i64 (y13.2.2.2.2.2.2.1-y13.2.2.2.2.2.2.2.1))<y13.2.2.2.1) (
 a0a (b0w n y13.1 y13.2.2.2.2.2.1 (wrap .i64 (y13.2.2.2.2.2.2.1-y13.2.2.2.2.2.2.2.1)) y13.2.2.2.1 y13.2.2.2.2.1) fun r21 =>
 some r21) (
 some y13.1)) (
 some y13.1))) (
 tif (y13.2.2.2.2.2.1<(wrap .i64 (y13.2.2.2.2.2.2.1-y13.2.2.2.2.2.2.2.1))) (
 tif ((wrap .i64 (y13.2.2.2.2.2.2.1-y13.2.2.2.2.2.2.2.1))<y13.2.2.2.1) (
 a0a (b0w n y13.1 y13.2.2.2.2.2.1 (wrap .i64 (y13.2.2.2.2.2.2.1-y13.2.2.2.2.2.2.2.1)) y13.2.2.2.1 y13.2.2.2.2.1) fun r22 =>
 some r22) (
 some y13.1)) (
 some y13.1)))) (
 tif (y13.2.1<y13.2.2.2.2.2.2.2.1) (
 tif (y13.2.2.2.2.2.2.2.1<y13.2.2.2.2.2.1) (
 a0a (b0w n y13.1 y13.2.1 y13.2.2.2.2.2.2.2.1 y13.2.2.2.2.2.1 y13.2.2.2.2.1) fun r23 =>
 tif (y13.2.2.2.2.2.1<(wrap .i64 (y13.2.2.2.2.2.2.1-y13.2.2.2.2.2.2.2.1))) (
 tif ((wrap .i64 (y13.2.2.2.2.2.2.1-y13.2.2.2.2.2.2.2.1))<y13.2.2.2.1) (
 a0a (b0w n r23 y13.2.2.2.2.2.1 (wrap .i64 (y13.2.2.2.2.2.2.1-y13.2.2.2.2.2.2.2.1)) y13.2.2.2.1 y13.2.2.2.2.1) fun r24 =>
 some r24) (
 some r23)) (
 some r23)) (
 tif (y13.2.2.2.2.2.1<(wrap .i64 (y13.2.2.2.2.2.2.1-y13.2.2.2.2.2.2.2.1))) (
 tif ((wrap .i64 (y13.2.2.2.2.2.2.1-y13.2.2.2.2.2.2.2.1))<y13.2.2.2.1) (
 a0a (b0w n y13.1 y13.2.2.2.2.2.1 (wrap .i64 (y13.2.2.2.2.2.2.1-y13.2.2.2.2.2.2.2.1)) y13.2.2.2.1 y13.2.2.2.2.1) fun r25 =>
 some r25) (
 some y13.1)) (
 some y13.1))) (
 tif (y13.2.2.2.2.2.1<(wrap .i64 (y13.2.2.2.2.2.2.1-y13.2.2.2.2.2.2.2.1))) (
 tif ((wrap .i64 (y13.2.2.2.2.2.2.1-y13.2.2.2.2.2.2.2.1))<y13.2.2.2.1) (
 a0a (b0w n y13.1 y13.2.2.2.2.2.1 (wrap .i64 (y13.2.2.2.2.2.2.1-y13.2.2.2.2.2.2.2.1)) y13.2.2.2.1 y13.2.2.2.2.1) fun r26 =>
 some r26) (
 some y13.1)) (
 some y13.1)))) (fun z27 =>
 some z27) r12) (
 a0a (k0u n a0b (data,(a,(m,(b,(cmp,((wrap .i64 (shrI .u64 (wrap .u64 (wrap .i64 (a+b))) (1:Int))),((wrap .i64 ((wrap .i64 (shrI .u64 (wrap .u64 (wrap .i64 (a+b))) (1:Int)))+m)),(a,(m,((wrap .i64 ((wrap .i64 ((wrap .i64 (shrI .u64 (wrap .u64 (wrap .i64 (a+b))) (1:Int)))+m))-1)),()))))))))))) fun r28 =>
 b0g (fun y29 =>
 tif (y29.2.2.2.2.2.2.2.1<y29.2.2.1) (
 tif (y29.2.2.1<(wrap .i64 (y29.2.2.2.2.2.2.1-y29.2.2.2.2.2.2.2.1))) (
 a0a (i1d n y29.1 y29.2.2.2.2.2.2.2.1 y29.2.2.1 (wrap .i64 (y29.2.2.2.2.2.2.1-y29.2.2.2.2.2.2.2.1)) y29.2.2.2.2.1) fun r30 =>
 tif (y29.2.1<y29.2.2.2.2.2.2.2.1) (
 tif (y29.2.2.2.2.2.2.2.1<y29.2.2.2.2.2.1) (
 a0a (b0w n r30 y29.2.1 y29.2.2.2.2.2.2.2.1 y29.2.2.2.2.2.1 y29.2.2.2.2.1) fun r31 =>
 tif (y29.2.2.2.2.2.1<(wrap .i64 (y29.2.2.2.2.2.2.1-y29.2.2.2.2.2.2.2.1))) (
 tif ((wrap .i64 (y29.2.2.2.2.2.2.1-y29.2.2.2.2.2.2.2.1))<y29.2.2.2.1) (
 a0a (b0w n r31 y29.2.2.2.2.2.1 (wrap .i64 (y29.2.2.2.2.2.2.1-y29.2.2.2.2.2.2.2.1)) y29.2.2.2.1 y29.2.2.2.2.1) fun r32 =>
 some r32) (
 some r31)) (
 some r31)) (
 tif (y29.2.2.2.2.2.1<(wrap .i64 (y29.2.2.2.2.2.2.1-y29.2.2.2.2.2.2.2.1))) (
 tif ((wrap .i64 (y29.2.2.2.2.2.2.1-y29.2.2.2.2.2.2.2.1))<y29.2.2.2.1) (
 a0a (b0w n r30 y29.2.2.2.2.2.1 (wrap .i64 (y29.2.2.2.2.2.2.1-y29.2.2.2.2.2.2.2.1)) y29.2.2.2.1 y29.2.2.2.2.1) fun r33 =>
 some r33) (
 some r30)) (
 some r30))) (
 tif (y29.2.2.2.2.2.1<(wrap .i64 (y29.2.2.2.2.2.2.1-y29.2.2.2.2.2.2.2.1))) (
 tif ((wrap .i64 (y29.2.2.2.2.2.2.1-y29.2.2.2.2.2.2.2.1))<y29.2.2.2.1) (
 a0a (b0w n r30 y29.2.2.2.2.2.1 (wrap .i64 (y29.2.2.2.2.2.2.1-y29.2.2.2.2.2.2.2.1)) y29.2.2.2.1 y29.2.2.2.2.1) fun r34 =>
 some r34) (
 some r30)) (
 some r30))) (
 tif (y29.2.1<y29.2.2.2.2.2.2.2.1) (
 tif (y29.2.2.2.2.2.2.2.1<y29.2.2.2.2.2.1) (
 a0a (b0w n y29.1 y29.2.1 y29.2.2.2.2.2.2.2.1 y29.2.2.2.2.2.1 y29.2.2.2.2.1) fun r35 =>
 tif (y29.2.2.2.2.2.1<(wrap .i64 (y29.2.2.2.2.2.2.1-y29.2.2.2.2.2.2.2.1))) (
 tif ((wrap .i64 (y29.2.2.2.2.2.2.1-y29.2.2.2.2.2.2.2.1))<y29.2.2.2.1) (
 a0a (b0w n r35 y29.2.2.2.2.2.1 (wrap .i64 (y29.2.2.2.2.2.2.1-y29.2.2.2.2.2.2.2.1)) y29.2.2.2.1 y29.2.2.2.2.1) fun r36 =>
 some r36) (
 some r35)) (
 some r35)) (
 tif (y29.2.2.2.2.2.1<(wrap .i64 (y29.2.2.2.2.2.2.1-y29.2.2.2.2.2.2.2.1))) (
 tif ((wrap .i64 (y29.2.2.2.2.2.2.1-y29.2.2.2.2.2.2.2.1))<y29.2.2.2.1) (
 a0a (b0w n y29.1 y29.2.2.2.2.2.1 (wrap .i64 (y29.2.2.2.2.2.2.1-y29.2.2.2.2.2.2.2.1)) y29.2.2.2.1 y29.2.2.2.2.1) fun r37 =>
 some r37) (
 some y29.1)) (
 some y29.1))) (
 tif (y29.2.2.2.2.2.1<(wrap .i64 (y29.2.2.2.2.2.2.1-y29.2.2.2.2.2.2.2.1))) (
 tif ((wrap .i64 (y29.2.2.2.2.2.2.1-y29.2.2.2.2.2.2.2.1))<y29.2.2.2.1) (
 a0a (b0w n y29.1 y29.2.2.2.2.2.1 (wrap .i64 (y29.2.2.2.2.2.2.1-y29.2.2.2.2.2.2.2.1)) y29.2.2.2.1 y29.2.2.2.2.1) fun r38 =>
 some r38) (
 some y29.1)) (
 some y29.1)))) (
 tif (y29.2.1<y29.2.2.2.2.2.2.2.1) (
 tif (y29.2.2.2.2.2.2.2.1<y29.2.2.2.2.2.1) (
 a0a (b0w n y29.1 y29.2.1 y29.2.2.2.2.2.2.2.1 y29.2.2.2.2.2.1 y29.2.2.2.2.1) fun r39 =>
 tif (y29.2.2.2.2.2.1<(wrap .i64 (y29.2.2.2.2.2.2.1-y29.2.2.2.2.2.2.2.1))) (
 tif ((wrap .i64 (y29.2.2.2.2.2.2.1-y29.2.2.2.2.2.2.2.1))<y29.2.2.2.1) (
 a0a (b0w n r39 y29.2.2.2.2.2.1 (wrap .i64 (y29.2.2.2.2.2.2.1-y29.2.2.2.2.2.2.2.1)) y29.2.2.2.1 y29.2.2.2.2.1) fun r40 =>
 some r40) (
 some r39)) (
 some r39)) (
 tif (y29.2.2.2.2.2.1<(wrap .i64 (y29.2.2.2.2.2.2.1-y29.2.2.2.2.2.2.2.1))) (
 tif ((wrap .i64 (y29.2.2.2.2.2.2.1-y29.2.2.2.2.2.2.2.1))<y29.2.2.2.1) (
 a0a (b0w n y29.1 y29.2.2.2.2.2.1 (wrap .i64 (y29.2.2.2.2.2.2.1-y29.2.2.2.2.2.2.2.1)) y29.2.2.2.1 y29.2.2.2.2.1) fun r41 =>
 some r41) (
 some y29.1)) (
 some y29.1))) (
 tif (y29.2.2.2.2.2.1<(wrap .i64 (y29.2.2.2.2.2.2.1-y29.2.2.2.2.2.2.2.1))) (
 tif ((wrap .i64 (y29.2.2.2.2.2.2.1-y29.2.2.2.2.2.2.2.1))<y29.2.2.2.1) (
 a0a (b0w n y29.1 y29.2.2.2.2.2.1 (wrap .i64 (y29.2.2.2.2.2.2.1-y29.2.2.2.2.2.2.2.1)) y29.2.2.2.1 y29.2.2.2.2.1) fun r42 =>
 some r42) (
 some y29.1)) (
 some y29.1)))) (fun z43 =>
 some z43) r28))):=by kernel_rfl
theorem a1f (n f:Nat)(data:(List a0d))(a:Int)(cmp:((a0d×(a0d×Unit))->Option Int))(i:Int)(j:Int):q0w n (f+1) (data,a,cmp,i,j,()) =
 tif (i<j) (
 a0a (at? data (wrap .i64 (shrI .u64 (wrap .u64 (wrap .i64 (i+j))) (1:Int)))) fun r0 =>
 a0a ((data)[(Int.toNat (wrap .i64 (shrI .u64 (wrap .u64 (wrap .i64 (i+j))) (1:Int))))]?) fun r1 =>
 a0a (at? data a) fun r2 =>
 a0a ((data)[(Int.toNat a)]?) fun r3 =>
 a0a (cmp (r1,(r3,()))) fun r4 =>
 tif (r4<0) (
 q0w n f (data,(a,(cmp,((wrap .i64 ((wrap .i64 (shrI .u64 (wrap .u64 (wrap .i64 (i+j))) (1:Int)))+1)),(j,())))))) (
 q0w n f (data,(a,(cmp,(i,((wrap .i64 (shrI .u64 (wrap .u64 (wrap .i64 (i+j))) (1:Int))),()))))))) (
 some (.inl (data,(a,(i,()))))):=by kernel_rfl
theorem a1e (n f:Nat)(data:(List a0d))(i:Int)(k:Int):w0k n (f+1) (data,i,k,()) =
 tif (k<(wrap .i64 (i-1))) (
 a0a (at? data (wrap .i64 (k+1))) fun r0 =>
 a0a ((data)[(Int.toNat (wrap .i64 (k+1)))]?) fun r1 =>
 a0a (at? data k) fun r2 =>
 a0a ((data)[(Int.toNat k)]?) fun r3 =>
 a0a (at? data k) fun r4 =>
 a0a ((data)[(Int.toNat k)]?) fun r5 =>
 a0a (at? (List.set data (Int.toNat k) r1) (wrap .i64 (k+1))) fun r6 =>
 a0a ((List.set data (Int.toNat k) r1)[(Int.toNat (wrap .i64 (k+1)))]?) fun r7 =>
 w0k n f ((List.set (List.set data (Int.toNat k) r1) (Int.toNat (wrap .i64 (k+1))) r3),(i,((wrap .i64 (k+1)),())))) (
 some (.inl (data,()))):=by kernel_rfl
theorem x0u (n f:Nat)(data:(List a0d))(m:Int)(cmp:((a0d×(a0d×Unit))->Option Int))(i_:Int)(j_:Int):n0y n (f+1) (data,m,cmp,i_,j_,()) =
 tif (i_<j_) (
 a0a (at? data m) fun r0 =>
 a0a ((data)[(Int.toNat m)]?) fun r1 =>
 a0a (at? data (wrap .i64 (shrI .u64 (wrap .u64 (wrap .i64 (i_+j_))) (1:Int)))) fun r2 =>
 a0a ((data)[(Int.toNat (wrap .i64 (shrI .u64 (wrap .u64 (wrap .i64 (i_+j_))) (1:Int))))]?) fun r3 =>
 a0a (cmp (r1,(r3,()))) fun r4 =>
 tif (!(r4<0)) (
 n0y n f (data,(m,(cmp,((wrap .i64 ((wrap .i64 (shrI .u64 (wrap .u64 (wrap .i64 (i_+j_))) (1:Int)))+1)),(j_,())))))) (
 n0y n f (data,(m,(cmp,(i_,((wrap .i64 (shrI .u64 (wrap .u64 (wrap .i64 (i_+j_))) (1:Int))),()))))))) (
 some (.inl (data,(m,(i_,()))))):=by kernel_rfl
theorem x0t (n f:Nat)(data:(List a0d))(i_:Int)(k_:Int):s0i n (f+1) (data,i_,k_,()) =
 tif (i_<k_) (
 a0a (at? data (wrap .i64 (k_-1))) fun r0 =>
 a0a ((data)[(Int.toNat (wrap .i64 (k_-1)))]?) fun r1 =>
 a0a (at? data k_) fun r2 =>
 a0a ((data)[(Int.toNat k_)]?) fun r3 =>
 a0a (at? data k_) fun r4 =>
 a0a ((data)[(Int.toNat k_)]?) fun r5 =>
 a0a (at? (List.set data (Int.toNat k_) r1) (wrap .i64 (k_-1))) fun r6 =>
 a0a ((List.set data (Int.toNat k_) r1)[(Int.toNat (wrap .i64 (k_-1)))]?) fun r7 =>
 s0i n f ((List.set (List.set data (Int.toNat k_) r1) (Int.toNat (wrap .i64 (k_-1))) r3),(i_,((wrap .i64 (k_-1)),())))) (
 some (.inl (data,()))):=by kernel_rfl
theorem x0s (n f:Nat)(data:(List a0d))(a:Int)(m:Int)(b:Int)(cmp:((a0d×(a0d×Unit))->Option Int))(mid:Int)(n_:Int)(start:Int)(r:Int)(p:Int):k0u n (f+1) (data,a,m,b,cmp,mid,n_,start,r,p,()) =
 tif (start<r) (
 a0a (at? data (wrap .i64 (p-(wrap .i64 (shrI .u64 (wrap .u64 (wrap .i64 (start+r))) (1:Int)))))) fun r0 =>
 a0a ((data)[(Int.toNat (wrap .i64 (p-(wrap .i64 (shrI .u64 (wrap .u64 (wrap .i64 (start+r))) (1:Int))))))]?) fun r1 =>
 a0a (at? data (wrap .i64 (shrI .u64 (wrap .u64 (wrap .i64 (start+r))) (1:Int)))) fun r2 =>
 a0a ((data)[(Int.toNat (wrap .i64 (shrI .u64 (wrap .u64 (wrap .i64 (start+r))) (1:Int))))]?) fun r3 =>
 a0a (cmp (r1,(r3,()))) fun r4 =>
 tif (!(r4<0)) (
 k0u n f (data,(a,(m,(b,(cmp,(mid,(n_,((wrap .i64 ((wrap .i64 (shrI .u64 (wrap .u64 (wrap .i64 (start+r))) (1:Int)))+1)),(r,(p,()))))))))))) (
 k0u n f (data,(a,(m,(b,(cmp,(mid,(n_,(start,((wrap .i64 (shrI .u64 (wrap .u64 (wrap .i64 (start+r))) (1:Int))),(p,())))))))))))) (
 some (.inl (data,(a,(m,(b,(cmp,(mid,(n_,(start,())))))))))):=by kernel_rfl
theorem e2k (n:Nat)(data:(List a0d))(a:Int)(m:Int)(b:Int)(cmp:((a0d×(a0d×Unit))->Option Int)):i1d (n+1) data a m b cmp =
 a0a (q0y n a0b (data,(m,(cmp,((wrap .i64 (m-a)),((wrap .i64 (b-m)),())))))) fun r0 =>
 b0g (fun y1 =>
 a0a (i1c n y1.1 (wrap .i64 (y1.2.1-y1.2.2.2.1)) y1.2.1 y1.2.2.2.1 y1.2.2.1) fun r2 =>
 some r2) (fun z3 =>
 some z3) r0:=by kernel_rfl
theorem p1e (n f:Nat)(data:(List a0d))(m:Int)(cmp:((a0d×(a0d×Unit))->Option Int))(i:Int)(j:Int):q0y n (f+1) (data,m,cmp,i,j,()) =
 tif (!(i=j)) (
 tif (j<i) (
 a0a (i1c n data (wrap .i64 (m-i)) m j cmp) fun r0 =>
 q0y n f (r0,(m,(cmp,((wrap .i64 (i-j)),(j,())))))) (
 a0a (i1c n data (wrap .i64 (m-i)) (wrap .i64 ((wrap .i64 (m+j))-i)) i cmp) fun r1 =>
 q0y n f (r1,(m,(cmp,(i,((wrap .i64 (j-i)),()))))))) (
 some (.inl (data,(m,(cmp,(i,())))))):=by kernel_rfl
theorem e2i (n:Nat)(data:(List a0d))(a:Int)(b:Int)(n_:Int)(cmp:((a0d×(a0d×Unit))->Option Int)):i1c (n+1) data a b n_ cmp =
 a0a (w0l n a0b (data,(a,(b,(n_,(0,())))))) fun r0 =>
 b0g (fun y1 =>
 some y1.1) (fun z2 =>
 some z2) r0:=by kernel_rfl
theorem a1g (n f:Nat)(data:(List a0d))(a:Int)(b:Int)(n_:Int)(i:Int):w0l n (f+1) (data,a,b,n_,i,()) =
 tif (i<n_) (
 a0a (at? data (wrap .i64 (b+i))) fun r0 =>
 a0a ((data)[(Int.toNat (wrap .i64 (b+i)))]?) fun r1 =>
 a0a (at? data (wrap .i64 (a+i))) fun r2 =>
 a0a ((data)[(Int.toNat (wrap .i64 (a+i)))]?) fun r3 =>
 a0a (at? data (wrap .i64 (a+i))) fun r4 =>
 a0a ((data)[(Int.toNat (wrap .i64 (a+i)))]?) fun r5 =>
 a0a (at? (List.set data (Int.toNat (wrap .i64 (a+i))) r1) (wrap .i64 (b+i))) fun r6 =>
 a0a ((List.set data (Int.toNat (wrap .i64 (a+i))) r1)[(Int.toNat (wrap .i64 (b+i)))]?) fun r7 =>
 w0l n f ((List.set (List.set data (Int.toNat (wrap .i64 (a+i))) r1) (Int.toNat (wrap .i64 (b+i))) r3),(a,(b,(n_,((wrap .i64 (i+1)),())))))) (
 some (.inl (data,()))):=by kernel_rfl
theorem a1n (n:Nat)(x0:List (List UInt8))(x1:Int):o0b (n+1) x0 x1=j0o x0 x1:=by
    have h:o0b (n+1) x0 x1=Option.bind (j0o x0 x1) (fun z=>some z):=by kernel_rfl
    rw[h];cases j0o x0 x1<;>rfl
theorem d1k (n:Nat)(x0:List (a0p))(x1:Int):q0o (n+1) x0 x1=j0o x0 x1:=by
    have h:q0o (n+1) x0 x1=Option.bind (j0o x0 x1) (fun z=>some z):=by kernel_rfl
    rw[h];cases j0o x0 x1<;>rfl
theorem l0t (n:Nat)(x0:List UInt8)(x1:List UInt8):a0t (n+1) x0 x1=h0h x0 x1:=by
    have h:a0t (n+1) x0 x1=Option.bind (h0h x0 x1) (fun z=>some z):=by kernel_rfl
    rw[h];cases h0h x0 x1<;>rfl
theorem c0q (n:Nat)(x0:List UInt8):b0r (n+1) x0=some (x0,x0):=by kernel_rfl
theorem g1d (n:Nat)(x0:List (a0d))(x1:Int):s0m (n+1) x0 x1=j0o x0 x1:=by
    have h:s0m (n+1) x0 x1=Option.bind (j0o x0 x1) (fun z=>some z):=by kernel_rfl
    rw[h];cases j0o x0 x1<;>rfl
theorem j0t (n:Nat)(x0:List UInt8)(x1:Int):c0f (n+1) x0 x1=v1w x0 x1:=by
    have h:c0f (n+1) x0 x1=Option.bind (v1w x0 x1) (fun z=>some z):=by kernel_rfl
    rw[h];cases v1w x0 x1<;>rfl
theorem e0q (n:Nat)(x0:List UInt8):g0b (n+1) x0=some ((x0.length:Int),x0):=by kernel_rfl
end Go.Proofs.YtagnkfbpgkckiaaGreat
