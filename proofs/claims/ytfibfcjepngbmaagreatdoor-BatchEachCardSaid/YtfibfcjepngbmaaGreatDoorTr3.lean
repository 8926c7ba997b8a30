/- Trees, printed by program. -/
import Derived.Test.YtfibfcjepngbmaaGreatDoorTr0
import Derived.KernelRfl
set_option linter.unusedVariables false
open Go.IntKind (wrap)
namespace Go.Proofs.YtfibfcjepngbmaaGreatDoor
open Go.Flat
theorem o1e (n:Nat)(w:Int):o1f (n+1) w =
 tif ((1:Int)<=w) (
 some (decide (w<=1099511627776))) (
 some false):=by kernel_rfl
theorem u0w (n:Nat)(c:a0z)(tier:Int):m0b (n+1) c tier =
 a0a (e0o n c) fun r0 =>
 tif (!(r0=0)) (
 some (0:Int)) (
 tif (tier<1) (
 some (0:Int)) (
 tif ((2:Int)<tier) (
 some (0:Int)) (
 tif (tier=0) (
 tif ((wrap .i64 (tier-1))=0) (
 tif (c.2.1.1=0) (
 none) (
 some (wrap .i64 (Int.tdiv c.2.1.1 c.2.1.1)))) (
 tif ((wrap .i64 (tier-1))=1) (
 tif (c.2.1.2.1=0) (
 none) (
 some (wrap .i64 (Int.tdiv c.2.1.1 c.2.1.2.1)))) (
 tif ((wrap .i64 (tier-1))=2) (
 tif (c.2.1.2.2=0) (
 none) (
 some (wrap .i64 (Int.tdiv c.2.1.1 c.2.1.2.2)))) (
 none)))) (
 tif (tier=1) (
 tif ((wrap .i64 (tier-1))=0) (
 tif (c.2.1.1=0) (
 none) (
 some (wrap .i64 (Int.tdiv c.2.1.2.1 c.2.1.1)))) (
 tif ((wrap .i64 (tier-1))=1) (
 tif (c.2.1.2.1=0) (
 none) (
 some (wrap .i64 (Int.tdiv c.2.1.2.1 c.2.1.2.1)))) (
 tif ((wrap .i64 (tier-1))=2) (
 tif (c.2.1.2.2=0) (
 none) (
 some (wrap .i64 (Int.tdiv c.2.1.2.1 c.2.1.2.2)))) (
 none)))) (
 tif (tier=2) (
 tif ((wrap .i64 (tier-1))=0) (
 tif (c.2.1.1=0) (
 none) (
 some (wrap .i64 (Int.tdiv c.2.1.2.2 c.2.1.1)))) (
 tif ((wrap .i64 (tier-1))=1) (
 tif (c.2.1.2.1=0) (
 none) (
 some (wrap .i64 (Int.tdiv c.2.1.2.2 c.2.1.2.1)))) (
 tif ((wrap .i64 (tier-1))=2) (
 tif (c.2.1.2.2=0) (
 none) (
 some (wrap .i64 (Int.tdiv c.2.1.2.2 c.2.1.2.2)))) (
 none)))) (
 none)))))):=by kernel_rfl
theorem t1g (n:Nat)(l:(List a0c))(i:Int)(k:Int):z0o (n+1) l i k =
 tif (i<0) (
 some ((0,((0,(0,(0,false))),((0,(0,(0,false))),((0,0),(0,(0,0)))))),1)) (
 tif (k<i) (
 some ((0,((0,(0,(0,false))),((0,(0,(0,false))),((0,0),(0,(0,0)))))),1)) (
 a0a (n0x n l) fun r0 =>
 a0a (f0t n a0b (l,(i,(k,((0,((0,(0,(0,false))),((0,(0,(0,false))),((0,0),(0,(0,0)))))),([],(r0,((r0.length:Int),(0,()))))))))) fun r1 =>
 b0u (fun y2 =>
 a0a (t1p n y2.2.1) fun r3 =>
 some r3) (fun z4 =>
 some z4) r1)):=by kernel_rfl
theorem s0h (n f:Nat)(l:(List a0c))(i:Int)(k:Int)(s6:b0f)(cells:(List b0f))(s20:(List a0c))(s21:Int)(s22:Int):f0t n (f+1) (l,i,k,s6,cells,s20,s21,s22,()) =
 tif (s22<s21) (
 a0a (at? s20 s22) fun r0 =>
 tif (i<=r0.1) (
 tif (r0.1<k) (
 a0a (t1f n l r0.1) fun r1 =>
 tif ((decide (r1.1=r0.2.1))&&((decide (r1.2.1.1=r0.2.2.1.1))&&((decide (r1.2.1.2.1=r0.2.2.1.2.1))&&((decide (r1.2.1.2.2.1=r0.2.2.1.2.2.1))&&((r1.2.1.2.2.2==r0.2.2.1.2.2.2)&&((decide (r1.2.2.1.1=r0.2.2.2.1.1))&&((decide (r1.2.2.1.2.1=r0.2.2.2.1.2.1))&&((decide (r1.2.2.1.2.2.1=r0.2.2.2.1.2.2.1))&&((r1.2.2.1.2.2.2==r0.2.2.2.1.2.2.2)&&((decide (r1.2.2.2.1.1=r0.2.2.2.2.1.1))&&((decide (r1.2.2.2.1.2=r0.2.2.2.2.1.2))&&((decide (r1.2.2.2.2.1=r0.2.2.2.2.2.1))&&((decide (r1.2.2.2.2.2.1=r0.2.2.2.2.2.2.1))&&(decide (r1.2.2.2.2.2.2=r0.2.2.2.2.2.2.2))))))))))))))) (
 tif ((((List.length cells)+1)*112)<=140737488355328) (
 f0t n f (l,(i,(k,(s6,((cells++(r0.2::[])),(s20,(s21,((wrap .i64 (s22+1)),()))))))))) (
 none)) (
 f0t n f (l,(i,(k,(s6,(cells,(s20,(s21,((wrap .i64 (s22+1)),())))))))))) (
 f0t n f (l,(i,(k,(s6,(cells,(s20,(s21,((wrap .i64 (s22+1)),())))))))))) (
 f0t n f (l,(i,(k,(s6,(cells,(s20,(s21,((wrap .i64 (s22+1)),())))))))))) (
 some (.inl (s6,(cells,())))):=by kernel_rfl
theorem o1n (n:Nat)(a:(Int×Int)):m0e (n+1) a =
 some ((wrap .i64 (andI .u64 (shrI .u64 a.2 (0:Int)) (255:Int))),((wrap .i64 (andI .u64 (shrI .u64 a.2 (8:Int)) (255:Int))),((wrap .i64 (andI .u64 (shrI .u64 a.2 (16:Int)) (255:Int))),((wrap .i64 (andI .u64 (shrI .u64 a.2 (24:Int)) (255:Int))),((wrap .i64 (andI .u64 (shrI .u64 a.2 (32:Int)) (255:Int))),((wrap .i64 (andI .u64 (shrI .u64 a.2 (40:Int)) (255:Int))),((wrap .i64 (andI .u64 (shrI .u64 a.2 (48:Int)) (255:Int))),((wrap .i64 (andI .u64 (shrI .u64 a.2 (56:Int)) (255:Int))),((wrap .i64 (andI .u64 (shrI .u64 a.1 (0:Int)) (255:Int))),((wrap .i64 (andI .u64 (shrI .u64 a.1 (8:Int)) (255:Int))),((wrap .i64 (andI .u64 (shrI .u64 a.1 (16:Int)) (255:Int))),((wrap .i64 (andI .u64 (shrI .u64 a.1 (24:Int)) (255:Int))),((wrap .i64 (andI .u64 (shrI .u64 a.1 (32:Int)) (255:Int))),((wrap .i64 (andI .u64 (shrI .u64 a.1 (40:Int)) (255:Int))),((wrap .i64 (andI .u64 (shrI .u64 a.1 (48:Int)) (255:Int))),(wrap .i64 (andI .u64 (shrI .u64 a.1 (56:Int)) (255:Int)))))))))))))))))):=by kernel_rfl
theorem e2u (n:Nat)(l:(Int×(Int×(Int×(Int×(Int×(Int×(Int×(Int×(Int×(Int×(Int×(Int×(Int×(Int×(Int×Int)))))))))))))))):w1m (n+1) l =
 some ((orI .u64 (orI .u64 (orI .u64 (orI .u64 (orI .u64 (orI .u64 (orI .u64 (orI .u64 (0:Int) (shlI .u64 (wrap .u64 l.2.2.2.2.2.2.2.2.1) (0:Int))) (shlI .u64 (wrap .u64 l.2.2.2.2.2.2.2.2.2.1) (8:Int))) (shlI .u64 (wrap .u64 l.2.2.2.2.2.2.2.2.2.2.1) (16:Int))) (shlI .u64 (wrap .u64 l.2.2.2.2.2.2.2.2.2.2.2.1) (24:Int))) (shlI .u64 (wrap .u64 l.2.2.2.2.2.2.2.2.2.2.2.2.1) (32:Int))) (shlI .u64 (wrap .u64 l.2.2.2.2.2.2.2.2.2.2.2.2.2.1) (40:Int))) (shlI .u64 (wrap .u64 l.2.2.2.2.2.2.2.2.2.2.2.2.2.2.1) (48:Int))) (shlI .u64 (wrap .u64 l.2.2.2.2.2.2.2.2.2.2.2.2.2.2.2) (56:Int))),(orI .u64 (orI .u64 (orI .u64 (orI .u64 (orI .u64 (orI .u64 (orI .u64 (orI .u64 (0:Int) (shlI .u64 (wrap .u64 l.1) (0:Int))) (shlI .u64 (wrap .u64 l.2.1) (8:Int))) (shlI .u64 (wrap .u64 l.2.2.1) (16:Int))) (shlI .u64 (wrap .u64 l.2.2.2.1) (24:Int))) (shlI .u64 (wrap .u64 l.2.2.2.2.1) (32:Int))) (shlI .u64 (wrap .u64 l.2.2.2.2.2.1) (40:Int))) (shlI .u64 (wrap .u64 l.2.2.2.2.2.2.1) (48:Int))) (shlI .u64 (wrap .u64 l.2.2.2.2.2.2.2.1) (56:Int)))):=by kernel_rfl
theorem c1p (n:Nat)(n_:Int)(low:Int)(high:Int):n0g (n+1) n_ low high =
 tif (low<=n_) (
 some (decide (n_<=high))) (
 some false):=by kernel_rfl
theorem r1d (n:Nat)(w:Int):v1t (n+1) w =
 a0a (n0g n w (1:Int) (1099511627776:Int)) fun r0 =>
 some r0:=by kernel_rfl
theorem l1z (n:Nat)(n_:Int)(low:Int)(high:Int):m1a (n+1) n_ low high =
 tif (low<=n_) (
 some (decide (n_<=high))) (
 some false):=by kernel_rfl
theorem m1e (n:Nat)(s:a0c):o0r (n+1) s =
 some ((decide (s.1=0))&&((decide (s.2.1=0))&&((decide (s.2.2.1.1=0))&&((decide (s.2.2.1.2.1=0))&&((decide (s.2.2.1.2.2.1=0))&&((s.2.2.1.2.2.2==false)&&((decide (s.2.2.2.1.1=0))&&((decide (s.2.2.2.1.2.1=0))&&((decide (s.2.2.2.1.2.2.1=0))&&((s.2.2.2.1.2.2.2==false)&&((decide (s.2.2.2.2.1.1=0))&&((decide (s.2.2.2.2.1.2=0))&&((decide (s.2.2.2.2.2.1=0))&&((decide (s.2.2.2.2.2.2.1=0))&&(decide (s.2.2.2.2.2.2.2=0)))))))))))))))):=by kernel_rfl
theorem y1f (n:Nat)(i:Int)(n_:Int):g1y (n+1) i n_ =
 tif (i<0) (
 some (0:Int)) (
 tif (n_<1) (
 some (0:Int)) (
 tif (n_=0) (
 none) (
 some (Int.tmod i n_)))):=by kernel_rfl
theorem i0r (n:Nat)(s:(List a0c))(f_:((a0c×Unit)->Option Bool)):h0h (n+1) s f_ =
 a0a (c0q n a0b (s,(f_,((s.length:Int),(0,()))))) fun r0 =>
 b0u (fun y1 =>
 some ((-1):Int)) (fun z2 =>
 some z2) r0:=by kernel_rfl
theorem g0j (n f:Nat)(s:(List a0c))(f_:((a0c×Unit)->Option Bool))(s7:Int)(s8:Int):c0q n (f+1) (s,f_,s7,s8,()) =
 tif (s8<s7) (
 a0a (at? s s8) fun r0 =>
 a0a (f_ (r0,())) fun r1 =>
 tif (r1) (
 some (.inr s8)) (
 c0q n f (s,(f_,(s7,((wrap .i64 (s8+1)),())))))) (
 some (.inl ())):=by kernel_rfl
theorem l1i (n:Nat)(c:b0f):x0p (n+1) c =
 tif (c.1=1) (
 tif ((decide (c.2.1.1=c.2.2.1.1))&&((decide (c.2.1.2.1=c.2.2.1.2.1))&&((decide (c.2.1.2.2.1=c.2.2.1.2.2.1))&&(c.2.1.2.2.2==c.2.2.1.2.2.2)))) (
 a0a (d0q n c.2.1) fun r0 =>
 some (decide (r0=0))) (
 some false)) (
 tif ((1:Int)<c.1) (
 a0a (i0k n c.2.1 c.2.2.1) fun r1 =>
 tif (r1) (
 some (decide ((wrap .i64 (c.1-1))<=(wrap .i64 (c.2.2.1.1-c.2.1.1))))) (
 some false)) (
 some false)):=by kernel_rfl
theorem g1v (n:Nat)(a:(Int×Int))(n_:Int):w0e (n+1) a n_ =
 a0a (g0u n a.2 n_) fun r0 =>
 a0a (g0u n a.1 n_) fun r1 =>
 tif (((0:Int)<=r1.2)&&(((0:Int)<=r0.1)&&true)) (
 a0a (t0j n ((((r1.2+r0.1)+0) % (18446744073709551616:Int)),r0.2) (orI .u64 r1.1 (((r1.2+r0.1)+0) / (18446744073709551616:Int)))) fun r2 =>
 some r2) (
 none):=by kernel_rfl
theorem y1e (n:Nat)(n_:Int):a1c (n+1) n_ =
 some (0,n_):=by kernel_rfl
theorem l1y (n:Nat)(a:(Int×Int))(b:(Int×Int)):a1d (n+1) a b =
 tif (a.1<b.1) (
 some true) (
 tif (a.1=b.1) (
 some (decide (a.2<b.2))) (
 some false)):=by kernel_rfl
theorem b2s (n:Nat)(n_:Int)(most:Int):c1c (n+1) n_ most =
 tif ((0:Int)<=n_) (
 some (decide (n_<=most))) (
 some false):=by kernel_rfl
theorem y0y (n:Nat)(s:(List a0c)):j0b (n+1) s =
 tif ((List.length s)=0) (
 both (
 some []) (
 tif (((0+(List.length s))*120)<=140737488355328) (
 some ([]++s)) (
 none))) (
 tif (((0+(List.length s))*120)<=140737488355328) (
 some ([]++s)) (
 none)):=by kernel_rfl
theorem m1h (n:Nat)(l:(List a0c))(i:Int)(k:Int):t0r (n+1) l i k =
 tif (i<0) (
 some ((0,((0,(0,(0,false))),((0,(0,(0,false))),((0,0),(0,(0,0)))))),1)) (
 tif (k<i) (
 some ((0,((0,(0,(0,false))),((0,(0,(0,false))),((0,0),(0,(0,0)))))),1)) (
 a0a (h1m n l) fun r0 =>
 a0a (f0x n a0b (i,(k,((0,((0,(0,(0,false))),((0,(0,(0,false))),((0,0),(0,(0,0)))))),([],(r0,((r0.length:Int),(0,())))))))) fun r1 =>
 b0u (fun y2 =>
 a0a (l1m n y2.2.1) fun r3 =>
 some r3) (fun z4 =>
 some z4) r1)):=by kernel_rfl
theorem o0s (n f:Nat)(i:Int)(k:Int)(s6:b0f)(cells:(List b0f))(s20:(List a0c))(s21:Int)(s22:Int):f0x n (f+1) (i,k,s6,cells,s20,s21,s22,()) =
 tif (s22<s21) (
 a0a (at? s20 s22) fun r0 =>
 tif (i<=r0.1) (
 tif (r0.1<k) (
 tif ((((List.length cells)+1)*112)<=140737488355328) (
 f0x n f (i,(k,(s6,((cells++(r0.2::[])),(s20,(s21,((wrap .i64 (s22+1)),())))))))) (
 none)) (
 f0x n f (i,(k,(s6,(cells,(s20,(s21,((wrap .i64 (s22+1)),()))))))))) (
 f0x n f (i,(k,(s6,(cells,(s20,(s21,((wrap .i64 (s22+1)),()))))))))) (
 some (.inl (s6,(cells,())))):=by kernel_rfl
theorem z0e (n:Nat)(p:a0j)(c:a0j):o0f (n+1) p c =
 a0a (k0n n (p::(c::[]))) fun r0 =>
 tif (!r0) (
 some ((0,((0,(0,(0,false))),((0,(0,(0,false))),((0,0),(0,(0,0)))))),2)) (
 tif (c.1<=p.1) (
 some ((0,((0,(0,(0,false))),((0,(0,(0,false))),((0,0),(0,(0,0)))))),9)) (
 tif (c.2.2.2) (
 some ((0,((0,(0,(0,false))),((0,(0,(0,false))),((0,0),(0,(0,0)))))),0)) (
 tif (p.1<c.2.2.1) (
 a0a (r0i n c (wrap .i64 (c.1-c.2.2.1))) fun r1 =>
 some (r1,0)) (
 tif (p.2.2.2) (
 some ((0,((0,(0,(0,false))),((0,(0,(0,false))),((0,0),(0,(1,0)))))),0)) (
 tif (c.2.1<p.2.1) (
 a0a (r0i n c (wrap .i64 (c.1-p.1))) fun r2 =>
 some (r2,0)) (
 a0a (a1c n (wrap .u64 (c.2.1-p.2.1))) fun r3 =>
 some ((0,((0,(0,(0,false))),((0,(0,(0,false))),(r3,(0,(0,(wrap .i64 (c.1-p.1)))))))),0))))))):=by kernel_rfl
theorem r1b (n:Nat)(l:(List (Int×Int))):g1w (n+1) l =
 a0a (n0f n a0b ((0,0),((0,0),(l,((l.length:Int),(0,())))))) fun r0 =>
 b0u (fun y1 =>
 some (y1.2.1,0)) (fun z2 =>
 some z2) r0:=by kernel_rfl
theorem r0s (n f:Nat)(s2:(Int×Int))(a:(Int×Int))(s9:(List (Int×Int)))(s10:Int)(s11:Int):n0f n (f+1) (s2,a,s9,s10,s11,()) =
 tif (s11<s10) (
 a0a (at? s9 s11) fun r0 =>
 a0a (g1x n a r0) fun r1 =>
 tif (!(r1.2=0)) (
 some (.inr ((0,0),r1.2))) (
 n0f n f (s2,(r1.1,(s9,(s10,((wrap .i64 (s11+1)),()))))))) (
 some (.inl (s2,(a,())))):=by kernel_rfl
theorem j1c (n:Nat)(now:Int)(w:Int)(n_:Int):w0u (n+1) now w n_ =
 a0a (f1k n now w) fun r0 =>
 tif (!(r0.2=0)) (
 some (0,1)) (
 tif (n_<1) (
 some (0,1)) (
 tif ((4096:Int)<n_) (
 some (0,1)) (
 some ((if (wrap .i64 ((wrap .i64 (r0.1-n_))+1))<0 then (0:Int) else (wrap .i64 ((wrap .i64 (r0.1-n_))+1))),0)))):=by kernel_rfl
theorem z1w (n:Nat)(l:(List a0c))(i:Int):t1f (n+1) l i =
 tif (i<0) (
 some (0,((0,(0,(0,false))),((0,(0,(0,false))),((0,0),(0,(0,0))))))) (
 tif ((l.length:Int)=0) (
 some (0,((0,(0,(0,false))),((0,(0,(0,false))),((0,0),(0,(0,0))))))) (
 a0a (u0x n i (l.length:Int)) fun r0 =>
 a0a (at? l r0) fun r1 =>
 tif (!(r1.1=i)) (
 some (0,((0,(0,(0,false))),((0,(0,(0,false))),((0,0),(0,(0,0))))))) (
 some r1.2))):=by kernel_rfl
theorem a2a (n:Nat)(l:(List b0f)):t1p (n+1) l =
 a0a (m0c n a0b ((0,((0,(0,(0,false))),((0,(0,(0,false))),((0,0),(0,(0,0)))))),((0,((0,(0,(0,false))),((0,(0,(0,false))),((0,0),(0,(0,0)))))),(l,((l.length:Int),(0,())))))) fun r0 =>
 b0u (fun y1 =>
 some (y1.2.1,0)) (fun z2 =>
 some z2) r0:=by kernel_rfl
theorem v0a (n f:Nat)(s2:b0f)(c:b0f)(s9:(List b0f))(s10:Int)(s11:Int):m0c n (f+1) (s2,c,s9,s10,s11,()) =
 tif (s11<s10) (
 a0a (at? s9 s11) fun r0 =>
 a0a (u0z n c r0) fun r1 =>
 tif (!(r1.2=0)) (
 some (.inr ((0,((0,(0,(0,false))),((0,(0,(0,false))),((0,0),(0,(0,0)))))),r1.2))) (
 m0c n f (s2,(r1.1,(s9,(s10,((wrap .i64 (s11+1)),()))))))) (
 some (.inl (s2,(c,())))):=by kernel_rfl
theorem v0i (n:Nat)(x:Int)(y:Int):g0u (n+1) x y =
 some ((wrap .u64 ((wrap .u64 ((wrap .u64 ((shrI .u64 x (32:Int))*(shrI .u64 y (32:Int))))+(shrI .u64 (wrap .u64 ((wrap .u64 ((shrI .u64 x (32:Int))*(andI .u64 y (4294967295:Int))))+(shrI .u64 (wrap .u64 ((andI .u64 x (4294967295:Int))*(andI .u64 y (4294967295:Int)))) (32:Int)))) (32:Int))))+(shrI .u64 (wrap .u64 ((andI .u64 (wrap .u64 ((wrap .u64 ((shrI .u64 x (32:Int))*(andI .u64 y (4294967295:Int))))+(shrI .u64 (wrap .u64 ((andI .u64 x (4294967295:Int))*(andI .u64 y (4294967295:Int)))) (32:Int)))) (4294967295:Int))+(wrap .u64 ((andI .u64 x (4294967295:Int))*(shrI .u64 y (32:Int)))))) (32:Int)))),(wrap .u64 (x*y))):=by kernel_rfl
theorem l1x (n:Nat)(a:(Int×Int))(over:Int):t0j (n+1) a over =
 tif (!(over=0)) (
 some ((0,0),1)) (
 some (a,0)):=by kernel_rfl
theorem r1i (n:Nat)(l:(List a0c)):h1m (n+1) l =
 a0a (j0b n l) fun r0 =>
 a0a (g0l n r0 (fun y1=>o0r n y1.1)) fun r2 =>
 a0a (e0h n r2 (fun y3=>q0h n y3.1 y3.2.1)) fun r4 =>
 some r4:=by kernel_rfl
theorem v1j (n:Nat)(l:(List b0f)):l1m (n+1) l =
 a0a (k0p n a0b ((0,((0,(0,(0,false))),((0,(0,(0,false))),((0,0),(0,(0,0)))))),((0,((0,(0,(0,false))),((0,(0,(0,false))),((0,0),(0,(0,0)))))),(l,((l.length:Int),(0,())))))) fun r0 =>
 b0u (fun y1 =>
 some (y1.2.1,0)) (fun z2 =>
 some z2) r0:=by kernel_rfl
theorem s0m (n f:Nat)(s2:b0f)(c:b0f)(s9:(List b0f))(s10:Int)(s11:Int):k0p n (f+1) (s2,c,s9,s10,s11,()) =
 tif (s11<s10) (
 a0a (at? s9 s11) fun r0 =>
 a0a (r0j n c r0) fun r1 =>
 tif (!(r1.2=0)) (
 some (.inr ((0,((0,(0,(0,false))),((0,(0,(0,false))),((0,0),(0,(0,0)))))),r1.2))) (
 k0p n f (s2,(r1.1,(s9,(s10,((wrap .i64 (s11+1)),()))))))) (
 some (.inl (s2,(c,())))):=by kernel_rfl
theorem k1r (n:Nat)(c:a0j)(seen:Int):r0i (n+1) c seen =
 a0a (a1c n c.2.1) fun r0 =>
 some (0,((0,(0,(0,false))),((0,(0,(0,false))),(r0,(1,(0,seen)))))):=by kernel_rfl
theorem r1c (n:Nat)(a:(Int×Int))(b:(Int×Int)):g1x (n+1) a b =
 tif (((0:Int)<=a.2)&&(((0:Int)<=b.2)&&true)) (
 tif (((0:Int)<=a.1)&&(((0:Int)<=b.1)&&(((0:Int)<=(((a.2+b.2)+0) / (18446744073709551616:Int)))&&((((a.2+b.2)+0) / (18446744073709551616:Int))<=1)))) (
 a0a (t0j n ((((a.1+b.1)+(((a.2+b.2)+0) / (18446744073709551616:Int))) % (18446744073709551616:Int)),(((a.2+b.2)+0) % (18446744073709551616:Int))) (((a.1+b.1)+(((a.2+b.2)+0) / (18446744073709551616:Int))) / (18446744073709551616:Int))) fun r0 =>
 some r0) (
 none)) (
 none):=by kernel_rfl
theorem o0v (n:Nat)(s:(List a0c))(del:((a0c×Unit)->Option Bool)):g0l (n+1) s del =
 a0a (h0h n s del) fun r0 =>
 tif (r0=((-1):Int)) (
 some s) (
 a0a (c0k n a0b (s,(del,(r0,((wrap .i64 (r0+1)),()))))) fun r1 =>
 b0u (fun y2 =>
 tif ((0:Int)<=y2.2.1) (
 tif ((Int.toNat y2.2.1)<=(List.length y2.1)) (
 tif (((Int.toNat y2.2.1)+((List.length y2.1)-(Int.toNat y2.2.1)))<=(List.length y2.1)) (
 tif (((0:Int)<=y2.2.1)&&(y2.2.1<=(((List.length (Go.Flat.putRow y2.1 (Int.toNat y2.2.1) (List.replicate ((List.length y2.1)-(Int.toNat y2.2.1)) (0,(0,((0,(0,(0,false))),((0,(0,(0,false))),((0,0),(0,(0,0)))))))))):Nat):Int))) (
 some (List.take ((Int.toNat y2.2.1)-0) (Go.Flat.putRow y2.1 (Int.toNat y2.2.1) (List.replicate ((List.length y2.1)-(Int.toNat y2.2.1)) (0,(0,((0,(0,(0,false))),((0,(0,(0,false))),((0,0),(0,(0,0))))))))))) (
 none)) (
 none)) (
 none)) (
 none)) (fun z3 =>
 some z3) r1):=by kernel_rfl
theorem f0z (n f:Nat)(s:(List a0c))(del:((a0c×Unit)->Option Bool))(i:Int)(j:Int):c0k n (f+1) (s,del,i,j,()) =
 tif (j<(s.length:Int)) (
 a0a (at? s j) fun r0 =>
 a0a ((s)[(Int.toNat j)]?) fun r1 =>
 a0a (del (r1,())) fun r2 =>
 tif (!r2) (
 a0a (at? s i) fun r3 =>
 a0a ((s)[(Int.toNat i)]?) fun r4 =>
 c0k n f ((List.set s (Int.toNat i) r1),(del,((wrap .i64 (i+1)),((wrap .i64 (j+1)),()))))) (
 c0k n f (s,(del,(i,((wrap .i64 (j+1)),())))))) (
 some (.inl (s,(i,())))):=by kernel_rfl
theorem l0h (n:Nat)(x:(List a0c))(cmp:((a0c×(a0c×Unit))->Option Int)):e0h (n+1) x cmp =
 a0a (d2m n x (x.length:Int) cmp) fun r0 =>
 some r0:=by kernel_rfl
theorem h1l (n:Nat)(a:a0c)(b:a0c):q0h (n+1) a b =
 a0a (h0s n a.1 b.1) fun r0 =>
 some r0:=by kernel_rfl
theorem r0q (n:Nat)(x:Int)(y:Int):h0s (n+1) x y =
 a0a (k0o n x) fun r0 =>
 a0a (k0o n y) fun r1 =>
 tif (r0) (
 tif (r1) (
 some (0:Int)) (
 some ((-1):Int))) (
 tif (r1) (
 some (1:Int)) (
 tif (x<y) (
 some ((-1):Int)) (
 tif (y<x) (
 some (1:Int)) (
 some (0:Int))))):=by kernel_rfl
theorem y1v (n:Nat)(data:(List a0c))(n_:Int)(cmp:((a0c×(a0c×Unit))->Option Int)):d2m (n+1) data n_ cmp =
 a0a (l0t n a0b (data,(n_,(cmp,(20,(0,(20,()))))))) fun r0 =>
 b0u (fun y1 =>
 a0a (i1f n y1.1 y1.2.2.2.2.1 y1.2.1 y1.2.2.1) fun r2 =>
 a0a (j0m n a0b (r2,(y1.2.1,(y1.2.2.1,(y1.2.2.2.1,()))))) fun r3 =>
 b0u (fun y4 =>
 some y4.1) (fun z5 =>
 some z5) r3) (fun z6 =>
 some z6) r0:=by kernel_rfl
theorem u0e (n f:Nat)(data:(List a0c))(n_:Int)(cmp:((a0c×(a0c×Unit))->Option Int))(blockSize:Int)(a:Int)(b:Int):l0t n (f+1) (data,n_,cmp,blockSize,a,b,()) =
 tif (b<=n_) (
 a0a (i1f n data a b cmp) fun r0 =>
 l0t n f (r0,(n_,(cmp,(blockSize,(b,((wrap .i64 (b+blockSize)),()))))))) (
 some (.inl (data,(n_,(cmp,(blockSize,(a,()))))))):=by kernel_rfl
theorem u0d (n f:Nat)(data:(List a0c))(n_:Int)(cmp:((a0c×(a0c×Unit))->Option Int))(blockSize:Int):j0m n (f+1) (data,n_,cmp,blockSize,()) =
 tif (blockSize<n_) (
 a0a (q0m n a0b (data,(n_,(cmp,(blockSize,(0,((wrap .i64 ((2:Int)*blockSize)),()))))))) fun r0 =>
 b0u (fun y1 =>
 tif ((wrap .i64 (y1.2.2.2.2.1+y1.2.2.2.1))<y1.2.1) (
 a0a (b0l n y1.1 y1.2.2.2.2.1 (wrap .i64 (y1.2.2.2.2.1+y1.2.2.2.1)) y1.2.1 y1.2.2.1) fun r2 =>
 j0m n f (r2,(y1.2.1,(y1.2.2.1,((wrap .i64 (y1.2.2.2.1*2)),()))))) (
 j0m n f (y1.1,(y1.2.1,(y1.2.2.1,((wrap .i64 (y1.2.2.2.1*2)),())))))) (fun z3 =>
 some (.inr z3)) r0) (
 some (.inl (data,()))):=by kernel_rfl
theorem u0c (n f:Nat)(data:(List a0c))(n_:Int)(cmp:((a0c×(a0c×Unit))->Option Int))(blockSize:Int)(a:Int)(b:Int):q0m n (f+1) (data,n_,cmp,blockSize,a,b,()) =
 tif (b<=n_) (
 a0a (b0l n data a (wrap .i64 (a+blockSize)) b cmp) fun r0 =>
 q0m n f (r0,(n_,(cmp,(blockSize,(b,((wrap .i64 (b+(wrap .i64 ((2:Int)*blockSize)))),()))))))) (
 some (.inl (data,(n_,(cmp,(blockSize,(a,()))))))):=by kernel_rfl
theorem l0c (n:Nat)(x:Int):k0o (n+1) x =
 some (!(decide (x=x))):=by kernel_rfl
theorem y1x (n:Nat)(data:(List a0c))(a:Int)(b:Int)(cmp:((a0c×(a0c×Unit))->Option Int)):i1f (n+1) data a b cmp =
 a0a (q0p n a0b (data,(a,(b,(cmp,((wrap .i64 (a+1)),())))))) fun r0 =>
 b0u (fun y1 =>
 some y1.1) (fun z2 =>
 some z2) r0:=by kernel_rfl
theorem u0g (n f:Nat)(data:(List a0c))(a:Int)(b:Int)(cmp:((a0c×(a0c×Unit))->Option Int))(i:Int):q0p n (f+1) (data,a,b,cmp,i,()) =
 tif (i<b) (
 a0a (q0o n a0b (data,(a,(b,(cmp,(i,(i,()))))))) fun r0 =>
 b0u (fun y1 =>
 q0p n f (y1.1,(y1.2.1,(y1.2.2.1,(y1.2.2.2.1,((wrap .i64 (y1.2.2.2.2.1+1)),())))))) (fun z2 =>
 some (.inr z2)) r0) (
 some (.inl (data,()))):=by kernel_rfl
theorem u0f (n f:Nat)(data:(List a0c))(a:Int)(b:Int)(cmp:((a0c×(a0c×Unit))->Option Int))(i:Int)(j:Int):q0o n (f+1) (data,a,b,cmp,i,j,()) =
 tif (a<j) (
 a0a (at? data j) fun r0 =>
 a0a ((data)[(Int.toNat j)]?) fun r1 =>
 a0a (at? data (wrap .i64 (j-1))) fun r2 =>
 a0a ((data)[(Int.toNat (wrap .i64 (j-1)))]?) fun r3 =>
 a0a (cmp (r1,(r3,()))) fun r4 =>
 tif (r4<0) (
 a0a (at? data (wrap .i64 (j-1))) fun r5 =>
 a0a ((data)[(Int.toNat (wrap .i64 (j-1)))]?) fun r6 =>
 a0a (at? data j) fun r7 =>
 a0a ((data)[(Int.toNat j)]?) fun r8 =>
 a0a (at? data j) fun r9 =>
 a0a ((data)[(Int.toNat j)]?) fun r10 =>
 a0a (at? (List.set data (Int.toNat j) r6) (wrap .i64 (j-1))) fun r11 =>
 a0a ((List.set data (Int.toNat j) r6)[(Int.toNat (wrap .i64 (j-1)))]?) fun r12 =>
 q0o n f ((List.set (List.set data (Int.toNat j) r6) (Int.toNat (wrap .i64 (j-1))) r8),(a,(b,(cmp,(i,((wrap .i64 (j-1)),()))))))) (
 some (.inl (data,(a,(b,(cmp,(i,())))))))) (
 some (.inl (data,(a,(b,(cmp,(i,()))))))):=by kernel_rfl
theorem y1t (n:Nat)(data:(List a0c))(a:Int)(m:Int)(b:Int)(cmp:((a0c×(a0c×Unit))->Option Int)):b0l (n+1) data a m b cmp =
 tif ((wrap .i64 (m-a))=1) (
 a0a (l0s n a0b (data,(a,(cmp,(m,(b,())))))) fun r0 =>
 b0u (fun y1 =>
 a0a (q0k n a0b (y1.1,(y1.2.2.1,(y1.2.1,())))) fun r2 =>
 b0u (fun y3 =>
 some y3.1) (fun z4 =>
 some z4) r2) (fun z5 =>
 some z5) r0) (
 tif ((wrap .i64 (b-m))=1) (
 a0a (j0x n a0b (data,(m,(cmp,(a,(m,())))))) fun r6 =>
 b0u (fun y7 =>
 a0a (n0m n a0b (y7.1,(y7.2.2.1,(y7.2.1,())))) fun r8 =>
 b0u (fun y9 =>
 some y9.1) (fun z10 =>
 some z10) r8) (fun z11 =>
 some z11) r6) (
 tif ((wrap .i64 (shrI .u64 (wrap .u64 (wrap .i64 (a+b))) (1:Int)))<m) (
 a0a (h0g n a0b (data,(a,(m,(b,(cmp,((wrap .i64 (shrI .u64 (wrap .u64 (wrap .i64 (a+b))) (1:Int))),((wrap .i64 ((wrap .i64 (shrI .u64 (wrap .u64 (wrap .i64 (a+b))) (1:Int)))+m)),((wrap .i64 ((wrap .i64 ((wrap .i64 (shrI .u64 (wrap .u64 (wrap .i64 (a+b))) (1:Int)))+m))-b)),((wrap .i64 (shrI .u64 (wrap .u64 (wrap .i64 (a+b))) (1:Int))),((wrap .i64 ((wrap .i64 ((wrap .i64 (shrI .u64 (wrap .u64 (wrap .i64 (a+b))) (1:Int)))+m))-1)),()))))))))))) fun r12 =>
 b0u (fun y13 =>
 tif (y13.2.2.2.2.2.2.2.1<y13.2.2.1) (
 tif (y13.2.2.1<(wrap .i64 (y13.2.2.2.2.2.2.1-y13.2.2.2.2.2.2.2.1))) (
 a0a (a1p n y13.1 y13.2.2.2.2.2.2.2.1 y13.2.2.1 (wrap .i64 (y13.2.2.2.2.2.2.1-y13.2.2.2.2.2.2.2.1)) y13.2.2.2.2.1) fun r14 =>
 tif (y13.2.1<y13.2.2.2.2.2.2.2.1) (
 tif (y13.2.2.2.2.2.2.2.1<y13.2.2.2.2.2.1) (
 a0a (b0l n r14 y13.2.1 y13.2.2.2.2.2.2.2.1 y13.2.2.2.2.2.1 y13.2.2.2.2.1) fun r15 =>
 tif (y13.2.2.2.2.2.1<(wrap .i64 (y13.2.2.2.2.2.2.1-y13.2.2.2.2.2.2.2.1))) (
 tif ((wrap .i64 (y13.2.2.2.2.2.2.1-y13.2.2.2.2.2.2.2.1))<y13.2.2.2.1) (
 a0a (b0l n r15 y13.2.2.2.2.2.1 (wrap .i64 (y13.2.2.2.2.2.2.1-y13.2.2.2.2.2.2.2.1)) y13.2.2.2.1 y13.2.2.2.2.1) fun r16 =>
 some r16) (
 some r15)) (
 some r15)) (
 tif (y13.2.2.2.2.2.1<(wrap .i64 (y13.2.2.2.2.2.2.1-y13.2.2.2.2.2.2.2.1))) (
 tif ((wrap .i64 (y13.2.2.2.2.2.2.1-y13.2.2.2.2.2.2.2.1))<y13.2.2.2.1) (
 a0a (b0l n r14 y13.2.2.2.2.2.1 (wrap .i64 (y13.2.2.2.2.2.2.1-y13.2.2.2.2.2.2.2.1)) y13.2.2.2.1 y13.2.2.2.2.1) fun r17 =>
 some r17) (
 some r14)) (
 some r14))) (
 tif (y13.2.2.2.2.2.1<(wrap .i64 (y13.2.2.2.2.2.2.1-y13.2.2.2.2.2.2.2.1))) (
 tif ((wrap .i64 (y13.2.2.2.2.2.2.1-y13.2.2.2.2.2.2.2.1))<y13.2.2.2.1) (
 a0a (b0l n r14 y13.2.2.2.2.2.1 (wrap .i64 (y13.2.2.2.2.2.2.1-y13.2.2.2.2.2.2.2.1)) y13.2.2.2.1 y13.2.2.2.2.1) fun r18 =>
 some r18) (
 some r14)) (
 some r14))) (
 tif (y13.2.1<y13.2.2.2.2.2.2.2.1) (
 tif (y13.2.2.2.2.2.2.2.1<y13.2.2.2.2.2.1) (
 a0a (b0l n y13.1 y13.2.1 y13.2.2.2.2.2.2.2.1 y13.2.2.2.2.2.1 y13.2.2.2.2.1) fun r19 =>
 tif (y13.2.2.2.2.2.1<(wrap .i64 (y13.2.2.2.2.2.2.1-y13.2.2.2.2.2.2.2.1))) (
 tif ((wrap .i64 (y13.2.2.2.2.2.2.1-y13.2.2.2.2.2.2.2.1))<y13.2.2.2.1) (
 a0a (b0l n r19 y13.2.2.2.2.2.1 (wrap .i64 (y13.2.2.2.2.2.2.1-y13.2.2.2.2.2.2.2.1)) y13.2.2.2.1 y13.2.2.2.2.1) fun r20 =>
 some r20) (
 some r19)) (
 some r19)) (
 tif (y13.2.2.2.2.2.1<(wrap .i64 (y13.2.2.2.2.2.2.1-y13.2.2.2.2.2.2.2.1))) (
 tif ((wrap .i64 (y13.2.2.2.2.2.2.1-y13.2.2.2.2.2.2.2.1))<y13.2.2.2.1) (
 a0a (b0l n y13.1 y13.2.2.2.2.2.1 (wrap .i64 (y13.2.2.2.2.2.2.1-y13.2.2.2.2.2.2.2.1)) y13.2.2.2.1 y13.2.2.2.2.1) fun r21 =>
 some r21) (
 some y13.1)) (
 some y13.1))) (
 tif (y13.2.2.2.2.2.1<(wrap .i64 (y13.2.2.2.2.2.2.1-y13.2.2.2.2.2.2.2.1))) (
 tif ((wrap .i64 (y13.2.2.2.2.2.2.1-y13.2.2.2.2.2.2.2.1))<y13.2.2.2.1) (
 a0a (b0l n y13.1 y13.2.2.2.2.2.1 (wrap .i64 (y13.2.2.2.2.2.2.1-y13.2.2.2.2.2.2.2.1)) y13.2.2.2.1 y13.2.2.2.2.1) fun r22 =>
 some r22) (
 some y13.1)) (
 some y13.1)))) (
 tif (y13.2.1<y13.2.2.2.2.2.2.2.1) (
 tif (y13.2.2.2.2.2.2.2.1<y13.2.2.2.2.2.1) (
 a0a (b0l n y13.1 y13.2.1 y13.2.2.2.2.2.2.2.1 y13.2.2.2.2.2.1 y13.2.2.2.2.1) fun r23 =>
 tif (y13.2.2.2.2.2.1<(wrap .i64 (y13.2.2.2.2.2.2.1-y13.2.2.2.2.2.2.2.1))) (
 tif ((wrap .i64 (y13.2.2.2.2.2.2.1-y13.2.2.2.2.2.2.2.1))<y13.2.2.2.1) (
 a0a (b0l n r23 y13.2.2.2.2.2.1 (wrap .i64 (y13.2.2.2.2.2.2.1-y13.2.2.2.2.2.2.2.1)) y13.2.2.2.1 y13.2.2.2.2.1) fun r24 =>
 some r24) (
 some r23)) (
 some r23)) (
 tif (y13.2.2.2.2.2.1<(wrap .i64 (y13.2.2.2.2.2.2.1-y13.2.2.2.2.2.2.2.1))) (
 tif ((wrap .i64 (y13.2.2.2.2.2.2.1-y13.2.2.2.2.2.2.2.1))<y13.2.2.2.1) (
 a0a (b0l n y13.1 y13.2.2.2.2.2.1 (wrap .i64 (y13.2.2.2.2.2.2.1-y13.2.2.2.2.2.2.2.1)) y13.2.2.2.1 y13.2.2.2.2.1) fun r25 =>
 some r25) (
 some y13.1)) (
 some y13.1))) (
 tif (y13.2.2.2.2.2.1<(wrap .i64 (y13.2.2.2.2.2.2.1-y13.2.2.2.2.2.2.2.1))) (
 tif ((wrap .i64 (y13.2.2.2.2.2.2.1-y13.2.2.2.2.2.2.2.1))<y13.2.2.2.1) (
 a0a (b0l n y13.1 y13.2.2.2.2.2.1 (wrap .i64 (y13.2.2.2.2.2.2.1-y13.2.2.2.2.2.2.2.1)) y13.2.2.2.1 y13.2.2.2.2.1) fun r26 =>
 some r26) (
 some y13.1)) (
 some y13.1)))) (fun z27 =>
 some z27) r12) (
 a0a (h0g n a0b (data,(a,(m,(b,(cmp,((wrap .i64 (shrI .u64 (wrap .u64 (wrap .i64 (a+b))) (1:Int))),((wrap .i64 ((wrap .i64 (shrI .u64 (wrap .u64 (wrap .i64 (a+b))) (1:Int)))+m)),(a,(m,((wrap .i64 ((wrap .i64 ((wrap .i64 (shrI .u64 (wrap .u64 (wrap .i64 (a+b))) (1:Int)))+m))-1)),()))))))))))) fun r28 =>
 b0u (fun y29 =>
 tif (y29.2.2.2.2.2.2.2.1<y29.2.2.1) (
 tif (y29.2.2.1<(wrap .i64 (y29.2.2.2.2.2.2.1-y29.2.2.2.2.2.2.2.1))) (
 a0a (a1p n y29.1 y29.2.2.2.2.2.2.2.1 y29.2.2.1 (wrap .i64 (y29.2.2.2.2.2.2.1-y29.2.2.2.2.2.2.2.1)) y29.2.2.2.2.1) fun r30 =>
 tif (y29.2.1<y29.2.2.2.2.2.2.2.1) (
 tif (y29.2.2.2.2.2.2.2.1<y29.2.2.2.2.2.1) (
 a0a (b0l n r30 y29.2.1 y29.2.2.2.2.2.2.2.1 y29.2.2.2.2.2.1 y29.2.2.2.2.1) fun r31 =>
 tif (y29.2.2.2.2.2.1<(wrap .i64 (y29.2.2.2.2.2.2.1-y29.2.2.2.2.2.2.2.1))) (
 tif ((wrap .i64 (y29.2.2.2.2.2.2.1-y29.2.2.2.2.2.2.2.1))<y29.2.2.2.1) (
 a0a (b0l n r31 y29.2.2.2.2.2.1 (wrap .i64 (y29.2.2.2.2.2.2.1-y29.2.2.2.2.2.2.2.1)) y29.2.2.2.1 y29.2.2.2.2.1) fun r32 =>
 some r32) (
 some r31)) (
 some r31)) (
 tif (y29.2.2.2.2.2.1<(wrap .i64 (y29.2.2.2.2.2.2.1-y29.2.2.2.2.2.2.2.1))) (
 tif ((wrap .i64 (y29.2.2.2.2.2.2.1-y29.2.2.2.2.2.2.2.1))<y29.2.2.2.1) (
 a0a (b0l n r30 y29.2.2.2.2.2.1 (wrap .i64 (y29.2.2.2.2.2.2.1-y29.2.2.2.2.2.2.2.1)) y29.2.2.2.1 y29.2.2.2.2.1) fun r33 =>
 some r33) (
 some r30)) (
 some r30))) (
 tif (y29.2.2.2.2.2.1<(wrap .i64 (y29.2.2.2.2.2.2.1-y29.2.2.2.2.2.2.2.1))) (
 tif ((wrap .i64 (y29.2.2.2.2.2.2.1-y29.2.2.2.2.2.2.2.1))<y29.2.2.2.1) (
 a0a (b0l n r30 y29.2.2.2.2.2.1 (wrap .i64 (y29.2.2.2.2.2.2.1-y29.2.2.2.2.2.2.2.1)) y29.2.2.2.1 y29.2.2.2.2.1) fun r34 =>
 some r34) (
 some r30)) (
 some r30))) (
 tif (y29.2.1<y29.2.2.2.2.2.2.2.1) (
 tif (y29.2.2.2.2.2.2.2.1<y29.2.2.2.2.2.1) (
 a0a (b0l n y29.1 y29.2.1 y29.2.2.2.2.2.2.2.1 y29.2.2.2.2.2.1 y29.2.2.2.2.1) fun r35 =>
 tif (y29.2.2.2.2.2.1<(wrap .i64 (y29.2.2.2.2.2.2.1-y29.2.2.2.2.2.2.2.1))) (
 tif ((wrap .i64 (y29.2.2.2.2.2.2.1-y29.2.2.2.2.2.2.2.1))<y29.2.2.2.1) (
 a0a (b0l n r35 y29.2.2.2.2.2.1 (wrap .i64 (y29.2.2.2.2.2.2.1-y29.2.2.2.2.2.2.2.1)) y29.2.2.2.1 y29.2.2.2.2.1) fun r36 =>
 some r36) (
 some r35)) (
 some r35)) (
 tif (y29.2.2.2.2.2.1<(wrap .i64 (y29.2.2.2.2.2.2.1-y29.2.2.2.2.2.2.2.1))) (
 tif ((wrap .i64 (y29.2.2.2.2.2.2.1-y29.2.2.2.2.2.2.2.1))<y29.2.2.2.1) (
 a0a (b0l n y29.1 y29.2.2.2.2.2.1 (wrap .i64 (y29.2.2.2.2.2.2.1-y29.2.2.2.2.2.2.2.1)) y29.2.2.2.1 y29.2.2.2.2.1) fun r37 =>
 some r37) (
 some y29.1)) (
 some y29.1))) (
 tif (y29.2.2.2.2.2.1<(wrap .i64 (y29.2.2.2.2.2.2.1-y29.2.2.2.2.2.2.2.1))) (
 tif ((wrap .i64 (y29.2.2.2.2.2.2.1-y29.2.2.2.2.2.2.2.1))<y29.2.2.2.1) (
 a0a (b0l n y29.1 y29.2.2.2.2.2.1 (wrap .i64 (y29.2.2.2.2.2.2.1-y29.2.2.2.2.2.2.2.1)) y29.2.2.2.1 y29.2.2.2.2.1) fun r38 =>
 some r38) (
 some y29.1)) (
 some y29.1)))) (
 tif (y29.2.1<y29.2.2.2.2.2.2.2.1) (
 tif (y29.2.2.2.2.2.2.2.1<y29.2.2.2.2.2.1) (
 a0a (b0l n y29.1 y29.2.1 y29.2.2.2.2.2.2.2.1 y29.2.2.2.2.2.1 y29.2.2.2.2.1) fun r39 =>
 tif (y29.2.2.2.2.2.1<(wrap .i64 (y29.2.2.2.2.2.2.1-y29.2.2.2.2.2.2.2.1))) (
 tif ((wrap .i64 (y29.2.2.2.2.2.2.1-y29.2.2.2.2.2.2.2.1))<y29.2.2.2.1) (
 a0a (b0l n r39 y29.2.2.2.2.2.1 (wrap .i64 (y29.2.2.2.2.2.2.1-y29.2.2.2.2.2.2.2.1)) y29.2.2.2.1 y29.2.2.2.2.1) fun r40 =>
 some r40) (
 some r39)) (
 some r39)) (
 tif (y29.2.2.2.2.2.1<(wrap .i64 (y29.2.2.2.2.2.2.1-y29.2.2.2.2.2.2.2.1))) (
 tif ((wrap .i64 (y29.2.2.2.2.2.2.1-y29.2.2.2.2.2.2.2.1))<y29.2.2.2.1) (
 a0a (b0l n y29.1 y29.2.2.2.2.2.1 (wrap .i64 (y29.2.2.2.2.2.2.1-y29.2.2.2.2.2.2.2.1)) y29.2.2.2.1 y29.2.2.2.2.1) fun r41 =>
 some r41) (
 some y29.1)) (
 some y29.1))) (
 tif (y29.2.2.2.2.2.1<(wrap .i64 (y29.2.2.2.2.2.2.1-y29.2.2.2.2.2.2.2.1))) (
 tif ((wrap .i64 (y29.2.2.2.2.2.2.1-y29.2.2.2.2.2.2.2.1))<y29.2.2.2.1) (
 a0a (b0l n y29.1 y29.2.2.2.2.2.1 (wrap .i64 (y29.2.2.2.2.2.2.1-y29.2.2.2.2.2.2.2.1)) y29.2.2.2.1 y29.2.2.2.2.1) fun r42 =>
 some r42) (
 some y29.1)) (
 some y29.1)))) (fun z43 =>
 some z43) r28))):=by kernel_rfl
theorem u0a (n f:Nat)(data:(List a0c))(a:Int)(cmp:((a0c×(a0c×Unit))->Option Int))(i:Int)(j:Int):l0s n (f+1) (data,a,cmp,i,j,()) =
 tif (i<j) (
 a0a (at? data (wrap .i64 (shrI .u64 (wrap .u64 (wrap .i64 (i+j))) (1:Int)))) fun r0 =>
 a0a ((data)[(Int.toNat (wrap .i64 (shrI .u64 (wrap .u64 (wrap .i64 (i+j))) (1:Int))))]?) fun r1 =>
 a0a (at? data a) fun r2 =>
 a0a ((data)[(Int.toNat a)]?) fun r3 =>
 a0a (cmp (r1,(r3,()))) fun r4 =>
 tif (r4<0) (
 l0s n f (data,(a,(cmp,((wrap .i64 ((wrap .i64 (shrI .u64 (wrap .u64 (wrap .i64 (i+j))) (1:Int)))+1)),(j,())))))) (
 l0s n f (data,(a,(cmp,(i,((wrap .i64 (shrI .u64 (wrap .u64 (wrap .i64 (i+j))) (1:Int))),()))))))) (
 some (.inl (data,(a,(i,()))))):=by kernel_rfl
theorem t0z (n f:Nat)(data:(List a0c))(i:Int)(k:Int):q0k n (f+1) (data,i,k,()) =
 tif (k<(wrap .i64 (i-1))) (
 a0a (at? data (wrap .i64 (k+1))) fun r0 =>
 a0a ((data)[(Int.toNat (wrap .i64 (k+1)))]?) fun r1 =>
 a0a (at? data k) fun r2 =>
 a0a ((data)[(Int.toNat k)]?) fun r3 =>
 a0a (at? data k) fun r4 =>
 a0a ((data)[(Int.toNat k)]?) fun r5 =>
 a0a (at? (List.set data (Int.toNat k) r1) (wrap .i64 (k+1))) fun r6 =>
 a0a ((List.set data (Int.toNat k) r1)[(Int.toNat (wrap .i64 (k+1)))]?) fun r7 =>
 q0k n f ((List.set (List.set data (Int.toNat k) r1) (Int.toNat (wrap .i64 (k+1))) r3),(i,((wrap .i64 (k+1)),())))) (
 some (.inl (data,()))):=by kernel_rfl
theorem r0v (n f:Nat)(data:(List a0c))(m:Int)(cmp:((a0c×(a0c×Unit))->Option Int))(i_:Int)(j_:Int):j0x n (f+1) (data,m,cmp,i_,j_,()) =
 tif (i_<j_) (
 a0a (at? data m) fun r0 =>
 a0a ((data)[(Int.toNat m)]?) fun r1 =>
 a0a (at? data (wrap .i64 (shrI .u64 (wrap .u64 (wrap .i64 (i_+j_))) (1:Int)))) fun r2 =>
 a0a ((data)[(Int.toNat (wrap .i64 (shrI .u64 (wrap .u64 (wrap .i64 (i_+j_))) (1:Int))))]?) fun r3 =>
 a0a (cmp (r1,(r3,()))) fun r4 =>
 tif (!(r4<0)) (
 j0x n f (data,(m,(cmp,((wrap .i64 ((wrap .i64 (shrI .u64 (wrap .u64 (wrap .i64 (i_+j_))) (1:Int)))+1)),(j_,())))))) (
 j0x n f (data,(m,(cmp,(i_,((wrap .i64 (shrI .u64 (wrap .u64 (wrap .i64 (i_+j_))) (1:Int))),()))))))) (
 some (.inl (data,(m,(i_,()))))):=by kernel_rfl
theorem r0u (n f:Nat)(data:(List a0c))(i_:Int)(k_:Int):n0m n (f+1) (data,i_,k_,()) =
 tif (i_<k_) (
 a0a (at? data (wrap .i64 (k_-1))) fun r0 =>
 a0a ((data)[(Int.toNat (wrap .i64 (k_-1)))]?) fun r1 =>
 a0a (at? data k_) fun r2 =>
 a0a ((data)[(Int.toNat k_)]?) fun r3 =>
 a0a (at? data k_) fun r4 =>
 a0a ((data)[(Int.toNat k_)]?) fun r5 =>
 a0a (at? (List.set data (Int.toNat k_) r1) (wrap .i64 (k_-1))) fun r6 =>
 a0a ((List.set data (Int.toNat k_) r1)[(Int.toNat (wrap .i64 (k_-1)))]?) fun r7 =>
 n0m n f ((List.set (List.set data (Int.toNat k_) r1) (Int.toNat (wrap .i64 (k_-1))) r3),(i_,((wrap .i64 (k_-1)),())))) (
 some (.inl (data,()))):=by kernel_rfl
theorem r0t (n f:Nat)(data:(List a0c))(a:Int)(m:Int)(b:Int)(cmp:((a0c×(a0c×Unit))->Option Int))(mid:Int)(n_:Int)(start:Int)(r:Int)(p:Int):h0g n (f+1) (data,a,m,b,cmp,mid,n_,start,r,p,()) =
 tif (start<r) (
 a0a (at? data (wrap .i64 (p-(wrap .i64 (shrI .u64 (wrap .u64 (wrap .i64 (start+r))) (1:Int)))))) fun r0 =>
 a0a ((data)[(Int.toNat (wrap .i64 (p-(wrap .i64 (shrI .u64 (wrap .u64 (wrap .i64 (start+r))) (1:Int))))))]?) fun r1 =>
 a0a (at? data (wrap .i64 (shrI .u64 (wrap .u64 (wrap .i64 (start+r))) (1:Int)))) fun r2 =>
 a0a ((data)[(Int.toNat (wrap .i64 (shrI .u64 (wrap .u64 (wrap .i64 (start+r))) (1:Int))))]?) fun r3 =>
 a0a (cmp (r1,(r3,()))) fun r4 =>
 tif (!(r4<0)) (
 h0g n f (data,(a,(m,(b,(cmp,(mid,(n_,((wrap .i64 ((wrap .i64 (shrI .u64 (wrap .u64 (wrap .i64 (start+r))) (1:Int)))+1)),(r,(p,()))))))))))) (
 h0g n f (data,(a,(m,(b,(cmp,(mid,(n_,(start,((wrap .i64 (shrI .u64 (wrap .u64 (wrap .i64 (start+r))) (1:Int))),(p,())))))))))))) (
 some (.inl (data,(a,(m,(b,(cmp,(mid,(n_,(start,())))))))))):=by kernel_rfl
theorem y1w (n:Nat)(data:(List a0c))(a:Int)(m:Int)(b:Int)(cmp:((a0c×(a0c×Unit))->Option Int)):a1p (n+1) data a m b cmp =
 a0a (l0u n a0b (data,(m,(cmp,((wrap .i64 (m-a)),((wrap .i64 (b-m)),())))))) fun r0 =>
 b0u (fun y1 =>
 a0a (a1o n y1.1 (wrap .i64 (y1.2.1-y1.2.2.2.1)) y1.2.1 y1.2.2.2.1 y1.2.2.1) fun r2 =>
 some r2) (fun z3 =>
 some z3) r0:=by kernel_rfl
theorem i1e (n f:Nat)(data:(List a0c))(m:Int)(cmp:((a0c×(a0c×Unit))->Option Int))(i:Int)(j:Int):l0u n (f+1) (data,m,cmp,i,j,()) =
 tif (!(i=j)) (
 tif (j<i) (
 a0a (a1o n data (wrap .i64 (m-i)) m j cmp) fun r0 =>
 l0u n f (r0,(m,(cmp,((wrap .i64 (i-j)),(j,())))))) (
 a0a (a1o n data (wrap .i64 (m-i)) (wrap .i64 ((wrap .i64 (m+j))-i)) i cmp) fun r1 =>
 l0u n f (r1,(m,(cmp,(i,((wrap .i64 (j-i)),()))))))) (
 some (.inl (data,(m,(cmp,(i,())))))):=by kernel_rfl
theorem y1u (n:Nat)(data:(List a0c))(a:Int)(b:Int)(n_:Int)(cmp:((a0c×(a0c×Unit))->Option Int)):a1o (n+1) data a b n_ cmp =
 a0a (q0l n a0b (data,(a,(b,(n_,(0,())))))) fun r0 =>
 b0u (fun y1 =>
 some y1.1) (fun z2 =>
 some z2) r0:=by kernel_rfl
theorem u0b (n f:Nat)(data:(List a0c))(a:Int)(b:Int)(n_:Int)(i:Int):q0l n (f+1) (data,a,b,n_,i,()) =
 tif (i<n_) (
 a0a (at? data (wrap .i64 (b+i))) fun r0 =>
 a0a ((data)[(Int.toNat (wrap .i64 (b+i)))]?) fun r1 =>
 a0a (at? data (wrap .i64 (a+i))) fun r2 =>
 a0a ((data)[(Int.toNat (wrap .i64 (a+i)))]?) fun r3 =>
 a0a (at? data (wrap .i64 (a+i))) fun r4 =>
 a0a ((data)[(Int.toNat (wrap .i64 (a+i)))]?) fun r5 =>
 a0a (at? (List.set data (Int.toNat (wrap .i64 (a+i))) r1) (wrap .i64 (b+i))) fun r6 =>
 a0a ((List.set data (Int.toNat (wrap .i64 (a+i))) r1)[(Int.toNat (wrap .i64 (b+i)))]?) fun r7 =>
 q0l n f ((List.set (List.set data (Int.toNat (wrap .i64 (a+i))) r1) (Int.toNat (wrap .i64 (b+i))) r3),(a,(b,(n_,((wrap .i64 (i+1)),())))))) (
 some (.inl (data,()))):=by kernel_rfl
end Go.Proofs.YtfibfcjepngbmaaGreatDoor
