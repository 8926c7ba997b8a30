/- Trees, printed by program. -/
import Derived.Test.YtagnkfbpgkckiaaGreatDoorTr0
import Derived.KernelRfl
set_option linter.unusedVariables false
open Go.IntKind (wrap)
namespace Go.Proofs.YtagnkfbpgkckiaaGreatDoor
open Go.Flat
theorem t1t (n:Nat)(s:List UInt8):e1t (n+1) s =
 tif (s==[]) (
 some false) (
 tif ((64:Int)<(s.length:Int)) (
 some false) (
 a0a (at? s (0:Int)) fun r0 =>
 a0a (t0s n (((UInt8.toNat r0):Nat):Int)) fun r1 =>
 tif (r1) (
 some false) (
 a0a (i0k n (List.map (fun y2=>(((UInt8.toNat y2):Nat):Int)) s) (fun y3=>v0v n y3.1)) fun r4 =>
 some (!r4)))):=by kernel_rfl
theorem f2g (n:Nat)(s:a0h)(k:Int):c1u (n+1) s k =
 a0a (a2b n s k) fun r0 =>
 tif (!(r0=0)) (
 some (0,(0,r0))) (
 tif (k=0) (
 tif (k=0) (
 a0a (d0v n s.2.1 s.1.2.1.1 s.1.2.2.1.1) fun r1 =>
 tif (s.1.2.1.1=0) (
 none) (
 some (r1.1,((wrap .i64 (Int.tdiv s.2.1 s.1.2.1.1)),r1.2)))) (
 tif (k=1) (
 a0a (d0v n s.2.1 s.1.2.1.1 s.1.2.2.1.2.1) fun r2 =>
 tif (s.1.2.1.1=0) (
 none) (
 some (r2.1,((wrap .i64 (Int.tdiv s.2.1 s.1.2.1.1)),r2.2)))) (
 tif (k=2) (
 a0a (d0v n s.2.1 s.1.2.1.1 s.1.2.2.1.2.2) fun r3 =>
 tif (s.1.2.1.1=0) (
 none) (
 some (r3.1,((wrap .i64 (Int.tdiv s.2.1 s.1.2.1.1)),r3.2)))) (
 none)))) (
 tif (k=1) (
 tif (k=0) (
 a0a (d0v n s.2.1 s.1.2.1.2.1 s.1.2.2.1.1) fun r4 =>
 tif (s.1.2.1.2.1=0) (
 none) (
 some (r4.1,((wrap .i64 (Int.tdiv s.2.1 s.1.2.1.2.1)),r4.2)))) (
 tif (k=1) (
 a0a (d0v n s.2.1 s.1.2.1.2.1 s.1.2.2.1.2.1) fun r5 =>
 tif (s.1.2.1.2.1=0) (
 none) (
 some (r5.1,((wrap .i64 (Int.tdiv s.2.1 s.1.2.1.2.1)),r5.2)))) (
 tif (k=2) (
 a0a (d0v n s.2.1 s.1.2.1.2.1 s.1.2.2.1.2.2) fun r6 =>
 tif (s.1.2.1.2.1=0) (
 none) (
 some (r6.1,((wrap .i64 (Int.tdiv s.2.1 s.1.2.1.2.1)),r6.2)))) (
 none)))) (
 tif (k=2) (
 tif (k=0) (
 a0a (d0v n s.2.1 s.1.2.1.2.2 s.1.2.2.1.1) fun r7 =>
 tif (s.1.2.1.2.2=0) (
 none) (
 some (r7.1,((wrap .i64 (Int.tdiv s.2.1 s.1.2.1.2.2)),r7.2)))) (
 tif (k=1) (
 a0a (d0v n s.2.1 s.1.2.1.2.2 s.1.2.2.1.2.1) fun r8 =>
 tif (s.1.2.1.2.2=0) (
 none) (
 some (r8.1,((wrap .i64 (Int.tdiv s.2.1 s.1.2.1.2.2)),r8.2)))) (
 tif (k=2) (
 a0a (d0v n s.2.1 s.1.2.1.2.2 s.1.2.2.1.2.2) fun r9 =>
 tif (s.1.2.1.2.2=0) (
 none) (
 some (r9.1,((wrap .i64 (Int.tdiv s.2.1 s.1.2.1.2.2)),r9.2)))) (
 none)))) (
 none)))):=by kernel_rfl
theorem r1t (n:Nat)(i:Int)(p1:a0h)(p2:(List (List UInt8×List UInt8)))(p3:a0h):h0m (n+1) i p1 p2 p3 =
 a0a (at? p1.2.2.2 i) fun r0 =>
 a0a (r0q n r0.1 p2) fun r1 =>
 tif (r1) (
 a0a (e0s n p3 i) fun r2 =>
 some r2) (
 some false):=by kernel_rfl
theorem i1y (n:Nat)(w:Int):q1q (n+1) w =
 a0a (s0l n w (1:Int) (1099511627776:Int)) fun r0 =>
 some r0:=by kernel_rfl
theorem r1x (n:Nat)(s:b0n)(i:Int)(j:Int):s0s (n+1) s (0:Int) i j =
 tif (s.2.2.1=((-1):Int)) (
 some ((0,((0,(0,(0,false))),((0,(0,(0,false))),((0,0),(0,(0,0)))))),0)) (
 tif (s.1.2.1.1=0) (
 none) (
 a0a (j0n n s.2.2.2.2.1.1 i j) fun r0 =>
 tif (!(r0.2=0)) (
 some r0) (
 tif ((wrap .i64 (Int.tdiv s.2.2.1 s.1.2.1.1))<i) (
 some r0) (
 tif (j<=(wrap .i64 (Int.tdiv s.2.2.1 s.1.2.1.1))) (
 some r0) (
 a0a (o0i n s (0:Int)) fun r1 =>
 tif (!(r1.2=0)) (
 some ((0,((0,(0,(0,false))),((0,(0,(0,false))),((0,0),(0,(0,0)))))),r1.2)) (
 a0a (i0c n r0.1 r1.1) fun r2 =>
 some r2)))))):=by kernel_rfl
theorem r1w (n:Nat)(s:b0n)(i:Int)(j:Int):s0s (n+1) s (1:Int) i j =
 tif (s.2.2.1=((-1):Int)) (
 some ((0,((0,(0,(0,false))),((0,(0,(0,false))),((0,0),(0,(0,0)))))),0)) (
 tif (s.1.2.1.2.1=0) (
 none) (
 a0a (j0n n s.2.2.2.2.1.2.1 i j) fun r0 =>
 tif (!(r0.2=0)) (
 some r0) (
 tif ((wrap .i64 (Int.tdiv s.2.2.1 s.1.2.1.2.1))<i) (
 some r0) (
 tif (j<=(wrap .i64 (Int.tdiv s.2.2.1 s.1.2.1.2.1))) (
 some r0) (
 a0a (o0i n s (1:Int)) fun r1 =>
 tif (!(r1.2=0)) (
 some ((0,((0,(0,(0,false))),((0,(0,(0,false))),((0,0),(0,(0,0)))))),r1.2)) (
 a0a (i0c n r0.1 r1.1) fun r2 =>
 some r2)))))):=by kernel_rfl
theorem r1v (n:Nat)(s:b0n)(i:Int)(j:Int):s0s (n+1) s (2:Int) i j =
 tif (s.2.2.1=((-1):Int)) (
 some ((0,((0,(0,(0,false))),((0,(0,(0,false))),((0,0),(0,(0,0)))))),0)) (
 tif (s.1.2.1.2.2=0) (
 none) (
 a0a (j0n n s.2.2.2.2.1.2.2 i j) fun r0 =>
 tif (!(r0.2=0)) (
 some r0) (
 tif ((wrap .i64 (Int.tdiv s.2.2.1 s.1.2.1.2.2))<i) (
 some r0) (
 tif (j<=(wrap .i64 (Int.tdiv s.2.2.1 s.1.2.1.2.2))) (
 some r0) (
 a0a (o0i n s (2:Int)) fun r1 =>
 tif (!(r1.2=0)) (
 some ((0,((0,(0,(0,false))),((0,(0,(0,false))),((0,0),(0,(0,0)))))),r1.2)) (
 a0a (i0c n r0.1 r1.1) fun r2 =>
 some r2)))))):=by kernel_rfl
theorem q1m (n:Nat)(a:(Int×Int))(n_:Int):w0m (n+1) a n_ =
 a0a (g0u n a.2 n_) fun r0 =>
 a0a (g0u n a.1 n_) fun r1 =>
 tif (((0:Int)<=r1.2)&&(((0:Int)<=r0.1)&&true)) (
 a0a (u0v n ((((r1.2+r0.1)+0) % (18446744073709551616:Int)),r0.2) (orI .u64 r1.1 (((r1.2+r0.1)+0) / (18446744073709551616:Int)))) fun r2 =>
 some r2) (
 none):=by kernel_rfl
theorem k1f (n:Nat)(num:(Int×Int))(den:(Int×Int)):v0n (n+1) num den =
 a0a (n0q n den) fun r0 =>
 tif (r0) (
 some (((0,0),(0,0)),1)) (
 a0a (k1g n num den) fun r1 =>
 a0a (t0h n num r1) fun r2 =>
 a0a (t0h n den r1) fun r3 =>
 some ((r2,r3),0)):=by kernel_rfl
theorem i2x (n:Nat)(n_:Int):y0z (n+1) n_ =
 some (0,n_):=by kernel_rfl
theorem w0f (n:Nat)(w:(List Int))(width:Int)(n_:Int):a0t (n+1) w width n_ =
 tif (width<1) (
 some w) (
 tif ((8:Int)<width) (
 some w) (
 a0a (e0q n a0b (w,(n_,((wrap .i64 ((8:Int)*(wrap .i64 (width-1)))),())))) fun r0 =>
 b0v (fun y1 =>
 some y1.1) (fun z2 =>
 some z2) r0)):=by kernel_rfl
theorem j0k (n f:Nat)(w:(List Int))(n_:Int)(up:Int):e0q n (f+1) (w,n_,up,()) =
 tif ((0:Int)<=up) (
 tif (up<0) (
 none) (
 tif ((((List.length w)+1)*1)<=140737488355328) (
 e0q n f ((w++((wrap .u8 (shrI .u64 n_ up))::[])),(n_,((wrap .i64 (up-8)),())))) (
 none))) (
 some (.inl (w,()))):=by kernel_rfl
theorem u0o (n:Nat)(x:Int)(y:Int):t0q (n+1) x y =
 a0a (g0u n x y) fun r0 =>
 some r0:=by kernel_rfl
theorem n1i (n:Nat)(l:(List (List UInt8×List UInt8))):z0u (n+1) l =
 a0a (f0x n l) fun r0 =>
 tif (!(r0=0)) (
 some ([],r0)) (
 a0a (h0y n [] (wrap .u64 (l.length:Int))) fun r1 =>
 a0a (l0n n a0b (r1,(l,((l.length:Int),(0,()))))) fun r2 =>
 b0v (fun y3 =>
 a0a (c0y n y3.1) fun r4 =>
 some (r4.1,0)) (fun z5 =>
 some z5) r2):=by kernel_rfl
theorem r0s (n f:Nat)(w:(List Int))(s17:(List (List UInt8×List UInt8)))(s18:Int)(s19:Int):l0n n (f+1) (w,s17,s18,s19,()) =
 tif (s19<s18) (
 a0a (at? s17 s19) fun r0 =>
 a0a (i0a n w r0.1) fun r1 =>
 a0a (i0a n r1 r0.2) fun r2 =>
 l0n n f (r2,(s17,(s18,((wrap .i64 (s19+1)),()))))) (
 some (.inl (w,()))):=by kernel_rfl
theorem n1k (n:Nat)(w:(List Int))(e:a0l):o0x (n+1) w e =
 a0a (o0z n w (e.1::((wrap .i64 e.2.1)::(e.2.2.1::[])))) fun r0 =>
 tif (e.2.2.2) (
 a0a (a0t n r0 (1:Int) (1:Int)) fun r1 =>
 some r1) (
 a0a (a0t n r0 (1:Int) (0:Int)) fun r2 =>
 some r2):=by kernel_rfl
theorem u0r (n:Nat)(s:(List (List UInt8)))(f_:((List UInt8×Unit)->Option Bool)):o0k (n+1) s f_ =
 a0a (d0a n a0b (s,(f_,((s.length:Int),(0,()))))) fun r0 =>
 b0v (fun y1 =>
 some ((-1):Int)) (fun z2 =>
 some z2) r0:=by kernel_rfl
theorem i0p (n f:Nat)(s:(List (List UInt8)))(f_:((List UInt8×Unit)->Option Bool))(s7:Int)(s8:Int):d0a n (f+1) (s,f_,s7,s8,()) =
 tif (s8<s7) (
 a0a (at? s s8) fun r0 =>
 a0a (f_ (r0,())) fun r1 =>
 tif (r1) (
 some (.inr s8)) (
 d0a n f (s,(f_,(s7,((wrap .i64 (s8+1)),())))))) (
 some (.inl ())):=by kernel_rfl
theorem v1e (n:Nat)(n_:Int)(by_:Int):l0d (n+1) n_ by_ =
 tif (by_=0) (
 none) (
 some (wrap .i64 (Int.tdiv (wrap .i64 ((wrap .i64 (n_+by_))-1)) by_))):=by kernel_rfl
theorem j1p (n:Nat)(elems:(List (List UInt8)))(sep:List UInt8):strings_Join (n+1) elems sep =
 tif ((elems.length:Int)=0) (
 some []) (
 tif ((elems.length:Int)=1) (
 a0a (at? elems (0:Int)) fun r0 =>
 some r0) (
 tif ((0:Int)<(sep.length:Int)) (
 tif ((wrap .i64 ((elems.length:Int)-1))=0) (
 none) (
 tif ((wrap .i64 (Int.tdiv (9223372036854775807:Int) (wrap .i64 ((elems.length:Int)-1))))<=(sep.length:Int)) (
 none) (
 a0a (g0d n a0b (elems,(sep,((wrap .i64 ((0:Int)+(wrap .i64 ((sep.length:Int)*(wrap .i64 ((elems.length:Int)-1)))))),(elems,((elems.length:Int),((0:Int),()))))))) fun r1 =>
 b0v (fun y2 =>
 a0a (b0y n [] y2.2.2.1) fun r3 =>
 a0a (at? y2.1 (0:Int)) fun r4 =>
 a0a (a0o n r3 r4) fun r5 =>
 tif (1<=(List.length y2.1)) (
 a0a (g0c n a0b (y2.2.1,(r5.2.2,((List.drop 1 (List.take (List.length y2.1) y2.1)),((((List.length (List.drop 1 (List.take (List.length y2.1) y2.1))):Nat):Int),((0:Int),())))))) fun r6 =>
 b0v (fun y7 =>
 a0a (b0q n y7.1) fun r8 =>
 some r8.1) (fun z9 =>
 some z9) r6) (
 none)) (fun z10 =>
 some z10) r1))) (
 a0a (g0d n a0b (elems,(sep,((0:Int),(elems,((elems.length:Int),((0:Int),()))))))) fun r11 =>
 b0v (fun y12 =>
 a0a (b0y n [] y12.2.2.1) fun r13 =>
 a0a (at? y12.1 (0:Int)) fun r14 =>
 a0a (a0o n r13 r14) fun r15 =>
 tif (1<=(List.length y12.1)) (
 a0a (g0c n a0b (y12.2.1,(r15.2.2,((List.drop 1 (List.take (List.length y12.1) y12.1)),((((List.length (List.drop 1 (List.take (List.length y12.1) y12.1))):Nat):Int),((0:Int),())))))) fun r16 =>
 b0v (fun y17 =>
 a0a (b0q n y17.1) fun r18 =>
 some r18.1) (fun z19 =>
 some z19) r16) (
 none)) (fun z20 =>
 some z20) r11))):=by kernel_rfl
theorem o0h (n f:Nat)(elems:(List (List UInt8)))(sep:List UInt8)(n_:Int)(s39:(List (List UInt8)))(s40:Int)(s41:Int):g0d n (f+1) (elems,sep,n_,s39,s40,s41,()) =
 tif (s41<s40) (
 a0a (at? s39 s41) fun r0 =>
 tif ((wrap .i64 ((9223372036854775807:Int)-n_))<(r0.length:Int)) (
 none) (
 g0d n f (elems,(sep,((wrap .i64 (n_+(r0.length:Int))),(s39,(s40,((wrap .i64 (s41+1)),())))))))) (
 some (.inl (elems,(sep,(n_,()))))):=by kernel_rfl
theorem o0g (n f:Nat)(sep:List UInt8)(b:List UInt8)(s63:(List (List UInt8)))(s64:Int)(s65:Int):g0c n (f+1) (sep,b,s63,s64,s65,()) =
 tif (s65<s64) (
 a0a (at? s63 s65) fun r0 =>
 a0a (a0o n b sep) fun r1 =>
 a0a (a0o n r1.2.2 r0) fun r2 =>
 g0c n f (sep,(r2.2.2,(s63,(s64,((wrap .i64 (s65+1)),())))))) (
 some (.inl (b,()))):=by kernel_rfl
theorem m0y (n:Nat)(r:(List UInt8×Bool)):d0u (n+1) r =
 a0a (e0z n a0b (r,(0,((if (10:Int)<(r.1.length:Int) then (10:Int) else (r.1.length:Int)),(0,()))))) fun r0 =>
 b0v (fun y1 =>
 a0a (b0x n y1.1) fun r2 =>
 some (0,r2)) (fun z3 =>
 some z3) r0:=by kernel_rfl
theorem f0z (n f:Nat)(r:(List UInt8×Bool))(n_:Int)(s11:Int)(s12:Int):e0z n (f+1) (r,n_,s11,s12,()) =
 tif (s12<s11) (
 a0a (at? r.1 s12) fun r0 =>
 tif ((wrap .i64 ((7:Int)*s12))<0) (
 none) (
 tif (s12=9) (
 tif ((1:Int)<(((UInt8.toNat r0):Nat):Int)) (
 some (.inl (r,()))) (
 tif (!((andI .u8 (((UInt8.toNat r0):Nat):Int) (128:Int))=0)) (
 e0z n f (r,((orI .u64 n_ (shlI .u64 (wrap .u64 (p0i .u8 (((UInt8.toNat r0):Nat):Int) (128:Int))) (wrap .i64 ((7:Int)*s12)))),(s11,((wrap .i64 (s12+1)),()))))) (
 tif ((((UInt8.toNat r0):Nat):Int)=0) (
 tif ((0:Int)<s12) (
 some (.inl (r,()))) (
 tif ((0:Int)<=(wrap .i64 (s12+1))) (
 tif ((Int.toNat (wrap .i64 (s12+1)))<=(List.length r.1)) (
 some (.inr ((orI .u64 n_ (shlI .u64 (wrap .u64 (p0i .u8 (((UInt8.toNat r0):Nat):Int) (128:Int))) (wrap .i64 ((7:Int)*s12)))),((List.drop (Int.toNat (wrap .i64 (s12+1))) (List.take (List.length r.1) r.1)),r.2)))) (
 none)) (
 none))) (
 tif ((0:Int)<=(wrap .i64 (s12+1))) (
 tif ((Int.toNat (wrap .i64 (s12+1)))<=(List.length r.1)) (
 some (.inr ((orI .u64 n_ (shlI .u64 (wrap .u64 (p0i .u8 (((UInt8.toNat r0):Nat):Int) (128:Int))) (wrap .i64 ((7:Int)*s12)))),((List.drop (Int.toNat (wrap .i64 (s12+1))) (List.take (List.length r.1) r.1)),r.2)))) (
 none)) (
 none))))) (
 tif (!((andI .u8 (((UInt8.toNat r0):Nat):Int) (128:Int))=0)) (
 e0z n f (r,((orI .u64 n_ (shlI .u64 (wrap .u64 (p0i .u8 (((UInt8.toNat r0):Nat):Int) (128:Int))) (wrap .i64 ((7:Int)*s12)))),(s11,((wrap .i64 (s12+1)),()))))) (
 tif ((((UInt8.toNat r0):Nat):Int)=0) (
 tif ((0:Int)<s12) (
 some (.inl (r,()))) (
 tif ((0:Int)<=(wrap .i64 (s12+1))) (
 tif ((Int.toNat (wrap .i64 (s12+1)))<=(List.length r.1)) (
 some (.inr ((orI .u64 n_ (shlI .u64 (wrap .u64 (p0i .u8 (((UInt8.toNat r0):Nat):Int) (128:Int))) (wrap .i64 ((7:Int)*s12)))),((List.drop (Int.toNat (wrap .i64 (s12+1))) (List.take (List.length r.1) r.1)),r.2)))) (
 none)) (
 none))) (
 tif ((0:Int)<=(wrap .i64 (s12+1))) (
 tif ((Int.toNat (wrap .i64 (s12+1)))<=(List.length r.1)) (
 some (.inr ((orI .u64 n_ (shlI .u64 (wrap .u64 (p0i .u8 (((UInt8.toNat r0):Nat):Int) (128:Int))) (wrap .i64 ((7:Int)*s12)))),((List.drop (Int.toNat (wrap .i64 (s12+1))) (List.take (List.length r.1) r.1)),r.2)))) (
 none)) (
 none)))))) (
 some (.inl (r,()))):=by kernel_rfl
theorem x0z (n:Nat)(r:(List UInt8×Bool))(long:Int):i0b (n+1) r long =
 a0a (d0u n r) fun r0 =>
 tif (long<0) (
 a0a (b0x n r0.2) fun r1 =>
 some ([],r1)) (
 tif ((wrap .u64 long)<r0.1) (
 a0a (b0x n r0.2) fun r2 =>
 some ([],r2)) (
 tif ((wrap .u64 (r0.2.1.length:Int))<r0.1) (
 a0a (b0x n r0.2) fun r3 =>
 some ([],r3)) (
 a0a (e0h n r0.2 (wrap .i64 r0.1)) fun r4 =>
 some r4))):=by kernel_rfl
theorem c1l (n:Nat)(r:(List UInt8×Bool)):g0v (n+1) r =
 a0a (a0e n r (8:Int)) fun r0 =>
 a0a (a0e n r0.2 (8:Int)) fun r1 =>
 a0a (a0e n r1.2 (8:Int)) fun r2 =>
 a0a (a0e n r2.2 (1:Int)) fun r3 =>
 some (((wrap .i64 r0.1),(r1.1,((wrap .i64 r2.1),(decide (r3.1=1))))),r3.2):=by kernel_rfl
theorem d1t (n:Nat)(s1:(List a0l))(s2:(List a0l)):q0q (n+1) s1 s2 =
 tif (!((s1.length:Int)=(s2.length:Int))) (
 some false) (
 a0a (h0p n a0b (s1,(s2,((s1.length:Int),(0,()))))) fun r0 =>
 b0v (fun y1 =>
 some true) (fun z2 =>
 some z2) r0):=by kernel_rfl
theorem m0v (n f:Nat)(s1:(List a0l))(s2:(List a0l))(s12:Int)(s13:Int):h0p n (f+1) (s1,s2,s12,s13,()) =
 tif (s13<s12) (
 a0a (at? s1 s13) fun r0 =>
 a0a (at? s2 s13) fun r1 =>
 tif (!((decide (r0.1=r1.1))&&((decide (r0.2.1=r1.2.1))&&((decide (r0.2.2.1=r1.2.2.1))&&(r0.2.2.2==r1.2.2.2))))) (
 some (.inr false)) (
 h0p n f (s1,(s2,(s12,((wrap .i64 (s13+1)),())))))) (
 some (.inl ())):=by kernel_rfl
theorem x0v (n:Nat)(s:(List Int))(del:((Int×Unit)->Option Bool)):k0t (n+1) s del =
 a0a (u0l n s del) fun r0 =>
 tif (r0=((-1):Int)) (
 some s) (
 a0a (d0p n a0b (s,(del,(r0,((wrap .i64 (r0+1)),()))))) fun r1 =>
 b0v (fun y2 =>
 tif ((0:Int)<=y2.2.1) (
 tif ((Int.toNat y2.2.1)<=(List.length y2.1)) (
 tif (((Int.toNat y2.2.1)+((List.length y2.1)-(Int.toNat y2.2.1)))<=(List.length y2.1)) (
 tif (((0:Int)<=y2.2.1)&&(y2.2.1<=(((List.length (Go.Flat.putRow y2.1 (Int.toNat y2.2.1) (List.replicate ((List.length y2.1)-(Int.toNat y2.2.1)) (0:Int)))):Nat):Int))) (
 some (List.take ((Int.toNat y2.2.1)-0) (Go.Flat.putRow y2.1 (Int.toNat y2.2.1) (List.replicate ((List.length y2.1)-(Int.toNat y2.2.1)) (0:Int))))) (
 none)) (
 none)) (
 none)) (
 none)) (fun z3 =>
 some z3) r1):=by kernel_rfl
theorem j0u (n f:Nat)(s:(List Int))(del:((Int×Unit)->Option Bool))(i:Int)(j:Int):d0p n (f+1) (s,del,i,j,()) =
 tif (j<(s.length:Int)) (
 a0a (at? s j) fun r0 =>
 a0a ((s)[(Int.toNat j)]?) fun r1 =>
 a0a (del (r1,())) fun r2 =>
 tif (!r2) (
 a0a (at? s i) fun r3 =>
 a0a ((s)[(Int.toNat i)]?) fun r4 =>
 d0p n f ((List.set s (Int.toNat i) r1),(del,((wrap .i64 (i+1)),((wrap .i64 (j+1)),()))))) (
 d0p n f (s,(del,(i,((wrap .i64 (j+1)),())))))) (
 some (.inl (s,(i,())))):=by kernel_rfl
theorem m1m (n:Nat)(i:Int)(p1:a0h):o0f (n+1) i p1 =
 a0a (at? p1.2.2.2 i) fun r0 =>
 a0a (t0b n p1.1 r0.2.1 p1.2.1) fun r1 =>
 some (!r1):=by kernel_rfl
theorem m1r (n:Nat)(c:b0a)(last:Int)(now:Int):t0b (n+1) c last now =
 a0a (c0l n c) fun r0 =>
 tif (r0=0) (
 a0a (i1z n last now c.2.1.1 c.2.2.1.1) fun r1 =>
 tif (r1) (
 a0a (i1z n last now c.2.1.2.1 c.2.2.1.2.1) fun r2 =>
 tif (r2) (
 a0a (i1z n last now c.2.1.2.2 c.2.2.1.2.2) fun r3 =>
 tif (r3) (
 some r3) (
 some r3)) (
 some r2)) (
 some r1)) (
 some (decide (r0=0))):=by kernel_rfl
theorem wi_Of_eq (n:Nat)(t:Int)(w:Int):j2a (n+1) t w =
 a0a (s0l n t (0:Int) (35184372088831:Int)) fun r0 =>
 tif (!r0) (
 some (0,1)) (
 a0a (q1q n w) fun r1 =>
 tif (!r1) (
 some (0,1)) (
 tif (w=0) (
 none) (
 some ((wrap .i64 (Int.tdiv t w)),0)))):=by kernel_rfl
theorem w1d (n:Nat)(n_:Int)(low:Int)(high:Int):w1e (n+1) n_ low high =
 tif (low<=n_) (
 some (decide (n_<=high))) (
 some false):=by kernel_rfl
theorem d1m (n:Nat)(c:b0a)(last:Int):f0q (n+1) c last (0:Int) =
 tif (c.2.1.1=0) (
 none) (
 tif (c.2.1.2.1=0) (
 none) (
 some ((wrap .i64 ((wrap .i64 (Int.tdiv last c.2.1.2.1))*(wrap .i64 (Int.tdiv c.2.1.2.1 c.2.1.1)))),(wrap .i64 ((wrap .i64 ((wrap .i64 (Int.tdiv last c.2.1.2.1))*(wrap .i64 (Int.tdiv c.2.1.2.1 c.2.1.1))))+(wrap .i64 (Int.tdiv c.2.1.2.1 c.2.1.1))))))):=by kernel_rfl
theorem d1l (n:Nat)(c:b0a)(last:Int):f0q (n+1) c last (1:Int) =
 tif (c.2.1.2.1=0) (
 none) (
 tif (c.2.1.2.2=0) (
 none) (
 some ((wrap .i64 ((wrap .i64 (Int.tdiv last c.2.1.2.2))*(wrap .i64 (Int.tdiv c.2.1.2.2 c.2.1.2.1)))),(wrap .i64 ((wrap .i64 ((wrap .i64 (Int.tdiv last c.2.1.2.2))*(wrap .i64 (Int.tdiv c.2.1.2.2 c.2.1.2.1))))+(wrap .i64 (Int.tdiv c.2.1.2.2 c.2.1.2.1))))))):=by kernel_rfl
theorem d1k (n:Nat)(c:b0a)(last:Int):f0q (n+1) c last (2:Int) =
 some (0,0):=by kernel_rfl
theorem h1e (n:Nat)(s:(List a0c)):f0v (n+1) s =
 tif ((List.length s)=0) (
 both (
 some []) (
 tif (((0+(List.length s))*120)<=140737488355328) (
 some ([]++s)) (
 none))) (
 tif (((0+(List.length s))*120)<=140737488355328) (
 some ([]++s)) (
 none)):=by kernel_rfl
theorem v1f (n:Nat)(c:b0a):f1e (n+1) c =
 a0a (c0l n c) fun r0 =>
 tif (!(r0=0)) (
 some (0:Int)) (
 a0a (l0d n c.2.2.2.2 (120:Int)) fun r1 =>
 some r1):=by kernel_rfl
theorem b2y (n:Nat)(s:a0h):r1s (n+1) s =
 a0a (s0r n s) fun r0 =>
 tif (!(r0.2=0)) (
 some (0:Int)) (
 a0a (a1w n s.2.1) fun r1 =>
 tif (!r1) (
 some (0:Int)) (
 a0a (n0h n r0.1) fun r2 =>
 some r2)):=by kernel_rfl
theorem r1r (n:Nat)(i:Int)(p1:a0h):h0h (n+1) i p1 =
 a0a (e0s n p1 i) fun r0 =>
 some (!r0):=by kernel_rfl
theorem d1v (n:Nat)(s:(List (List UInt8×List UInt8))):q0s (n+1) s =
 tif ((List.length s)=0) (
 both (
 some []) (
 tif (((0+(List.length s))*32)<=140737488355328) (
 some ([]++s)) (
 none))) (
 tif (((0+(List.length s))*32)<=140737488355328) (
 some ([]++s)) (
 none)):=by kernel_rfl
theorem u1e (n:Nat)(c:b0a):e1y (n+1) c =
 a0a (c0l n c) fun r0 =>
 tif (!(r0=0)) (
 some ([],([],[]))) (
 a0a (a1t n c.2.2.1.1) fun r1 =>
 a0a (a1t n c.2.2.1.2.1) fun r2 =>
 a0a (a1t n c.2.2.1.2.2) fun r3 =>
 some (r1,(r2,r3))):=by kernel_rfl
theorem u1g (n:Nat)(c:b0a)(s:((List a0c)×((List a0c)×(List a0c)))):f1b (n+1) c s =
 a0a (c1q n c s) fun r0 =>
 h1m (r0.1) (
 some r0.2) fun r1 =>
 some r0.2:=by kernel_rfl
theorem x1r (n:Nat)(r:(Int×(Int×(List a0l))))(room:Int):b1q (n+1) r room =
 tif (room<1) (
 some (2:Int)) (
 tif ((4096:Int)<room) (
 some (2:Int)) (
 tif (room<(r.2.2.length:Int)) (
 some (2:Int)) (
 tif (r.1<0) (
 some (2:Int)) (
 tif ((70368744177664:Int)<r.1) (
 some (2:Int)) (
 a0a (e1e n r.2.2) fun r0 =>
 tif (!r0) (
 some (2:Int)) (
 a0a (p1d n r room) fun r1 =>
 tif (!r1) (
 some (2:Int)) (
 some (0:Int)))))))):=by kernel_rfl
theorem x1e (n:Nat)(s:b0n):j1r (n+1) s =
 tif ((s.2.2.2.1.2.2.length:Int)=0) (
 tif ((decide (s.2.2.2.2.2.1=0))&&((decide (s.2.2.2.2.2.2.1=0))&&((decide (s.2.2.2.2.2.2.2.1.1=0))&&((decide (s.2.2.2.2.2.2.2.1.2.1=0))&&((decide (s.2.2.2.2.2.2.2.1.2.2.1=0))&&((s.2.2.2.2.2.2.2.1.2.2.2==false)&&((decide (s.2.2.2.2.2.2.2.2.1.1=0))&&((decide (s.2.2.2.2.2.2.2.2.1.2.1=0))&&((decide (s.2.2.2.2.2.2.2.2.1.2.2.1=0))&&((s.2.2.2.2.2.2.2.2.1.2.2.2==false)&&((decide (s.2.2.2.2.2.2.2.2.2.1.1=0))&&((decide (s.2.2.2.2.2.2.2.2.2.1.2=0))&&((decide (s.2.2.2.2.2.2.2.2.2.2.1=0))&&((decide (s.2.2.2.2.2.2.2.2.2.2.2.1=0))&&(decide (s.2.2.2.2.2.2.2.2.2.2.2.2=0)))))))))))))))) (
 a0a (e0j n s.2.2.2.2.1.1 (0:Int)) fun r0 =>
 tif (!r0) (
 a0a (e0j n s.2.2.2.2.1.2.1 (0:Int)) fun r1 =>
 tif (!r1) (
 a0a (e0j n s.2.2.2.2.1.2.2 (0:Int)) fun r2 =>
 some (!r2)) (
 some false)) (
 some false)) (
 some false)) (
 some false):=by kernel_rfl
theorem c2e (n:Nat)(s:b0n):i1h (n+1) s =
 a0a (i1i n s.2.2.2.1) fun r0 =>
 tif (r0.2=0) (
 tif (r0.1.1=s.2.2.1) (
 tif (s.2.2.2.2.2.2.2.2.1.1=s.2.2.1) (
 a0a (o0e n s.2.2.2.2.2.2 s.1.2.1.1 s.2.2.2.2.2.1) fun r1 =>
 tif (r1) (
 tif (s.1.2.1.1=0) (
 none) (
 a0a (e0j n s.2.2.2.2.1.1 (wrap .i64 (Int.tdiv s.2.2.1 s.1.2.1.1))) fun r2 =>
 tif (!r2) (
 tif (s.1.2.1.2.1=0) (
 none) (
 a0a (e0j n s.2.2.2.2.1.2.1 (wrap .i64 (Int.tdiv s.2.2.1 s.1.2.1.2.1))) fun r3 =>
 tif (!r3) (
 tif (s.1.2.1.2.2=0) (
 none) (
 a0a (e0j n s.2.2.2.2.1.2.2 (wrap .i64 (Int.tdiv s.2.2.1 s.1.2.1.2.2))) fun r4 =>
 some (!r4))) (
 some false))) (
 some false))) (
 some false)) (
 some false)) (
 some false)) (
 some false):=by kernel_rfl
theorem u1f (n:Nat)(c:b0a)(s:((List a0c)×((List a0c)×(List a0c))))(was:a0c)(j:Int):e1z (n+1) c s was j =
 a0a (c1q n c s) fun r0 =>
 h1m (r0.1) (
 tif (!(r0.2=0)) (
 some (([],([],[])),r0.2)) (
 tif (!((decide (was.1=0))&&((decide (was.2.1=0))&&((decide (was.2.2.1.1=0))&&((decide (was.2.2.1.2.1=0))&&((decide (was.2.2.1.2.2.1=0))&&((was.2.2.1.2.2.2==false)&&((decide (was.2.2.2.1.1=0))&&((decide (was.2.2.2.1.2.1=0))&&((decide (was.2.2.2.1.2.2.1=0))&&((was.2.2.2.1.2.2.2==false)&&((decide (was.2.2.2.2.1.1=0))&&((decide (was.2.2.2.2.1.2=0))&&((decide (was.2.2.2.2.2.1=0))&&((decide (was.2.2.2.2.2.2.1=0))&&(decide (was.2.2.2.2.2.2.2=0))))))))))))))))) (
 a0a (o0e n was.2 c.2.1.1 was.1) fun r1 =>
 tif (!r1) (
 some (([],([],[])),2)) (
 tif ((decide (was.1=0))&&((decide (was.2.1=0))&&((decide (was.2.2.1.1=0))&&((decide (was.2.2.1.2.1=0))&&((decide (was.2.2.1.2.2.1=0))&&((was.2.2.1.2.2.2==false)&&((decide (was.2.2.2.1.1=0))&&((decide (was.2.2.2.1.2.1=0))&&((decide (was.2.2.2.1.2.2.1=0))&&((was.2.2.2.1.2.2.2==false)&&((decide (was.2.2.2.2.1.1=0))&&((decide (was.2.2.2.2.1.2=0))&&((decide (was.2.2.2.2.2.1=0))&&((decide (was.2.2.2.2.2.2.1=0))&&(decide (was.2.2.2.2.2.2.2=0)))))))))))))))) (
 some (s,0)) (
 tif (was.1=j) (
 some (s,0)) (
 tif (j<was.1) (
 some (([],([],[])),1)) (
 none))))) (
 tif ((decide (was.1=0))&&((decide (was.2.1=0))&&((decide (was.2.2.1.1=0))&&((decide (was.2.2.1.2.1=0))&&((decide (was.2.2.1.2.2.1=0))&&((was.2.2.1.2.2.2==false)&&((decide (was.2.2.2.1.1=0))&&((decide (was.2.2.2.1.2.1=0))&&((decide (was.2.2.2.1.2.2.1=0))&&((was.2.2.2.1.2.2.2==false)&&((decide (was.2.2.2.2.1.1=0))&&((decide (was.2.2.2.2.1.2=0))&&((decide (was.2.2.2.2.2.1=0))&&((decide (was.2.2.2.2.2.2.1=0))&&(decide (was.2.2.2.2.2.2.2=0)))))))))))))))) (
 some (s,0)) (
 tif (was.1=j) (
 some (s,0)) (
 tif (j<was.1) (
 some (([],([],[])),1)) (
 none)))))) fun r2 =>
 tif (!(r0.2=0)) (
 some (([],([],[])),r0.2)) (
 tif (!((decide (was.1=0))&&((decide (was.2.1=0))&&((decide (was.2.2.1.1=0))&&((decide (was.2.2.1.2.1=0))&&((decide (was.2.2.1.2.2.1=0))&&((was.2.2.1.2.2.2==false)&&((decide (was.2.2.2.1.1=0))&&((decide (was.2.2.2.1.2.1=0))&&((decide (was.2.2.2.1.2.2.1=0))&&((was.2.2.2.1.2.2.2==false)&&((decide (was.2.2.2.2.1.1=0))&&((decide (was.2.2.2.2.1.2=0))&&((decide (was.2.2.2.2.2.1=0))&&((decide (was.2.2.2.2.2.2.1=0))&&(decide (was.2.2.2.2.2.2.2=0))))))))))))))))) (
 a0a (o0e n was.2 c.2.1.1 was.1) fun r3 =>
 tif (!r3) (
 some (([],([],[])),2)) (
 tif ((decide (was.1=0))&&((decide (was.2.1=0))&&((decide (was.2.2.1.1=0))&&((decide (was.2.2.1.2.1=0))&&((decide (was.2.2.1.2.2.1=0))&&((was.2.2.1.2.2.2==false)&&((decide (was.2.2.2.1.1=0))&&((decide (was.2.2.2.1.2.1=0))&&((decide (was.2.2.2.1.2.2.1=0))&&((was.2.2.2.1.2.2.2==false)&&((decide (was.2.2.2.2.1.1=0))&&((decide (was.2.2.2.2.1.2=0))&&((decide (was.2.2.2.2.2.1=0))&&((decide (was.2.2.2.2.2.2.1=0))&&(decide (was.2.2.2.2.2.2.2=0)))))))))))))))) (
 some (s,0)) (
 tif (was.1=j) (
 some (s,0)) (
 tif (j<was.1) (
 some (([],([],[])),1)) (
 a0a (t0z n r2 (0:Int) j) fun r4 =>
 tif (!r4.1) (
 some (([],([],[])),1)) (
 a0a (g0o n r4.2 (0:Int) was.1 was.2) fun r5 =>
 tif (!(r5.1=0)) (
 some (([],([],[])),r5.1)) (
 a0a (u1i n r5.2 was.1 j) fun r6 =>
 some (r6.2,0)))))))) (
 tif ((decide (was.1=0))&&((decide (was.2.1=0))&&((decide (was.2.2.1.1=0))&&((decide (was.2.2.1.2.1=0))&&((decide (was.2.2.1.2.2.1=0))&&((was.2.2.1.2.2.2==false)&&((decide (was.2.2.2.1.1=0))&&((decide (was.2.2.2.1.2.1=0))&&((decide (was.2.2.2.1.2.2.1=0))&&((was.2.2.2.1.2.2.2==false)&&((decide (was.2.2.2.2.1.1=0))&&((decide (was.2.2.2.2.1.2=0))&&((decide (was.2.2.2.2.2.1=0))&&((decide (was.2.2.2.2.2.2.1=0))&&(decide (was.2.2.2.2.2.2.2=0)))))))))))))))) (
 some (s,0)) (
 tif (was.1=j) (
 some (s,0)) (
 tif (j<was.1) (
 some (([],([],[])),1)) (
 a0a (t0z n r2 (0:Int) j) fun r7 =>
 tif (!r7.1) (
 some (([],([],[])),1)) (
 a0a (g0o n r7.2 (0:Int) was.1 was.2) fun r8 =>
 tif (!(r8.1=0)) (
 some (([],([],[])),r8.1)) (
 a0a (u1i n r8.2 was.1 j) fun r9 =>
 some (r9.2,0)))))))):=by kernel_rfl
theorem k2s (n:Nat)(r:(Int×(Int×(List a0l))))(room:Int)(e:a0l):c2z (n+1) r room e =
 a0a (b1q n r room) fun r0 =>
 tif (!(r0=0)) (
 some ((0,(0,[])),2)) (
 a0a (e0v n e) fun r1 =>
 tif (!(r1=0)) (
 some ((0,(0,[])),2)) (
 a0a (i1i n r) fun r2 =>
 tif (r2.2=0) (
 a0a (m0g n r2.1 e) fun r3 =>
 tif (!r3) (
 some ((0,(0,[])),9)) (
 tif ((r.2.2.length:Int)=room) (
 tif (r.1=70368744177664) (
 some ((0,(0,[])),1)) (
 a0a (t0f n r.2.2 room) fun r4 =>
 h1m (r4.1) (
 tif (!(r4.2=0)) (
 some ((0,(0,[])),r4.2)) (
 none)) fun r5 =>
 tif (!(r4.2=0)) (
 some ((0,(0,[])),r4.2)) (
 a0a (f1w n r5 e) fun r6 =>
 tif (r6.2.1) (
 a0a (p0u n r6.2.2) fun r7 =>
 some (((wrap .i64 (r.1+1)),(r6.1.1,r7.1)),0)) (
 a0a (p0u n r6.2.2) fun r8 =>
 some ((r.1,(r.2.1,r8.1)),0))))) (
 a0a (t0f n r.2.2 room) fun r9 =>
 h1m (r9.1) (
 tif (!(r9.2=0)) (
 some ((0,(0,[])),r9.2)) (
 none)) fun r10 =>
 tif (!(r9.2=0)) (
 some ((0,(0,[])),r9.2)) (
 a0a (f1w n r10 e) fun r11 =>
 tif (r11.2.1) (
 a0a (p0u n r11.2.2) fun r12 =>
 some (((wrap .i64 (r.1+1)),(r11.1.1,r12.1)),0)) (
 a0a (p0u n r11.2.2) fun r13 =>
 some ((r.1,(r.2.1,r13.1)),0)))))) (
 tif ((r.2.2.length:Int)=room) (
 tif (r.1=70368744177664) (
 some ((0,(0,[])),1)) (
 a0a (t0f n r.2.2 room) fun r14 =>
 h1m (r14.1) (
 tif (!(r14.2=0)) (
 some ((0,(0,[])),r14.2)) (
 none)) fun r15 =>
 tif (!(r14.2=0)) (
 some ((0,(0,[])),r14.2)) (
 a0a (f1w n r15 e) fun r16 =>
 tif (r16.2.1) (
 a0a (p0u n r16.2.2) fun r17 =>
 some (((wrap .i64 (r.1+1)),(r16.1.1,r17.1)),0)) (
 a0a (p0u n r16.2.2) fun r18 =>
 some ((r.1,(r.2.1,r18.1)),0))))) (
 a0a (t0f n r.2.2 room) fun r19 =>
 h1m (r19.1) (
 tif (!(r19.2=0)) (
 some ((0,(0,[])),r19.2)) (
 none)) fun r20 =>
 tif (!(r19.2=0)) (
 some ((0,(0,[])),r19.2)) (
 a0a (f1w n r20 e) fun r21 =>
 tif (r21.2.1) (
 a0a (p0u n r21.2.2) fun r22 =>
 some (((wrap .i64 (r.1+1)),(r21.1.1,r22.1)),0)) (
 a0a (p0u n r21.2.2) fun r23 =>
 some ((r.1,(r.2.1,r23.1)),0))))))):=by kernel_rfl
theorem f2m (n:Nat)(c:c0q)(e:a0l):v1q (n+1) c e =
 a0a (e0v n e) fun r0 =>
 tif (!(r0=0)) (
 some ((0,((0,(0,(0,false))),((0,(0,(0,false))),((0,0),(0,(0,0)))))),r0)) (
 a0a (v1m n e) fun r1 =>
 a0a (i0c n c r1) fun r2 =>
 some r2):=by kernel_rfl
theorem w1a (n:Nat)(a:(Int×Int))(over:Int):u0v (n+1) a over =
 tif (!(over=0)) (
 some ((0,0),1)) (
 some (a,0)):=by kernel_rfl
theorem k1y (n:Nat)(c:Int):v0v (n+1) c =
 a0a (e1s n c) fun r0 =>
 some (!r0):=by kernel_rfl
theorem x0w (n:Nat)(w:(List Int))(n_:Int):h0y (n+1) w n_ =
 a0a (e0y n a0b (w,(n_,()))) fun r0 =>
 b0v (fun y1 =>
 tif ((((List.length y1.1)+1)*1)<=140737488355328) (
 some (y1.1++((wrap .u8 y1.2.1)::[]))) (
 none)) (fun z2 =>
 some z2) r0:=by kernel_rfl
theorem u0e (n f:Nat)(w:(List Int))(n_:Int):e0y n (f+1) (w,n_,()) =
 tif ((128:Int)<=n_) (
 tif ((((List.length w)+1)*1)<=140737488355328) (
 e0y n f ((w++((orI .u8 (wrap .u8 n_) (128:Int))::[])),((shrI .u64 n_ (7:Int)),()))) (
 none)) (
 some (.inl (w,(n_,())))):=by kernel_rfl
theorem x0x (n:Nat)(w:(List Int))(s:List UInt8):i0a (n+1) w s =
 a0a (h0y n w (wrap .u64 (s.length:Int))) fun r0 =>
 a0a (e0g n r0 s) fun r1 =>
 some r1:=by kernel_rfl
theorem z0j (n:Nat)(s:(List Int))(f_:((Int×Unit)->Option Bool)):u0l (n+1) s f_ =
 a0a (d0x n a0b (s,(f_,((s.length:Int),(0,()))))) fun r0 =>
 b0v (fun y1 =>
 some ((-1):Int)) (fun z2 =>
 some z2) r0:=by kernel_rfl
theorem k0k (n f:Nat)(s:(List Int))(f_:((Int×Unit)->Option Bool))(s7:Int)(s8:Int):d0x n (f+1) (s,f_,s7,s8,()) =
 tif (s8<s7) (
 a0a (at? s s8) fun r0 =>
 a0a (f_ (r0,())) fun r1 =>
 tif (r1) (
 some (.inr s8)) (
 d0x n f (s,(f_,(s7,((wrap .i64 (s8+1)),())))))) (
 some (.inl ())):=by kernel_rfl
theorem j2b (n:Nat)(t:Int)(now:Int)(w:Int)(n_:Int):i1z (n+1) t now w n_ =
 a0a (j2a n t w) fun r0 =>
 a0a (d0v n now w n_) fun r1 =>
 tif (r0.2=0) (
 tif (r1.2=0) (
 some (decide (r0.1<r1.1))) (
 some false)) (
 some false):=by kernel_rfl
theorem b2k (n:Nat)(n_:Int):a1t (n+1) n_ =
 tif (n_<1) (
 some []) (
 tif ((4096:Int)<n_) (
 some []) (
 tif (((0:Int)<=n_)&&((n_<=n_)&&((n_*120)<=140737488355328))) (
 some (List.replicate (Int.toNat n_) (0,(0,((0,(0,(0,false))),((0,(0,(0,false))),((0,0),(0,(0,0))))))))) (
 none))):=by kernel_rfl
theorem z1p (n:Nat)(c:b0a)(s:((List a0c)×((List a0c)×(List a0c)))):c1q (n+1) c s =
 a0a (c0l n c) fun r0 =>
 tif (!(r0=0)) (
 some (none,r0)) (
 tif (!((s.1.length:Int)=c.2.2.1.1)) (
 some (none,2)) (
 a0a (n0o n s.1 c.2.1.1) fun r1 =>
 tif (!(r1=0)) (
 some (none,2)) (
 tif (!((s.2.1.length:Int)=c.2.2.1.2.1)) (
 some (none,2)) (
 a0a (n0o n s.2.1 c.2.1.2.1) fun r2 =>
 tif (!(r2=0)) (
 some (none,2)) (
 tif (!((s.2.2.length:Int)=c.2.2.1.2.2)) (
 some (none,2)) (
 a0a (n0o n s.2.2 c.2.1.2.2) fun r3 =>
 tif (!(r3=0)) (
 some (none,2)) (
 some ((some (c,s)),0)))))))):=by kernel_rfl
theorem s1l (n:Nat)(l:(List a0l)):e1e (n+1) l =
 a0a (h0s n a0b (l,(l,((l.length:Int),(0,()))))) fun r0 =>
 b0v (fun y1 =>
 some true) (fun z2 =>
 some z2) r0:=by kernel_rfl
theorem u0n (n f:Nat)(l:(List a0l))(s5:(List a0l))(s6:Int)(s7:Int):h0s n (f+1) (l,s5,s6,s7,()) =
 tif (s7<s6) (
 a0a (at? s5 s7) fun r0 =>
 a0a (e0v n r0) fun r1 =>
 tif (!(r1=0)) (
 some (.inr false)) (
 tif ((0:Int)<s7) (
 a0a (at? l (wrap .i64 (s7-1))) fun r2 =>
 a0a (m0g n r2 r0) fun r3 =>
 tif (!r3) (
 some (.inr false)) (
 h0s n f (l,(s5,(s6,((wrap .i64 (s7+1)),())))))) (
 h0s n f (l,(s5,(s6,((wrap .i64 (s7+1)),()))))))) (
 some (.inl ())):=by kernel_rfl
theorem s1n (n:Nat)(r:(Int×(Int×(List a0l))))(room:Int):p1d (n+1) r room =
 tif (r.1=0) (
 some (decide (r.2.1=0))) (
 tif ((r.2.2.length:Int)=room) (
 tif ((0:Int)<=r.2.1) (
 a0a (at? r.2.2 (0:Int)) fun r0 =>
 some (decide (r.2.1<r0.1))) (
 some false)) (
 some false)):=by kernel_rfl
theorem h1h (n:Nat)(l:(List a0c))(i:Int):e0j (n+1) l i =
 a0a (i0l n l (fun y0=>o0p n y0.1 i)) fun r1 =>
 some r1:=by kernel_rfl
theorem d2a (n:Nat)(r:(Int×(Int×(List a0l)))):i1i (n+1) r =
 tif ((r.2.2.length:Int)=0) (
 some ((0,(0,(0,false))),3)) (
 a0a (at? r.2.2 (wrap .i64 ((r.2.2.length:Int)-1))) fun r0 =>
 some (r0,0)):=by kernel_rfl
theorem w1r (n:Nat)(c:c0q)(w:Int)(i:Int):o0e (n+1) c w i =
 tif (c.1=0) (
 some false) (
 a0a (s0f n c) fun r0 =>
 tif (!(r0=0)) (
 some false) (
 a0a (g0q n a0b (w,(i,((c.2.1.1,c.2.2.1.1),(0,()))))) fun r1 =>
 b0v (fun y2 =>
 some true) (fun z3 =>
 some z3) r1)):=by kernel_rfl
theorem o0d (n f:Nat)(w:Int)(i:Int)(s25:(Int×Int))(s26:Int):g0q n (f+1) (w,i,s25,s26,()) =
 tif (s26<2) (
 tif (s26=0) (
 a0a (j2a n s25.1 w) fun r0 =>
 tif (!(r0.2=0)) (
 some (.inr false)) (
 tif (!(r0.1=i)) (
 some (.inr false)) (
 g0q n f (w,(i,(s25,((wrap .i64 (s26+1)),()))))))) (
 tif (s26=1) (
 a0a (j2a n s25.2 w) fun r1 =>
 tif (!(r1.2=0)) (
 some (.inr false)) (
 tif (!(r1.1=i)) (
 some (.inr false)) (
 g0q n f (w,(i,(s25,((wrap .i64 (s26+1)),()))))))) (
 none))) (
 some (.inl ())):=by kernel_rfl
theorem h1u (n:Nat)(s:y0c)(i:Int):t0z (n+1) s (0:Int) i =
 tif ((0:Int)<=i) (
 tif (s.1.2.1.1=0) (
 none) (
 some ((decide (i<=(wrap .i64 (Int.tdiv (35184372088831:Int) s.1.2.1.1)))),s))) (
 some (false,s)):=by kernel_rfl
theorem u1l (n:Nat)(s:y0c)(i:Int)(c:c0q):g0o (n+1) s (0:Int) i c =
 a0a (a1s n s.2.1 s.1.2.1.1 i c) fun r0 =>
 tif (r0.2=0) (
 some (r0.2,(s.1,(r0.1,s.2.2)))) (
 some (r0.2,s)):=by kernel_rfl
theorem u1k (n:Nat)(s:y0c)(i:Int)(c:c0q):g0o (n+1) s (1:Int) i c =
 a0a (a1s n s.2.2.1 s.1.2.1.2.1 i c) fun r0 =>
 tif (r0.2=0) (
 some (r0.2,(s.1,(s.2.1,(r0.1,s.2.2.2))))) (
 some (r0.2,s)):=by kernel_rfl
theorem u1j (n:Nat)(s:y0c)(i:Int)(c:c0q):g0o (n+1) s (2:Int) i c =
 a0a (a1s n s.2.2.2 s.1.2.1.2.2 i c) fun r0 =>
 tif (r0.2=0) (
 some (r0.2,(s.1,(s.2.1,(s.2.2.1,r0.1))))) (
 some (r0.2,s)):=by kernel_rfl
theorem m2s (n:Nat)(s:y0c)(i:Int)(j:Int):u1i (n+1) s i j =
 tif (s.1.2.1.2.1=0) (
 none) (
 tif (s.1.2.1.2.1=0) (
 none) (
 tif ((wrap .i64 (Int.tdiv (wrap .i64 (i*s.1.2.1.1)) s.1.2.1.2.1))=(wrap .i64 (Int.tdiv (wrap .i64 (j*s.1.2.1.1)) s.1.2.1.2.1))) (
 tif (s.1.2.1.2.2=0) (
 none) (
 tif (s.1.2.1.2.2=0) (
 none) (
 tif ((wrap .i64 (Int.tdiv (wrap .i64 (i*s.1.2.1.1)) s.1.2.1.2.2))=(wrap .i64 (Int.tdiv (wrap .i64 (j*s.1.2.1.1)) s.1.2.1.2.2))) (
 some s) (
 a0a (i0s n s (2:Int) (wrap .i64 (Int.tdiv (wrap .i64 (i*s.1.2.1.1)) s.1.2.1.2.2))) fun r0 =>
 tif (r0.2.1=0) (
 tif ((0:Int)<r0.1.1) (
 a0a (g0o n r0.2.2 (2:Int) (wrap .i64 (Int.tdiv (wrap .i64 (i*s.1.2.1.1)) s.1.2.1.2.2)) r0.1) fun r1 =>
 some r1.2) (
 some r0.2.2)) (
 some r0.2.2))))) (
 a0a (i0s n s (1:Int) (wrap .i64 (Int.tdiv (wrap .i64 (i*s.1.2.1.1)) s.1.2.1.2.1))) fun r2 =>
 tif (r2.2.1=0) (
 tif ((0:Int)<r2.1.1) (
 a0a (g0o n r2.2.2 (1:Int) (wrap .i64 (Int.tdiv (wrap .i64 (i*s.1.2.1.1)) s.1.2.1.2.1)) r2.1) fun r3 =>
 tif (r3.2.1.2.1.2.2=0) (
 none) (
 tif (r3.2.1.2.1.2.2=0) (
 none) (
 tif ((wrap .i64 (Int.tdiv (wrap .i64 (i*r3.2.1.2.1.1)) r3.2.1.2.1.2.2))=(wrap .i64 (Int.tdiv (wrap .i64 (j*r3.2.1.2.1.1)) r3.2.1.2.1.2.2))) (
 some r3.2) (
 a0a (i0s n r3.2 (2:Int) (wrap .i64 (Int.tdiv (wrap .i64 (i*r3.2.1.2.1.1)) r3.2.1.2.1.2.2))) fun r4 =>
 tif (r4.2.1=0) (
 tif ((0:Int)<r4.1.1) (
 a0a (g0o n r4.2.2 (2:Int) (wrap .i64 (Int.tdiv (wrap .i64 (i*r3.2.1.2.1.1)) r3.2.1.2.1.2.2)) r4.1) fun r5 =>
 some r5.2) (
 some r4.2.2)) (
 some r4.2.2))))) (
 tif (r2.2.2.1.2.1.2.2=0) (
 none) (
 tif (r2.2.2.1.2.1.2.2=0) (
 none) (
 tif ((wrap .i64 (Int.tdiv (wrap .i64 (i*r2.2.2.1.2.1.1)) r2.2.2.1.2.1.2.2))=(wrap .i64 (Int.tdiv (wrap .i64 (j*r2.2.2.1.2.1.1)) r2.2.2.1.2.1.2.2))) (
 some r2.2.2) (
 a0a (i0s n r2.2.2 (2:Int) (wrap .i64 (Int.tdiv (wrap .i64 (i*r2.2.2.1.2.1.1)) r2.2.2.1.2.1.2.2))) fun r6 =>
 tif (r6.2.1=0) (
 tif ((0:Int)<r6.1.1) (
 a0a (g0o n r6.2.2 (2:Int) (wrap .i64 (Int.tdiv (wrap .i64 (i*r2.2.2.1.2.1.1)) r2.2.2.1.2.1.2.2)) r6.1) fun r7 =>
 some r7.2) (
 some r6.2.2)) (
 some r6.2.2)))))) (
 tif (r2.2.2.1.2.1.2.2=0) (
 none) (
 tif (r2.2.2.1.2.1.2.2=0) (
 none) (
 tif ((wrap .i64 (Int.tdiv (wrap .i64 (i*r2.2.2.1.2.1.1)) r2.2.2.1.2.1.2.2))=(wrap .i64 (Int.tdiv (wrap .i64 (j*r2.2.2.1.2.1.1)) r2.2.2.1.2.1.2.2))) (
 some r2.2.2) (
 a0a (i0s n r2.2.2 (2:Int) (wrap .i64 (Int.tdiv (wrap .i64 (i*r2.2.2.1.2.1.1)) r2.2.2.1.2.1.2.2))) fun r8 =>
 tif (r8.2.1=0) (
 tif ((0:Int)<r8.1.1) (
 a0a (g0o n r8.2.2 (2:Int) (wrap .i64 (Int.tdiv (wrap .i64 (i*r2.2.2.1.2.1.1)) r2.2.2.1.2.1.2.2)) r8.1) fun r9 =>
 some r9.2) (
 some r8.2.2)) (
 some r8.2.2)))))))):=by kernel_rfl
theorem c2x (n:Nat)(l:(List a0l))(room:Int):t0f (n+1) l room =
 a0a (y0m n room) fun r0 =>
 h1m (r0.1) (
 tif (!(r0.2=0)) (
 some (none,r0.2)) (
 none)) fun r1 =>
 tif (!(r0.2=0)) (
 some (none,r0.2)) (
 a0a (t0e n a0b (r1,(l,((l.length:Int),(0,()))))) fun r2 =>
 b0v (fun y3 =>
 some ((some y3.1),0)) (fun z4 =>
 some z4) r2):=by kernel_rfl
theorem y0o (n f:Nat)(q:j0e)(s18:(List a0l))(s19:Int)(s20:Int):t0e n (f+1) (q,s18,s19,s20,()) =
 tif (s20<s19) (
 a0a (at? s18 s20) fun r0 =>
 a0a (f1w n q r0) fun r1 =>
 t0e n f (r1.2.2,(s18,(s19,((wrap .i64 (s20+1)),()))))) (
 some (.inl (q,()))):=by kernel_rfl
theorem x1m (n:Nat)(r:j0e)(x:a0l):f1w (n+1) r x =
 tif ((r.2.1.length:Int)<r.1) (
 tif ((((List.length r.2.1)+1)*32)<=140737488355328) (
 some ((0,(0,(0,false))),(false,(r.1,((r.2.1++(x::[])),r.2.2))))) (
 none)) (
 a0a (at? r.2.1 r.2.2.1) fun r0 =>
 a0a ((r.2.1)[(Int.toNat r.2.2.1)]?) fun r1 =>
 a0a (at? r.2.1 r.2.2.1) fun r2 =>
 a0a ((r.2.1)[(Int.toNat r.2.2.1)]?) fun r3 =>
 a0a (g2m n (r.1,((List.set r.2.1 (Int.toNat r.2.2.1) x),r.2.2)) (1:Int)) fun r4 =>
 some (r1,(true,(r4.2.1,(r4.2.2.1,(r4.1,(wrap .u64 (r4.2.2.2.2+1)))))))):=by kernel_rfl
theorem p2u (n:Nat)(r:j0e):p0u (n+1) r =
 tif (true&&(((0:Int)<=(r.2.1.length:Int))&&(((r.2.1.length:Int)*32)<=140737488355328))) (
 tif ((0:Int)<=r.2.2.1) (
 tif ((Int.toNat r.2.2.1)<=(List.length r.2.1)) (
 tif (((0+(List.length (List.take ((List.length r.2.1)-(Int.toNat r.2.2.1)) (List.drop (Int.toNat r.2.2.1) r.2.1))))*32)<=140737488355328) (
 tif (((0:Int)<=r.2.2.1)&&(r.2.2.1<=(r.2.1.length:Int))) (
 tif ((((List.length ((List.replicate 0 ((0:Int),((0:Int),((0:Int),false))))++(List.take ((List.length r.2.1)-(Int.toNat r.2.2.1)) (List.drop (Int.toNat r.2.2.1) r.2.1))))+(List.length (List.take ((Int.toNat r.2.2.1)-0) (List.drop 0 r.2.1))))*32)<=140737488355328) (
 some ((((List.replicate 0 ((0:Int),((0:Int),((0:Int),false))))++(List.take ((List.length r.2.1)-(Int.toNat r.2.2.1)) (List.drop (Int.toNat r.2.2.1) r.2.1)))++(List.take ((Int.toNat r.2.2.1)-0) (List.drop 0 r.2.1))),r)) (
 none)) (
 none)) (
 none)) (
 none)) (
 none)) (
 none):=by kernel_rfl
theorem f2j (n:Nat)(e:a0l):v1m (n+1) e =
 some (1,(e,(e,((0,0),(0,(0,0)))))):=by kernel_rfl
theorem x0u (n:Nat)(s:(List Int))(f_:((Int×Unit)->Option Bool)):r0j (n+1) s f_ =
 a0a (d0n n a0b (s,(f_,((s.length:Int),(0,()))))) fun r0 =>
 b0v (fun y1 =>
 some ((-1):Int)) (fun z2 =>
 some z2) r0:=by kernel_rfl
theorem j0q (n f:Nat)(s:(List Int))(f_:((Int×Unit)->Option Bool))(s7:Int)(s8:Int):d0n n (f+1) (s,f_,s7,s8,()) =
 tif (s8<s7) (
 a0a (at? s s8) fun r0 =>
 a0a (f_ (r0,())) fun r1 =>
 tif (r1) (
 some (.inr s8)) (
 d0n n f (s,(f_,(s7,((wrap .i64 (s8+1)),())))))) (
 some (.inl ())):=by kernel_rfl
theorem b2l (n:Nat)(l:(List a0c)):r1i (n+1) l =
 a0a (f0v n l) fun r0 =>
 a0a (j0v n r0 (fun y1=>v0a n y1.1)) fun r2 =>
 a0a (g0j n r2 (fun y3=>w0r n y3.1 y3.2.1)) fun r4 =>
 some r4:=by kernel_rfl
theorem f2l (n:Nat)(l:(List c0q)):v1p (n+1) l =
 a0a (p0h n a0b ((0,((0,(0,(0,false))),((0,(0,(0,false))),((0,0),(0,(0,0)))))),((0,((0,(0,(0,false))),((0,(0,(0,false))),((0,0),(0,(0,0)))))),(l,((l.length:Int),(0,())))))) fun r0 =>
 b0v (fun y1 =>
 some (y1.2.1,0)) (fun z2 =>
 some z2) r0:=by kernel_rfl
theorem y0w (n f:Nat)(s2:c0q)(c:c0q)(s9:(List c0q))(s10:Int)(s11:Int):p0h n (f+1) (s2,c,s9,s10,s11,()) =
 tif (s11<s10) (
 a0a (at? s9 s11) fun r0 =>
 a0a (i0c n c r0) fun r1 =>
 tif (!(r1.2=0)) (
 some (.inr ((0,((0,(0,(0,false))),((0,(0,(0,false))),((0,0),(0,(0,0)))))),r1.2))) (
 p0h n f (s2,(r1.1,(s9,(s10,((wrap .i64 (s11+1)),()))))))) (
 some (.inl (s2,(c,())))):=by kernel_rfl
theorem v1o (n:Nat)(c:c0q):s0f (n+1) c =
 a0a (w0h n c) fun r0 =>
 tif (r0) (
 some (0:Int)) (
 a0a (f1g n c) fun r1 =>
 tif (!r1) (
 some (2:Int)) (
 a0a (y0z n (18446744073709551615:Int)) fun r2 =>
 a0a (w0m n r2 (wrap .u64 (wrap .i64 (c.1-1)))) fun r3 =>
 tif (!(r3.2=0)) (
 some (2:Int)) (
 a0a (n0y n r3.1 c.2.2.2.1) fun r4 =>
 tif (r4) (
 some (2:Int)) (
 a0a (l1u n c.2.2.2.2.2.1 (wrap .i64 (c.1-1))) fun r5 =>
 tif (!r5) (
 some (2:Int)) (
 a0a (l1u n c.2.2.2.2.1 (wrap .i64 ((wrap .i64 (c.1-1))-c.2.2.2.2.2.1))) fun r6 =>
 tif (!r6) (
 some (2:Int)) (
 a0a (l1u n c.2.2.2.2.2.2 (wrap .i64 (c.2.2.1.1-c.2.1.1))) fun r7 =>
 tif (!r7) (
 some (2:Int)) (
 some (0:Int)))))))):=by kernel_rfl
theorem a2j (n:Nat)(c:c0q):w0h (n+1) c =
 some ((decide (c.1=0))&&((decide (c.2.1.1=0))&&((decide (c.2.1.2.1=0))&&((decide (c.2.1.2.2.1=0))&&((c.2.1.2.2.2==false)&&((decide (c.2.2.1.1=0))&&((decide (c.2.2.1.2.1=0))&&((decide (c.2.2.1.2.2.1=0))&&((c.2.2.1.2.2.2==false)&&((decide (c.2.2.2.1.1=0))&&((decide (c.2.2.2.1.2=0))&&((decide (c.2.2.2.2.1=0))&&((decide (c.2.2.2.2.2.1=0))&&(decide (c.2.2.2.2.2.2=0))))))))))))))):=by kernel_rfl
theorem a2k (n:Nat)(a:c0q)(b:c0q):a2l (n+1) a b =
 a0a (u0b n a.2.2.1 b.2.1) fun r0 =>
 tif (!(r0.2=0)) (
 some ((0,((0,(0,(0,false))),((0,(0,(0,false))),((0,0),(0,(0,0)))))),r0.2)) (
 a0a (q1o n (a.2.2.2.1::(r0.1.2.2.2.1::(b.2.2.2.1::[])))) fun r1 =>
 some (((wrap .i64 (a.1+b.1)),(a.2.1,(b.2.2.1,(r1.1,((wrap .i64 (r0.1.2.2.2.2.1+(wrap .i64 (a.2.2.2.2.1+b.2.2.2.2.1)))),((wrap .i64 (r0.1.2.2.2.2.2.1+(wrap .i64 (a.2.2.2.2.2.1+b.2.2.2.2.2.1)))),(wrap .i64 (r0.1.2.2.2.2.2.2+(wrap .i64 (a.2.2.2.2.2.2+b.2.2.2.2.2.2)))))))))),r1.2)):=by kernel_rfl
theorem h1l (n:Nat)(a:(Int×Int)):h0u (n+1) a =
 tif (a.2=0) (
 a0a (m0j n a.1) fun r0 =>
 some (wrap .i64 ((64:Int)+r0))) (
 a0a (m0j n a.2) fun r1 =>
 some r1):=by kernel_rfl
theorem s1r (n:Nat)(a:(Int×Int))(by_:Int):x0b (n+1) a by_ =
 tif ((64:Int)<=by_) (
 tif ((wrap .i64 (by_-64))<0) (
 none) (
 some (0,(shrI .u64 a.1 (wrap .i64 (by_-64)))))) (
 tif (by_<0) (
 none) (
 tif (by_<0) (
 none) (
 tif ((wrap .i64 ((64:Int)-by_))<0) (
 none) (
 some ((shrI .u64 a.1 by_),(orI .u64 (shrI .u64 a.2 by_) (shlI .u64 a.1 (wrap .i64 ((64:Int)-by_))))))))):=by kernel_rfl
theorem s1q (n:Nat)(a:(Int×Int))(b:(Int×Int)):k0x (n+1) a b =
 a0a (q1p n a b) fun r0 =>
 some r0.1:=by kernel_rfl
theorem d2c (n:Nat)(a:(Int×Int))(by_:Int):b1r (n+1) a by_ =
 tif ((64:Int)<=by_) (
 tif ((wrap .i64 (by_-64))<0) (
 none) (
 some ((shlI .u64 a.2 (wrap .i64 (by_-64))),0))) (
 tif (by_<0) (
 none) (
 tif ((wrap .i64 ((64:Int)-by_))<0) (
 none) (
 tif (by_<0) (
 none) (
 some ((orI .u64 (shlI .u64 a.1 by_) (shrI .u64 a.2 (wrap .i64 ((64:Int)-by_)))),(shlI .u64 a.2 by_)))))):=by kernel_rfl
theorem s1p (n:Nat)(a:(Int×Int)):w0z (n+1) a =
 tif (!(a.1=0)) (
 a0a (d0y n a.1) fun r0 =>
 some (wrap .i64 ((64:Int)+r0))) (
 a0a (d0y n a.2) fun r1 =>
 some r1):=by kernel_rfl
theorem r1g (n:Nat)(l:(List a0c))(w:Int):n0o (n+1) l w =
 tif ((l.length:Int)=0) (
 some (2:Int)) (
 tif ((4096:Int)<(l.length:Int)) (
 some (2:Int)) (
 tif (w<1) (
 some (2:Int)) (
 tif ((1099511627776:Int)<w) (
 some (2:Int)) (
 a0a (h0f n a0b (l,(w,(l,((l.length:Int),(0,())))))) fun r0 =>
 b0v (fun y1 =>
 some (0:Int)) (fun z2 =>
 some z2) r0)))):=by kernel_rfl
theorem u0i (n f:Nat)(l:(List a0c))(w:Int)(s23:(List a0c))(s24:Int)(s25:Int):h0f n (f+1) (l,w,s23,s24,s25,()) =
 tif (s25<s24) (
 a0a (at? s23 s25) fun r0 =>
 a0a (v0a n r0) fun r1 =>
 tif (!r1) (
 a0a (q1r n r0.1 (l.length:Int)) fun r2 =>
 tif (!(r2=s25)) (
 some (.inr (2:Int))) (
 a0a (o0e n r0.2 w r0.1) fun r3 =>
 tif (!r3) (
 some (.inr (2:Int))) (
 h0f n f (l,(w,(s23,(s24,((wrap .i64 (s25+1)),())))))))) (
 h0f n f (l,(w,(s23,(s24,((wrap .i64 (s25+1)),()))))))) (
 some (.inl ())):=by kernel_rfl
theorem s0x (n:Nat)(s:(List a0c))(f_:((a0c×Unit)->Option Bool)):i0l (n+1) s f_ =
 a0a (k0s n s f_) fun r0 =>
 some (decide ((0:Int)<=r0)):=by kernel_rfl
theorem b1l (n:Nat)(s:a0c)(p1:Int):o0p (n+1) s p1 =
 tif ((0:Int)<s.2.1) (
 some (decide (p1<=s.1))) (
 some false):=by kernel_rfl
theorem b2j (n:Nat)(l:(List a0c))(w:Int)(i:Int)(c:c0q):a1s (n+1) l w i c =
 a0a (n0o n l w) fun r0 =>
 tif (!(r0=0)) (
 some ([],2)) (
 a0a (o0e n c w i) fun r1 =>
 tif (!r1) (
 some ([],2)) (
 a0a (f0v n l) fun r2 =>
 a0a (q1r n i (r2.length:Int)) fun r3 =>
 a0a (at? r2 r3) fun r4 =>
 a0a ((r2)[(Int.toNat r3)]?) fun r5 =>
 some ((List.set r2 (Int.toNat r3) (i,c)),0))):=by kernel_rfl
theorem n1w (n:Nat)(s:y0c)(i:Int):i0s (n+1) s (1:Int) i =
 tif (s.1.2.1.1=0) (
 none) (
 a0a (j0n n s.2.1 (wrap .i64 (i*(wrap .i64 (Int.tdiv s.1.2.1.2.1 s.1.2.1.1)))) (wrap .i64 ((wrap .i64 (i+1))*(wrap .i64 (Int.tdiv s.1.2.1.2.1 s.1.2.1.1))))) fun r0 =>
 some (r0.1,(r0.2,s))):=by kernel_rfl
theorem n1v (n:Nat)(s:y0c)(i:Int):i0s (n+1) s (2:Int) i =
 tif (s.1.2.1.2.1=0) (
 none) (
 a0a (j0n n s.2.2.1 (wrap .i64 (i*(wrap .i64 (Int.tdiv s.1.2.1.2.2 s.1.2.1.2.1)))) (wrap .i64 ((wrap .i64 (i+1))*(wrap .i64 (Int.tdiv s.1.2.1.2.2 s.1.2.1.2.1))))) fun r0 =>
 some (r0.1,(r0.2,s))):=by kernel_rfl
theorem n1x (n:Nat)(l:(List a0l)):p0d (n+1) l =
 a0a (l0q n a0b (l,((l.length:Int),(0,())))) fun r0 =>
 b0v (fun y1 =>
 some true) (fun z2 =>
 some z2) r0:=by kernel_rfl
theorem r0z (n f:Nat)(s5:(List a0l))(s6:Int)(s7:Int):l0q n (f+1) (s5,s6,s7,()) =
 tif (s7<s6) (
 a0a (at? s5 s7) fun r0 =>
 a0a (e0v n r0) fun r1 =>
 tif (!(r1=0)) (
 some (.inr false)) (
 l0q n f (s5,(s6,((wrap .i64 (s7+1)),()))))) (
 some (.inl ())):=by kernel_rfl
theorem e1c (n:Nat)(room:Int):y0m (n+1) room =
 tif (room<1) (
 some (none,1)) (
 tif ((65536:Int)<room) (
 some (none,1)) (
 some ((some (room,([],(0,0)))),0))):=by kernel_rfl
theorem c2u (n:Nat)(r:j0e)(i:Int):g2m (n+1) r i =
 tif ((r.2.1.length:Int)=0) (
 none) (
 some ((Int.tmod (wrap .i64 (r.2.2.1+i)) (r.2.1.length:Int)),r)):=by kernel_rfl
theorem v0g (n:Nat)(s:(List a0c))(del:((a0c×Unit)->Option Bool)):j0v (n+1) s del =
 a0a (k0s n s del) fun r0 =>
 tif (r0=((-1):Int)) (
 some s) (
 a0a (d0j n a0b (s,(del,(r0,((wrap .i64 (r0+1)),()))))) fun r1 =>
 b0v (fun y2 =>
 tif ((0:Int)<=y2.2.1) (
 tif ((Int.toNat y2.2.1)<=(List.length y2.1)) (
 tif (((Int.toNat y2.2.1)+((List.length y2.1)-(Int.toNat y2.2.1)))<=(List.length y2.1)) (
 tif (((0:Int)<=y2.2.1)&&(y2.2.1<=(((List.length (Go.Flat.putRow y2.1 (Int.toNat y2.2.1) (List.replicate ((List.length y2.1)-(Int.toNat y2.2.1)) (0,(0,((0,(0,(0,false))),((0,(0,(0,false))),((0,0),(0,(0,0)))))))))):Nat):Int))) (
 some (List.take ((Int.toNat y2.2.1)-0) (Go.Flat.putRow y2.1 (Int.toNat y2.2.1) (List.replicate ((List.length y2.1)-(Int.toNat y2.2.1)) (0,(0,((0,(0,(0,false))),((0,(0,(0,false))),((0,0),(0,(0,0))))))))))) (
 none)) (
 none)) (
 none)) (
 none)) (fun z3 =>
 some z3) r1):=by kernel_rfl
theorem j0h (n f:Nat)(s:(List a0c))(del:((a0c×Unit)->Option Bool))(i:Int)(j:Int):d0j n (f+1) (s,del,i,j,()) =
 tif (j<(s.length:Int)) (
 a0a (at? s j) fun r0 =>
 a0a ((s)[(Int.toNat j)]?) fun r1 =>
 a0a (del (r1,())) fun r2 =>
 tif (!r2) (
 a0a (at? s i) fun r3 =>
 a0a ((s)[(Int.toNat i)]?) fun r4 =>
 d0j n f ((List.set s (Int.toNat i) r1),(del,((wrap .i64 (i+1)),((wrap .i64 (j+1)),()))))) (
 d0j n f (s,(del,(i,((wrap .i64 (j+1)),())))))) (
 some (.inl (s,(i,())))):=by kernel_rfl
theorem w1o (n:Nat)(s:a0c):v0a (n+1) s =
 some ((decide (s.1=0))&&((decide (s.2.1=0))&&((decide (s.2.2.1.1=0))&&((decide (s.2.2.1.2.1=0))&&((decide (s.2.2.1.2.2.1=0))&&((s.2.2.1.2.2.2==false)&&((decide (s.2.2.2.1.1=0))&&((decide (s.2.2.2.1.2.1=0))&&((decide (s.2.2.2.1.2.2.1=0))&&((s.2.2.2.1.2.2.2==false)&&((decide (s.2.2.2.2.1.1=0))&&((decide (s.2.2.2.2.1.2=0))&&((decide (s.2.2.2.2.2.1=0))&&((decide (s.2.2.2.2.2.2.1=0))&&(decide (s.2.2.2.2.2.2.2=0)))))))))))))))):=by kernel_rfl
theorem q0o (n:Nat)(x:(List a0c))(cmp:((a0c×(a0c×Unit))->Option Int)):g0j (n+1) x cmp =
 a0a (p2h n x (x.length:Int) cmp) fun r0 =>
 some r0:=by kernel_rfl
theorem r1h (n:Nat)(a:a0c)(b:a0c):w0r (n+1) a b =
 a0a (l0h n a.1 b.1) fun r0 =>
 some r0:=by kernel_rfl
theorem y0a (n:Nat)(x:Int)(y:Int):l0h (n+1) x y =
 a0a (p0g n x) fun r0 =>
 a0a (p0g n y) fun r1 =>
 tif (r0) (
 tif (r1) (
 some (0:Int)) (
 some ((-1):Int))) (
 tif (r1) (
 some (1:Int)) (
 tif (x<y) (
 some ((-1):Int)) (
 tif (y<x) (
 some (1:Int)) (
 some (0:Int))))):=by kernel_rfl
theorem v1l (n:Nat)(c:c0q):f1g (n+1) c =
 tif (c.1=1) (
 tif ((decide (c.2.1.1=c.2.2.1.1))&&((decide (c.2.1.2.1=c.2.2.1.2.1))&&((decide (c.2.1.2.2.1=c.2.2.1.2.2.1))&&(c.2.1.2.2.2==c.2.2.1.2.2.2)))) (
 a0a (e0v n c.2.1) fun r0 =>
 some (decide (r0=0))) (
 some false)) (
 tif ((1:Int)<c.1) (
 a0a (m0g n c.2.1 c.2.2.1) fun r1 =>
 tif (r1) (
 some (decide ((wrap .i64 (c.1-1))<=(wrap .i64 (c.2.2.1.1-c.2.1.1))))) (
 some false)) (
 some false)):=by kernel_rfl
theorem g1s (n:Nat)(x:Int):m0j (n+1) x =
 tif (x=0) (
 some (64:Int)) (
 a0a (at? ((0:Int)::((1:Int)::((56:Int)::((2:Int)::((57:Int)::((49:Int)::((28:Int)::((3:Int)::((61:Int)::((58:Int)::((42:Int)::((50:Int)::((38:Int)::((29:Int)::((17:Int)::((4:Int)::((62:Int)::((47:Int)::((59:Int)::((36:Int)::((45:Int)::((43:Int)::((51:Int)::((22:Int)::((53:Int)::((39:Int)::((33:Int)::((30:Int)::((24:Int)::((18:Int)::((12:Int)::((5:Int)::((63:Int)::((55:Int)::((48:Int)::((27:Int)::((60:Int)::((41:Int)::((37:Int)::((16:Int)::((46:Int)::((35:Int)::((44:Int)::((21:Int)::((52:Int)::((32:Int)::((23:Int)::((11:Int)::((54:Int)::((26:Int)::((40:Int)::((15:Int)::((34:Int)::((20:Int)::((31:Int)::((10:Int)::((25:Int)::((14:Int)::((19:Int)::((9:Int)::((13:Int)::((8:Int)::((7:Int)::((6:Int)::[])))))))))))))))))))))))))))))))))))))))))))))))))))))))))))))))) (shrI .u64 (wrap .u64 ((285870213051353865:Int)*(andI .u64 x (wrap .u64 ((0:Int)-x))))) (58:Int))) fun r0 =>
 some (wrap .i64 r0)):=by kernel_rfl
theorem b1k (n:Nat)(x0:List (List UInt8))(x1:Int):o0n (n+1) x0 x1=j0j x0 x1:=by
    have h:o0n (n+1) x0 x1=Option.bind (j0j x0 x1) (fun z=>some z):=by kernel_rfl
    rw[h];cases j0j x0 x1<;>rfl
theorem d1w (n:Nat)(x0:List (a0l))(x1:Int):q0t (n+1) x0 x1=j0j x0 x1:=by
    have h:q0t (n+1) x0 x1=Option.bind (j0j x0 x1) (fun z=>some z):=by kernel_rfl
    rw[h];cases j0j x0 x1<;>rfl
theorem l0u (n:Nat)(x0:List UInt8)(x1:List UInt8):a0o (n+1) x0 x1=g0x x0 x1:=by
    have h:a0o (n+1) x0 x1=Option.bind (g0x x0 x1) (fun z=>some z):=by kernel_rfl
    rw[h];cases g0x x0 x1<;>rfl
theorem c0j (n:Nat)(x0:List UInt8):b0q (n+1) x0=some (x0,x0):=by kernel_rfl
theorem h1g (n:Nat)(x0:List (a0c))(x1:Int):s0y (n+1) x0 x1=j0j x0 x1:=by
    have h:s0y (n+1) x0 x1=Option.bind (j0j x0 x1) (fun z=>some z):=by kernel_rfl
    rw[h];cases j0j x0 x1<;>rfl
theorem j0p (n:Nat)(x0:List UInt8)(x1:Int):b0y (n+1) x0 x1=z1l x0 x1:=by
    have h:b0y (n+1) x0 x1=Option.bind (z1l x0 x1) (fun z=>some z):=by kernel_rfl
    rw[h];cases z1l x0 x1<;>rfl
theorem e0d (n:Nat)(x0:List UInt8):f0t (n+1) x0=some ((x0.length:Int),x0):=by kernel_rfl
end Go.Proofs.YtagnkfbpgkckiaaGreatDoor
