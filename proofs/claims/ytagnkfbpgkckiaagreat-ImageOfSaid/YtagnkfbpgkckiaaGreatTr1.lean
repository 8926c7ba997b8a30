/- Trees, printed by program. -/
import Derived.Test.YtagnkfbpgkckiaaGreatTr0
import Derived.KernelRfl
set_option linter.unusedVariables false
open Go.IntKind (wrap)
namespace Go.Proofs.YtagnkfbpgkckiaaGreat
open Go.Flat
theorem l1u (n:Nat)(l:(List (List UInt8)))(m:(List (List UInt8)))(from_:Int):j1u (n+1) l m from_ =
 tif ((300:Int)<(l.length:Int)) (
 a0a (g0k n ) fun r0 =>
 some r0) (
 tif ((300:Int)<(m.length:Int)) (
 a0a (g0k n ) fun r1 =>
 some r1) (
 tif (from_<0) (
 a0a (g0k n ) fun r2 =>
 some r2) (
 tif ((1099511627776:Int)<from_) (
 a0a (g0k n ) fun r3 =>
 some r3) (
 a0a (i0u n a0b (l,(m,(from_,(l,((l.length:Int),(0,()))))))) fun r4 =>
 b0g (fun y5 =>
 tif ((0:Int)<(y5.1.length:Int)) (
 a0a (at? y5.1 (0:Int)) fun r6 =>
 tif ((r6.length:Int)=512) (
 a0a (at? y5.1 (0:Int)) fun r7 =>
 tif (true&&((64:Int)<=(r7.length:Int))) (
 a0a (o0v n (List.drop 8 (List.take 64 r7))) fun r8 =>
 tif (r8.2=0) (
 a0a (j1t n r8.1) fun r9 =>
 tif (!r9) (
 a0a (g0k n ) fun r10 =>
 some r10) (
 a0a (j0b n y5.1) fun r11 =>
 a0a (n1m n y5.1) fun r12 =>
 a0a (g0k n ) fun r13 =>
 tif (r13) (
 a0a (w0x n r11.1 r12.1) fun r14 =>
 tif (r14) (
 tif (r11.2=r12.2) (
 a0a (i0a n y5.1 y5.2.1 y5.2.2.1) fun r15 =>
 a0a (w0v n y5.1 y5.2.1 y5.2.2.1) fun r16 =>
 a0a (f0p n r15 r16) fun r17 =>
 some r17) (
 some false)) (
 some false)) (
 some false))) (
 a0a (j0b n y5.1) fun r18 =>
 a0a (n1m n y5.1) fun r19 =>
 a0a (g0k n ) fun r20 =>
 tif (r20) (
 a0a (w0x n r18.1 r19.1) fun r21 =>
 tif (r21) (
 tif (r18.2=r19.2) (
 a0a (i0a n y5.1 y5.2.1 y5.2.2.1) fun r22 =>
 a0a (w0v n y5.1 y5.2.1 y5.2.2.1) fun r23 =>
 a0a (f0p n r22 r23) fun r24 =>
 some r24) (
 some false)) (
 some false)) (
 some false))) (
 none)) (
 a0a (j0b n y5.1) fun r25 =>
 a0a (n1m n y5.1) fun r26 =>
 a0a (g0k n ) fun r27 =>
 tif (r27) (
 a0a (w0x n r25.1 r26.1) fun r28 =>
 tif (r28) (
 tif (r25.2=r26.2) (
 a0a (i0a n y5.1 y5.2.1 y5.2.2.1) fun r29 =>
 a0a (w0v n y5.1 y5.2.1 y5.2.2.1) fun r30 =>
 a0a (f0p n r29 r30) fun r31 =>
 some r31) (
 some false)) (
 some false)) (
 some false))) (
 a0a (j0b n y5.1) fun r32 =>
 a0a (n1m n y5.1) fun r33 =>
 a0a (g0k n ) fun r34 =>
 tif (r34) (
 a0a (w0x n r32.1 r33.1) fun r35 =>
 tif (r35) (
 tif (r32.2=r33.2) (
 a0a (i0a n y5.1 y5.2.1 y5.2.2.1) fun r36 =>
 a0a (w0v n y5.1 y5.2.1 y5.2.2.1) fun r37 =>
 a0a (f0p n r36 r37) fun r38 =>
 some r38) (
 some false)) (
 some false)) (
 some false))) (fun z39 =>
 some z39) r4)))):=by kernel_rfl
theorem r0o (n f:Nat)(l:(List (List UInt8)))(m:(List (List UInt8)))(from_:Int)(s32:(List (List UInt8)))(s33:Int)(s34:Int):i0u n (f+1) (l,m,from_,s32,s33,s34,()) =
 tif (s34<s33) (
 a0a (at? s32 s34) fun r0 =>
 tif ((2000:Int)<(r0.length:Int)) (
 a0a (g0k n ) fun r1 =>
 some (.inr r1)) (
 i0u n f (l,(m,(from_,(s32,(s33,((wrap .i64 (s34+1)),())))))))) (
 some (.inl (l,(m,(from_,()))))):=by kernel_rfl
theorem v1o (n:Nat)(c:a0r):j1t (n+1) c =
 tif (c.2.2.2.1<=8) (
 tif (c.1<=64) (
 tif (c.2.2.1.1<=40) (
 tif (c.2.2.1.2.1<=40) (
 some (decide (c.2.2.1.2.2<=40))) (
 some false)) (
 some false)) (
 some false)) (
 some false):=by kernel_rfl
theorem v1u (n:Nat)(s:b0b):r0s (n+1) s =
 a0a (t0k n s) fun r0 =>
 a0a (p0w n a0b (s,(r0.2,((r0.1::[]),(0,()))))) fun r1 =>
 b0g (fun y2 =>
 tif (!(y2.1=0)) (
 some ([],y2.1)) (
 some (y2.2.1,0))) (fun z3 =>
 some z3) r1:=by kernel_rfl
theorem o0r (n f:Nat)(s_:b0b)(why:Int)(out:(List (List UInt8)))(i:Int):p0w n (f+1) (s_,why,out,i,()) =
 tif (why=0) (
 tif (i<(s_.2.2.2.length:Int)) (
 a0a (at? s_.2.2.2 i) fun r0 =>
 a0a (t0l n s_.1 r0) fun r1 =>
 tif ((((List.length out)+(List.length r1.1))*16)<=140737488355328) (
 p0w n f (s_,(r1.2,((out++r1.1),((wrap .i64 (i+1)),()))))) (
 none)) (
 some (.inl (why,(out,()))))) (
 some (.inl (why,(out,())))):=by kernel_rfl
theorem e2x (n:Nat)(s:b0b):y1k (n+1) s =
 a0a (i1q n s) fun r0 =>
 tif (!(r0.2=0)) (
 some ([],r0.2)) (
 a0a (w0w n a0b (s,((r0.1::[]),(s.2.2.2,((s.2.2.2.length:Int),(0,())))))) fun r1 =>
 b0g (fun y2 =>
 some (y2.1,0)) (fun z3 =>
 some z3) r1):=by kernel_rfl
theorem a1x (n f:Nat)(s_:b0b)(out:(List (List UInt8)))(s22:(List a0f))(s23:Int)(s24:Int):w0w n (f+1) (s_,out,s22,s23,s24,()) =
 tif (s24<s23) (
 a0a (at? s22 s24) fun r0 =>
 a0a (i1r n s_.1 r0) fun r1 =>
 tif (!(r1.2=0)) (
 some (.inr ([],r1.2))) (
 tif ((((List.length out)+(List.length r1.1))*16)<=140737488355328) (
 w0w n f (s_,((out++r1.1),(s22,(s23,((wrap .i64 (s24+1)),())))))) (
 none))) (
 some (.inl (out,()))):=by kernel_rfl
theorem m1a (n:Nat)(s:b0b):t0k (n+1) s =
 a0a (a1c n s) fun r0 =>
 tif (!(r0=0)) (
 some ([],r0)) (
 a0a (e1p n s.1) fun r1 =>
 tif ((8+(List.length r1))<=9223372036854775807) (
 a0a (e0v n [] (((112:UInt8)::((108:UInt8)::((105:UInt8)::((109:UInt8)::((115:UInt8)::((111:UInt8)::((108:UInt8)::((108:UInt8)::[]))))))))++r1)) fun r2 =>
 a0a (o0o n r2 (s.2.1::((wrap .i64 (s.2.2.1+1))::[]))) fun r3 =>
 a0a (d0h n r3) fun r4 =>
 a0a (h0f n r4.1 (512:Int)) fun r5 =>
 some (r5,0)) (
 none)):=by kernel_rfl
theorem t1l (n:Nat)(s:b0b):i1q (n+1) s =
 a0a (i1u n s) fun r0 =>
 tif (!(r0=0)) (
 some ([],2)) (
 a0a (v0i n s.1) fun r1 =>
 tif ((8+(List.length r1))<=9223372036854775807) (
 a0a (e0y n s.2.1) fun r2 =>
 tif (((List.length (((112:UInt8)::((108:UInt8)::((105:UInt8)::((109:UInt8)::((115:UInt8)::((111:UInt8)::((108:UInt8)::((108:UInt8)::[]))))))))++r1))+(List.length r2))<=9223372036854775807) (
 a0a (e0y n (wrap .i64 (s.2.2.1+1))) fun r3 =>
 tif (((List.length ((((112:UInt8)::((108:UInt8)::((105:UInt8)::((109:UInt8)::((115:UInt8)::((111:UInt8)::((108:UInt8)::((108:UInt8)::[]))))))))++r1)++r2))+(List.length r3))<=9223372036854775807) (
 a0a (s0s n (((((112:UInt8)::((108:UInt8)::((105:UInt8)::((109:UInt8)::((115:UInt8)::((111:UInt8)::((108:UInt8)::((108:UInt8)::[]))))))))++r1)++r2)++r3) (512:Int)) fun r4 =>
 some (r4,0)) (
 none)) (
 none)) (
 none)):=by kernel_rfl
theorem y1i (n:Nat)(a:(List (List UInt8)))(b:(List (List UInt8))):p1p (n+1) a b =
 tif (!((a.length:Int)=(b.length:Int))) (
 some false) (
 a0a (s0v n a0b (a,(b,((a.length:Int),(0,()))))) fun r0 =>
 b0g (fun y1 =>
 some true) (fun z2 =>
 some z2) r0):=by kernel_rfl
theorem x0y (n f:Nat)(a:(List (List UInt8)))(b:(List (List UInt8)))(s12:Int)(s13:Int):s0v n (f+1) (a,b,s12,s13,()) =
 tif (s13<s12) (
 a0a (at? a s13) fun r0 =>
 a0a (at? b s13) fun r1 =>
 tif (!(r0==r1)) (
 some (.inr false)) (
 s0v n f (a,(b,(s12,((wrap .i64 (s13+1)),())))))) (
 some (.inl ())):=by kernel_rfl
theorem m1b (n:Nat)(c:a0r)(x:a0f):t0l (n+1) c x =
 a0a (e0u n c) fun r0 =>
 tif (!(r0=0)) (
 some ([],2)) (
 a0a (z0c n x) fun r1 =>
 tif (r1) (
 a0a (h0f n [] (512:Int)) fun r2 =>
 a0a (n0p n c) fun r3 =>
 a0a (m0h n (r2::[]) r3) fun r4 =>
 some (r4,0)) (
 a0a (p0d n c x) fun r5 =>
 tif (!(r5=0)) (
 some ([],2)) (
 a0a (z0b n x) fun r6 =>
 tif (!(r6.2=0)) (
 some ([],r6.2)) (
 a0a (y0y n x.2.2.1 c.1) fun r7 =>
 a0a (o0p n (r6.1::[]) r7 (16:Int) (fun y8=>o0q n y8.1)) fun r9 =>
 a0a (f0t n a0b (r9,(x.2.2.2.1,(0,())))) fun r10 =>
 b0g (fun y11 =>
 some (y11.1,0)) (fun z12 =>
 some z12) r10)))):=by kernel_rfl
theorem g0v (n f:Nat)(out:(List (List UInt8)))(s45:((List a0d)×((List a0d)×(List a0d))))(s46:Int):f0t n (f+1) (out,s45,s46,()) =
 tif (s46<3) (
 tif (s46=0) (
 a0a (i0v n out s45.1 (4:Int) (fun y0=>j0n n y0.1)) fun r1 =>
 f0t n f (r1,(s45,((wrap .i64 (s46+1)),())))) (
 tif (s46=1) (
 a0a (i0v n out s45.2.1 (4:Int) (fun y2=>j0n n y2.1)) fun r3 =>
 f0t n f (r3,(s45,((wrap .i64 (s46+1)),())))) (
 tif (s46=2) (
 a0a (i0v n out s45.2.2 (4:Int) (fun y4=>j0n n y4.1)) fun r5 =>
 f0t n f (r5,(s45,((wrap .i64 (s46+1)),())))) (
 none)))) (
 some (.inl (out,()))):=by kernel_rfl
theorem t1m (n:Nat)(c:a0r)(x:a0f):i1r (n+1) c x =
 a0a (f0q n c) fun r0 =>
 tif (!(r0=0)) (
 some ([],2)) (
 a0a (u0y n x) fun r1 =>
 tif (r1) (
 a0a (v0h n c) fun r2 =>
 a0a (o0g n (wrap .i64 ((512:Int)*r2))) fun r3 =>
 a0a (o0h n r3) fun r4 =>
 some (r4,0)) (
 a0a (b1e n c x) fun r5 =>
 tif (!(r5=0)) (
 some ([],2)) (
 a0a (j1c n x.1) fun r6 =>
 a0a (d0b n (2:Int) (wrap .u64 (r6.1.length:Int))) fun r7 =>
 tif (((List.length r7)+(List.length r6.1))<=9223372036854775807) (
 a0a (s0s n (r7++r6.1) (322:Int)) fun r8 =>
 a0a (e0y n x.2.1) fun r9 =>
 tif (((List.length r8)+(List.length r9))<=9223372036854775807) (
 a0a (e0y n x.2.2.1.1) fun r10 =>
 tif (((List.length (r8++r9))+(List.length r10))<=9223372036854775807) (
 a0a (e0y n x.2.2.1.2.1) fun r11 =>
 tif (((List.length ((r8++r9)++r10))+(List.length r11))<=9223372036854775807) (
 a0a (d0b n (2:Int) (wrap .u64 (x.2.2.1.2.2.length:Int))) fun r12 =>
 tif (((List.length (((r8++r9)++r10)++r11))+(List.length r12))<=9223372036854775807) (
 a0a (g1p n x.2.2.2.2) fun r13 =>
 tif (((List.length ((((r8++r9)++r10)++r11)++r12))+(List.length r13))<=9223372036854775807) (
 a0a (s0s n (((((r8++r9)++r10)++r11)++r12)++r13) (512:Int)) fun r14 =>
 a0a (o0h n r14) fun r15 =>
 a0a (k0d n a0b (c,(x,(r15,([],(0,())))))) fun r16 =>
 b0g (fun y17 =>
 a0a (o0h n y17.2.2.1) fun r18 =>
 tif ((((List.length y17.2.1)+(List.length r18))*16)<=140737488355328) (
 a0a (e0z n a0b (y17.1,((y17.2.1++r18),(0,())))) fun r19 =>
 b0g (fun y20 =>
 some (y20.1,0)) (fun z21 =>
 some z21) r19) (
 none)) (fun z22 =>
 some z22) r16) (
 none)) (
 none)) (
 none)) (
 none)) (
 none)) (
 none)))):=by kernel_rfl
theorem u0c (n f:Nat)(c_:a0r)(x_:a0f)(out:(List (List UInt8)))(raw:List UInt8)(i:Int):k0d n (f+1) (c_,x_,out,raw,i,()) =
 tif (i<c_.1) (
 a0a (o0g n (32:Int)) fun r0 =>
 a0a (k0c n a0b (c_,(x_,(out,(raw,(i,(r0,(x_.2.2.1.2.2,((x_.2.2.1.2.2.length:Int),(0,())))))))))) fun r1 =>
 b0g (fun y2 =>
 tif (((List.length y2.2.2.2.1)+(List.length y2.2.2.2.2.2.1))<=9223372036854775807) (
 k0d n f (y2.1,(y2.2.1,(y2.2.2.1,((y2.2.2.2.1++y2.2.2.2.2.2.1),((wrap .i64 (y2.2.2.2.2.1+1)),())))))) (
 none)) (fun z3 =>
 some (.inr z3)) r1) (
 some (.inl (x_,(out,(raw,()))))):=by kernel_rfl
theorem i0y (n f:Nat)(x_:a0f)(out:(List (List UInt8)))(k_:Int):e0z n (f+1) (x_,out,k_,()) =
 tif (k_<3) (
 tif (k_=0) (
 a0a (e0g n a0b (x_,(out,(k_,([],(x_.2.2.2.1.1,((x_.2.2.2.1.1.length:Int),(0,())))))))) fun r0 =>
 b0g (fun y1 =>
 a0a (o0h n y1.2.2.2.1) fun r2 =>
 tif ((((List.length y1.2.1)+(List.length r2))*16)<=140737488355328) (
 e0z n f (y1.1,((y1.2.1++r2),((wrap .i64 (y1.2.2.1+1)),())))) (
 none)) (fun z3 =>
 some (.inr z3)) r0) (
 tif (k_=1) (
 a0a (e0g n a0b (x_,(out,(k_,([],(x_.2.2.2.1.2.1,((x_.2.2.2.1.2.1.length:Int),(0,())))))))) fun r4 =>
 b0g (fun y5 =>
 a0a (o0h n y5.2.2.2.1) fun r6 =>
 tif ((((List.length y5.2.1)+(List.length r6))*16)<=140737488355328) (
 e0z n f (y5.1,((y5.2.1++r6),((wrap .i64 (y5.2.2.1+1)),())))) (
 none)) (fun z7 =>
 some (.inr z7)) r4) (
 tif (k_=2) (
 a0a (e0g n a0b (x_,(out,(k_,([],(x_.2.2.2.1.2.2,((x_.2.2.2.1.2.2.length:Int),(0,())))))))) fun r8 =>
 b0g (fun y9 =>
 a0a (o0h n y9.2.2.2.1) fun r10 =>
 tif ((((List.length y9.2.1)+(List.length r10))*16)<=140737488355328) (
 e0z n f (y9.1,((y9.2.1++r10),((wrap .i64 (y9.2.2.1+1)),())))) (
 none)) (fun z11 =>
 some (.inr z11)) r8) (
 none)))) (
 some (.inl (out,()))):=by kernel_rfl
theorem u0b (n f:Nat)(c_:a0r)(x_:a0f)(out:(List (List UInt8)))(raw:List UInt8)(i:Int)(e:List UInt8)(s83:(List a0p))(s84:Int)(s85:Int):k0c n (f+1) (c_,x_,out,raw,i,e,s83,s84,s85,()) =
 tif (s85<s84) (
 a0a (at? s83 s85) fun r0 =>
 tif (c_.1=0) (
 none) (
 tif ((Int.tmod (wrap .i64 (x_.2.2.1.1+s85)) c_.1)=i) (
 a0a (i1s n r0) fun r1 =>
 k0c n f (c_,(x_,(out,(raw,(i,(r1,(s83,(s84,((wrap .i64 (s85+1)),())))))))))) (
 k0c n f (c_,(x_,(out,(raw,(i,(e,(s83,(s84,((wrap .i64 (s85+1)),())))))))))))) (
 some (.inl (c_,(x_,(out,(raw,(i,(e,())))))))):=by kernel_rfl
theorem u0a (n f:Nat)(x_:a0f)(out:(List (List UInt8)))(k_:Int)(t:List UInt8)(s117:(List a0d))(s118:Int)(s119:Int):e0g n (f+1) (x_,out,k_,t,s117,s118,s119,()) =
 tif (s119<s118) (
 a0a (at? s117 s119) fun r0 =>
 a0a (g1p n r0) fun r1 =>
 tif (((List.length t)+(List.length r1))<=9223372036854775807) (
 e0g n f (x_,(out,(k_,((t++r1),(s117,(s118,((wrap .i64 (s119+1)),())))))))) (
 none)) (
 some (.inl (x_,(out,(k_,(t,())))))):=by kernel_rfl
theorem m1c (n:Nat)(e:a0p):o0q (n+1) e =
 a0a (o0m n [] e) fun r0 =>
 a0a (d0h n r0) fun r1 =>
 a0a (h0f n r1.1 (32:Int)) fun r2 =>
 some r2:=by kernel_rfl
theorem t1n (n:Nat)(e:a0p):i1s (n+1) e =
 a0a (u0u n e) fun r0 =>
 a0a (s0s n r0 (32:Int)) fun r1 =>
 some r1:=by kernel_rfl
theorem q1s (n:Nat)(s:a0d):j0n (n+1) s =
 a0a (o0o n [] (s.1::(s.2.1::[]))) fun r0 =>
 a0a (o0m n r0 s.2.2.1) fun r1 =>
 a0a (o0m n r1 s.2.2.2.1) fun r2 =>
 a0a (o0o n r2 ((wrap .i64 s.2.2.2.2.1.1)::((wrap .i64 s.2.2.2.2.1.2)::(s.2.2.2.2.2.1::(s.2.2.2.2.2.2.1::(s.2.2.2.2.2.2.2::[])))))) fun r3 =>
 a0a (d0h n r3) fun r4 =>
 a0a (h0f n r4.1 (128:Int)) fun r5 =>
 some r5:=by kernel_rfl
theorem y1h (n:Nat)(s:a0d):g1p (n+1) s =
 a0a (e0y n s.1) fun r0 =>
 a0a (e0y n s.2.1) fun r1 =>
 tif (((List.length r0)+(List.length r1))<=9223372036854775807) (
 a0a (u0u n s.2.2.1) fun r2 =>
 tif (((List.length (r0++r1))+(List.length r2))<=9223372036854775807) (
 a0a (u0u n s.2.2.2.1) fun r3 =>
 tif (((List.length ((r0++r1)++r2))+(List.length r3))<=9223372036854775807) (
 a0a (d0b n (8:Int) s.2.2.2.2.1.1) fun r4 =>
 tif (((List.length (((r0++r1)++r2)++r3))+(List.length r4))<=9223372036854775807) (
 a0a (d0b n (8:Int) s.2.2.2.2.1.2) fun r5 =>
 tif (((List.length ((((r0++r1)++r2)++r3)++r4))+(List.length r5))<=9223372036854775807) (
 a0a (e0y n s.2.2.2.2.2.1) fun r6 =>
 tif (((List.length (((((r0++r1)++r2)++r3)++r4)++r5))+(List.length r6))<=9223372036854775807) (
 a0a (e0y n s.2.2.2.2.2.2.1) fun r7 =>
 tif (((List.length ((((((r0++r1)++r2)++r3)++r4)++r5)++r6))+(List.length r7))<=9223372036854775807) (
 a0a (e0y n s.2.2.2.2.2.2.2) fun r8 =>
 tif (((List.length (((((((r0++r1)++r2)++r3)++r4)++r5)++r6)++r7))+(List.length r8))<=9223372036854775807) (
 a0a (s0s n ((((((((r0++r1)++r2)++r3)++r4)++r5)++r6)++r7)++r8) (128:Int)) fun r9 =>
 some r9) (
 none)) (
 none)) (
 none)) (
 none)) (
 none)) (
 none)) (
 none)) (
 none):=by kernel_rfl
theorem w1o (n:Nat)(s:List UInt8):o0v (n+1) s =
 a0a (l0g n s) fun r0 =>
 a0a (a0h n r0 (4:Int)) fun r1 =>
 a0a (a0h n r1.2 (8:Int)) fun r2 =>
 a0a (a0h n r2.2 (8:Int)) fun r3 =>
 a0a (a0h n r3.2 (8:Int)) fun r4 =>
 a0a (a0h n r4.2 (4:Int)) fun r5 =>
 a0a (a0h n r5.2 (4:Int)) fun r6 =>
 a0a (a0h n r6.2 (4:Int)) fun r7 =>
 a0a (a0h n r7.2 (4:Int)) fun r8 =>
 a0a (a0h n r8.2 (4:Int)) fun r9 =>
 a0a (a0h n r9.2 (8:Int)) fun r10 =>
 tif (!(r10.1=0)) (
 some ((0,((0,(0,0)),((0,(0,0)),(0,0)))),4)) (
 a0a (j0d n r10.2) fun r11 =>
 tif (r11) (
 some ((0,((0,(0,0)),((0,(0,0)),(0,0)))),4)) (
 a0a (l0f n r10.2) fun r12 =>
 tif ((0:Int)<r12) (
 some ((0,((0,(0,0)),((0,(0,0)),(0,0)))),4)) (
 a0a (e0u n ((wrap .i64 r1.1),(((wrap .i64 r2.1),((wrap .i64 r3.1),(wrap .i64 r4.1))),(((wrap .i64 r5.1),((wrap .i64 r6.1),(wrap .i64 r7.1))),((wrap .i64 r8.1),(wrap .i64 r9.1)))))) fun r13 =>
 tif (!(r13=0)) (
 some ((0,((0,(0,0)),((0,(0,0)),(0,0)))),4)) (
 some (((wrap .i64 r1.1),(((wrap .i64 r2.1),((wrap .i64 r3.1),(wrap .i64 r4.1))),(((wrap .i64 r5.1),((wrap .i64 r6.1),(wrap .i64 r7.1))),((wrap .i64 r8.1),(wrap .i64 r9.1))))),0))))):=by kernel_rfl
theorem a2e (n:Nat)(l:(List (List UInt8))):j0b (n+1) l =
 a0a (y0x n l) fun r0 =>
 tif (!r0) (
 some (((0,((0,(0,0)),((0,(0,0)),(0,0)))),(0,(0,[]))),4)) (
 a0a (at? l (0:Int)) fun r1 =>
 tif (true&&((64:Int)<=(r1.length:Int))) (
 a0a (o0v n (List.drop 8 (List.take 64 r1))) fun r2 =>
 tif (!(r2.2=0)) (
 some (((0,((0,(0,0)),((0,(0,0)),(0,0)))),(0,(0,[]))),4)) (
 a0a (n0p n r2.1) fun r3 =>
 tif (!((wrap .i64 ((l.length:Int)-1))=(wrap .i64 (r2.1.2.2.2.1*r3)))) (
 some (((0,((0,(0,0)),((0,(0,0)),(0,0)))),(0,(0,[]))),4)) (
 a0a (at? l (0:Int)) fun r4 =>
 tif (64<=(List.length r4)) (
 a0a (l0g n (List.drop 64 (List.take (List.length r4) r4))) fun r5 =>
 a0a (a0h n r5 (8:Int)) fun r6 =>
 a0a (a0h n r6.2 (8:Int)) fun r7 =>
 tif (1<=(List.length l)) (
 a0a (n0p n r2.1) fun r8 =>
 a0a (o0b n (List.drop 1 (List.take (List.length l) l)) r8) fun r9 =>
 a0a (h0g n r9 (l,(((0,((0,(0,0)),((0,(0,0)),(0,0)))),(0,(0,[]))),(r2.1,((r2.1,((wrap .i64 r6.1),((wrap .i64 ((wrap .i64 r7.1)-1)),[]))),()))))) fun r10 =>
 a0a (r0s n r10.2.2.2.1) fun r11 =>
 tif (!(r11.2=0)) (
 some (((0,((0,(0,0)),((0,(0,0)),(0,0)))),(0,(0,[]))),4)) (
 a0a (j0w n r10.1 r11.1) fun r12 =>
 tif (!r12) (
 some (((0,((0,(0,0)),((0,(0,0)),(0,0)))),(0,(0,[]))),4)) (
 some (r10.2.2.2.1,0)))) (
 none)) (
 none)))) (
 none)):=by kernel_rfl
theorem u0f (n:Nat)(x:((List (List UInt8))×(b0b×(a0r×(b0b×Unit))))):h0g n [] x=some x:=by kernel_rfl
theorem r0r (n:Nat)(y:((List (List UInt8))×Unit))(r:List ((List (List UInt8))×Unit))(l:(List (List UInt8)))(s2:b0b)(c:a0r)(s:b0b):h0g n (y::r) (l,s2,c,s,()) =
 a0a (a0a (d0z n (c,y.1)) fun r0 =>
 tif ((((List.length s.2.2.2)+1)*264)<=140737488355328) (
 some (l,(s2,(c,((s.1,(s.2.1,(s.2.2.1,(s.2.2.2++(r0.1::[]))))),()))))) (
 none)) fun r1 =>
 h0g n r r1:=by kernel_rfl
theorem i2z (n:Nat)(l:(List (List UInt8))):n1m (n+1) l =
 a0a (u0w n a0b (l,(((0,((0,(0,0)),((0,(0,0)),(0,0)))),(0,(0,[]))),(l,((l.length:Int),(0,())))))) fun r0 =>
 b0g (fun y1 =>
 tif ((y1.1.length:Int)=0) (
 some (((0,((0,(0,0)),((0,(0,0)),(0,0)))),(0,(0,[]))),4)) (
 a0a (at? y1.1 (0:Int)) fun r2 =>
 tif (true&&((64:Int)<=(r2.length:Int))) (
 a0a (b1l n (List.drop 8 (List.take 64 r2))) fun r3 =>
 tif (!(r3.2=0)) (
 some (((0,((0,(0,0)),((0,(0,0)),(0,0)))),(0,(0,[]))),4)) (
 a0a (v0h n r3.1) fun r4 =>
 tif (!((y1.1.length:Int)=(wrap .i64 ((1:Int)+(wrap .i64 (r3.1.2.2.2.1*r4)))))) (
 some (((0,((0,(0,0)),((0,(0,0)),(0,0)))),(0,(0,[]))),4)) (
 a0a (at? y1.1 (0:Int)) fun r5 =>
 a0a (c0y n r5 (64:Int)) fun r6 =>
 a0a (at? y1.1 (0:Int)) fun r7 =>
 a0a (c0y n r7 (72:Int)) fun r8 =>
 a0a (v0h n r3.1) fun r9 =>
 a0a (w0u n a0b (y1.1,(y1.2.1,(r3.1,((r3.1,(r6,((wrap .i64 (r8-1)),[]))),(r9,(0,()))))))) fun r10 =>
 b0g (fun y11 =>
 a0a (y1k n y11.2.2.1) fun r12 =>
 tif (!(r12.2=0)) (
 some (((0,((0,(0,0)),((0,(0,0)),(0,0)))),(0,(0,[]))),4)) (
 a0a (p1p n y11.1 r12.1) fun r13 =>
 tif (!r13) (
 some (((0,((0,(0,0)),((0,(0,0)),(0,0)))),(0,(0,[]))),4)) (
 some (y11.2.2.1,0)))) (fun z14 =>
 some z14) r10))) (
 none))) (fun z15 =>
 some z15) r0:=by kernel_rfl
theorem f1i (n f:Nat)(l:(List (List UInt8)))(s2:b0b)(s12:(List (List UInt8)))(s13:Int)(s14:Int):u0w n (f+1) (l,s2,s12,s13,s14,()) =
 tif (s14<s13) (
 a0a (at? s12 s14) fun r0 =>
 tif (!((r0.length:Int)=512)) (
 some (.inr (((0,((0,(0,0)),((0,(0,0)),(0,0)))),(0,(0,[]))),4))) (
 u0w n f (l,(s2,(s12,(s13,((wrap .i64 (s14+1)),()))))))) (
 some (.inl (l,(s2,())))):=by kernel_rfl
theorem a1w (n f:Nat)(l:(List (List UInt8)))(s2:b0b)(c:a0r)(s_:b0b)(n_:Int)(i:Int):w0u n (f+1) (l,s2,c,s_,n_,i,()) =
 tif (i<c.2.2.2.1) (
 tif ((0:Int)<=(wrap .i64 ((1:Int)+(wrap .i64 (i*n_))))) (
 tif (((((Int.toNat (wrap .i64 ((1:Int)+(wrap .i64 (i*n_))))):Nat):Int)<=(wrap .i64 ((1:Int)+(wrap .i64 ((wrap .i64 (i+1))*n_)))))&&((wrap .i64 ((1:Int)+(wrap .i64 ((wrap .i64 (i+1))*n_))))<=(l.length:Int))) (
 a0a (r0d n c (List.drop (Int.toNat (wrap .i64 ((1:Int)+(wrap .i64 (i*n_))))) (List.take (Int.toNat (wrap .i64 ((1:Int)+(wrap .i64 ((wrap .i64 (i+1))*n_))))) l))) fun r0 =>
 tif ((((List.length s_.2.2.2)+1)*264)<=140737488355328) (
 w0u n f (l,(s2,(c,((s_.1,(s_.2.1,(s_.2.2.1,(s_.2.2.2++(r0::[]))))),(n_,((wrap .i64 (i+1)),()))))))) (
 none)) (
 none)) (
 none)) (
 some (.inl (l,(s2,(s_,()))))):=by kernel_rfl
theorem y1m (n:Nat)(a:b0b)(b:b0b):w0x (n+1) a b =
 tif (!((a.1.1=b.1.1)&&((a.1.2.1.1=b.1.2.1.1)&&((a.1.2.1.2.1=b.1.2.1.2.1)&&((a.1.2.1.2.2=b.1.2.1.2.2)&&((a.1.2.2.1.1=b.1.2.2.1.1)&&((a.1.2.2.1.2.1=b.1.2.2.1.2.1)&&((a.1.2.2.1.2.2=b.1.2.2.1.2.2)&&((a.1.2.2.2.1=b.1.2.2.2.1)&&(a.1.2.2.2.2=b.1.2.2.2.2)))))))))) (
 some false) (
 tif (!(a.2.1=b.2.1)) (
 some false) (
 tif (!(a.2.2.1=b.2.2.1)) (
 some false) (
 tif (!((a.2.2.2.length:Int)=(b.2.2.2.length:Int))) (
 some false) (
 a0a (o0i n a0b (a,(b,((a.2.2.2.length:Int),(0,()))))) fun r0 =>
 b0g (fun y1 =>
 some true) (fun z2 =>
 some z2) r0)))):=by kernel_rfl
theorem y0a (n f:Nat)(a_:b0b)(b_:b0b)(s36:Int)(s37:Int):o0i n (f+1) (a_,b_,s36,s37,()) =
 tif (s37<s36) (
 a0a (at? a_.2.2.2 s37) fun r0 =>
 a0a (at? b_.2.2.2 s37) fun r1 =>
 a0a (w0y n r0 r1) fun r2 =>
 tif (!r2) (
 some (.inr false)) (
 o0i n f (a_,(b_,(s36,((wrap .i64 (s37+1)),())))))) (
 some (.inl ())):=by kernel_rfl
theorem a1v (n:Nat)(a:(List (Int×List UInt8)))(b:(List (Int×List UInt8))):f0p (n+1) a b =
 tif (!((a.length:Int)=(b.length:Int))) (
 some false) (
 a0a (g0t n a0b (a,(b,((a.length:Int),(0,()))))) fun r0 =>
 b0g (fun y1 =>
 some true) (fun z2 =>
 some z2) r0):=by kernel_rfl
theorem l0w (n f:Nat)(a:(List (Int×List UInt8)))(b:(List (Int×List UInt8)))(s12:Int)(s13:Int):g0t n (f+1) (a,b,s12,s13,()) =
 tif (s13<s12) (
 a0a (at? a s13) fun r0 =>
 a0a (at? b s13) fun r1 =>
 tif (!((decide (r0.1=r1.1))&&(r0.2==r1.2))) (
 some (.inr false)) (
 g0t n f (a,(b,(s12,((wrap .i64 (s13+1)),())))))) (
 some (.inl ())):=by kernel_rfl
theorem c1m (n:Nat)(a:(List (List UInt8)))(b:(List (List UInt8)))(from_:Int):i0a (n+1) a b from_ =
 a0a (h0y n a0b (a,(from_,([],(b,((b.length:Int),(0,()))))))) fun r0 =>
 b0g (fun y1 =>
 some y1.1) (fun z2 =>
 some z2) r0:=by kernel_rfl
theorem g0m (n f:Nat)(a:(List (List UInt8)))(from_:Int)(out:(List (Int×List UInt8)))(s10:(List (List UInt8)))(s11:Int)(s12:Int):h0y n (f+1) (a,from_,out,s10,s11,s12,()) =
 tif (s12<s11) (
 a0a (at? s10 s12) fun r0 =>
 tif ((a.length:Int)<=s12) (
 tif ((((List.length out)+1)*24)<=140737488355328) (
 h0y n f (a,(from_,((out++(((wrap .i64 (from_+s12)),r0)::[])),(s10,(s11,((wrap .i64 (s12+1)),()))))))) (
 none)) (
 a0a (at? a s12) fun r1 =>
 tif (!(r1==r0)) (
 tif ((((List.length out)+1)*24)<=140737488355328) (
 h0y n f (a,(from_,((out++(((wrap .i64 (from_+s12)),r0)::[])),(s10,(s11,((wrap .i64 (s12+1)),()))))))) (
 none)) (
 h0y n f (a,(from_,(out,(s10,(s11,((wrap .i64 (s12+1)),()))))))))) (
 some (.inl (out,()))):=by kernel_rfl
theorem y1j (n:Nat)(a:(List (List UInt8)))(b:(List (List UInt8)))(from_:Int):w0v (n+1) a b from_ =
 a0a (k0z n a0b (a,(from_,([],(b,((b.length:Int),(0,()))))))) fun r0 =>
 b0g (fun y1 =>
 some y1.1) (fun z2 =>
 some z2) r0:=by kernel_rfl
theorem x0z (n f:Nat)(a:(List (List UInt8)))(from_:Int)(out:(List (Int×List UInt8)))(s10:(List (List UInt8)))(s11:Int)(s12:Int):k0z n (f+1) (a,from_,out,s10,s11,s12,()) =
 tif (s12<s11) (
 a0a (at? s10 s12) fun r0 =>
 tif ((a.length:Int)<=s12) (
 tif ((((List.length out)+1)*24)<=140737488355328) (
 k0z n f (a,(from_,((out++(((wrap .i64 (from_+s12)),r0)::[])),(s10,(s11,((wrap .i64 (s12+1)),()))))))) (
 none)) (
 a0a (at? a s12) fun r1 =>
 tif (!(r1==r0)) (
 tif ((((List.length out)+1)*24)<=140737488355328) (
 k0z n f (a,(from_,((out++(((wrap .i64 (from_+s12)),r0)::[])),(s10,(s11,((wrap .i64 (s12+1)),()))))))) (
 none)) (
 k0z n f (a,(from_,(out,(s10,(s11,((wrap .i64 (s12+1)),()))))))))) (
 some (.inl (out,()))):=by kernel_rfl
theorem s1r (n:Nat)(s:b0b):a1c (n+1) s =
 a0a (p1a n s) fun r0 =>
 tif (!(r0.2=0)) (
 some (2:Int)) (
 a0a (q0h n r0.1) fun r1 =>
 tif (!r1) (
 some (2:Int)) (
 a0a (i0r n r0.1 (fun y2=>g0a n y2.1 r0.1)) fun r3 =>
 tif ((0:Int)<=r3) (
 some (2:Int)) (
 some (0:Int)))):=by kernel_rfl
theorem x1q (n:Nat)(a:b0b)(b:b0b):p1b (n+1) a b =
 tif ((a.1.1=b.1.1)&&((a.1.2.1.1=b.1.2.1.1)&&((a.1.2.1.2.1=b.1.2.1.2.1)&&((a.1.2.1.2.2=b.1.2.1.2.2)&&((a.1.2.2.1.1=b.1.2.2.1.1)&&((a.1.2.2.1.2.1=b.1.2.2.1.2.1)&&((a.1.2.2.1.2.2=b.1.2.2.1.2.2)&&((a.1.2.2.2.1=b.1.2.2.2.1)&&(a.1.2.2.2.2=b.1.2.2.2.2))))))))) (
 tif (a.2.1=b.2.1) (
 tif (a.2.2.1=b.2.2.1) (
 a0a (d0t n a.2.2.2 b.2.2.2 (fun y0=>e0l n y0.1 y0.2.1)) fun r1 =>
 some r1) (
 some false)) (
 some false)) (
 some false):=by kernel_rfl
theorem c1r (n:Nat)(c:a0r):n0p (n+1) c =
 a0a (e0u n c) fun r0 =>
 tif (!(r0=0)) (
 some (0:Int)) (
 a0a (l0e n c) fun r1 =>
 some r1):=by kernel_rfl
theorem z0i (n:Nat)(w:(List Int))(s:List UInt8):e0v (n+1) w s =
 tif (decide ((((List.length w)+(List.length (List.map (fun y1=>(((UInt8.toNat y1):Nat):Int)) s)))*1)<=140737488355328)) (
 some (w++(List.map (fun y0=>(((UInt8.toNat y0):Nat):Int)) s))) (
 none):=by kernel_rfl
theorem r1o (n:Nat)(c:a0r):e1p (n+1) c =
 a0a (e0u n c) fun r0 =>
 tif (!(r0=0)) (
 some []) (
 a0a (a0w n [] (4:Int) (wrap .u64 c.1)) fun r1 =>
 a0a (a0w n r1 (8:Int) (wrap .u64 c.2.1.1)) fun r2 =>
 a0a (a0w n r2 (8:Int) (wrap .u64 c.2.1.2.1)) fun r3 =>
 a0a (a0w n r3 (8:Int) (wrap .u64 c.2.1.2.2)) fun r4 =>
 a0a (a0w n r4 (4:Int) (wrap .u64 c.2.2.1.1)) fun r6 =>
 a0a (a0w n r6 (4:Int) (wrap .u64 c.2.2.1.2.1)) fun r8 =>
 a0a (a0w n r8 (4:Int) (wrap .u64 c.2.2.1.2.2)) fun r10 =>
 a0a (a0w n r10 (4:Int) (wrap .u64 c.2.2.2.1)) fun r12 =>
 a0a (a0w n r12 (4:Int) (wrap .u64 c.2.2.2.2)) fun r14 =>
 a0a (a0w n r14 (8:Int) (0:Int)) fun r15 =>
 a0a (d0h n r15) fun r16 =>
 some r16.1):=by kernel_rfl
theorem v1t (n:Nat)(w:(List Int))(l:(List Int)):o0o (n+1) w l =
 a0a (p0v n a0b (w,(l,((l.length:Int),(0,()))))) fun r0 =>
 b0g (fun y1 =>
 some y1.1) (fun z2 =>
 some z2) r0:=by kernel_rfl
theorem v0x (n f:Nat)(w:(List Int))(s6:(List Int))(s7:Int)(s8:Int):p0v n (f+1) (w,s6,s7,s8,()) =
 tif (s8<s7) (
 a0a (at? s6 s8) fun r0 =>
 a0a (a0w n w (8:Int) (wrap .u64 r0)) fun r1 =>
 p0v n f (r1,(s6,(s7,((wrap .i64 (s8+1)),()))))) (
 some (.inl (w,()))):=by kernel_rfl
theorem v1s (n:Nat)(s:List UInt8)(n_:Int):h0f (n+1) s n_ =
 a0a (strings_Repeat n ((0:UInt8)::[]) (if (wrap .i64 (n_-(s.length:Int)))<0 then (0:Int) else (wrap .i64 (n_-(s.length:Int))))) fun r0 =>
 tif (((List.length s)+(List.length r0))<=9223372036854775807) (
 some (s++r0)) (
 none):=by kernel_rfl
theorem o0w (n:Nat)(w:(List Int)):d0h (n+1) w =
 some ((List.map (fun y0=>(UInt8.ofNat (Int.toNat y0))) w),w):=by kernel_rfl
theorem t1t (n:Nat)(s:b0b):i1u (n+1) s =
 a0a (a1z n s) fun r0 =>
 tif (!r0) (
 some (2:Int)) (
 a0a (b1a n s.2.1) fun r1 =>
 tif (!r1) (
 some (2:Int)) (
 tif (!(s.2.2.1=((-1):Int))) (
 a0a (b1a n s.2.2.1) fun r2 =>
 tif (!r2) (
 some (2:Int)) (
 tif (s.2.1<s.2.2.1) (
 some (2:Int)) (
 a0a (b1d n s) fun r3 =>
 a0a (e0i n a0b (s,((wrap .i64 (r3+s.1.2.1.1)),(s.2.2.2,((s.2.2.2.length:Int),(0,())))))) fun r4 =>
 b0g (fun y5 =>
 some (0:Int)) (fun z6 =>
 some z6) r4))) (
 tif (s.2.1<s.2.2.1) (
 some (2:Int)) (
 a0a (b1d n s) fun r7 =>
 a0a (e0i n a0b (s,((wrap .i64 (r7+s.1.2.1.1)),(s.2.2.2,((s.2.2.2.length:Int),(0,())))))) fun r8 =>
 b0g (fun y9 =>
 some (0:Int)) (fun z10 =>
 some z10) r8)))):=by kernel_rfl
theorem u0z (n f:Nat)(s_:b0b)(end_:Int)(s42:(List a0f))(s43:Int)(s44:Int):e0i n (f+1) (s_,end_,s42,s43,s44,()) =
 tif (s44<s43) (
 a0a (at? s42 s44) fun r0 =>
 a0a (u0y n r0) fun r1 =>
 tif (r1) (
 e0i n f (s_,(end_,(s42,(s43,((wrap .i64 (s44+1)),())))))) (
 a0a (b1e n s_.1 r0) fun r2 =>
 tif (!(r2=0)) (
 some (.inr (2:Int))) (
 tif (r0.2.1<0) (
 some (.inr (2:Int))) (
 tif (end_<=r0.2.1) (
 some (.inr (2:Int))) (
 tif (((0:Int)<=s44)&&(s44<=(s_.2.2.2.length:Int))) (
 a0a (e0h n a0b (s_,(end_,(s44,(r0,(s42,(s43,(s44,((((List.length (List.drop 0 (List.take (Int.toNat s44) s_.2.2.2))):Nat):Int),((0:Int),())))))))))) fun r3 =>
 b0g (fun y4 =>
 e0i n f (y4.1,(y4.2.1,(y4.2.2.1,(y4.2.2.2.1,((wrap .i64 (y4.2.2.2.2.1+1)),())))))) (fun z5 =>
 some (.inr z5)) r3) (
 none)))))) (
 some (.inl ())):=by kernel_rfl
theorem u0d (n f:Nat)(s_:b0b)(end_:Int)(i:Int)(x:a0f)(s42:(List a0f))(s43:Int)(s44:Int)(s71:Int)(s72:Int):e0h n (f+1) (s_,end_,i,x,s42,s43,s44,s71,s72,()) =
 tif (s72<s71) (
 a0a (b1c n s_ i) fun r0 =>
 tif (r0) (
 a0a (b1c n s_ s72) fun r1 =>
 tif (r1) (
 a0a (at? s_.2.2.2 s72) fun r2 =>
 a0a (g1r n r2.1 x.1) fun r3 =>
 tif (r3) (
 some (.inr (2:Int))) (
 e0h n f (s_,(end_,(i,(x,(s42,(s43,(s44,(s71,((wrap .i64 (s72+1)),()))))))))))) (
 e0h n f (s_,(end_,(i,(x,(s42,(s43,(s44,(s71,((wrap .i64 (s72+1)),()))))))))))) (
 e0h n f (s_,(end_,(i,(x,(s42,(s43,(s44,(s71,((wrap .i64 (s72+1)),()))))))))))) (
 some (.inl (s_,(end_,(s42,(s43,(s44,()))))))):=by kernel_rfl
theorem e2u (n:Nat)(s:List UInt8)(n_:Int):s0s (n+1) s n_ =
 a0a (o0g n (wrap .i64 (n_-(s.length:Int)))) fun r0 =>
 tif (((List.length s)+(List.length r0))<=9223372036854775807) (
 some (s++r0)) (
 none):=by kernel_rfl
theorem u1d (n:Nat)(c:a0r):v0i (n+1) c =
 a0a (f0q n c) fun r0 =>
 tif (!(r0=0)) (
 some []) (
 a0a (d0b n (4:Int) (wrap .u64 c.1)) fun r1 =>
 a0a (d0b n (8:Int) (wrap .u64 c.2.1.1)) fun r2 =>
 tif (((List.length r1)+(List.length r2))<=9223372036854775807) (
 a0a (d0b n (8:Int) (wrap .u64 c.2.1.2.1)) fun r3 =>
 tif (((List.length (r1++r2))+(List.length r3))<=9223372036854775807) (
 a0a (d0b n (8:Int) (wrap .u64 c.2.1.2.2)) fun r4 =>
 tif (((List.length ((r1++r2)++r3))+(List.length r4))<=9223372036854775807) (
 a0a (d0b n (4:Int) (wrap .u64 c.2.2.1.1)) fun r5 =>
 tif (((List.length (((r1++r2)++r3)++r4))+(List.length r5))<=9223372036854775807) (
 a0a (d0b n (4:Int) (wrap .u64 c.2.2.1.2.1)) fun r6 =>
 tif (((List.length ((((r1++r2)++r3)++r4)++r5))+(List.length r6))<=9223372036854775807) (
 a0a (d0b n (4:Int) (wrap .u64 c.2.2.1.2.2)) fun r7 =>
 tif (((List.length (((((r1++r2)++r3)++r4)++r5)++r6))+(List.length r7))<=9223372036854775807) (
 a0a (d0b n (4:Int) (wrap .u64 c.2.2.2.1)) fun r8 =>
 tif (((List.length ((((((r1++r2)++r3)++r4)++r5)++r6)++r7))+(List.length r8))<=9223372036854775807) (
 a0a (d0b n (4:Int) (wrap .u64 c.2.2.2.2)) fun r9 =>
 tif (((List.length (((((((r1++r2)++r3)++r4)++r5)++r6)++r7)++r8))+(List.length r9))<=9223372036854775807) (
 tif (((List.length ((((((((r1++r2)++r3)++r4)++r5)++r6)++r7)++r8)++r9))+8)<=9223372036854775807) (
 some (((((((((r1++r2)++r3)++r4)++r5)++r6)++r7)++r8)++r9)++((0:UInt8)::((0:UInt8)::((0:UInt8)::((0:UInt8)::((0:UInt8)::((0:UInt8)::((0:UInt8)::((0:UInt8)::[])))))))))) (
 none)) (
 none)) (
 none)) (
 none)) (
 none)) (
 none)) (
 none)) (
 none)) (
 none)):=by kernel_rfl
theorem t1k (n:Nat)(n_:Int):e0y (n+1) n_ =
 a0a (d0b n (8:Int) (wrap .u64 n_)) fun r0 =>
 some r0:=by kernel_rfl
theorem c1s (n:Nat)(c:a0r):e0u (n+1) c =
 a0a (h0o n c.1 (1:Int) (4096:Int)) fun r0 =>
 tif (r0) (
 a0a (h0o n c.2.2.2.1 (1:Int) (65536:Int)) fun r1 =>
 tif (r1) (
 a0a (h0o n c.2.2.2.2 (1:Int) (8192:Int)) fun r2 =>
 tif (r2) (
 a0a (k0j n c.2.1.1 (1:Int) (1099511627776:Int)) fun r3 =>
 tif (r3) (
 a0a (h0o n c.2.2.1.1 (1:Int) (4096:Int)) fun r4 =>
 tif (r4) (
 a0a (k0j n c.2.1.2.1 (1:Int) (1099511627776:Int)) fun r5 =>
 tif (r5) (
 a0a (h0o n c.2.2.1.2.1 (1:Int) (4096:Int)) fun r6 =>
 tif (r6) (
 a0a (k0j n c.2.1.2.2 (1:Int) (1099511627776:Int)) fun r7 =>
 tif (r7) (
 a0a (h0o n c.2.2.1.2.2 (1:Int) (4096:Int)) fun r8 =>
 tif (r8) (
 tif (c.2.1.1=0) (
 none) (
 tif ((Int.tmod c.2.1.2.1 c.2.1.1)=0) (
 tif (c.2.1.1=0) (
 none) (
 tif ((wrap .i64 (Int.tdiv c.2.1.2.1 c.2.1.1))<=c.2.2.1.1) (
 tif (c.2.1.2.1=0) (
 none) (
 tif ((Int.tmod c.2.1.2.2 c.2.1.2.1)=0) (
 tif (c.2.1.2.1=0) (
 none) (
 tif ((wrap .i64 (Int.tdiv c.2.1.2.2 c.2.1.2.1))<=c.2.2.1.2.1) (
 tif (!((wrap .i64 (Int.tdiv c.2.1.2.2 c.2.1.2.1))<=c.2.2.1.2.1)) (
 some (2:Int)) (
 a0a (l0e n c) fun r9 =>
 tif (c.2.2.2.2<=r9) (
 some (2:Int)) (
 some (0:Int)))) (
 tif (!((wrap .i64 (Int.tdiv c.2.1.2.2 c.2.1.2.1))<=c.2.2.1.2.1)) (
 some (2:Int)) (
 a0a (l0e n c) fun r10 =>
 tif (c.2.2.2.2<=r10) (
 some (2:Int)) (
 some (0:Int)))))) (
 some (2:Int)))) (
 tif (!((wrap .i64 (Int.tdiv c.2.1.2.1 c.2.1.1))<=c.2.2.1.1)) (
 some (2:Int)) (
 a0a (l0e n c) fun r11 =>
 tif (c.2.2.2.2<=r11) (
 some (2:Int)) (
 some (0:Int)))))) (
 some (2:Int)))) (
 tif (!r8) (
 some (2:Int)) (
 a0a (l0e n c) fun r12 =>
 tif (c.2.2.2.2<=r12) (
 some (2:Int)) (
 some (0:Int))))) (
 some (2:Int))) (
 some (2:Int))) (
 some (2:Int))) (
 some (2:Int))) (
 some (2:Int))) (
 some (2:Int))) (
 some (2:Int))) (
 some (2:Int)):=by kernel_rfl
theorem l1z (n:Nat)(x:a0f):z0c (n+1) x =
 a0a (e0l n x ([],(0,((0,(0,[])),(([],([],[])),(0,(0,((0,(0,(0,false))),((0,(0,(0,false))),((0,0),(0,(0,0)))))))))))) fun r0 =>
 some r0:=by kernel_rfl
theorem y0n (n:Nat)(x:(List (List UInt8)))(count:Int):m0h (n+1) x count =
 tif (count<0) (
 none) (
 a0a (t0g n (wrap .u64 (x.length:Int)) (wrap .u64 count)) fun r0 =>
 tif ((0:Int)<r0.1) (
 none) (
 tif ((9223372036854775807:Int)<r0.2) (
 none) (
 tif (((0:Int)<=(wrap .i64 r0.2))&&(((wrap .i64 r0.2)<=(wrap .i64 r0.2))&&(((wrap .i64 r0.2)*16)<=140737488355328))) (
 a0a (g0c n a0b ((Go.Flat.putRow (List.replicate (Int.toNat (wrap .i64 r0.2)) ([]:List UInt8)) 0 (List.take (List.length (List.replicate (Int.toNat (wrap .i64 r0.2)) ([]:List UInt8))) x)),((((List.length (List.take (List.length (List.replicate (Int.toNat (wrap .i64 r0.2)) ([]:List UInt8))) x)):Nat):Int),()))) fun r1 =>
 b0g (fun y2 =>
 some y2.1) (fun z3 =>
 some z3) r1) (
 none)))):=by kernel_rfl
theorem k0p (n f:Nat)(newslice:(List (List UInt8)))(n_:Int):g0c n (f+1) (newslice,n_,()) =
 tif (n_<(newslice.length:Int)) (
 tif ((0:Int)<=n_) (
 tif ((Int.toNat n_)<=(List.length newslice)) (
 tif (((0:Int)<=n_)&&(n_<=(newslice.length:Int))) (
 tif (((Int.toNat n_)+((List.length newslice)-(Int.toNat n_)))<=(List.length newslice)) (
 g0c n f ((Go.Flat.putRow newslice (Int.toNat n_) (List.take ((List.length newslice)-(Int.toNat n_)) (List.take ((Int.toNat n_)-0) (List.drop 0 newslice)))),((wrap .i64 (n_+(((List.length (List.take ((List.length newslice)-(Int.toNat n_)) (List.take ((Int.toNat n_)-0) (List.drop 0 newslice)))):Nat):Int))),()))) (
 none)) (
 none)) (
 none)) (
 none)) (
 some (.inl (newslice,()))):=by kernel_rfl
theorem i1j (n:Nat)(c:a0r)(s:a0f):p0d (n+1) c s =
 a0a (y0p n c s) fun r0 =>
 oelim (r0.1) (
 some r0.2) fun r1 =>
 some r0.2:=by kernel_rfl
theorem l1y (n:Nat)(x:a0f):z0b (n+1) x =
 a0a (y0v n x.1) fun r0 =>
 a0a (a0w n [] (2:Int) (wrap .u64 (r0.1.length:Int))) fun r1 =>
 a0a (h0f n r0.1 (320:Int)) fun r2 =>
 a0a (e0v n r1 r2) fun r3 =>
 a0a (o0o n r3 (x.2.1::(x.2.2.1.1::(x.2.2.1.2.1::[])))) fun r4 =>
 a0a (a0w n r4 (2:Int) (wrap .u64 (x.2.2.1.2.2.length:Int))) fun r5 =>
 a0a (j0n n x.2.2.2.2) fun r6 =>
 a0a (e0v n r5 r6) fun r7 =>
 a0a (d0h n r7) fun r8 =>
 a0a (h0f n r8.1 (512:Int)) fun r9 =>
 some (r9,r0.2):=by kernel_rfl
theorem c1l (n:Nat)(out:(List (List UInt8)))(l:(List a0p))(each:Int)(bytes:((a0p×Unit)->Option (List UInt8))):o0p (n+1) out l each bytes =
 a0a (q0o n l each) fun r0 =>
 a0a (f0d n r0 (out,(bytes,()))) fun r1 =>
 some r1.1:=by kernel_rfl
theorem u0k (n:Nat)(x:((List (List UInt8))×(((a0p×Unit)->Option (List UInt8))×Unit))):f0d n [] x=some x:=by kernel_rfl
theorem t0j (n:Nat)(y:((List a0p)×Unit))(r:List ((List a0p)×Unit))(out_:(List (List UInt8)))(bytes_:((a0p×Unit)->Option (List UInt8))):f0d n (y::r) (out_,bytes_,()) =
 a0a (a0a (g0u n a0b (out_,(bytes_,([],(y.1,((y.1.length:Int),(0,()))))))) fun r0 =>
 b0g (fun y1 =>
 a0a (b0r n y1.2.2.1) fun r2 =>
 a0a (h0f n r2.1 (512:Int)) fun r3 =>
 tif ((((List.length y1.1)+1)*16)<=140737488355328) (
 some ((y1.1++(r3::[])),(y1.2.1,()))) (
 none)) (fun z4 =>
 none) r0) fun r5 =>
 f0d n r r5:=by kernel_rfl
theorem m0c (n f:Nat)(out_:(List (List UInt8)))(bytes_:((a0p×Unit)->Option (List UInt8)))(b:List UInt8)(s17:(List a0p))(s18:Int)(s19:Int):g0u n (f+1) (out_,bytes_,b,s17,s18,s19,()) =
 tif (s19<s18) (
 a0a (at? s17 s19) fun r0 =>
 a0a (bytes_ (r0,())) fun r1 =>
 a0a (a0t n b r1) fun r2 =>
 g0u n f (out_,(bytes_,(r2.2.2,(s17,(s18,((wrap .i64 (s19+1)),()))))))) (
 some (.inl (out_,(bytes_,(b,()))))):=by kernel_rfl
theorem l1x (n:Nat)(r:(Int×(Int×(List a0p))))(room:Int):y0y (n+1) r room =
 tif (((0:Int)<=room)&&((room<=room)&&((room*32)<=140737488355328))) (
 a0a (l0n n a0b (room,(r,((List.replicate (Int.toNat room) (0,(0,(0,false)))),(r.2.2,((r.2.2.length:Int),(0,()))))))) fun r0 =>
 b0g (fun y1 =>
 some y1.1) (fun z2 =>
 some z2) r0) (
 none):=by kernel_rfl
theorem r0q (n f:Nat)(room:Int)(r_:(Int×(Int×(List a0p))))(out:(List a0p))(s11:(List a0p))(s12:Int)(s13:Int):l0n n (f+1) (room,r_,out,s11,s12,s13,()) =
 tif (s13<s12) (
 a0a (at? s11 s13) fun r0 =>
 tif (room=0) (
 none) (
 a0a (at? out (Int.tmod (wrap .i64 (r_.1+s13)) room)) fun r1 =>
 a0a ((out)[(Int.toNat (Int.tmod (wrap .i64 (r_.1+s13)) room))]?) fun r2 =>
 l0n n f (room,(r_,((List.set out (Int.toNat (Int.tmod (wrap .i64 (r_.1+s13)) room)) r0),(s11,(s12,((wrap .i64 (s13+1)),())))))))) (
 some (.inl (out,()))):=by kernel_rfl
theorem e1h (n:Nat)(out:(List (List UInt8)))(l:(List a0d))(each:Int)(bytes:((a0d×Unit)->Option (List UInt8))):i0v (n+1) out l each bytes =
 a0a (s0m n l each) fun r0 =>
 a0a (f0s n r0 (out,(bytes,()))) fun r1 =>
 some r1.1:=by kernel_rfl
theorem v0y (n:Nat)(x:((List (List UInt8))×(((a0d×Unit)->Option (List UInt8))×Unit))):f0s n [] x=some x:=by kernel_rfl
theorem u0j (n:Nat)(y:((List a0d)×Unit))(r:List ((List a0d)×Unit))(out_:(List (List UInt8)))(bytes_:((a0d×Unit)->Option (List UInt8))):f0s n (y::r) (out_,bytes_,()) =
 a0a (a0a (h0x n a0b (out_,(bytes_,([],(y.1,((y.1.length:Int),(0,()))))))) fun r0 =>
 b0g (fun y1 =>
 a0a (b0r n y1.2.2.1) fun r2 =>
 a0a (h0f n r2.1 (512:Int)) fun r3 =>
 tif ((((List.length y1.1)+1)*16)<=140737488355328) (
 some ((y1.1++(r3::[])),(y1.2.1,()))) (
 none)) (fun z4 =>
 none) r0) fun r5 =>
 f0s n r r5:=by kernel_rfl
theorem m0t (n f:Nat)(out_:(List (List UInt8)))(bytes_:((a0d×Unit)->Option (List UInt8)))(b:List UInt8)(s17:(List a0d))(s18:Int)(s19:Int):h0x n (f+1) (out_,bytes_,b,s17,s18,s19,()) =
 tif (s19<s18) (
 a0a (at? s17 s19) fun r0 =>
 a0a (bytes_ (r0,())) fun r1 =>
 a0a (a0t n b r1) fun r2 =>
 h0x n f (out_,(bytes_,(r2.2.2,(s17,(s18,((wrap .i64 (s19+1)),()))))))) (
 some (.inl (out_,(bytes_,(b,()))))):=by kernel_rfl
theorem f1k (n:Nat)(c:a0r):f0q (n+1) c =
 tif (c.1<1) (
 some (2:Int)) (
 tif ((4096:Int)<c.1) (
 some (2:Int)) (
 tif (c.2.2.2.1<1) (
 some (2:Int)) (
 tif ((65536:Int)<c.2.2.2.1) (
 some (2:Int)) (
 tif (c.2.2.2.2<1) (
 some (2:Int)) (
 tif ((8192:Int)<c.2.2.2.2) (
 some (2:Int)) (
 tif (c.2.1.1<1) (
 some (2:Int)) (
 tif ((1099511627776:Int)<c.2.1.1) (
 some (2:Int)) (
 tif (c.2.2.1.1<1) (
 some (2:Int)) (
 tif ((4096:Int)<c.2.2.1.1) (
 some (2:Int)) (
 tif (c.2.1.2.1<1) (
 some (2:Int)) (
 tif ((1099511627776:Int)<c.2.1.2.1) (
 some (2:Int)) (
 tif (c.2.2.1.2.1<1) (
 some (2:Int)) (
 tif ((4096:Int)<c.2.2.1.2.1) (
 some (2:Int)) (
 tif (c.2.1.1=0) (
 none) (
 tif (!((Int.tmod c.2.1.2.1 c.2.1.1)=0)) (
 some (2:Int)) (
 tif (c.2.1.1=0) (
 none) (
 tif (c.2.2.1.1<(wrap .i64 (Int.tdiv c.2.1.2.1 c.2.1.1))) (
 some (2:Int)) (
 tif (c.2.1.2.2<1) (
 some (2:Int)) (
 tif ((1099511627776:Int)<c.2.1.2.2) (
 some (2:Int)) (
 tif (c.2.2.1.2.2<1) (
 some (2:Int)) (
 tif ((4096:Int)<c.2.2.1.2.2) (
 some (2:Int)) (
 tif (c.2.1.2.1=0) (
 none) (
 tif (!((Int.tmod c.2.1.2.2 c.2.1.2.1)=0)) (
 some (2:Int)) (
 tif (c.2.1.2.1=0) (
 none) (
 tif (c.2.2.1.2.1<(wrap .i64 (Int.tdiv c.2.1.2.2 c.2.1.2.1))) (
 some (2:Int)) (
 a0a (b1j n c) fun r0 =>
 tif (c.2.2.2.2<=r0) (
 some (2:Int)) (
 some (0:Int)))))))))))))))))))))))))))):=by kernel_rfl
theorem t1r (n:Nat)(s:a0f):u0y (n+1) s =
 a0a (w0y n s ([],(0,((0,(0,[])),(([],([],[])),(0,(0,((0,(0,(0,false))),((0,(0,(0,false))),((0,0),(0,(0,0)))))))))))) fun r0 =>
 some r0:=by kernel_rfl
theorem e2w (n:Nat)(s:List UInt8):o0h (n+1) s =
 a0a (w0t n a0b (s,([],()))) fun r0 =>
 b0g (fun y1 =>
 some y1.1) (fun z2 =>
 some z2) r0:=by kernel_rfl
theorem s0u (n f:Nat)(s:List UInt8)(out:(List (List UInt8))):w0t n (f+1) (s,out,()) =
 tif ((0:Int)<(s.length:Int)) (
 tif (((0:Int)<=(if (512:Int)<(s.length:Int) then (512:Int) else (s.length:Int)))&&((if (512:Int)<(s.length:Int) then (512:Int) else (s.length:Int))<=(s.length:Int))) (
 a0a (s0s n (List.drop 0 (List.take (Int.toNat (if (512:Int)<(s.length:Int) then (512:Int) else (s.length:Int))) s)) (512:Int)) fun r0 =>
 tif ((((List.length out)+1)*16)<=140737488355328) (
 tif ((0:Int)<=(if (512:Int)<(s.length:Int) then (512:Int) else (s.length:Int))) (
 tif ((Int.toNat (if (512:Int)<(s.length:Int) then (512:Int) else (s.length:Int)))<=(List.length s)) (
 w0t n f ((List.drop (Int.toNat (if (512:Int)<(s.length:Int) then (512:Int) else (s.length:Int))) (List.take (List.length s) s)),((out++(r0::[])),()))) (
 none)) (
 none)) (
 none)) (
 none)) (
 some (.inl (out,()))):=by kernel_rfl
theorem l1i (n:Nat)(n_:Int):o0g (n+1) n_ =
 tif (n_<=0) (
 some []) (
 tif (((0:Int)<=n_)&&((n_<=n_)&&((n_*1)<=140737488355328))) (
 some (List.map (fun y0=>(UInt8.ofNat (Int.toNat y0))) (List.replicate (Int.toNat n_) (0:Int)))) (
 none)):=by kernel_rfl
theorem u1c (n:Nat)(c:a0r):v0h (n+1) c =
 a0a (f0q n c) fun r0 =>
 tif (!(r0=0)) (
 some (0:Int)) (
 a0a (b1j n c) fun r1 =>
 some r1):=by kernel_rfl
theorem t1v (n:Nat)(c:a0r)(s:a0f):b1e (n+1) c s =
 a0a (f0q n c) fun r0 =>
 tif (!(r0=0)) (
 some (2:Int)) (
 a0a (v0m n s.1) fun r1 =>
 tif (!(r1=0)) (
 some (2:Int)) (
 a0a (i1y n s.2.2.1 c.1) fun r2 =>
 tif (!(r2=0)) (
 some (2:Int)) (
 a0a (i1v n c s.2.2.2.1) fun r3 =>
 tif (!(r3=0)) (
 some (2:Int)) (
 tif (s.2.1=((-1):Int)) (
 tif ((0:Int)<(s.2.2.1.2.2.length:Int)) (
 some (2:Int)) (
 tif (!((decide (s.2.2.2.2.1=0))&&((decide (s.2.2.2.2.2.1=0))&&((decide (s.2.2.2.2.2.2.1.1=0))&&((decide (s.2.2.2.2.2.2.1.2.1=0))&&((decide (s.2.2.2.2.2.2.1.2.2.1=0))&&((s.2.2.2.2.2.2.1.2.2.2==false)&&((decide (s.2.2.2.2.2.2.2.1.1=0))&&((decide (s.2.2.2.2.2.2.2.1.2.1=0))&&((decide (s.2.2.2.2.2.2.2.1.2.2.1=0))&&((s.2.2.2.2.2.2.2.1.2.2.2==false)&&((decide (s.2.2.2.2.2.2.2.2.1.1=0))&&((decide (s.2.2.2.2.2.2.2.2.1.2=0))&&((decide (s.2.2.2.2.2.2.2.2.2.1=0))&&((decide (s.2.2.2.2.2.2.2.2.2.2.1=0))&&(decide (s.2.2.2.2.2.2.2.2.2.2.2=0))))))))))))))))) (
 some (2:Int)) (
 a0a (g0z n a0b (s,(0,()))) fun r4 =>
 b0g (fun y5 =>
 some (0:Int)) (fun z6 =>
 some z6) r4))) (
 a0a (p1r n s.2.2.1) fun r7 =>
 tif (!(r7.2=0)) (
 some (2:Int)) (
 tif (!(r7.1.1=s.2.1)) (
 some (2:Int)) (
 a0a (g1q n s.2.2.2.2.2 c.2.1.1 s.2.2.2.2.1) fun r8 =>
 tif (!r8) (
 some (2:Int)) (
 tif (!(s.2.2.2.2.2.2.2.1.1=s.2.1)) (
 some (2:Int)) (
 a0a (g0e n a0b (c,(s,(0,())))) fun r9 =>
 b0g (fun y10 =>
 some (0:Int)) (fun z11 =>
 some z11) r9))))))))):=by kernel_rfl
theorem k0e (n f:Nat)(s_:a0f)(k:Int):g0z n (f+1) (s_,k,()) =
 tif (k<3) (
 tif (k=0) (
 a0a (v0c n s_.2.2.2.1.1) fun r0 =>
 tif ((0:Int)<(r0.length:Int)) (
 some (.inr (2:Int))) (
 g0z n f (s_,((wrap .i64 (k+1)),())))) (
 tif (k=1) (
 a0a (v0c n s_.2.2.2.1.2.1) fun r1 =>
 tif ((0:Int)<(r1.length:Int)) (
 some (.inr (2:Int))) (
 g0z n f (s_,((wrap .i64 (k+1)),())))) (
 tif (k=2) (
 a0a (v0c n s_.2.2.2.1.2.2) fun r2 =>
 tif ((0:Int)<(r2.length:Int)) (
 some (.inr (2:Int))) (
 g0z n f (s_,((wrap .i64 (k+1)),())))) (
 none)))) (
 some (.inl ())):=by kernel_rfl
theorem i0z (n f:Nat)(c_:a0r)(s_:a0f)(k_:Int):g0e n (f+1) (c_,s_,k_,()) =
 tif (k_<3) (
 tif (k_=0) (
 a0a (v0c n s_.2.2.2.1.1) fun r0 =>
 a0a (c0k n a0b (c_,(s_,(k_,(r0,((r0.length:Int),(0,()))))))) fun r1 =>
 b0g (fun y2 =>
 g0e n f (y2.1,(y2.2.1,((wrap .i64 (y2.2.2.1+1)),())))) (fun z3 =>
 some (.inr z3)) r1) (
 tif (k_=1) (
 a0a (v0c n s_.2.2.2.1.2.1) fun r4 =>
 a0a (c0k n a0b (c_,(s_,(k_,(r4,((r4.length:Int),(0,()))))))) fun r5 =>
 b0g (fun y6 =>
 g0e n f (y6.1,(y6.2.1,((wrap .i64 (y6.2.2.1+1)),())))) (fun z7 =>
 some (.inr z7)) r5) (
 tif (k_=2) (
 a0a (v0c n s_.2.2.2.1.2.2) fun r8 =>
 a0a (c0k n a0b (c_,(s_,(k_,(r8,((r8.length:Int),(0,()))))))) fun r9 =>
 b0g (fun y10 =>
 g0e n f (y10.1,(y10.2.1,((wrap .i64 (y10.2.2.1+1)),())))) (fun z11 =>
 some (.inr z11)) r9) (
 none)))) (
 some (.inl ())):=by kernel_rfl
theorem e0t (n f:Nat)(c_:a0r)(s_:a0f)(k_:Int)(s106:(List a0d))(s107:Int)(s108:Int):c0k n (f+1) (c_,s_,k_,s106,s107,s108,()) =
 tif (s108<s107) (
 a0a (at? s106 s108) fun r0 =>
 tif (k_=0) (
 tif (c_.2.1.1=0) (
 none) (
 tif ((wrap .i64 (Int.tdiv s_.2.1 c_.2.1.1))<=r0.1) (
 some (.inr (2:Int))) (
 c0k n f (c_,(s_,(k_,(s106,(s107,((wrap .i64 (s108+1)),()))))))))) (
 tif (k_=1) (
 tif (c_.2.1.2.1=0) (
 none) (
 tif ((wrap .i64 (Int.tdiv s_.2.1 c_.2.1.2.1))<=r0.1) (
 some (.inr (2:Int))) (
 c0k n f (c_,(s_,(k_,(s106,(s107,((wrap .i64 (s108+1)),()))))))))) (
 tif (k_=2) (
 tif (c_.2.1.2.2=0) (
 none) (
 tif ((wrap .i64 (Int.tdiv s_.2.1 c_.2.1.2.2))<=r0.1) (
 some (.inr (2:Int))) (
 c0k n f (c_,(s_,(k_,(s106,(s107,((wrap .i64 (s108+1)),()))))))))) (
 none)))) (
 some (.inl (c_,(s_,(k_,()))))):=by kernel_rfl
theorem u1n (n:Nat)(l:(List (List UInt8×List UInt8))):j1c (n+1) l =
 a0a (v0m n l) fun r0 =>
 tif (!(r0=0)) (
 some ([],8)) (
 a0a (j0a n (wrap .u64 (l.length:Int))) fun r1 =>
 a0a (p0o n a0b (r1,(l,((l.length:Int),(0,()))))) fun r2 =>
 b0g (fun y3 =>
 some (y3.1,0)) (fun z4 =>
 some z4) r2):=by kernel_rfl
theorem v0n (n f:Nat)(s:List UInt8)(s14:(List (List UInt8×List UInt8)))(s15:Int)(s16:Int):p0o n (f+1) (s,s14,s15,s16,()) =
 tif (s16<s15) (
 a0a (at? s14 s16) fun r0 =>
 a0a (g1s n r0.1) fun r1 =>
 a0a (g1s n r0.2) fun r2 =>
 tif (((List.length r1)+(List.length r2))<=9223372036854775807) (
 tif (((List.length s)+(List.length (r1++r2)))<=9223372036854775807) (
 p0o n f ((s++(r1++r2)),(s14,(s15,((wrap .i64 (s16+1)),()))))) (
 none)) (
 none)) (
 some (.inl (s,()))):=by kernel_rfl
theorem u1r (n:Nat)(width:Int)(n_:Int):d0b (n+1) width n_ =
 tif (width<1) (
 some []) (
 tif ((8:Int)<width) (
 some []) (
 tif (((0:Int)<=width)&&((width<=width)&&((width*1)<=140737488355328))) (
 a0a (p0q n a0b (width,(n_,((List.replicate (Int.toNat width) (0:Int)),((((List.length (List.replicate (Int.toNat width) (0:Int))):Nat):Int),((0:Int),())))))) fun r0 =>
 b0g (fun y1 =>
 some (List.map (fun y2=>(UInt8.ofNat (Int.toNat y2))) y1.1)) (fun z3 =>
 some z3) r0) (
 none))):=by kernel_rfl
theorem v0o (n f:Nat)(width:Int)(n_:Int)(b:(List Int))(s16:Int)(s17:Int):p0q n (f+1) (width,n_,b,s16,s17,()) =
 tif (s17<s16) (
 a0a (at? b (wrap .i64 ((wrap .i64 (width-1))-s17))) fun r0 =>
 a0a ((b)[(Int.toNat (wrap .i64 ((wrap .i64 (width-1))-s17)))]?) fun r1 =>
 p0q n f (width,((wrap .u64 (Int.tdiv n_ (256:Int))),((List.set b (Int.toNat (wrap .i64 ((wrap .i64 (width-1))-s17))) (wrap .u8 (Int.tmod n_ (256:Int)))),(s16,((wrap .i64 (s17+1)),())))))) (
 some (.inl (b,()))):=by kernel_rfl
theorem l1w (n:Nat)(w:(List Int))(e:a0p):o0m (n+1) w e =
 a0a (o0o n w (e.1::((wrap .i64 e.2.1)::(e.2.2.1::[])))) fun r0 =>
 tif (e.2.2.2) (
 a0a (a0w n r0 (1:Int) (1:Int)) fun r1 =>
 some r1) (
 a0a (a0w n r0 (1:Int) (0:Int)) fun r2 =>
 some r2):=by kernel_rfl
theorem t1g (n:Nat)(e:a0p):u0u (n+1) e =
 a0a (e0y n e.1) fun r0 =>
 a0a (d0b n (8:Int) e.2.1) fun r1 =>
 tif (((List.length r0)+(List.length r1))<=9223372036854775807) (
 a0a (e0y n e.2.2.1) fun r2 =>
 tif (((List.length (r0++r1))+(List.length r2))<=9223372036854775807) (
 tif (e.2.2.2) (
 tif (((List.length ((r0++r1)++r2))+1)<=9223372036854775807) (
 some (((r0++r1)++r2)++((1:UInt8)::[]))) (
 none)) (
 tif (((List.length ((r0++r1)++r2))+1)<=9223372036854775807) (
 some (((r0++r1)++r2)++((0:UInt8)::[]))) (
 none))) (
 none)) (
 none):=by kernel_rfl
theorem f0f (n:Nat)(s:List UInt8):l0g (n+1) s =
 some (s,false):=by kernel_rfl
theorem w0d (n:Nat)(r:(List UInt8×Bool))(width:Int):a0h (n+1) r width =
 tif (width<1) (
 a0a (c0e n r) fun r0 =>
 some ((0:Int),r0)) (
 tif ((8:Int)<width) (
 a0a (c0e n r) fun r1 =>
 some ((0:Int),r1)) (
 a0a (e0a n r width) fun r2 =>
 a0a (c0z n a0b (r2.2,((0:Int),((List.map (fun y3=>(((UInt8.toNat y3):Nat):Int)) r2.1),((((List.length (List.map (fun y4=>(((UInt8.toNat y4):Nat):Int)) r2.1)):Nat):Int),((0:Int),())))))) fun r5 =>
 b0g (fun y6 =>
 some (y6.2.1,y6.1)) (fun z7 =>
 some z7) r5)):=by kernel_rfl
theorem j0q (n f:Nat)(r:(List UInt8×Bool))(n_:Int)(s19:(List Int))(s20:Int)(s21:Int):c0z n (f+1) (r,n_,s19,s20,s21,()) =
 tif (s21<s20) (
 a0a (at? s19 s21) fun r0 =>
 c0z n f (r,((orI .u64 (shlI .u64 n_ (8:Int)) (wrap .u64 r0)),(s19,(s20,((wrap .i64 (s21+1)),())))))) (
 some (.inl (r,(n_,())))):=by kernel_rfl
theorem d0o (n:Nat)(r:(List UInt8×Bool)):j0d (n+1) r =
 some r.2:=by kernel_rfl
theorem i0o (n:Nat)(r:(List UInt8×Bool)):l0f (n+1) r =
 some (r.1.length:Int):=by kernel_rfl
theorem l1v (n:Nat)(l:(List (List UInt8))):y0x (n+1) l =
 tif ((0:Int)<(l.length:Int)) (
 a0a (k0q n l (fun y0=>n0e n y0.1)) fun r1 =>
 some (!r1)) (
 some false):=by kernel_rfl
theorem m0a (n:Nat)(p:b0f):d0z (n+1) p =
 a0a (c0t n p (1:Int) (1:Int)) fun r0 =>
 a0a (l0g n r0.1) fun r1 =>
 a0a (a0h n r1 (2:Int)) fun r2 =>
 tif ((wrap .i64 r2.1)=0) (
 some (([],(0,((0,(0,[])),(([],([],[])),(0,(0,((0,(0,(0,false))),((0,(0,(0,false))),((0,0),(0,(0,0))))))))))),r0.2)) (
 tif ((320:Int)<(wrap .i64 r2.1)) (
 some (([],(0,((0,(0,[])),(([],([],[])),(0,(0,((0,(0,(0,false))),((0,(0,(0,false))),((0,0),(0,(0,0))))))))))),r0.2)) (
 a0a (e0a n r2.2 (320:Int)) fun r3 =>
 tif (((0:Int)<=(wrap .i64 r2.1))&&((wrap .i64 r2.1)<=(r3.1.length:Int))) (
 a0a (c1f n (List.drop 0 (List.take (Int.toNat (wrap .i64 r2.1)) r3.1))) fun r4 =>
 a0a (a0h n r3.2 (8:Int)) fun r5 =>
 a0a (a0h n r5.2 (8:Int)) fun r6 =>
 a0a (a0h n r6.2 (8:Int)) fun r7 =>
 a0a (a0h n r7.2 (2:Int)) fun r8 =>
 a0a (e0a n r8.2 (128:Int)) fun r9 =>
 a0a (l0o n r9.1) fun r10 =>
 a0a (o0n n r0.2 ((wrap .i64 r6.1),((wrap .i64 r7.1),[])) (wrap .i64 r8.1)) fun r11 =>
 a0a (a0x n a0b (r11.2,(([],(0,((0,(0,[])),(([],([],[])),(0,(0,((0,(0,(0,false))),((0,(0,(0,false))),((0,0),(0,(0,0))))))))))),((r4.1,((wrap .i64 r5.1),(r11.1,(([],([],[])),r10)))),(r11.2.1.2.2.1,(0,())))))) fun r12 =>
 b0g (fun y13 =>
 some (y13.2.2.1,y13.1)) (fun z14 =>
 some z14) r12) (
 none))):=by kernel_rfl
theorem d0r (n f:Nat)(p:b0f)(s2:a0f)(x:a0f)(s63:(Int×(Int×Int)))(s64:Int):a0x n (f+1) (p,s2,x,s63,s64,()) =
 tif (s64<3) (
 tif (s64=0) (
 a0a (g0l n p s63.1) fun r0 =>
 tif (s64=0) (
 a0x n f (r0.2,(s2,((x.1,(x.2.1,(x.2.2.1,((r0.1,x.2.2.2.1.2),x.2.2.2.2)))),(s63,((wrap .i64 (s64+1)),())))))) (
 tif (s64=1) (
 a0x n f (r0.2,(s2,((x.1,(x.2.1,(x.2.2.1,((x.2.2.2.1.1,(r0.1,x.2.2.2.1.2.2)),x.2.2.2.2)))),(s63,((wrap .i64 (s64+1)),())))))) (
 tif (s64=2) (
 a0x n f (r0.2,(s2,((x.1,(x.2.1,(x.2.2.1,((x.2.2.2.1.1,(x.2.2.2.1.2.1,r0.1)),x.2.2.2.2)))),(s63,((wrap .i64 (s64+1)),())))))) (
 none)))) (
 tif (s64=1) (
 a0a (g0l n p s63.2.1) fun r1 =>
 tif (s64=0) (
 a0x n f (r1.2,(s2,((x.1,(x.2.1,(x.2.2.1,((r1.1,x.2.2.2.1.2),x.2.2.2.2)))),(s63,((wrap .i64 (s64+1)),())))))) (
 tif (s64=1) (
 a0x n f (r1.2,(s2,((x.1,(x.2.1,(x.2.2.1,((x.2.2.2.1.1,(r1.1,x.2.2.2.1.2.2)),x.2.2.2.2)))),(s63,((wrap .i64 (s64+1)),())))))) (
 tif (s64=2) (
 a0x n f (r1.2,(s2,((x.1,(x.2.1,(x.2.2.1,((x.2.2.2.1.1,(x.2.2.2.1.2.1,r1.1)),x.2.2.2.2)))),(s63,((wrap .i64 (s64+1)),())))))) (
 none)))) (
 tif (s64=2) (
 a0a (g0l n p s63.2.2) fun r2 =>
 tif (s64=0) (
 a0x n f (r2.2,(s2,((x.1,(x.2.1,(x.2.2.1,((r2.1,x.2.2.2.1.2),x.2.2.2.2)))),(s63,((wrap .i64 (s64+1)),())))))) (
 tif (s64=1) (
 a0x n f (r2.2,(s2,((x.1,(x.2.1,(x.2.2.1,((x.2.2.2.1.1,(r2.1,x.2.2.2.1.2.2)),x.2.2.2.2)))),(s63,((wrap .i64 (s64+1)),())))))) (
 tif (s64=2) (
 a0x n f (r2.2,(s2,((x.1,(x.2.1,(x.2.2.1,((x.2.2.2.1.1,(x.2.2.2.1.2.1,r2.1)),x.2.2.2.2)))),(s63,((wrap .i64 (s64+1)),())))))) (
 none)))) (
 none)))) (
 some (.inl (p,(s2,(x,()))))):=by kernel_rfl
theorem a1m (n:Nat)(s1:(List (List UInt8)))(s2:(List (List UInt8))):j0w (n+1) s1 s2 =
 tif (!((s1.length:Int)=(s2.length:Int))) (
 some false) (
 a0a (g0s n a0b (s1,(s2,((s1.length:Int),(0,()))))) fun r0 =>
 b0g (fun y1 =>
 some true) (fun z2 =>
 some z2) r0):=by kernel_rfl
theorem l0u (n f:Nat)(s1:(List (List UInt8)))(s2:(List (List UInt8)))(s12:Int)(s13:Int):g0s n (f+1) (s1,s2,s12,s13,()) =
 tif (s13<s12) (
 a0a (at? s1 s13) fun r0 =>
 a0a (at? s2 s13) fun r1 =>
 tif (!(r0==r1)) (
 some (.inr false)) (
 g0s n f (s1,(s2,(s12,((wrap .i64 (s13+1)),())))))) (
 some (.inl ())):=by kernel_rfl
theorem y1y (n:Nat)(s:List UInt8):b1l (n+1) s =
 a0a (b0t n (s,false) (4:Int)) fun r0 =>
 a0a (b0t n r0.1 (8:Int)) fun r1 =>
 a0a (b0t n r1.1 (8:Int)) fun r2 =>
 a0a (b0t n r2.1 (8:Int)) fun r3 =>
 a0a (b0t n r3.1 (4:Int)) fun r4 =>
 a0a (b0t n r4.1 (4:Int)) fun r5 =>
 a0a (b0t n r5.1 (4:Int)) fun r6 =>
 a0a (b0t n r6.1 (4:Int)) fun r7 =>
 a0a (b0t n r7.1 (4:Int)) fun r8 =>
 a0a (f0q n ((wrap .i64 r0.2),(((wrap .i64 r1.2),((wrap .i64 r2.2),(wrap .i64 r3.2))),(((wrap .i64 r4.2),((wrap .i64 r5.2),(wrap .i64 r6.2))),((wrap .i64 r7.2),(wrap .i64 r8.2)))))) fun r9 =>
 tif (!(r9=0)) (
 some ((0,((0,(0,0)),((0,(0,0)),(0,0)))),4)) (
 a0a (v0i n ((wrap .i64 r0.2),(((wrap .i64 r1.2),((wrap .i64 r2.2),(wrap .i64 r3.2))),(((wrap .i64 r4.2),((wrap .i64 r5.2),(wrap .i64 r6.2))),((wrap .i64 r7.2),(wrap .i64 r8.2)))))) fun r10 =>
 tif (!(r10==s)) (
 some ((0,((0,(0,0)),((0,(0,0)),(0,0)))),4)) (
 some (((wrap .i64 r0.2),(((wrap .i64 r1.2),((wrap .i64 r2.2),(wrap .i64 r3.2))),(((wrap .i64 r4.2),((wrap .i64 r5.2),(wrap .i64 r6.2))),((wrap .i64 r7.2),(wrap .i64 r8.2))))),0))):=by kernel_rfl
theorem p1o (n:Nat)(s:List UInt8)(at_:Int):c0y (n+1) s at_ =
 tif ((0:Int)<=at_) (
 tif ((Int.toNat at_)<=(List.length s)) (
 a0a (b0t n ((List.drop (Int.toNat at_) (List.take (List.length s) s)),false) (8:Int)) fun r0 =>
 some (wrap .i64 r0.2)) (
 none)) (
 none):=by kernel_rfl
theorem y1o (n:Nat)(a:a0f)(b:a0f):w0y (n+1) a b =
 a0a (g1r n a.1 b.1) fun r0 =>
 tif (r0) (
 tif (a.2.1=b.2.1) (
 a0a (b2x n a.2.2.1 b.2.2.1) fun r1 =>
 tif (r1) (
 a0a (b2v n a.2.2.2.1 b.2.2.2.1) fun r2 =>
 tif (r2) (
 some ((decide (a.2.2.2.2.1=b.2.2.2.2.1))&&((decide (a.2.2.2.2.2.1=b.2.2.2.2.2.1))&&((decide (a.2.2.2.2.2.2.1.1=b.2.2.2.2.2.2.1.1))&&((decide (a.2.2.2.2.2.2.1.2.1=b.2.2.2.2.2.2.1.2.1))&&((decide (a.2.2.2.2.2.2.1.2.2.1=b.2.2.2.2.2.2.1.2.2.1))&&((a.2.2.2.2.2.2.1.2.2.2==b.2.2.2.2.2.2.1.2.2.2)&&((decide (a.2.2.2.2.2.2.2.1.1=b.2.2.2.2.2.2.2.1.1))&&((decide (a.2.2.2.2.2.2.2.1.2.1=b.2.2.2.2.2.2.2.1.2.1))&&((decide (a.2.2.2.2.2.2.2.1.2.2.1=b.2.2.2.2.2.2.2.1.2.2.1))&&((a.2.2.2.2.2.2.2.1.2.2.2==b.2.2.2.2.2.2.2.1.2.2.2)&&((decide (a.2.2.2.2.2.2.2.2.1.1=b.2.2.2.2.2.2.2.2.1.1))&&((decide (a.2.2.2.2.2.2.2.2.1.2=b.2.2.2.2.2.2.2.2.1.2))&&((decide (a.2.2.2.2.2.2.2.2.2.1=b.2.2.2.2.2.2.2.2.2.1))&&((decide (a.2.2.2.2.2.2.2.2.2.2.1=b.2.2.2.2.2.2.2.2.2.2.1))&&(decide (a.2.2.2.2.2.2.2.2.2.2.2=b.2.2.2.2.2.2.2.2.2.2.2))))))))))))))))) (
 some false)) (
 some false)) (
 some false)) (
 some false):=by kernel_rfl
theorem x1p (n:Nat)(s:b0b):p1a (n+1) s =
 a0a (e0u n s.1) fun r0 =>
 tif (!(r0=0)) (
 some (((0,((0,(0,0)),((0,(0,0)),(0,0)))),(0,(0,[]))),2)) (
 tif (!((s.2.2.2.length:Int)=s.1.2.2.2.1)) (
 some (((0,((0,(0,0)),((0,(0,0)),(0,0)))),(0,(0,[]))),2)) (
 some (s,0))):=by kernel_rfl
theorem d1h (n:Nat)(v:b0b):q0h (n+1) v =
 a0a (g1l n v.2.1) fun r0 =>
 tif (r0) (
 tif (v.2.2.1=((-1):Int)) (
 some (decide (v.2.2.1<=v.2.1))) (
 a0a (g1l n v.2.2.1) fun r1 =>
 tif (r1) (
 some (decide (v.2.2.1<=v.2.1))) (
 some false))) (
 some false):=by kernel_rfl
theorem d1f (n:Nat)(v:b0b)(is:((Int×Unit)->Option Bool)):i0r (n+1) v is =
 a0a (d0k n a0b (is,((v.2.2.2.length:Int),(0,())))) fun r0 =>
 b0g (fun y1 =>
 some ((-1):Int)) (fun z2 =>
 some z2) r0:=by kernel_rfl
theorem m0n (n f:Nat)(is:((Int×Unit)->Option Bool))(s9:Int)(s10:Int):d0k n (f+1) (is,s9,s10,()) =
 tif (s10<s9) (
 a0a (is (s10,())) fun r0 =>
 tif (r0) (
 some (.inr s10)) (
 d0k n f (is,(s9,((wrap .i64 (s10+1)),()))))) (
 some (.inl ())):=by kernel_rfl
theorem l1d (n:Nat)(i:Int)(p1:b0b):g0a (n+1) i p1 =
 a0a (q0g n p1 i) fun r0 =>
 some (!r0):=by kernel_rfl
theorem d1e (n:Nat)(v:b0b)(i:Int):q0g (n+1) v i =
 a0a (at? v.2.2.2 i) fun r0 =>
 a0a (a1b n r0) fun r1 =>
 tif (r1) (
 some true) (
 a0a (p0d n v.1 r0) fun r2 =>
 tif (r2=0) (
 tif ((0:Int)<=r0.2.1) (
 a0a (s0h n v) fun r3 =>
 tif (r0.2.1<(wrap .i64 (r3+v.1.2.1.1))) (
 a0a (s0g n v i) fun r4 =>
 some (!r4)) (
 some false)) (
 some false)) (
 some false)):=by kernel_rfl
theorem g0h (n:Nat)(s1:(List a0f))(s2:(List a0f))(eq:((a0f×(a0f×Unit))->Option Bool)):d0t (n+1) s1 s2 eq =
 tif (!((s1.length:Int)=(s2.length:Int))) (
 some false) (
 a0a (b0m n a0b (s2,(eq,(s1,((s1.length:Int),(0,())))))) fun r0 =>
 b0g (fun y1 =>
 some true) (fun z2 =>
 some z2) r0):=by kernel_rfl
theorem c0w (n f:Nat)(s2:(List a0f))(eq:((a0f×(a0f×Unit))->Option Bool))(s15:(List a0f))(s16:Int)(s17:Int):b0m n (f+1) (s2,eq,s15,s16,s17,()) =
 tif (s17<s16) (
 a0a (at? s15 s17) fun r0 =>
 a0a (at? s2 s17) fun r1 =>
 a0a (eq (r0,(r1,()))) fun r2 =>
 tif (!r2) (
 some (.inr false)) (
 b0m n f (s2,(eq,(s15,(s16,((wrap .i64 (s17+1)),()))))))) (
 some (.inl ())):=by kernel_rfl
theorem l1f (n:Nat)(a:a0f)(b:a0f):e0l (n+1) a b =
 a0a (x0f n a.1 b.1) fun r0 =>
 tif (r0) (
 tif (a.2.1=b.2.1) (
 a0a (b2t n a.2.2.1 b.2.2.1) fun r1 =>
 tif (r1) (
 tif ((decide (a.2.2.2.2.1=b.2.2.2.2.1))&&((decide (a.2.2.2.2.2.1=b.2.2.2.2.2.1))&&((decide (a.2.2.2.2.2.2.1.1=b.2.2.2.2.2.2.1.1))&&((decide (a.2.2.2.2.2.2.1.2.1=b.2.2.2.2.2.2.1.2.1))&&((decide (a.2.2.2.2.2.2.1.2.2.1=b.2.2.2.2.2.2.1.2.2.1))&&((a.2.2.2.2.2.2.1.2.2.2==b.2.2.2.2.2.2.1.2.2.2)&&((decide (a.2.2.2.2.2.2.2.1.1=b.2.2.2.2.2.2.2.1.1))&&((decide (a.2.2.2.2.2.2.2.1.2.1=b.2.2.2.2.2.2.2.1.2.1))&&((decide (a.2.2.2.2.2.2.2.1.2.2.1=b.2.2.2.2.2.2.2.1.2.2.1))&&((a.2.2.2.2.2.2.2.1.2.2.2==b.2.2.2.2.2.2.2.1.2.2.2)&&((decide (a.2.2.2.2.2.2.2.2.1.1=b.2.2.2.2.2.2.2.2.1.1))&&((decide (a.2.2.2.2.2.2.2.2.1.2=b.2.2.2.2.2.2.2.2.1.2))&&((decide (a.2.2.2.2.2.2.2.2.2.1=b.2.2.2.2.2.2.2.2.2.1))&&((decide (a.2.2.2.2.2.2.2.2.2.2.1=b.2.2.2.2.2.2.2.2.2.2.1))&&(decide (a.2.2.2.2.2.2.2.2.2.2.2=b.2.2.2.2.2.2.2.2.2.2.2)))))))))))))))) (
 a0a (j0x n a.2.2.2.1.1 b.2.2.2.1.1) fun r2 =>
 tif (r2) (
 a0a (j0x n a.2.2.2.1.2.1 b.2.2.2.1.2.1) fun r3 =>
 tif (r3) (
 a0a (j0x n a.2.2.2.1.2.2 b.2.2.2.1.2.2) fun r4 =>
 some r4) (
 some false)) (
 some false)) (
 some false)) (
 some false)) (
 some false)) (
 some false):=by kernel_rfl
theorem c1e (n:Nat)(a:(List (List UInt8×List UInt8)))(b:(List (List UInt8×List UInt8))):x0f (n+1) a b =
 a0a (q0k n a b) fun r0 =>
 some r0:=by kernel_rfl
theorem d1g (n:Nat)(v:b0b)(i:Int):l0k (n+1) v i =
 a0a (at? v.2.2.2 i) fun r0 =>
 a0a (a1b n r0) fun r1 =>
 tif (!r1) (
 tif (v.2.2.1=((-1):Int)) (
 some true) (
 a0a (y0q n v.1 r0.2.1 v.2.2.1) fun r2 =>
 some (!r2))) (
 some false):=by kernel_rfl
theorem r1m (n:Nat)(c:a0r):l0e (n+1) c =
 a0a (n0o n c.1 (16:Int)) fun r0 =>
 a0a (n0o n c.2.2.1.1 (4:Int)) fun r1 =>
 a0a (n0o n c.2.2.1.2.1 (4:Int)) fun r2 =>
 a0a (n0o n c.2.2.1.2.2 (4:Int)) fun r3 =>
 some (wrap .i64 ((wrap .i64 ((wrap .i64 ((wrap .i64 ((1:Int)+r0))+r1))+r2))+r3)):=by kernel_rfl
theorem w0c (n:Nat)(w:(List Int))(width:Int)(n_:Int):a0w (n+1) w width n_ =
 tif (width<1) (
 some w) (
 tif ((8:Int)<width) (
 some w) (
 a0a (f0e n a0b (w,(n_,((wrap .i64 ((8:Int)*(wrap .i64 (width-1)))),())))) fun r0 =>
 b0g (fun y1 =>
 some y1.1) (fun z2 =>
 some z2) r0)):=by kernel_rfl
theorem j0p (n f:Nat)(w:(List Int))(n_:Int)(up:Int):f0e n (f+1) (w,n_,up,()) =
 tif ((0:Int)<=up) (
 tif (up<0) (
 none) (
 tif ((((List.length w)+1)*1)<=140737488355328) (
 f0e n f ((w++((wrap .u8 (shrI .u64 n_ up))::[])),(n_,((wrap .i64 (up-8)),())))) (
 none))) (
 some (.inl (w,()))):=by kernel_rfl
end Go.Proofs.YtagnkfbpgkckiaaGreat
