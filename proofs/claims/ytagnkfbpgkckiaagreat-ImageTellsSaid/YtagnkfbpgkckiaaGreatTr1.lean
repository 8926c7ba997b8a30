/- Trees, printed by program. -/
import Derived.Test.YtagnkfbpgkckiaaGreatTr0
import Derived.KernelRfl
set_option linter.unusedVariables false
namespace Go.Proofs.YtagnkfbpgkckiaaGreat
open Go.Flat
theorem a1x (n:Nat) (s:b0f) (e:a0j) (o:a0d):v0q (n+1) s e o =
 a0a (z0d n s) fun r0 =>
 tif ((decide (r0=0))) (
 a0a (t0q n ) fun r1 =>
 some r1) (
 a0a (g1c n s.1) fun r2 =>
 tif ((!r2)) (
 a0a (t0q n ) fun r3 =>
 some r3) (
 a0a (n0m n s) fun r4 =>
 a0a (v1e n s) fun r5 =>
 a0a (n0k n s) fun r6 =>
 a0a (x0x n s) fun r7 =>
 a0a (d1g n r4.1 r5.1) fun r8 =>
 tif ((!r8)) (
 some false) (
 tif ((!(decide (r4.2=r5.2)))) (
 some false) (
 tif ((!(r6.1==r7.1))) (
 some false) (
 tif ((!(decide (r6.2=r7.2)))) (
 some false) (
 a0a (g0e n a0b (s,(e,(o,(s.2.2.2,((((List.length s.2.2.2):Nat):Int),(0,()))))))) fun r9 =>
 b0m (fun y10 =>
 a0a (t0q n ) fun r11 =>
 tif (r11) (
 a0a (j0z n y10.1) fun r12 =>
 a0a (x0z n y10.1) fun r13 =>
 tif ((r12==r13)) (
 a0a (g0z n y10.2.1) fun r14 =>
 a0a (x0y n y10.2.1) fun r15 =>
 some (r14==r15)) (
 some false)) (
 some false)) (fun z16 =>
 some z16) r9)))))):=by kernel_rfl
theorem k0u (n f:Nat) (s_:b0f) (e_:a0j) (o_:a0d) (s71:(List a0l)) (s72:Int) (s73:Int):g0e n (f+1) (s_,e_,o_,s71,s72,s73,()) =
 tif ((decide (s73<s72))) (
 a0a (at? s71 s73) fun r0 =>
 a0a (i0h n s_.1 r0) fun r1 =>
 a0a (p0m n s_.1 r0) fun r2 =>
 a0a (d1g n r1.1 r2.1) fun r3 =>
 tif ((!r3)) (
 some (.inr false)) (
 tif ((!(decide (r1.2=r2.2)))) (
 some (.inr false)) (
 g0e n f (s_,(e_,(o_,(s71,(s72,((IntKind.wrap .i64 (s73+1)),()))))))))) (
 some (.inl (e_,(o_,())))):=by kernel_rfl
theorem s1h (n:Nat) (s:b0f):z0d (n+1) s =
 tif ((decide ((8:Int)<(((List.length s.2.2.2):Nat):Int)))) (
 some (0:Int)) (
 a0a (k0v n a0b (s.2.2.2,((((List.length s.2.2.2):Nat):Int),(0,())))) fun r0 =>
 b0m (fun y1 =>
 some (1:Int)) (fun z2 =>
 some z2) r0):=by kernel_rfl
theorem t0r (n f:Nat) (s10:(List a0l)) (s11:Int) (s12:Int):k0v n (f+1) (s10,s11,s12,()) =
 tif ((decide (s12<s11))) (
 a0a (at? s10 s12) fun r0 =>
 a0a (z0e n r0) fun r1 =>
 tif ((decide (r1=0))) (
 some (.inr (0:Int))) (
 k0v n f (s10,(s11,((IntKind.wrap .i64 (s12+1)),()))))) (
 some (.inl ())):=by kernel_rfl
theorem s1g (n:Nat) (c:a0z):g1c (n+1) c =
 tif ((decide (c.2.2.2.1≤8))) (
 tif ((decide (c.1≤64))) (
 tif ((decide (c.2.2.1.1≤40))) (
 tif ((decide (c.2.2.1.2.1≤40))) (
 some (decide (c.2.2.1.2.2≤40))) (
 some false)) (
 some false)) (
 some false)) (
 some false):=by kernel_rfl
theorem s1r (n:Nat) (s:b0f):n0m (n+1) s =
 a0a (n0k n s) fun r0 =>
 a0a (o0l n a0b (s,(r0.2,((r0.1::[]),(0,()))))) fun r1 =>
 b0m (fun y2 =>
 tif ((!(decide (y2.1=0)))) (
 some ([],y2.1)) (
 some (y2.2.1,0))) (fun z3 =>
 some z3) r1:=by kernel_rfl
theorem n0l (n f:Nat) (s_:b0f) (why:Int) (out:(List (List UInt8))) (i:Int):o0l n (f+1) (s_,why,out,i,()) =
 tif ((decide (why=0))) (
 tif ((decide (i<(((List.length s_.2.2.2):Nat):Int)))) (
 a0a (at? s_.2.2.2 i) fun r0 =>
 a0a (i0h n s_.1 r0) fun r1 =>
 tif ((decide ((((List.length out)+(List.length r1.1))*16)≤140737488355328))) (
 o0l n f (s_,(r1.2,((out++r1.1),((IntKind.wrap .i64 (i+1)),()))))) (
 none)) (
 some (.inl (why,(out,()))))) (
 some (.inl (why,(out,())))):=by kernel_rfl
theorem a2w (n:Nat) (s:b0f):v1e (n+1) s =
 a0a (x0x n s) fun r0 =>
 tif ((!(decide (r0.2=0)))) (
 some ([],r0.2)) (
 a0a (u0o n a0b (s,((r0.1::[]),(s.2.2.2,((((List.length s.2.2.2):Nat):Int),(0,())))))) fun r1 =>
 b0m (fun y2 =>
 some (y2.1,0)) (fun z3 =>
 some z3) r1):=by kernel_rfl
theorem y0a (n f:Nat) (s_:b0f) (out:(List (List UInt8))) (s22:(List a0l)) (s23:Int) (s24:Int):u0o n (f+1) (s_,out,s22,s23,s24,()) =
 tif ((decide (s24<s23))) (
 a0a (at? s22 s24) fun r0 =>
 a0a (p0m n s_.1 r0) fun r1 =>
 tif ((!(decide (r1.2=0)))) (
 some (.inr ([],r1.2))) (
 tif ((decide ((((List.length out)+(List.length r1.1))*16)≤140737488355328))) (
 u0o n f (s_,((out++r1.1),(s22,(s23,((IntKind.wrap .i64 (s24+1)),())))))) (
 none))) (
 some (.inl (out,()))):=by kernel_rfl
theorem i1z (n:Nat) (s:b0f):n0k (n+1) s =
 a0a (x0i n s) fun r0 =>
 tif ((!(decide (r0=0)))) (
 some ([],r0)) (
 a0a (b1h n s.1) fun r1 =>
 tif ((decide ((8+(List.length r1))≤9223372036854775807))) (
 a0a (e0l n [] (((112:UInt8)::((108:UInt8)::((105:UInt8)::((109:UInt8)::((115:UInt8)::((111:UInt8)::((108:UInt8)::((108:UInt8)::[]))))))))++r1)) fun r2 =>
 a0a (n0i n r2 (s.2.1::((IntKind.wrap .i64 (s.2.2.1+1))::[]))) fun r3 =>
 a0a (c0z n r3) fun r4 =>
 a0a (g0o n r4.1 (512:Int)) fun r5 =>
 some (r5,0)) (
 none)):=by kernel_rfl
theorem q1i (n:Nat) (s:b0f):x0x (n+1) s =
 a0a (f1b n s) fun r0 =>
 tif ((!(decide (r0=0)))) (
 some ([],2)) (
 a0a (f1h n s.1) fun r1 =>
 tif ((decide ((8+(List.length r1))≤9223372036854775807))) (
 a0a (e0o n s.2.1) fun r2 =>
 tif ((decide (((List.length (((112:UInt8)::((108:UInt8)::((105:UInt8)::((109:UInt8)::((115:UInt8)::((111:UInt8)::((108:UInt8)::((108:UInt8)::[]))))))))++r1))+(List.length r2))≤9223372036854775807))) (
 a0a (e0o n (IntKind.wrap .i64 (s.2.2.1+1))) fun r3 =>
 tif ((decide (((List.length ((((112:UInt8)::((108:UInt8)::((105:UInt8)::((109:UInt8)::((115:UInt8)::((111:UInt8)::((108:UInt8)::((108:UInt8)::[]))))))))++r1)++r2))+(List.length r3))≤9223372036854775807))) (
 a0a (q0y n (((((112:UInt8)::((108:UInt8)::((105:UInt8)::((109:UInt8)::((115:UInt8)::((111:UInt8)::((108:UInt8)::((108:UInt8)::[]))))))))++r1)++r2)++r3) (512:Int)) fun r4 =>
 some (r4,0)) (
 none)) (
 none)) (
 none)):=by kernel_rfl
theorem v1d (n:Nat) (a:(List (List UInt8))) (b:(List (List UInt8))):d1g (n+1) a b =
 tif ((!(decide ((((List.length a):Nat):Int)=(((List.length b):Nat):Int))))) (
 some false) (
 a0a (r0b n a0b (a,(b,((((List.length a):Nat):Int),(0,()))))) fun r0 =>
 b0m (fun y1 =>
 some true) (fun z2 =>
 some z2) r0):=by kernel_rfl
theorem v0n (n f:Nat) (a:(List (List UInt8))) (b:(List (List UInt8))) (s12:Int) (s13:Int):r0b n (f+1) (a,b,s12,s13,()) =
 tif ((decide (s13<s12))) (
 a0a (at? a s13) fun r0 =>
 a0a (at? b s13) fun r1 =>
 tif ((!(r0==r1))) (
 some (.inr false)) (
 r0b n f (a,(b,(s12,((IntKind.wrap .i64 (s13+1)),())))))) (
 some (.inl ())):=by kernel_rfl
theorem v0s (n:Nat) (c:a0z) (x:a0l):i0h (n+1) c x =
 a0a (e0k n c) fun r0 =>
 tif ((!(decide (r0=0)))) (
 some ([],2)) (
 a0a (w0m n x) fun r1 =>
 tif (r1) (
 a0a (g0o n [] (512:Int)) fun r2 =>
 a0a (q0c n c) fun r3 =>
 a0a (l0d n (r2::[]) r3) fun r4 =>
 some (r4,0)) (
 a0a (n0y n c x) fun r5 =>
 tif ((!(decide (r5=0)))) (
 some ([],2)) (
 a0a (w0l n x) fun r6 =>
 tif ((!(decide (r6.2=0)))) (
 some ([],r6.2)) (
 a0a (w0i n x.2.2.1 c.1) fun r7 =>
 a0a (n0j n (r6.1::[]) r7 (16:Int) (fun y8=>j0z n y8.1)) fun r9 =>
 a0a (f0f n a0b (r9,(x.2.2.2.1,(0,())))) fun r10 =>
 b0m (fun y11 =>
 some (y11.1,0)) (fun z12 =>
 some z12) r10)))):=by kernel_rfl
theorem g0g (n f:Nat) (out:(List (List UInt8))) (s45:((List a0d)×((List a0d)×(List a0d)))) (s46:Int):f0f n (f+1) (out,s45,s46,()) =
 tif ((decide (s46<3))) (
 tif ((decide (s46=0))) (
 a0a (h0y n out s45.1 (4:Int) (fun y0=>g0z n y0.1)) fun r1 =>
 f0f n f (r1,(s45,((IntKind.wrap .i64 (s46+1)),())))) (
 tif ((decide (s46=1))) (
 a0a (h0y n out s45.2.1 (4:Int) (fun y2=>g0z n y2.1)) fun r3 =>
 f0f n f (r3,(s45,((IntKind.wrap .i64 (s46+1)),())))) (
 tif ((decide (s46=2))) (
 a0a (h0y n out s45.2.2 (4:Int) (fun y4=>g0z n y4.1)) fun r5 =>
 f0f n f (r5,(s45,((IntKind.wrap .i64 (s46+1)),())))) (
 none)))) (
 some (.inl (out,()))):=by kernel_rfl
theorem b1z (n:Nat) (c:a0z) (x:a0l):p0m (n+1) c x =
 a0a (g0l n c) fun r0 =>
 tif ((!(decide (r0=0)))) (
 some ([],2)) (
 a0a (s0x n x) fun r1 =>
 tif (r1) (
 a0a (f1g n c) fun r2 =>
 a0a (m0w n (IntKind.wrap .i64 ((512:Int)*r2))) fun r3 =>
 a0a (m0x n r3) fun r4 =>
 some (r4,0)) (
 a0a (y0i n c x) fun r5 =>
 tif ((!(decide (r5=0)))) (
 some ([],2)) (
 a0a (f1k n x.1) fun r6 =>
 a0a (c0r n (2:Int) (IntKind.wrap .u64 (((List.length r6.1):Nat):Int))) fun r7 =>
 tif ((decide (((List.length r7)+(List.length r6.1))≤9223372036854775807))) (
 a0a (q0y n (r7++r6.1) (322:Int)) fun r8 =>
 a0a (e0o n x.2.1) fun r9 =>
 tif ((decide (((List.length r8)+(List.length r9))≤9223372036854775807))) (
 a0a (e0o n x.2.2.1.1) fun r10 =>
 tif ((decide (((List.length (r8++r9))+(List.length r10))≤9223372036854775807))) (
 a0a (e0o n x.2.2.1.2.1) fun r11 =>
 tif ((decide (((List.length ((r8++r9)++r10))+(List.length r11))≤9223372036854775807))) (
 a0a (c0r n (2:Int) (IntKind.wrap .u64 (((List.length x.2.2.1.2.2):Nat):Int))) fun r12 =>
 tif ((decide (((List.length (((r8++r9)++r10)++r11))+(List.length r12))≤9223372036854775807))) (
 a0a (x0y n x.2.2.2.2) fun r13 =>
 tif ((decide (((List.length ((((r8++r9)++r10)++r11)++r12))+(List.length r13))≤9223372036854775807))) (
 a0a (q0y n (((((r8++r9)++r10)++r11)++r12)++r13) (512:Int)) fun r14 =>
 a0a (m0x n r14) fun r15 =>
 a0a (j0c n a0b (c,(x,(r15,([],(0,())))))) fun r16 =>
 b0m (fun y17 =>
 a0a (m0x n y17.2.2.1) fun r18 =>
 tif ((decide ((((List.length y17.2.1)+(List.length r18))*16)≤140737488355328))) (
 a0a (e0p n a0b (y17.1,((y17.2.1++r18),(0,())))) fun r19 =>
 b0m (fun y20 =>
 some (y20.1,0)) (fun z21 =>
 some z21) r19) (
 none)) (fun z22 =>
 some z22) r16) (
 none)) (
 none)) (
 none)) (
 none)) (
 none)) (
 none)))):=by kernel_rfl
theorem s0c (n f:Nat) (c_:a0z) (x_:a0l) (out:(List (List UInt8))) (raw:List UInt8) (i:Int):j0c n (f+1) (c_,x_,out,raw,i,()) =
 tif ((decide (i<c_.1))) (
 a0a (m0w n (32:Int)) fun r0 =>
 a0a (j0b n a0b (c_,(x_,(out,(raw,(i,(r0,(x_.2.2.1.2.2,((((List.length x_.2.2.1.2.2):Nat):Int),(0,())))))))))) fun r1 =>
 b0m (fun y2 =>
 tif ((decide (((List.length y2.2.2.2.1)+(List.length y2.2.2.2.2.2.1))≤9223372036854775807))) (
 j0c n f (y2.1,(y2.2.1,(y2.2.2.1,((y2.2.2.2.1++y2.2.2.2.2.2.1),((IntKind.wrap .i64 (y2.2.2.2.2.1+1)),())))))) (
 none)) (fun z3 =>
 some (.inr z3)) r1) (
 some (.inl (x_,(out,(raw,()))))):=by kernel_rfl
theorem i0c (n f:Nat) (x_:a0l) (out:(List (List UInt8))) (k_:Int):e0p n (f+1) (x_,out,k_,()) =
 tif ((decide (k_<3))) (
 tif ((decide (k_=0))) (
 a0a (d0w n a0b (x_,(out,(k_,([],(x_.2.2.2.1.1,((((List.length x_.2.2.2.1.1):Nat):Int),(0,())))))))) fun r0 =>
 b0m (fun y1 =>
 a0a (m0x n y1.2.2.2.1) fun r2 =>
 tif ((decide ((((List.length y1.2.1)+(List.length r2))*16)≤140737488355328))) (
 e0p n f (y1.1,((y1.2.1++r2),((IntKind.wrap .i64 (y1.2.2.1+1)),())))) (
 none)) (fun z3 =>
 some (.inr z3)) r0) (
 tif ((decide (k_=1))) (
 a0a (d0w n a0b (x_,(out,(k_,([],(x_.2.2.2.1.2.1,((((List.length x_.2.2.2.1.2.1):Nat):Int),(0,())))))))) fun r4 =>
 b0m (fun y5 =>
 a0a (m0x n y5.2.2.2.1) fun r6 =>
 tif ((decide ((((List.length y5.2.1)+(List.length r6))*16)≤140737488355328))) (
 e0p n f (y5.1,((y5.2.1++r6),((IntKind.wrap .i64 (y5.2.2.1+1)),())))) (
 none)) (fun z7 =>
 some (.inr z7)) r4) (
 tif ((decide (k_=2))) (
 a0a (d0w n a0b (x_,(out,(k_,([],(x_.2.2.2.1.2.2,((((List.length x_.2.2.2.1.2.2):Nat):Int),(0,())))))))) fun r8 =>
 b0m (fun y9 =>
 a0a (m0x n y9.2.2.2.1) fun r10 =>
 tif ((decide ((((List.length y9.2.1)+(List.length r10))*16)≤140737488355328))) (
 e0p n f (y9.1,((y9.2.1++r10),((IntKind.wrap .i64 (y9.2.2.1+1)),())))) (
 none)) (fun z11 =>
 some (.inr z11)) r8) (
 none)))) (
 some (.inl (out,()))):=by kernel_rfl
theorem s0b (n f:Nat) (c_:a0z) (x_:a0l) (out:(List (List UInt8))) (raw:List UInt8) (i:Int) (e:List UInt8) (s83:(List a0j)) (s84:Int) (s85:Int):j0b n (f+1) (c_,x_,out,raw,i,e,s83,s84,s85,()) =
 tif ((decide (s85<s84))) (
 a0a (at? s83 s85) fun r0 =>
 tif ((decide (c_.1=0))) (
 none) (
 tif ((decide ((Int.tmod (IntKind.wrap .i64 (x_.2.2.1.1+s85)) c_.1)=i))) (
 a0a (x0z n r0) fun r1 =>
 j0b n f (c_,(x_,(out,(raw,(i,(r1,(s83,(s84,((IntKind.wrap .i64 (s85+1)),())))))))))) (
 j0b n f (c_,(x_,(out,(raw,(i,(e,(s83,(s84,((IntKind.wrap .i64 (s85+1)),())))))))))))) (
 some (.inl (c_,(x_,(out,(raw,(i,(e,())))))))):=by kernel_rfl
theorem s0a (n f:Nat) (x_:a0l) (out:(List (List UInt8))) (k_:Int) (t:List UInt8) (s117:(List a0d)) (s118:Int) (s119:Int):d0w n (f+1) (x_,out,k_,t,s117,s118,s119,()) =
 tif ((decide (s119<s118))) (
 a0a (at? s117 s119) fun r0 =>
 a0a (x0y n r0) fun r1 =>
 tif ((decide (((List.length t)+(List.length r1))≤9223372036854775807))) (
 d0w n f (x_,(out,(k_,((t++r1),(s117,(s118,((IntKind.wrap .i64 (s119+1)),())))))))) (
 none)) (
 some (.inl (x_,(out,(k_,(t,())))))):=by kernel_rfl
theorem j1a (n:Nat) (e:a0j):j0z (n+1) e =
 a0a (n0g n [] e) fun r0 =>
 a0a (c0z n r0) fun r1 =>
 a0a (g0o n r1.1 (32:Int)) fun r2 =>
 some r2:=by kernel_rfl
theorem q1j (n:Nat) (e:a0j):x0z (n+1) e =
 a0a (s0v n e) fun r0 =>
 a0a (q0y n r0 (32:Int)) fun r1 =>
 some r1:=by kernel_rfl
theorem n1o (n:Nat) (s:a0d):g0z (n+1) s =
 a0a (n0i n [] (s.1::(s.2.1::[]))) fun r0 =>
 a0a (n0g n r0 s.2.2.1) fun r1 =>
 a0a (n0g n r1 s.2.2.2.1) fun r2 =>
 a0a (n0i n r2 ((IntKind.wrap .i64 s.2.2.2.2.1.1)::((IntKind.wrap .i64 s.2.2.2.2.1.2)::(s.2.2.2.2.2.1::(s.2.2.2.2.2.2.1::(s.2.2.2.2.2.2.2::[])))))) fun r3 =>
 a0a (c0z n r3) fun r4 =>
 a0a (g0o n r4.1 (128:Int)) fun r5 =>
 some r5:=by kernel_rfl
theorem v1c (n:Nat) (s:a0d):x0y (n+1) s =
 a0a (e0o n s.1) fun r0 =>
 a0a (e0o n s.2.1) fun r1 =>
 tif ((decide (((List.length r0)+(List.length r1))≤9223372036854775807))) (
 a0a (s0v n s.2.2.1) fun r2 =>
 tif ((decide (((List.length (r0++r1))+(List.length r2))≤9223372036854775807))) (
 a0a (s0v n s.2.2.2.1) fun r3 =>
 tif ((decide (((List.length ((r0++r1)++r2))+(List.length r3))≤9223372036854775807))) (
 a0a (c0r n (8:Int) s.2.2.2.2.1.1) fun r4 =>
 tif ((decide (((List.length (((r0++r1)++r2)++r3))+(List.length r4))≤9223372036854775807))) (
 a0a (c0r n (8:Int) s.2.2.2.2.1.2) fun r5 =>
 tif ((decide (((List.length ((((r0++r1)++r2)++r3)++r4))+(List.length r5))≤9223372036854775807))) (
 a0a (e0o n s.2.2.2.2.2.1) fun r6 =>
 tif ((decide (((List.length (((((r0++r1)++r2)++r3)++r4)++r5))+(List.length r6))≤9223372036854775807))) (
 a0a (e0o n s.2.2.2.2.2.2.1) fun r7 =>
 tif ((decide (((List.length ((((((r0++r1)++r2)++r3)++r4)++r5)++r6))+(List.length r7))≤9223372036854775807))) (
 a0a (e0o n s.2.2.2.2.2.2.2) fun r8 =>
 tif ((decide (((List.length (((((((r0++r1)++r2)++r3)++r4)++r5)++r6)++r7))+(List.length r8))≤9223372036854775807))) (
 a0a (q0y n ((((((((r0++r1)++r2)++r3)++r4)++r5)++r6)++r7)++r8) (128:Int)) fun r9 =>
 some r9) (
 none)) (
 none)) (
 none)) (
 none)) (
 none)) (
 none)) (
 none)) (
 none):=by kernel_rfl
theorem t1k (n:Nat) (s:List UInt8):t0x (n+1) s =
 a0a (k0c n s) fun r0 =>
 a0a (a0f n r0 (4:Int)) fun r1 =>
 a0a (a0f n r1.2 (8:Int)) fun r2 =>
 a0a (a0f n r2.2 (8:Int)) fun r3 =>
 a0a (a0f n r3.2 (8:Int)) fun r4 =>
 a0a (a0f n r4.2 (4:Int)) fun r5 =>
 a0a (a0f n r5.2 (4:Int)) fun r6 =>
 a0a (a0f n r6.2 (4:Int)) fun r7 =>
 a0a (a0f n r7.2 (4:Int)) fun r8 =>
 a0a (a0f n r8.2 (4:Int)) fun r9 =>
 a0a (a0f n r9.2 (8:Int)) fun r10 =>
 tif ((!(decide (r10.1=0)))) (
 some ((0,((0,(0,0)),((0,(0,0)),(0,0)))),4)) (
 a0a (i0f n r10.2) fun r11 =>
 tif (r11) (
 some ((0,((0,(0,0)),((0,(0,0)),(0,0)))),4)) (
 a0a (k0b n r10.2) fun r12 =>
 tif ((decide ((0:Int)<r12))) (
 some ((0,((0,(0,0)),((0,(0,0)),(0,0)))),4)) (
 a0a (e0k n ((IntKind.wrap .i64 r1.1),(((IntKind.wrap .i64 r2.1),((IntKind.wrap .i64 r3.1),(IntKind.wrap .i64 r4.1))),(((IntKind.wrap .i64 r5.1),((IntKind.wrap .i64 r6.1),(IntKind.wrap .i64 r7.1))),((IntKind.wrap .i64 r8.1),(IntKind.wrap .i64 r9.1)))))) fun r13 =>
 tif ((!(decide (r13=0)))) (
 some ((0,((0,(0,0)),((0,(0,0)),(0,0)))),4)) (
 some (((IntKind.wrap .i64 r1.1),(((IntKind.wrap .i64 r2.1),((IntKind.wrap .i64 r3.1),(IntKind.wrap .i64 r4.1))),(((IntKind.wrap .i64 r5.1),((IntKind.wrap .i64 r6.1),(IntKind.wrap .i64 r7.1))),((IntKind.wrap .i64 r8.1),(IntKind.wrap .i64 r9.1))))),0))))):=by kernel_rfl
theorem w1m (n:Nat) (l:(List (List UInt8))):r0n (n+1) l =
 a0a (w0h n l) fun r0 =>
 tif ((!r0)) (
 some (((0,((0,(0,0)),((0,(0,0)),(0,0)))),(0,(0,[]))),4)) (
 a0a (at? l (0:Int)) fun r1 =>
 tif ((true&&(decide ((64:Int)≤(((List.length r1):Nat):Int))))) (
 a0a (t0x n (List.drop 8 (List.take 64 r1))) fun r2 =>
 tif ((!(decide (r2.2=0)))) (
 some (((0,((0,(0,0)),((0,(0,0)),(0,0)))),(0,(0,[]))),4)) (
 a0a (q0c n r2.1) fun r3 =>
 tif ((!(decide ((IntKind.wrap .i64 ((((List.length l):Nat):Int)-1))=(IntKind.wrap .i64 (r2.1.2.2.2.1*r3)))))) (
 some (((0,((0,(0,0)),((0,(0,0)),(0,0)))),(0,(0,[]))),4)) (
 a0a (at? l (0:Int)) fun r4 =>
 tif ((decide (64≤(List.length r4)))) (
 a0a (k0c n (List.drop 64 (List.take (List.length r4) r4))) fun r5 =>
 a0a (a0f n r5 (8:Int)) fun r6 =>
 a0a (a0f n r6.2 (8:Int)) fun r7 =>
 tif ((decide (1≤(List.length l)))) (
 a0a (q0c n r2.1) fun r8 =>
 a0a (m0r n (List.drop 1 (List.take (List.length l) l)) r8) fun r9 =>
 a0a (g0p n r9 (l,(((0,((0,(0,0)),((0,(0,0)),(0,0)))),(0,(0,[]))),(r2.1,((r2.1,((IntKind.wrap .i64 r6.1),((IntKind.wrap .i64 ((IntKind.wrap .i64 r7.1)-1)),[]))),()))))) fun r10 =>
 a0a (n0m n r10.2.2.2.1) fun r11 =>
 tif ((!(decide (r11.2=0)))) (
 some (((0,((0,(0,0)),((0,(0,0)),(0,0)))),(0,(0,[]))),4)) (
 a0a (i0y n r10.1 r11.1) fun r12 =>
 tif ((!r12)) (
 some (((0,((0,(0,0)),((0,(0,0)),(0,0)))),(0,(0,[]))),4)) (
 some (r10.2.2.2.1,0)))) (
 none)) (
 none)))) (
 none)):=by kernel_rfl
theorem s0f (n:Nat) (x:((List (List UInt8))×(b0f×(a0z×(b0f×Unit))))):g0p n [] x=some x:=by kernel_rfl
theorem p0y (n:Nat) (y:((List (List UInt8))×Unit)) (r:List ((List (List UInt8))×Unit)) (l:(List (List UInt8))) (s2:b0f) (c:a0z) (s:b0f):g0p n (y::r) (l,s2,c,s,()) =
 a0a (a0a (d0p n (c,y.1)) fun r0 =>
 tif ((decide ((((List.length s.2.2.2)+1)*264)≤140737488355328))) (
 some (l,(s2,(c,((s.1,(s.2.1,(s.2.2.1,(s.2.2.2++(r0.1::[]))))),()))))) (
 none)) fun r1 =>
 g0p n r r1:=by kernel_rfl
theorem n1p (n:Nat) (a:(List (List UInt8))) (b:(List (List UInt8))) (from_:Int):u0v (n+1) a b from_ =
 a0a (j0i n a0b (a,(from_,([],(b,((((List.length b):Nat):Int),(0,()))))))) fun r0 =>
 b0m (fun y1 =>
 some y1.1) (fun z2 =>
 some z2) r0:=by kernel_rfl
theorem l0e (n f:Nat) (a:(List (List UInt8))) (from_:Int) (out:(List (Int×List UInt8))) (s10:(List (List UInt8))) (s11:Int) (s12:Int):j0i n (f+1) (a,from_,out,s10,s11,s12,()) =
 tif ((decide (s12<s11))) (
 a0a (at? s10 s12) fun r0 =>
 tif ((decide ((((List.length a):Nat):Int)≤s12))) (
 tif ((decide ((((List.length out)+1)*24)≤140737488355328))) (
 j0i n f (a,(from_,((out++(((IntKind.wrap .i64 (from_+s12)),r0)::[])),(s10,(s11,((IntKind.wrap .i64 (s12+1)),()))))))) (
 none)) (
 a0a (at? a s12) fun r1 =>
 tif ((!(r1==r0))) (
 tif ((decide ((((List.length out)+1)*24)≤140737488355328))) (
 j0i n f (a,(from_,((out++(((IntKind.wrap .i64 (from_+s12)),r0)::[])),(s10,(s11,((IntKind.wrap .i64 (s12+1)),()))))))) (
 none)) (
 j0i n f (a,(from_,(out,(s10,(s11,((IntKind.wrap .i64 (s12+1)),()))))))))) (
 some (.inl (out,()))):=by kernel_rfl
theorem p1q (n:Nat) (s:b0f):x0i (n+1) s =
 a0a (l1x n s) fun r0 =>
 tif ((!(decide (r0.2=0)))) (
 some (2:Int)) (
 a0a (o0u n r0.1) fun r1 =>
 tif ((!r1)) (
 some (2:Int)) (
 a0a (h0w n r0.1 (fun y2=>f0m n y2.1 r0.1)) fun r3 =>
 tif ((decide ((0:Int)≤r3))) (
 some (2:Int)) (
 some (0:Int)))):=by kernel_rfl
theorem u1k (n:Nat) (a:b0f) (b:b0f):l1y (n+1) a b =
 tif (((decide (a.1.1=b.1.1))&&((decide (a.1.2.1.1=b.1.2.1.1))&&((decide (a.1.2.1.2.1=b.1.2.1.2.1))&&((decide (a.1.2.1.2.2=b.1.2.1.2.2))&&((decide (a.1.2.2.1.1=b.1.2.2.1.1))&&((decide (a.1.2.2.1.2.1=b.1.2.2.1.2.1))&&((decide (a.1.2.2.1.2.2=b.1.2.2.1.2.2))&&((decide (a.1.2.2.2.1=b.1.2.2.2.1))&&(decide (a.1.2.2.2.2=b.1.2.2.2.2))))))))))) (
 tif ((decide (a.2.1=b.2.1))) (
 tif ((decide (a.2.2.1=b.2.2.1))) (
 a0a (d0k n a.2.2.2 b.2.2.2 (fun y0=>e0b n y0.1 y0.2.1)) fun r1 =>
 some r1) (
 some false)) (
 some false)) (
 some false):=by kernel_rfl
theorem s1k (n:Nat) (l:(List (List UInt8×List UInt8))):z0f (n+1) l =
 a0a (k0w n a0b (l,((((List.length l):Nat):Int),(0,())))) fun r0 =>
 b0m (fun y1 =>
 some (1:Int)) (fun z2 =>
 some z2) r0:=by kernel_rfl
theorem t0s (n f:Nat) (s5:(List (List UInt8×List UInt8))) (s6:Int) (s7:Int):k0w n (f+1) (s5,s6,s7,()) =
 tif ((decide (s7<s6))) (
 a0a (at? s5 s7) fun r0 =>
 tif ((decide (s7=40))) (
 some (.inr (0:Int))) (
 tif ((decide ((1000:Int)<(((List.length r0.1):Nat):Int)))) (
 some (.inr (0:Int))) (
 tif ((decide ((1000:Int)<(((List.length r0.2):Nat):Int)))) (
 some (.inr (0:Int))) (
 k0w n f (s5,(s6,((IntKind.wrap .i64 (s7+1)),()))))))) (
 some (.inl ())):=by kernel_rfl
theorem o1k (n:Nat) (c:a0z):q0c (n+1) c =
 a0a (e0k n c) fun r0 =>
 tif ((!(decide (r0=0)))) (
 some (0:Int)) (
 a0a (k0a n c) fun r1 =>
 some r1):=by kernel_rfl
theorem s1i (n:Nat) (s:a0l):z0e (n+1) s =
 a0a (z0f n s.1) fun r0 =>
 tif ((decide (r0=0))) (
 some (0:Int)) (
 tif ((decide ((60:Int)<(((List.length s.2.2.1.2.2):Nat):Int)))) (
 some (0:Int)) (
 a0a (g1d n s.2.2.2.1) fun r1 =>
 some r1)):=by kernel_rfl
theorem w0r (n:Nat) (w:(List Int)) (s:List UInt8):e0l (n+1) w s =
 tif ((decide ((((List.length w)+(List.length (List.map (fun y1=>(((UInt8.toNat y1):Nat):Int)) s)))*1)≤140737488355328))) (
 some (w++(List.map (fun y0=>(((UInt8.toNat y0):Nat):Int)) s))) (
 none):=by kernel_rfl
theorem o1l (n:Nat) (c:a0z):b1h (n+1) c =
 a0a (e0k n c) fun r0 =>
 tif ((!(decide (r0=0)))) (
 some []) (
 a0a (a0u n [] (4:Int) (IntKind.wrap .u64 c.1)) fun r1 =>
 a0a (a0u n r1 (8:Int) (IntKind.wrap .u64 c.2.1.1)) fun r2 =>
 a0a (a0u n r2 (8:Int) (IntKind.wrap .u64 c.2.1.2.1)) fun r3 =>
 a0a (a0u n r3 (8:Int) (IntKind.wrap .u64 c.2.1.2.2)) fun r4 =>
 a0a (a0u n r4 (4:Int) (IntKind.wrap .u64 c.2.2.1.1)) fun r6 =>
 a0a (a0u n r6 (4:Int) (IntKind.wrap .u64 c.2.2.1.2.1)) fun r8 =>
 a0a (a0u n r8 (4:Int) (IntKind.wrap .u64 c.2.2.1.2.2)) fun r10 =>
 a0a (a0u n r10 (4:Int) (IntKind.wrap .u64 c.2.2.2.1)) fun r12 =>
 a0a (a0u n r12 (4:Int) (IntKind.wrap .u64 c.2.2.2.2)) fun r14 =>
 a0a (a0u n r14 (8:Int) (0:Int)) fun r15 =>
 a0a (c0z n r15) fun r16 =>
 some r16.1):=by kernel_rfl
theorem s1q (n:Nat) (w:(List Int)) (l:(List Int)):n0i (n+1) w l =
 a0a (o0k n a0b (w,(l,((((List.length l):Nat):Int),(0,()))))) fun r0 =>
 b0m (fun y1 =>
 some y1.1) (fun z2 =>
 some z2) r0:=by kernel_rfl
theorem t0t (n f:Nat) (w:(List Int)) (s6:(List Int)) (s7:Int) (s8:Int):o0k n (f+1) (w,s6,s7,s8,()) =
 tif ((decide (s8<s7))) (
 a0a (at? s6 s8) fun r0 =>
 a0a (a0u n w (8:Int) (IntKind.wrap .u64 r0)) fun r1 =>
 o0k n f (r1,(s6,(s7,((IntKind.wrap .i64 (s8+1)),()))))) (
 some (.inl (w,()))):=by kernel_rfl
theorem s1p (n:Nat) (s:List UInt8) (n_:Int):g0o (n+1) s n_ =
 a0a (strings_Repeat n ((0:UInt8)::[]) (if (IntKind.wrap .i64 (n_-(((List.length s):Nat):Int)))<0 then (0:Int) else (IntKind.wrap .i64 (n_-(((List.length s):Nat):Int))))) fun r0 =>
 tif ((decide (((List.length s)+(List.length r0))≤9223372036854775807))) (
 some (s++r0)) (
 none):=by kernel_rfl
theorem n0r (n:Nat) (w:(List Int)):c0z (n+1) w =
 some ((List.map (fun y0=>(UInt8.ofNat (Int.toNat y0))) w),w):=by kernel_rfl
theorem q1o (n:Nat) (s:b0f):f1b (n+1) s =
 a0a (y0c n s) fun r0 =>
 tif ((!r0)) (
 some (2:Int)) (
 a0a (y0d n s.2.1) fun r1 =>
 tif ((!r1)) (
 some (2:Int)) (
 tif ((!(decide (s.2.2.1=((-1):Int))))) (
 a0a (y0d n s.2.2.1) fun r2 =>
 tif ((!r2)) (
 some (2:Int)) (
 tif ((decide (s.2.1<s.2.2.1))) (
 some (2:Int)) (
 a0a (y0g n s) fun r3 =>
 a0a (d0y n a0b (s,((IntKind.wrap .i64 (r3+s.1.2.1.1)),(s.2.2.2,((((List.length s.2.2.2):Nat):Int),(0,())))))) fun r4 =>
 b0m (fun y5 =>
 some (0:Int)) (fun z6 =>
 some z6) r4))) (
 tif ((decide (s.2.1<s.2.2.1))) (
 some (2:Int)) (
 a0a (y0g n s) fun r7 =>
 a0a (d0y n a0b (s,((IntKind.wrap .i64 (r7+s.1.2.1.1)),(s.2.2.2,((((List.length s.2.2.2):Nat):Int),(0,())))))) fun r8 =>
 b0m (fun y9 =>
 some (0:Int)) (fun z10 =>
 some z10) r8)))):=by kernel_rfl
theorem s0y (n f:Nat) (s_:b0f) (end_:Int) (s42:(List a0l)) (s43:Int) (s44:Int):d0y n (f+1) (s_,end_,s42,s43,s44,()) =
 tif ((decide (s44<s43))) (
 a0a (at? s42 s44) fun r0 =>
 a0a (s0x n r0) fun r1 =>
 tif (r1) (
 d0y n f (s_,(end_,(s42,(s43,((IntKind.wrap .i64 (s44+1)),())))))) (
 a0a (y0i n s_.1 r0) fun r2 =>
 tif ((!(decide (r2=0)))) (
 some (.inr (2:Int))) (
 tif ((decide (r0.2.1<0))) (
 some (.inr (2:Int))) (
 tif ((decide (end_≤r0.2.1))) (
 some (.inr (2:Int))) (
 tif (((decide ((0:Int)≤s44))&&(decide (s44≤(((List.length s_.2.2.2):Nat):Int))))) (
 a0a (d0x n a0b (s_,(end_,(s44,(r0,(s42,(s43,(s44,((((List.length (List.drop 0 (List.take (Int.toNat s44) s_.2.2.2))):Nat):Int),((0:Int),())))))))))) fun r3 =>
 b0m (fun y4 =>
 d0y n f (y4.1,(y4.2.1,(y4.2.2.1,(y4.2.2.2.1,((IntKind.wrap .i64 (y4.2.2.2.2.1+1)),())))))) (fun z5 =>
 some (.inr z5)) r3) (
 none)))))) (
 some (.inl ())):=by kernel_rfl
theorem s0d (n f:Nat) (s_:b0f) (end_:Int) (i:Int) (x:a0l) (s42:(List a0l)) (s43:Int) (s44:Int) (s71:Int) (s72:Int):d0x n (f+1) (s_,end_,i,x,s42,s43,s44,s71,s72,()) =
 tif ((decide (s72<s71))) (
 a0a (y0f n s_ i) fun r0 =>
 tif (r0) (
 a0a (y0f n s_ s72) fun r1 =>
 tif (r1) (
 a0a (at? s_.2.2.2 s72) fun r2 =>
 a0a (d1i n r2.1 x.1) fun r3 =>
 tif (r3) (
 some (.inr (2:Int))) (
 d0x n f (s_,(end_,(i,(x,(s42,(s43,(s44,(s71,((IntKind.wrap .i64 (s72+1)),()))))))))))) (
 d0x n f (s_,(end_,(i,(x,(s42,(s43,(s44,(s71,((IntKind.wrap .i64 (s72+1)),()))))))))))) (
 d0x n f (s_,(end_,(i,(x,(s42,(s43,(s44,(s71,((IntKind.wrap .i64 (s72+1)),()))))))))))) (
 some (.inl (s_,(end_,(s42,(s43,(s44,()))))))):=by kernel_rfl
theorem a2u (n:Nat) (s:List UInt8) (n_:Int):q0y (n+1) s n_ =
 a0a (m0w n (IntKind.wrap .i64 (n_-(((List.length s):Nat):Int)))) fun r0 =>
 tif ((decide (((List.length s)+(List.length r0))≤9223372036854775807))) (
 some (s++r0)) (
 none):=by kernel_rfl
theorem q1y (n:Nat) (c:a0z):f1h (n+1) c =
 a0a (g0l n c) fun r0 =>
 tif ((!(decide (r0=0)))) (
 some []) (
 a0a (c0r n (4:Int) (IntKind.wrap .u64 c.1)) fun r1 =>
 a0a (c0r n (8:Int) (IntKind.wrap .u64 c.2.1.1)) fun r2 =>
 tif ((decide (((List.length r1)+(List.length r2))≤9223372036854775807))) (
 a0a (c0r n (8:Int) (IntKind.wrap .u64 c.2.1.2.1)) fun r3 =>
 tif ((decide (((List.length (r1++r2))+(List.length r3))≤9223372036854775807))) (
 a0a (c0r n (8:Int) (IntKind.wrap .u64 c.2.1.2.2)) fun r4 =>
 tif ((decide (((List.length ((r1++r2)++r3))+(List.length r4))≤9223372036854775807))) (
 a0a (c0r n (4:Int) (IntKind.wrap .u64 c.2.2.1.1)) fun r5 =>
 tif ((decide (((List.length (((r1++r2)++r3)++r4))+(List.length r5))≤9223372036854775807))) (
 a0a (c0r n (4:Int) (IntKind.wrap .u64 c.2.2.1.2.1)) fun r6 =>
 tif ((decide (((List.length ((((r1++r2)++r3)++r4)++r5))+(List.length r6))≤9223372036854775807))) (
 a0a (c0r n (4:Int) (IntKind.wrap .u64 c.2.2.1.2.2)) fun r7 =>
 tif ((decide (((List.length (((((r1++r2)++r3)++r4)++r5)++r6))+(List.length r7))≤9223372036854775807))) (
 a0a (c0r n (4:Int) (IntKind.wrap .u64 c.2.2.2.1)) fun r8 =>
 tif ((decide (((List.length ((((((r1++r2)++r3)++r4)++r5)++r6)++r7))+(List.length r8))≤9223372036854775807))) (
 a0a (c0r n (4:Int) (IntKind.wrap .u64 c.2.2.2.2)) fun r9 =>
 tif ((decide (((List.length (((((((r1++r2)++r3)++r4)++r5)++r6)++r7)++r8))+(List.length r9))≤9223372036854775807))) (
 tif ((decide (((List.length ((((((((r1++r2)++r3)++r4)++r5)++r6)++r7)++r8)++r9))+8)≤9223372036854775807))) (
 some (((((((((r1++r2)++r3)++r4)++r5)++r6)++r7)++r8)++r9)++((0:UInt8)::((0:UInt8)::((0:UInt8)::((0:UInt8)::((0:UInt8)::((0:UInt8)::((0:UInt8)::((0:UInt8)::[])))))))))) (
 none)) (
 none)) (
 none)) (
 none)) (
 none)) (
 none)) (
 none)) (
 none)) (
 none)):=by kernel_rfl
theorem q1h (n:Nat) (n_:Int):e0o (n+1) n_ =
 a0a (c0r n (8:Int) (IntKind.wrap .u64 n_)) fun r0 =>
 some r0:=by kernel_rfl
theorem z0o (n:Nat) (c:a0z):e0k (n+1) c =
 a0a (g0s n c.1 (1:Int) (4096:Int)) fun r0 =>
 tif (r0) (
 a0a (g0s n c.2.2.2.1 (1:Int) (65536:Int)) fun r1 =>
 tif (r1) (
 a0a (g0s n c.2.2.2.2 (1:Int) (8192:Int)) fun r2 =>
 tif (r2) (
 a0a (j0k n c.2.1.1 (1:Int) (1099511627776:Int)) fun r3 =>
 tif (r3) (
 a0a (g0s n c.2.2.1.1 (1:Int) (4096:Int)) fun r4 =>
 tif (r4) (
 a0a (j0k n c.2.1.2.1 (1:Int) (1099511627776:Int)) fun r5 =>
 tif (r5) (
 a0a (g0s n c.2.2.1.2.1 (1:Int) (4096:Int)) fun r6 =>
 tif (r6) (
 a0a (j0k n c.2.1.2.2 (1:Int) (1099511627776:Int)) fun r7 =>
 tif (r7) (
 a0a (g0s n c.2.2.1.2.2 (1:Int) (4096:Int)) fun r8 =>
 tif (r8) (
 tif ((decide (c.2.1.1=0))) (
 none) (
 tif ((decide ((Int.tmod c.2.1.2.1 c.2.1.1)=0))) (
 tif ((decide (c.2.1.1=0))) (
 none) (
 tif ((decide ((IntKind.wrap .i64 (Int.tdiv c.2.1.2.1 c.2.1.1))≤c.2.2.1.1))) (
 tif ((decide (c.2.1.2.1=0))) (
 none) (
 tif ((decide ((Int.tmod c.2.1.2.2 c.2.1.2.1)=0))) (
 tif ((decide (c.2.1.2.1=0))) (
 none) (
 tif ((decide ((IntKind.wrap .i64 (Int.tdiv c.2.1.2.2 c.2.1.2.1))≤c.2.2.1.2.1))) (
 tif ((!(decide ((IntKind.wrap .i64 (Int.tdiv c.2.1.2.2 c.2.1.2.1))≤c.2.2.1.2.1)))) (
 some (2:Int)) (
 a0a (k0a n c) fun r9 =>
 tif ((decide (c.2.2.2.2≤r9))) (
 some (2:Int)) (
 some (0:Int)))) (
 tif ((!(decide ((IntKind.wrap .i64 (Int.tdiv c.2.1.2.2 c.2.1.2.1))≤c.2.2.1.2.1)))) (
 some (2:Int)) (
 a0a (k0a n c) fun r10 =>
 tif ((decide (c.2.2.2.2≤r10))) (
 some (2:Int)) (
 some (0:Int)))))) (
 some (2:Int)))) (
 tif ((!(decide ((IntKind.wrap .i64 (Int.tdiv c.2.1.2.1 c.2.1.1))≤c.2.2.1.1)))) (
 some (2:Int)) (
 a0a (k0a n c) fun r11 =>
 tif ((decide (c.2.2.2.2≤r11))) (
 some (2:Int)) (
 some (0:Int)))))) (
 some (2:Int)))) (
 tif ((!r8)) (
 some (2:Int)) (
 a0a (k0a n c) fun r12 =>
 tif ((decide (c.2.2.2.2≤r12))) (
 some (2:Int)) (
 some (0:Int))))) (
 some (2:Int))) (
 some (2:Int))) (
 some (2:Int))) (
 some (2:Int))) (
 some (2:Int))) (
 some (2:Int))) (
 some (2:Int))) (
 some (2:Int)):=by kernel_rfl
theorem i1y (n:Nat) (x:a0l):w0m (n+1) x =
 a0a (e0b n x ([],(0,((0,(0,[])),(([],([],[])),(0,(0,((0,(0,(0,false))),((0,(0,(0,false))),((0,0),(0,(0,0)))))))))))) fun r0 =>
 some r0:=by kernel_rfl
theorem v0y (n:Nat) (x:(List (List UInt8))) (count:Int):l0d (n+1) x count =
 tif ((decide (count<0))) (
 none) (
 a0a (r0j n (IntKind.wrap .u64 (((List.length x):Nat):Int)) (IntKind.wrap .u64 count)) fun r0 =>
 tif ((decide ((0:Int)<r0.1))) (
 none) (
 tif ((decide ((9223372036854775807:Int)<r0.2))) (
 none) (
 tif (((decide ((0:Int)≤(IntKind.wrap .i64 r0.2)))&&((decide ((IntKind.wrap .i64 r0.2)≤(IntKind.wrap .i64 r0.2)))&&(decide (((IntKind.wrap .i64 r0.2)*16)≤140737488355328))))) (
 a0a (f0o n a0b ((Go.Flat.putRow (List.replicate (Int.toNat (IntKind.wrap .i64 r0.2)) ([]:List UInt8)) 0 (List.take (List.length (List.replicate (Int.toNat (IntKind.wrap .i64 r0.2)) ([]:List UInt8))) x)),((((List.length (List.take (List.length (List.replicate (Int.toNat (IntKind.wrap .i64 r0.2)) ([]:List UInt8))) x)):Nat):Int),()))) fun r1 =>
 b0m (fun y2 =>
 some y2.1) (fun z3 =>
 some z3) r1) (
 none)))):=by kernel_rfl
theorem j0p (n f:Nat) (newslice:(List (List UInt8))) (n_:Int):f0o n (f+1) (newslice,n_,()) =
 tif ((decide (n_<(((List.length newslice):Nat):Int)))) (
 tif ((decide ((0:Int)≤n_))) (
 tif ((decide ((Int.toNat n_)≤(List.length newslice)))) (
 tif (((decide ((0:Int)≤n_))&&(decide (n_≤(((List.length newslice):Nat):Int))))) (
 tif ((decide (((Int.toNat n_)+((List.length newslice)-(Int.toNat n_)))≤(List.length newslice)))) (
 f0o n f ((Go.Flat.putRow newslice (Int.toNat n_) (List.take ((List.length newslice)-(Int.toNat n_)) (List.take ((Int.toNat n_)-0) (List.drop 0 newslice)))),((IntKind.wrap .i64 (n_+(((List.length (List.take ((List.length newslice)-(Int.toNat n_)) (List.take ((Int.toNat n_)-0) (List.drop 0 newslice)))):Nat):Int))),()))) (
 none)) (
 none)) (
 none)) (
 none)) (
 some (.inl (newslice,()))):=by kernel_rfl
theorem e1t (n:Nat) (c:a0z) (s:a0l):n0y (n+1) c s =
 a0a (w0a n c s) fun r0 =>
 oelim (r0.1) (
 some r0.2) fun r1 =>
 some r0.2:=by kernel_rfl
theorem i1x (n:Nat) (x:a0l):w0l (n+1) x =
 a0a (w0g n x.1) fun r0 =>
 a0a (a0u n [] (2:Int) (IntKind.wrap .u64 (((List.length r0.1):Nat):Int))) fun r1 =>
 a0a (g0o n r0.1 (320:Int)) fun r2 =>
 a0a (e0l n r1 r2) fun r3 =>
 a0a (n0i n r3 (x.2.1::(x.2.2.1.1::(x.2.2.1.2.1::[])))) fun r4 =>
 a0a (a0u n r4 (2:Int) (IntKind.wrap .u64 (((List.length x.2.2.1.2.2):Nat):Int))) fun r5 =>
 a0a (g0z n x.2.2.2.2) fun r6 =>
 a0a (e0l n r5 r6) fun r7 =>
 a0a (c0z n r7) fun r8 =>
 a0a (g0o n r8.1 (512:Int)) fun r9 =>
 some (r9,r0.2):=by kernel_rfl
theorem z0j (n:Nat) (out:(List (List UInt8))) (l:(List a0j)) (each:Int) (bytes:((a0j×Unit)→Option (List UInt8))):n0j (n+1) out l each bytes =
 a0a (p0a n l each) fun r0 =>
 a0a (e0s n r0 (out,(bytes,()))) fun r1 =>
 some r1.1:=by kernel_rfl
theorem s0k (n:Nat) (x:((List (List UInt8))×(((a0j×Unit)→Option (List UInt8))×Unit))):e0s n [] x=some x:=by kernel_rfl
theorem r0m (n:Nat) (y:((List a0j)×Unit)) (r:List ((List a0j)×Unit)) (out_:(List (List UInt8))) (bytes_:((a0j×Unit)→Option (List UInt8))):e0s n (y::r) (out_,bytes_,()) =
 a0a (a0a (g0f n a0b (out_,(bytes_,([],(y.1,((((List.length y.1):Nat):Int),(0,()))))))) fun r0 =>
 b0m (fun y1 =>
 a0a (b0o n y1.2.2.1) fun r2 =>
 a0a (g0o n r2.1 (512:Int)) fun r3 =>
 tif ((decide ((((List.length y1.1)+1)*16)≤140737488355328))) (
 some ((y1.1++(r3::[])),(y1.2.1,()))) (
 none)) (fun z4 =>
 none) r0) fun r5 =>
 e0s n r r5:=by kernel_rfl
theorem k0z (n f:Nat) (out_:(List (List UInt8))) (bytes_:((a0j×Unit)→Option (List UInt8))) (b:List UInt8) (s17:(List a0j)) (s18:Int) (s19:Int):g0f n (f+1) (out_,bytes_,b,s17,s18,s19,()) =
 tif ((decide (s19<s18))) (
 a0a (at? s17 s19) fun r0 =>
 a0a (bytes_ (r0,())) fun r1 =>
 a0a (a0p n b r1) fun r2 =>
 g0f n f (out_,(bytes_,(r2.2.2,(s17,(s18,((IntKind.wrap .i64 (s19+1)),()))))))) (
 some (.inl (out_,(bytes_,(b,()))))):=by kernel_rfl
theorem i1w (n:Nat) (r:(Int×(Int×(List a0j)))) (room:Int):w0i (n+1) r room =
 tif (((decide ((0:Int)≤room))&&((decide (room≤room))&&(decide ((room*32)≤140737488355328))))) (
 a0a (k0k n a0b (room,(r,((List.replicate (Int.toNat room) (0,(0,(0,false)))),(r.2.2,((((List.length r.2.2):Nat):Int),(0,()))))))) fun r0 =>
 b0m (fun y1 =>
 some y1.1) (fun z2 =>
 some z2) r0) (
 none):=by kernel_rfl
theorem p0x (n f:Nat) (room:Int) (r_:(Int×(Int×(List a0j)))) (out:(List a0j)) (s11:(List a0j)) (s12:Int) (s13:Int):k0k n (f+1) (room,r_,out,s11,s12,s13,()) =
 tif ((decide (s13<s12))) (
 a0a (at? s11 s13) fun r0 =>
 tif ((decide (room=0))) (
 none) (
 a0a (at? out (Int.tmod (IntKind.wrap .i64 (r_.1+s13)) room)) fun r1 =>
 a0a ((out)[(Int.toNat (Int.tmod (IntKind.wrap .i64 (r_.1+s13)) room))]?) fun r2 =>
 k0k n f (room,(r_,((List.set out (Int.toNat (Int.tmod (IntKind.wrap .i64 (r_.1+s13)) room)) r0),(s11,(s12,((IntKind.wrap .i64 (s13+1)),())))))))) (
 some (.inl (out,()))):=by kernel_rfl
theorem a1z (n:Nat) (out:(List (List UInt8))) (l:(List a0d)) (each:Int) (bytes:((a0d×Unit)→Option (List UInt8))):h0y (n+1) out l each bytes =
 a0a (q0t n l each) fun r0 =>
 a0a (f0e n r0 (out,(bytes,()))) fun r1 =>
 some r1.1:=by kernel_rfl
theorem t0u (n:Nat) (x:((List (List UInt8))×(((a0d×Unit)→Option (List UInt8))×Unit))):f0e n [] x=some x:=by kernel_rfl
theorem s0j (n:Nat) (y:((List a0d)×Unit)) (r:List ((List a0d)×Unit)) (out_:(List (List UInt8))) (bytes_:((a0d×Unit)→Option (List UInt8))):f0e n (y::r) (out_,bytes_,()) =
 a0a (a0a (g0y n a0b (out_,(bytes_,([],(y.1,((((List.length y.1):Nat):Int),(0,()))))))) fun r0 =>
 b0m (fun y1 =>
 a0a (b0o n y1.2.2.1) fun r2 =>
 a0a (g0o n r2.1 (512:Int)) fun r3 =>
 tif ((decide ((((List.length y1.1)+1)*16)≤140737488355328))) (
 some ((y1.1++(r3::[])),(y1.2.1,()))) (
 none)) (fun z4 =>
 none) r0) fun r5 =>
 f0e n r r5:=by kernel_rfl
theorem l0q (n f:Nat) (out_:(List (List UInt8))) (bytes_:((a0d×Unit)→Option (List UInt8))) (b:List UInt8) (s17:(List a0d)) (s18:Int) (s19:Int):g0y n (f+1) (out_,bytes_,b,s17,s18,s19,()) =
 tif ((decide (s19<s18))) (
 a0a (at? s17 s19) fun r0 =>
 a0a (bytes_ (r0,())) fun r1 =>
 a0a (a0p n b r1) fun r2 =>
 g0y n f (out_,(bytes_,(r2.2.2,(s17,(s18,((IntKind.wrap .i64 (s19+1)),()))))))) (
 some (.inl (out_,(bytes_,(b,()))))):=by kernel_rfl
theorem c1c (n:Nat) (c:a0z):g0l (n+1) c =
 tif ((decide (c.1<1))) (
 some (2:Int)) (
 tif ((decide ((4096:Int)<c.1))) (
 some (2:Int)) (
 tif ((decide (c.2.2.2.1<1))) (
 some (2:Int)) (
 tif ((decide ((65536:Int)<c.2.2.2.1))) (
 some (2:Int)) (
 tif ((decide (c.2.2.2.2<1))) (
 some (2:Int)) (
 tif ((decide ((8192:Int)<c.2.2.2.2))) (
 some (2:Int)) (
 tif ((decide (c.2.1.1<1))) (
 some (2:Int)) (
 tif ((decide ((1099511627776:Int)<c.2.1.1))) (
 some (2:Int)) (
 tif ((decide (c.2.2.1.1<1))) (
 some (2:Int)) (
 tif ((decide ((4096:Int)<c.2.2.1.1))) (
 some (2:Int)) (
 tif ((decide (c.2.1.2.1<1))) (
 some (2:Int)) (
 tif ((decide ((1099511627776:Int)<c.2.1.2.1))) (
 some (2:Int)) (
 tif ((decide (c.2.2.1.2.1<1))) (
 some (2:Int)) (
 tif ((decide ((4096:Int)<c.2.2.1.2.1))) (
 some (2:Int)) (
 tif ((decide (c.2.1.1=0))) (
 none) (
 tif ((!(decide ((Int.tmod c.2.1.2.1 c.2.1.1)=0)))) (
 some (2:Int)) (
 tif ((decide (c.2.1.1=0))) (
 none) (
 tif ((decide (c.2.2.1.1<(IntKind.wrap .i64 (Int.tdiv c.2.1.2.1 c.2.1.1))))) (
 some (2:Int)) (
 tif ((decide (c.2.1.2.2<1))) (
 some (2:Int)) (
 tif ((decide ((1099511627776:Int)<c.2.1.2.2))) (
 some (2:Int)) (
 tif ((decide (c.2.2.1.2.2<1))) (
 some (2:Int)) (
 tif ((decide ((4096:Int)<c.2.2.1.2.2))) (
 some (2:Int)) (
 tif ((decide (c.2.1.2.1=0))) (
 none) (
 tif ((!(decide ((Int.tmod c.2.1.2.2 c.2.1.2.1)=0)))) (
 some (2:Int)) (
 tif ((decide (c.2.1.2.1=0))) (
 none) (
 tif ((decide (c.2.2.1.2.1<(IntKind.wrap .i64 (Int.tdiv c.2.1.2.2 c.2.1.2.1))))) (
 some (2:Int)) (
 a0a (y0m n c) fun r0 =>
 tif ((decide (c.2.2.2.2≤r0))) (
 some (2:Int)) (
 some (0:Int)))))))))))))))))))))))))))):=by kernel_rfl
theorem q1m (n:Nat) (s:a0l):s0x (n+1) s =
 a0a (y0h n s ([],(0,((0,(0,[])),(([],([],[])),(0,(0,((0,(0,(0,false))),((0,(0,(0,false))),((0,0),(0,(0,0)))))))))))) fun r0 =>
 some r0:=by kernel_rfl
theorem a2v (n:Nat) (s:List UInt8):m0x (n+1) s =
 a0a (u0n n a0b (s,([],()))) fun r0 =>
 b0m (fun y1 =>
 some y1.1) (fun z2 =>
 some z2) r0:=by kernel_rfl
theorem r0a (n f:Nat) (s:List UInt8) (out:(List (List UInt8))):u0n n (f+1) (s,out,()) =
 tif ((decide ((0:Int)<(((List.length s):Nat):Int)))) (
 tif (((decide ((0:Int)≤(if (512:Int)<(((List.length s):Nat):Int) then (512:Int) else (((List.length s):Nat):Int))))&&(decide ((if (512:Int)<(((List.length s):Nat):Int) then (512:Int) else (((List.length s):Nat):Int))≤(((List.length s):Nat):Int))))) (
 a0a (q0y n (List.drop 0 (List.take (Int.toNat (if (512:Int)<(((List.length s):Nat):Int) then (512:Int) else (((List.length s):Nat):Int))) s)) (512:Int)) fun r0 =>
 tif ((decide ((((List.length out)+1)*16)≤140737488355328))) (
 tif ((decide ((0:Int)≤(if (512:Int)<(((List.length s):Nat):Int) then (512:Int) else (((List.length s):Nat):Int))))) (
 tif ((decide ((Int.toNat (if (512:Int)<(((List.length s):Nat):Int) then (512:Int) else (((List.length s):Nat):Int)))≤(List.length s)))) (
 u0n n f ((List.drop (Int.toNat (if (512:Int)<(((List.length s):Nat):Int) then (512:Int) else (((List.length s):Nat):Int))) (List.take (List.length s) s)),((out++(r0::[])),()))) (
 none)) (
 none)) (
 none)) (
 none)) (
 some (.inl (out,()))):=by kernel_rfl
theorem i1i (n:Nat) (n_:Int):m0w (n+1) n_ =
 tif ((decide (n_≤0))) (
 some []) (
 tif (((decide ((0:Int)≤n_))&&((decide (n_≤n_))&&(decide ((n_*1)≤140737488355328))))) (
 some (List.map (fun y0=>(UInt8.ofNat (Int.toNat y0))) (List.replicate (Int.toNat n_) (0:Int)))) (
 none)):=by kernel_rfl
theorem q1x (n:Nat) (c:a0z):f1g (n+1) c =
 a0a (g0l n c) fun r0 =>
 tif ((!(decide (r0=0)))) (
 some (0:Int)) (
 a0a (y0m n c) fun r1 =>
 some r1):=by kernel_rfl
theorem q1q (n:Nat) (c:a0z) (s:a0l):y0i (n+1) c s =
 a0a (g0l n c) fun r0 =>
 tif ((!(decide (r0=0)))) (
 some (2:Int)) (
 a0a (y0p n s.1) fun r1 =>
 tif ((!(decide (r1=0)))) (
 some (2:Int)) (
 a0a (f1f n s.2.2.1 c.1) fun r2 =>
 tif ((!(decide (r2=0)))) (
 some (2:Int)) (
 a0a (f1c n c s.2.2.2.1) fun r3 =>
 tif ((!(decide (r3=0)))) (
 some (2:Int)) (
 tif ((decide (s.2.1=((-1):Int)))) (
 tif ((decide ((0:Int)<(((List.length s.2.2.1.2.2):Nat):Int)))) (
 some (2:Int)) (
 tif ((!((decide (s.2.2.2.2.1=0))&&((decide (s.2.2.2.2.2.1=0))&&((decide (s.2.2.2.2.2.2.1.1=0))&&((decide (s.2.2.2.2.2.2.1.2.1=0))&&((decide (s.2.2.2.2.2.2.1.2.2.1=0))&&((s.2.2.2.2.2.2.1.2.2.2==false)&&((decide (s.2.2.2.2.2.2.2.1.1=0))&&((decide (s.2.2.2.2.2.2.2.1.2.1=0))&&((decide (s.2.2.2.2.2.2.2.1.2.2.1=0))&&((s.2.2.2.2.2.2.2.1.2.2.2==false)&&((decide (s.2.2.2.2.2.2.2.2.1.1=0))&&((decide (s.2.2.2.2.2.2.2.2.1.2=0))&&((decide (s.2.2.2.2.2.2.2.2.2.1=0))&&((decide (s.2.2.2.2.2.2.2.2.2.2.1=0))&&(decide (s.2.2.2.2.2.2.2.2.2.2.2=0)))))))))))))))))) (
 some (2:Int)) (
 a0a (g0k n a0b (s,(0,()))) fun r4 =>
 b0m (fun y5 =>
 some (0:Int)) (fun z6 =>
 some z6) r4))) (
 a0a (m1k n s.2.2.1) fun r7 =>
 tif ((!(decide (r7.2=0)))) (
 some (2:Int)) (
 tif ((!(decide (r7.1.1=s.2.1)))) (
 some (2:Int)) (
 a0a (d1h n s.2.2.2.2.2 c.2.1.1 s.2.2.2.2.1) fun r8 =>
 tif ((!r8)) (
 some (2:Int)) (
 tif ((!(decide (s.2.2.2.2.2.2.2.1.1=s.2.1)))) (
 some (2:Int)) (
 a0a (f0q n a0b (c,(s,(0,())))) fun r9 =>
 b0m (fun y10 =>
 some (0:Int)) (fun z11 =>
 some z11) r9))))))))):=by kernel_rfl
theorem j0d (n f:Nat) (s_:a0l) (k:Int):g0k n (f+1) (s_,k,()) =
 tif ((decide (k<3))) (
 tif ((decide (k=0))) (
 a0a (t0b n s_.2.2.2.1.1) fun r0 =>
 tif ((decide ((0:Int)<(((List.length r0):Nat):Int)))) (
 some (.inr (2:Int))) (
 g0k n f (s_,((IntKind.wrap .i64 (k+1)),())))) (
 tif ((decide (k=1))) (
 a0a (t0b n s_.2.2.2.1.2.1) fun r1 =>
 tif ((decide ((0:Int)<(((List.length r1):Nat):Int)))) (
 some (.inr (2:Int))) (
 g0k n f (s_,((IntKind.wrap .i64 (k+1)),())))) (
 tif ((decide (k=2))) (
 a0a (t0b n s_.2.2.2.1.2.2) fun r2 =>
 tif ((decide ((0:Int)<(((List.length r2):Nat):Int)))) (
 some (.inr (2:Int))) (
 g0k n f (s_,((IntKind.wrap .i64 (k+1)),())))) (
 none)))) (
 some (.inl ())):=by kernel_rfl
theorem i0d (n f:Nat) (c_:a0z) (s_:a0l) (k_:Int):f0q n (f+1) (c_,s_,k_,()) =
 tif ((decide (k_<3))) (
 tif ((decide (k_=0))) (
 a0a (t0b n s_.2.2.2.1.1) fun r0 =>
 a0a (c0f n a0b (c_,(s_,(k_,(r0,((((List.length r0):Nat):Int),(0,()))))))) fun r1 =>
 b0m (fun y2 =>
 f0q n f (y2.1,(y2.2.1,((IntKind.wrap .i64 (y2.2.2.1+1)),())))) (fun z3 =>
 some (.inr z3)) r1) (
 tif ((decide (k_=1))) (
 a0a (t0b n s_.2.2.2.1.2.1) fun r4 =>
 a0a (c0f n a0b (c_,(s_,(k_,(r4,((((List.length r4):Nat):Int),(0,()))))))) fun r5 =>
 b0m (fun y6 =>
 f0q n f (y6.1,(y6.2.1,((IntKind.wrap .i64 (y6.2.2.1+1)),())))) (fun z7 =>
 some (.inr z7)) r5) (
 tif ((decide (k_=2))) (
 a0a (t0b n s_.2.2.2.1.2.2) fun r8 =>
 a0a (c0f n a0b (c_,(s_,(k_,(r8,((((List.length r8):Nat):Int),(0,()))))))) fun r9 =>
 b0m (fun y10 =>
 f0q n f (y10.1,(y10.2.1,((IntKind.wrap .i64 (y10.2.2.1+1)),())))) (fun z11 =>
 some (.inr z11)) r9) (
 none)))) (
 some (.inl ())):=by kernel_rfl
theorem e0j (n f:Nat) (c_:a0z) (s_:a0l) (k_:Int) (s106:(List a0d)) (s107:Int) (s108:Int):c0f n (f+1) (c_,s_,k_,s106,s107,s108,()) =
 tif ((decide (s108<s107))) (
 a0a (at? s106 s108) fun r0 =>
 tif ((decide (k_=0))) (
 tif ((decide (c_.2.1.1=0))) (
 none) (
 tif ((decide ((IntKind.wrap .i64 (Int.tdiv s_.2.1 c_.2.1.1))≤r0.1))) (
 some (.inr (2:Int))) (
 c0f n f (c_,(s_,(k_,(s106,(s107,((IntKind.wrap .i64 (s108+1)),()))))))))) (
 tif ((decide (k_=1))) (
 tif ((decide (c_.2.1.2.1=0))) (
 none) (
 tif ((decide ((IntKind.wrap .i64 (Int.tdiv s_.2.1 c_.2.1.2.1))≤r0.1))) (
 some (.inr (2:Int))) (
 c0f n f (c_,(s_,(k_,(s106,(s107,((IntKind.wrap .i64 (s108+1)),()))))))))) (
 tif ((decide (k_=2))) (
 tif ((decide (c_.2.1.2.2=0))) (
 none) (
 tif ((decide ((IntKind.wrap .i64 (Int.tdiv s_.2.1 c_.2.1.2.2))≤r0.1))) (
 some (.inr (2:Int))) (
 c0f n f (c_,(s_,(k_,(s106,(s107,((IntKind.wrap .i64 (s108+1)),()))))))))) (
 none)))) (
 some (.inl (c_,(s_,(k_,()))))):=by kernel_rfl
theorem r1h (n:Nat) (l:(List (List UInt8×List UInt8))):f1k (n+1) l =
 a0a (y0p n l) fun r0 =>
 tif ((!(decide (r0=0)))) (
 some ([],8)) (
 a0a (u0q n (IntKind.wrap .u64 (((List.length l):Nat):Int))) fun r1 =>
 a0a (o0f n a0b (r1,(l,((((List.length l):Nat):Int),(0,()))))) fun r2 =>
 b0m (fun y3 =>
 some (y3.1,0)) (fun z4 =>
 some z4) r2):=by kernel_rfl
theorem t0h (n f:Nat) (s:List UInt8) (s14:(List (List UInt8×List UInt8))) (s15:Int) (s16:Int):o0f n (f+1) (s,s14,s15,s16,()) =
 tif ((decide (s16<s15))) (
 a0a (at? s14 s16) fun r0 =>
 a0a (d1j n r0.1) fun r1 =>
 a0a (d1j n r0.2) fun r2 =>
 tif ((decide (((List.length r1)+(List.length r2))≤9223372036854775807))) (
 tif ((decide (((List.length s)+(List.length (r1++r2)))≤9223372036854775807))) (
 o0f n f ((s++(r1++r2)),(s14,(s15,((IntKind.wrap .i64 (s16+1)),()))))) (
 none)) (
 none)) (
 some (.inl (s,()))):=by kernel_rfl
theorem r1j (n:Nat) (width:Int) (n_:Int):c0r (n+1) width n_ =
 tif ((decide (width<1))) (
 some []) (
 tif ((decide ((8:Int)<width))) (
 some []) (
 tif (((decide ((0:Int)≤width))&&((decide (width≤width))&&(decide ((width*1)≤140737488355328))))) (
 a0a (o0g n a0b (width,(n_,((List.replicate (Int.toNat width) (0:Int)),((((List.length (List.replicate (Int.toNat width) (0:Int))):Nat):Int),((0:Int),())))))) fun r0 =>
 b0m (fun y1 =>
 some (List.map (fun y2=>(UInt8.ofNat (Int.toNat y2))) y1.1)) (fun z3 =>
 some z3) r0) (
 none))):=by kernel_rfl
theorem t0i (n f:Nat) (width:Int) (n_:Int) (b:(List Int)) (s16:Int) (s17:Int):o0g n (f+1) (width,n_,b,s16,s17,()) =
 tif ((decide (s17<s16))) (
 a0a (at? b (IntKind.wrap .i64 ((IntKind.wrap .i64 (width-1))-s17))) fun r0 =>
 a0a ((b)[(Int.toNat (IntKind.wrap .i64 ((IntKind.wrap .i64 (width-1))-s17)))]?) fun r1 =>
 o0g n f (width,((IntKind.wrap .u64 (Int.tdiv n_ (256:Int))),((List.set b (Int.toNat (IntKind.wrap .i64 ((IntKind.wrap .i64 (width-1))-s17))) (IntKind.wrap .u8 (Int.tmod n_ (256:Int)))),(s16,((IntKind.wrap .i64 (s17+1)),())))))) (
 some (.inl (b,()))):=by kernel_rfl
theorem i1v (n:Nat) (w:(List Int)) (e:a0j):n0g (n+1) w e =
 a0a (n0i n w (e.1::((IntKind.wrap .i64 e.2.1)::(e.2.2.1::[])))) fun r0 =>
 tif (e.2.2.2) (
 a0a (a0u n r0 (1:Int) (1:Int)) fun r1 =>
 some r1) (
 a0a (a0u n r0 (1:Int) (0:Int)) fun r2 =>
 some r2):=by kernel_rfl
theorem q1g (n:Nat) (e:a0j):s0v (n+1) e =
 a0a (e0o n e.1) fun r0 =>
 a0a (c0r n (8:Int) e.2.1) fun r1 =>
 tif ((decide (((List.length r0)+(List.length r1))≤9223372036854775807))) (
 a0a (e0o n e.2.2.1) fun r2 =>
 tif ((decide (((List.length (r0++r1))+(List.length r2))≤9223372036854775807))) (
 tif (e.2.2.2) (
 tif ((decide (((List.length ((r0++r1)++r2))+1)≤9223372036854775807))) (
 some (((r0++r1)++r2)++((1:UInt8)::[]))) (
 none)) (
 tif ((decide (((List.length ((r0++r1)++r2))+1)≤9223372036854775807))) (
 some (((r0++r1)++r2)++((0:UInt8)::[]))) (
 none))) (
 none)) (
 none):=by kernel_rfl
theorem e0u (n:Nat) (s:List UInt8):k0c (n+1) s =
 some (s,false):=by kernel_rfl
theorem t0z (n:Nat) (r:(List UInt8×Bool)) (width:Int):a0f (n+1) r width =
 tif ((decide (width<1))) (
 a0a (b0y n r) fun r0 =>
 some ((0:Int),r0)) (
 tif ((decide ((8:Int)<width))) (
 a0a (b0y n r) fun r1 =>
 some ((0:Int),r1)) (
 a0a (d0q n r width) fun r2 =>
 a0a (c0p n a0b (r2.2,((0:Int),((List.map (fun y3=>(((UInt8.toNat y3):Nat):Int)) r2.1),((((List.length (List.map (fun y4=>(((UInt8.toNat y4):Nat):Int)) r2.1)):Nat):Int),((0:Int),())))))) fun r5 =>
 b0m (fun y6 =>
 some (y6.2.1,y6.1)) (fun z7 =>
 some z7) r5)):=by kernel_rfl
theorem i0r (n f:Nat) (r:(List UInt8×Bool)) (n_:Int) (s19:(List Int)) (s20:Int) (s21:Int):c0p n (f+1) (r,n_,s19,s20,s21,()) =
 tif ((decide (s21<s20))) (
 a0a (at? s19 s21) fun r0 =>
 c0p n f (r,((orI .u64 (shlI .u64 n_ (8:Int)) (IntKind.wrap .u64 r0)),(s19,(s20,((IntKind.wrap .i64 (s21+1)),())))))) (
 some (.inl (r,(n_,())))):=by kernel_rfl
theorem d0g (n:Nat) (r:(List UInt8×Bool)):i0f (n+1) r =
 some r.2:=by kernel_rfl
theorem h0u (n:Nat) (r:(List UInt8×Bool)):k0b (n+1) r =
 some (((List.length r.1):Nat):Int):=by kernel_rfl
theorem i1u (n:Nat) (l:(List (List UInt8))):w0h (n+1) l =
 tif ((decide ((0:Int)<(((List.length l):Nat):Int)))) (
 a0a (j0q n l (fun y0=>l0w n y0.1)) fun r1 =>
 some (!r1)) (
 some false):=by kernel_rfl
theorem k0x (n:Nat) (p:b0c):d0p (n+1) p =
 a0a (c0l n p (1:Int) (1:Int)) fun r0 =>
 a0a (k0c n r0.1) fun r1 =>
 a0a (a0f n r1 (2:Int)) fun r2 =>
 tif ((decide ((IntKind.wrap .i64 r2.1)=0))) (
 some (([],(0,((0,(0,[])),(([],([],[])),(0,(0,((0,(0,(0,false))),((0,(0,(0,false))),((0,0),(0,(0,0))))))))))),r0.2)) (
 tif ((decide ((320:Int)<(IntKind.wrap .i64 r2.1)))) (
 some (([],(0,((0,(0,[])),(([],([],[])),(0,(0,((0,(0,(0,false))),((0,(0,(0,false))),((0,0),(0,(0,0))))))))))),r0.2)) (
 a0a (d0q n r2.2 (320:Int)) fun r3 =>
 tif (((decide ((0:Int)≤(IntKind.wrap .i64 r2.1)))&&(decide ((IntKind.wrap .i64 r2.1)≤(((List.length r3.1):Nat):Int))))) (
 a0a (z0c n (List.drop 0 (List.take (Int.toNat (IntKind.wrap .i64 r2.1)) r3.1))) fun r4 =>
 a0a (a0f n r3.2 (8:Int)) fun r5 =>
 a0a (a0f n r5.2 (8:Int)) fun r6 =>
 a0a (a0f n r6.2 (8:Int)) fun r7 =>
 a0a (a0f n r7.2 (2:Int)) fun r8 =>
 a0a (d0q n r8.2 (128:Int)) fun r9 =>
 a0a (k0l n r9.1) fun r10 =>
 a0a (n0h n r0.2 ((IntKind.wrap .i64 r6.1),((IntKind.wrap .i64 r7.1),[])) (IntKind.wrap .i64 r8.1)) fun r11 =>
 a0a (a0v n a0b (r11.2,(([],(0,((0,(0,[])),(([],([],[])),(0,(0,((0,(0,(0,false))),((0,(0,(0,false))),((0,0),(0,(0,0))))))))))),((r4.1,((IntKind.wrap .i64 r5.1),(r11.1,(([],([],[])),r10)))),(r11.2.1.2.2.1,(0,())))))) fun r12 =>
 b0m (fun y13 =>
 some (y13.2.2.1,y13.1)) (fun z14 =>
 some z14) r12) (
 none))):=by kernel_rfl
theorem d0i (n f:Nat) (p:b0c) (s2:a0l) (x:a0l) (s63:(Int×(Int×Int))) (s64:Int):a0v n (f+1) (p,s2,x,s63,s64,()) =
 tif ((decide (s64<3))) (
 tif ((decide (s64=0))) (
 a0a (f0x n p s63.1) fun r0 =>
 tif ((decide (s64=0))) (
 a0v n f (r0.2,(s2,((x.1,(x.2.1,(x.2.2.1,((r0.1,x.2.2.2.1.2),x.2.2.2.2)))),(s63,((IntKind.wrap .i64 (s64+1)),())))))) (
 tif ((decide (s64=1))) (
 a0v n f (r0.2,(s2,((x.1,(x.2.1,(x.2.2.1,((x.2.2.2.1.1,(r0.1,x.2.2.2.1.2.2)),x.2.2.2.2)))),(s63,((IntKind.wrap .i64 (s64+1)),())))))) (
 tif ((decide (s64=2))) (
 a0v n f (r0.2,(s2,((x.1,(x.2.1,(x.2.2.1,((x.2.2.2.1.1,(x.2.2.2.1.2.1,r0.1)),x.2.2.2.2)))),(s63,((IntKind.wrap .i64 (s64+1)),())))))) (
 none)))) (
 tif ((decide (s64=1))) (
 a0a (f0x n p s63.2.1) fun r1 =>
 tif ((decide (s64=0))) (
 a0v n f (r1.2,(s2,((x.1,(x.2.1,(x.2.2.1,((r1.1,x.2.2.2.1.2),x.2.2.2.2)))),(s63,((IntKind.wrap .i64 (s64+1)),())))))) (
 tif ((decide (s64=1))) (
 a0v n f (r1.2,(s2,((x.1,(x.2.1,(x.2.2.1,((x.2.2.2.1.1,(r1.1,x.2.2.2.1.2.2)),x.2.2.2.2)))),(s63,((IntKind.wrap .i64 (s64+1)),())))))) (
 tif ((decide (s64=2))) (
 a0v n f (r1.2,(s2,((x.1,(x.2.1,(x.2.2.1,((x.2.2.2.1.1,(x.2.2.2.1.2.1,r1.1)),x.2.2.2.2)))),(s63,((IntKind.wrap .i64 (s64+1)),())))))) (
 none)))) (
 tif ((decide (s64=2))) (
 a0a (f0x n p s63.2.2) fun r2 =>
 tif ((decide (s64=0))) (
 a0v n f (r2.2,(s2,((x.1,(x.2.1,(x.2.2.1,((r2.1,x.2.2.2.1.2),x.2.2.2.2)))),(s63,((IntKind.wrap .i64 (s64+1)),())))))) (
 tif ((decide (s64=1))) (
 a0v n f (r2.2,(s2,((x.1,(x.2.1,(x.2.2.1,((x.2.2.2.1.1,(r2.1,x.2.2.2.1.2.2)),x.2.2.2.2)))),(s63,((IntKind.wrap .i64 (s64+1)),())))))) (
 tif ((decide (s64=2))) (
 a0v n f (r2.2,(s2,((x.1,(x.2.1,(x.2.2.1,((x.2.2.2.1.1,(x.2.2.2.1.2.1,r2.1)),x.2.2.2.2)))),(s63,((IntKind.wrap .i64 (s64+1)),())))))) (
 none)))) (
 none)))) (
 some (.inl (p,(s2,(x,()))))):=by kernel_rfl
theorem x0s (n:Nat) (s1:(List (List UInt8))) (s2:(List (List UInt8))):i0y (n+1) s1 s2 =
 tif ((!(decide ((((List.length s1):Nat):Int)=(((List.length s2):Nat):Int))))) (
 some false) (
 a0a (g0d n a0b (s1,(s2,((((List.length s1):Nat):Int),(0,()))))) fun r0 =>
 b0m (fun y1 =>
 some true) (fun z2 =>
 some z2) r0):=by kernel_rfl
theorem k0r (n f:Nat) (s1:(List (List UInt8))) (s2:(List (List UInt8))) (s12:Int) (s13:Int):g0d n (f+1) (s1,s2,s12,s13,()) =
 tif ((decide (s13<s12))) (
 a0a (at? s1 s13) fun r0 =>
 a0a (at? s2 s13) fun r1 =>
 tif ((!(r0==r1))) (
 some (.inr false)) (
 g0d n f (s1,(s2,(s12,((IntKind.wrap .i64 (s13+1)),())))))) (
 some (.inl ())):=by kernel_rfl
theorem v1h (n:Nat) (a:a0l) (b:a0l):y0h (n+1) a b =
 a0a (d1i n a.1 b.1) fun r0 =>
 tif (r0) (
 tif ((decide (a.2.1=b.2.1))) (
 a0a (y1d n a.2.2.1 b.2.2.1) fun r1 =>
 tif (r1) (
 a0a (y1b n a.2.2.2.1 b.2.2.2.1) fun r2 =>
 tif (r2) (
 some ((decide (a.2.2.2.2.1=b.2.2.2.2.1))&&((decide (a.2.2.2.2.2.1=b.2.2.2.2.2.1))&&((decide (a.2.2.2.2.2.2.1.1=b.2.2.2.2.2.2.1.1))&&((decide (a.2.2.2.2.2.2.1.2.1=b.2.2.2.2.2.2.1.2.1))&&((decide (a.2.2.2.2.2.2.1.2.2.1=b.2.2.2.2.2.2.1.2.2.1))&&((a.2.2.2.2.2.2.1.2.2.2==b.2.2.2.2.2.2.1.2.2.2)&&((decide (a.2.2.2.2.2.2.2.1.1=b.2.2.2.2.2.2.2.1.1))&&((decide (a.2.2.2.2.2.2.2.1.2.1=b.2.2.2.2.2.2.2.1.2.1))&&((decide (a.2.2.2.2.2.2.2.1.2.2.1=b.2.2.2.2.2.2.2.1.2.2.1))&&((a.2.2.2.2.2.2.2.1.2.2.2==b.2.2.2.2.2.2.2.1.2.2.2)&&((decide (a.2.2.2.2.2.2.2.2.1.1=b.2.2.2.2.2.2.2.2.1.1))&&((decide (a.2.2.2.2.2.2.2.2.1.2=b.2.2.2.2.2.2.2.2.1.2))&&((decide (a.2.2.2.2.2.2.2.2.2.1=b.2.2.2.2.2.2.2.2.2.1))&&((decide (a.2.2.2.2.2.2.2.2.2.2.1=b.2.2.2.2.2.2.2.2.2.2.1))&&(decide (a.2.2.2.2.2.2.2.2.2.2.2=b.2.2.2.2.2.2.2.2.2.2.2))))))))))))))))) (
 some false)) (
 some false)) (
 some false)) (
 some false):=by kernel_rfl
theorem u1j (n:Nat) (s:b0f):l1x (n+1) s =
 a0a (e0k n s.1) fun r0 =>
 tif ((!(decide (r0=0)))) (
 some (((0,((0,(0,0)),((0,(0,0)),(0,0)))),(0,(0,[]))),2)) (
 tif ((!(decide ((((List.length s.2.2.2):Nat):Int)=s.1.2.2.2.1)))) (
 some (((0,((0,(0,0)),((0,(0,0)),(0,0)))),(0,(0,[]))),2)) (
 some (s,0))):=by kernel_rfl
theorem a1a (n:Nat) (v:b0f):o0u (n+1) v =
 a0a (d1c n v.2.1) fun r0 =>
 tif (r0) (
 tif ((decide (v.2.2.1=((-1):Int)))) (
 some (decide (v.2.2.1≤v.2.1))) (
 a0a (d1c n v.2.2.1) fun r1 =>
 tif (r1) (
 some (decide (v.2.2.1≤v.2.1))) (
 some false))) (
 some false):=by kernel_rfl
theorem z0y (n:Nat) (v:b0f) (is:((Int×Unit)→Option Bool)):h0w (n+1) v is =
 a0a (d0d n a0b (is,((((List.length v.2.2.2):Nat):Int),(0,())))) fun r0 =>
 b0m (fun y1 =>
 some ((-1):Int)) (fun z2 =>
 some z2) r0:=by kernel_rfl
theorem l0k (n f:Nat) (is:((Int×Unit)→Option Bool)) (s9:Int) (s10:Int):d0d n (f+1) (is,s9,s10,()) =
 tif ((decide (s10<s9))) (
 a0a (is (s10,())) fun r0 =>
 tif (r0) (
 some (.inr s10)) (
 d0d n f (is,(s9,((IntKind.wrap .i64 (s10+1)),()))))) (
 some (.inl ())):=by kernel_rfl
theorem i1d (n:Nat) (i:Int) (p1:b0f):f0m (n+1) i p1 =
 a0a (o0t n p1 i) fun r0 =>
 some (!r0):=by kernel_rfl
theorem z0x (n:Nat) (v:b0f) (i:Int):o0t (n+1) v i =
 a0a (at? v.2.2.2 i) fun r0 =>
 a0a (x0h n r0) fun r1 =>
 tif (r1) (
 some true) (
 a0a (n0y n v.1 r0) fun r2 =>
 tif ((decide (r2=0))) (
 tif ((decide ((0:Int)≤r0.2.1))) (
 a0a (q0o n v) fun r3 =>
 tif ((decide (r0.2.1<(IntKind.wrap .i64 (r3+v.1.2.1.1))))) (
 a0a (q0m n v i) fun r4 =>
 some (!r4)) (
 some false)) (
 some false)) (
 some false)):=by kernel_rfl
theorem f0u (n:Nat) (s1:(List a0l)) (s2:(List a0l)) (eq:((a0l×(a0l×Unit))→Option Bool)):d0k (n+1) s1 s2 eq =
 tif ((!(decide ((((List.length s1):Nat):Int)=(((List.length s2):Nat):Int))))) (
 some false) (
 a0a (b0k n a0b (s2,(eq,(s1,((((List.length s1):Nat):Int),(0,())))))) fun r0 =>
 b0m (fun y1 =>
 some true) (fun z2 =>
 some z2) r0):=by kernel_rfl
theorem c0o (n f:Nat) (s2:(List a0l)) (eq:((a0l×(a0l×Unit))→Option Bool)) (s15:(List a0l)) (s16:Int) (s17:Int):b0k n (f+1) (s2,eq,s15,s16,s17,()) =
 tif ((decide (s17<s16))) (
 a0a (at? s15 s17) fun r0 =>
 a0a (at? s2 s17) fun r1 =>
 a0a (eq (r0,(r1,()))) fun r2 =>
 tif ((!r2)) (
 some (.inr false)) (
 b0k n f (s2,(eq,(s15,(s16,((IntKind.wrap .i64 (s17+1)),()))))))) (
 some (.inl ())):=by kernel_rfl
theorem i1f (n:Nat) (a:a0l) (b:a0l):e0b (n+1) a b =
 a0a (u0u n a.1 b.1) fun r0 =>
 tif (r0) (
 tif ((decide (a.2.1=b.2.1))) (
 a0a (y1a n a.2.2.1 b.2.2.1) fun r1 =>
 tif (r1) (
 tif (((decide (a.2.2.2.2.1=b.2.2.2.2.1))&&((decide (a.2.2.2.2.2.1=b.2.2.2.2.2.1))&&((decide (a.2.2.2.2.2.2.1.1=b.2.2.2.2.2.2.1.1))&&((decide (a.2.2.2.2.2.2.1.2.1=b.2.2.2.2.2.2.1.2.1))&&((decide (a.2.2.2.2.2.2.1.2.2.1=b.2.2.2.2.2.2.1.2.2.1))&&((a.2.2.2.2.2.2.1.2.2.2==b.2.2.2.2.2.2.1.2.2.2)&&((decide (a.2.2.2.2.2.2.2.1.1=b.2.2.2.2.2.2.2.1.1))&&((decide (a.2.2.2.2.2.2.2.1.2.1=b.2.2.2.2.2.2.2.1.2.1))&&((decide (a.2.2.2.2.2.2.2.1.2.2.1=b.2.2.2.2.2.2.2.1.2.2.1))&&((a.2.2.2.2.2.2.2.1.2.2.2==b.2.2.2.2.2.2.2.1.2.2.2)&&((decide (a.2.2.2.2.2.2.2.2.1.1=b.2.2.2.2.2.2.2.2.1.1))&&((decide (a.2.2.2.2.2.2.2.2.1.2=b.2.2.2.2.2.2.2.2.1.2))&&((decide (a.2.2.2.2.2.2.2.2.2.1=b.2.2.2.2.2.2.2.2.2.1))&&((decide (a.2.2.2.2.2.2.2.2.2.2.1=b.2.2.2.2.2.2.2.2.2.2.1))&&(decide (a.2.2.2.2.2.2.2.2.2.2.2=b.2.2.2.2.2.2.2.2.2.2.2))))))))))))))))) (
 a0a (i0z n a.2.2.2.1.1 b.2.2.2.1.1) fun r2 =>
 tif (r2) (
 a0a (i0z n a.2.2.2.1.2.1 b.2.2.2.1.2.1) fun r3 =>
 tif (r3) (
 a0a (i0z n a.2.2.2.1.2.2 b.2.2.2.1.2.2) fun r4 =>
 some r4) (
 some false)) (
 some false)) (
 some false)) (
 some false)) (
 some false)) (
 some false):=by kernel_rfl
theorem z0b (n:Nat) (a:(List (List UInt8×List UInt8))) (b:(List (List UInt8×List UInt8))):u0u (n+1) a b =
 a0a (o0x n a b) fun r0 =>
 some r0:=by kernel_rfl
theorem z0z (n:Nat) (v:b0f) (i:Int):k0g (n+1) v i =
 a0a (at? v.2.2.2 i) fun r0 =>
 a0a (x0h n r0) fun r1 =>
 tif ((!r1)) (
 tif ((decide (v.2.2.1=((-1):Int)))) (
 some true) (
 a0a (w0b n v.1 r0.2.1 v.2.2.1) fun r2 =>
 some (!r2))) (
 some false):=by kernel_rfl
theorem o1i (n:Nat) (c:a0z):k0a (n+1) c =
 a0a (m0g n c.1 (16:Int)) fun r0 =>
 a0a (m0g n c.2.2.1.1 (4:Int)) fun r1 =>
 a0a (m0g n c.2.2.1.2.1 (4:Int)) fun r2 =>
 a0a (m0g n c.2.2.1.2.2 (4:Int)) fun r3 =>
 some (IntKind.wrap .i64 ((IntKind.wrap .i64 ((IntKind.wrap .i64 ((IntKind.wrap .i64 ((1:Int)+r0))+r1))+r2))+r3)):=by kernel_rfl
theorem s1j (n:Nat) (s:((List a0d)×((List a0d)×(List a0d)))):g1d (n+1) s =
 a0a (e0q n a0b (s,(0,()))) fun r0 =>
 b0m (fun y1 =>
 some (1:Int)) (fun z2 =>
 some z2) r0:=by kernel_rfl
theorem j0h (n f:Nat) (s_:((List a0d)×((List a0d)×(List a0d)))) (s4:Int):e0q n (f+1) (s_,s4,()) =
 tif ((decide (s4<3))) (
 tif ((decide (s4=0))) (
 tif ((decide ((40:Int)<(((List.length s_.1):Nat):Int)))) (
 some (.inr (0:Int))) (
 e0q n f (s_,((IntKind.wrap .i64 (s4+1)),())))) (
 tif ((decide (s4=1))) (
 tif ((decide ((40:Int)<(((List.length s_.2.1):Nat):Int)))) (
 some (.inr (0:Int))) (
 e0q n f (s_,((IntKind.wrap .i64 (s4+1)),())))) (
 tif ((decide (s4=2))) (
 tif ((decide ((40:Int)<(((List.length s_.2.2):Nat):Int)))) (
 some (.inr (0:Int))) (
 e0q n f (s_,((IntKind.wrap .i64 (s4+1)),())))) (
 none)))) (
 some (.inl ())):=by kernel_rfl
theorem t0y (n:Nat) (w:(List Int)) (width:Int) (n_:Int):a0u (n+1) w width n_ =
 tif ((decide (width<1))) (
 some w) (
 tif ((decide ((8:Int)<width))) (
 some w) (
 a0a (e0t n a0b (w,(n_,((IntKind.wrap .i64 ((8:Int)*(IntKind.wrap .i64 (width-1)))),())))) fun r0 =>
 b0m (fun y1 =>
 some y1.1) (fun z2 =>
 some z2) r0)):=by kernel_rfl
theorem i0q (n f:Nat) (w:(List Int)) (n_:Int) (up:Int):e0t n (f+1) (w,n_,up,()) =
 tif ((decide ((0:Int)≤up))) (
 tif ((decide (up<0))) (
 none) (
 tif ((decide ((((List.length w)+1)*1)≤140737488355328))) (
 e0t n f ((w++((IntKind.wrap .u8 (shrI .u64 n_ up))::[])),(n_,((IntKind.wrap .i64 (up-8)),())))) (
 none))) (
 some (.inl (w,()))):=by kernel_rfl
end Go.Proofs.YtagnkfbpgkckiaaGreat
