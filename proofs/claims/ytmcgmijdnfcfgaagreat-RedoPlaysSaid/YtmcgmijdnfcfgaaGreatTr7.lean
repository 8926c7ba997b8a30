/- Trees, printed by program. -/
import Derived.Test.YtmcgmijdnfcfgaaGreatTr0
import Derived.KernelRfl
set_option linter.unusedVariables false
namespace Go.Proofs.YtmcgmijdnfcfgaaGreat
open Go.Flat
noncomputable def a0y (n f:Nat) (x:(a0p×(a0a×(a0a×((List c0e)×(Int×(Int×Unit))))))):Option (Unit ⊕ Bool):=b0q cx (evF cx n) 3 10 f x
noncomputable def e0x (n f:Nat) (x:(a0p×(a0a×(a0a×(Int×(Int×(Int×(Int×((List c0e)×(Int×(Int×((List (Int×Int))×(Int×(Int×Unit)))))))))))))):Option ((a0p×(a0a×(a0a×(Int×(Int×(Int×(Int×((List c0e)×(Int×(Int×Unit)))))))))) ⊕ Bool):=b0q cx (evF cx n) 3 31 f x
theorem u0k (n:Nat) (c:a0p) (size:Int) (l:(List c0e)):r0n (n+1) c size l =
 a0d (r0m n ) fun r0 =>
 tif ((!r0)) (
 some false) (
 a0d (r0t n size) fun r1 =>
 n1n (r1.1) (
 tif ((!(decide (r1.2=0)))) (
 some true) (
 some true)) fun r2 =>
 tif ((!(decide (r1.2=0)))) (
 some (decide (r1.2=0))) (
 tif ((decide ((120:Int)<size))) (
 some (decide (r1.2=0))) (
 tif ((decide ((30:Int)<(((List.length l):Nat):Int)))) (
 some (decide (r1.2=0))) (
 a0d (d1m n c) fun r3 =>
 tif ((!r3)) (
 some (decide (r1.2=0))) (
 a0d (a1j n size) fun r4 =>
 tif ((!r4.2)) (
 some false) (
 a0d (a0y n a0c (c,(r2,(r4.1,(l,((((List.length l):Nat):Int),(0,()))))))) fun r5 =>
 d0b (fun y6 =>
 some true) (fun z7 =>
 some z7) r5)))))):=by kernel_rfl
theorem i0n (n f:Nat) (c_:a0p) (d:a0a) (w:a0a) (s69:(List c0e)) (s70:Int) (s71:Int):a0y n (f+1) (c_,d,w,s69,s70,s71,()) =
 tif ((decide (s71<s70))) (
 a0d (at? s69 s71) fun r0 =>
 tif ((decide ((200:Int)<(((List.length r0.2.1):Nat):Int)))) (
 some (.inr true)) (
 tif ((decide (r0.1=0))) (
 a0d (m0r n r0.2.1) fun r1 =>
 a0d (s0k n w c_ r1) fun r2 =>
 a0d (m0r n r0.2.1) fun r3 =>
 a0d (f0l n d c_ r3) fun r4 =>
 a0d (b0r n r4.2) fun r5 =>
 a0d (c0n n r2.1) fun r6 =>
 a0d (d0y n r5.2.2.2 c_) fun r7 =>
 a0d (g0z n r2.1 c_) fun r8 =>
 tif ((!(decide (r2.2=r4.1)))) (
 some (.inr false)) (
 tif ((!(decide (r5.1=r6.1)))) (
 some (.inr false)) (
 tif ((!(decide (r5.2.1=r6.2.1)))) (
 some (.inr false)) (
 tif ((!(decide (r5.2.2.1=r6.2.2)))) (
 some (.inr false)) (
 a0d (c0l n r7.1 r8.1) fun r9 =>
 tif ((!r9)) (
 some (.inr false)) (
 tif ((!(decide (r7.2.1=r8.2)))) (
 some (.inr false)) (
 a0d (c0d n r7.2.2) fun r10 =>
 tif ((!(r10.1==r2.1.2.2.2))) (
 some (.inr false)) (
 a0d (b0s n r10.2) fun r11 =>
 a0d (c0l n r11.1 r2.1.1) fun r12 =>
 tif ((!r12)) (
 some (.inr false)) (
 a0d (b0i n r11.2) fun r13 =>
 a0d (b0o n r13.1 r2.1.2.1) fun r14 =>
 tif ((!r14)) (
 some (.inr false)) (
 a0y n f (c_,(r13.2,(r2.1,(s69,(s70,((IntKind.wrap .i64 (s71+1)),())))))))))))))))) (
 tif ((decide (r0.1=1))) (
 a0d (q0c n w c_) fun r15 =>
 a0d (k0h n d c_) fun r16 =>
 a0d (b0r n r16.2.2) fun r17 =>
 a0d (c0n n r15.1) fun r18 =>
 a0d (d0y n r17.2.2.2 c_) fun r19 =>
 a0d (g0z n r15.1 c_) fun r20 =>
 tif ((!(decide (r15.2.2=r16.2.1)))) (
 some (.inr false)) (
 tif ((!(decide (r15.2.1=r16.1)))) (
 some (.inr false)) (
 tif ((!(decide (r17.1=r18.1)))) (
 some (.inr false)) (
 tif ((!(decide (r17.2.1=r18.2.1)))) (
 some (.inr false)) (
 tif ((!(decide (r17.2.2.1=r18.2.2)))) (
 some (.inr false)) (
 a0d (c0l n r19.1 r20.1) fun r21 =>
 tif ((!r21)) (
 some (.inr false)) (
 tif ((!(decide (r19.2.1=r20.2)))) (
 some (.inr false)) (
 a0d (c0d n r19.2.2) fun r22 =>
 tif ((!(r22.1==r15.1.2.2.2))) (
 some (.inr false)) (
 a0d (b0s n r22.2) fun r23 =>
 a0d (c0l n r23.1 r15.1.1) fun r24 =>
 tif ((!r24)) (
 some (.inr false)) (
 a0d (b0i n r23.2) fun r25 =>
 a0d (b0o n r25.1 r15.1.2.1) fun r26 =>
 tif ((!r26)) (
 some (.inr false)) (
 a0y n f (c_,(r25.2,(r15.1,(s69,(s70,((IntKind.wrap .i64 (s71+1)),()))))))))))))))))) (
 tif ((decide (r0.1=2))) (
 a0d (t0p n w r0.2.2.1) fun r27 =>
 a0d (r0v n d r0.2.2.1) fun r28 =>
 a0d (b0r n r28) fun r29 =>
 a0d (c0n n r27) fun r30 =>
 a0d (d0y n r29.2.2.2 c_) fun r31 =>
 a0d (g0z n r27 c_) fun r32 =>
 tif ((!(decide (r29.1=r30.1)))) (
 some (.inr false)) (
 tif ((!(decide (r29.2.1=r30.2.1)))) (
 some (.inr false)) (
 tif ((!(decide (r29.2.2.1=r30.2.2)))) (
 some (.inr false)) (
 a0d (c0l n r31.1 r32.1) fun r33 =>
 tif ((!r33)) (
 some (.inr false)) (
 tif ((!(decide (r31.2.1=r32.2)))) (
 some (.inr false)) (
 a0d (c0d n r31.2.2) fun r34 =>
 tif ((!(r34.1==r27.2.2.2))) (
 some (.inr false)) (
 a0d (b0s n r34.2) fun r35 =>
 a0d (c0l n r35.1 r27.1) fun r36 =>
 tif ((!r36)) (
 some (.inr false)) (
 a0d (b0i n r35.2) fun r37 =>
 a0d (b0o n r37.1 r27.2.1) fun r38 =>
 tif ((!r38)) (
 some (.inr false)) (
 a0y n f (c_,(r37.2,(r27,(s69,(s70,((IntKind.wrap .i64 (s71+1)),()))))))))))))))) (
 tif ((decide (r0.1=3))) (
 a0d (q0d n w r0.2.2.2) fun r39 =>
 a0d (o0u n d r0.2.2.2) fun r40 =>
 a0d (b0r n r40.2) fun r41 =>
 a0d (c0n n r39.1) fun r42 =>
 a0d (d0y n r41.2.2.2 c_) fun r43 =>
 a0d (g0z n r39.1 c_) fun r44 =>
 tif ((!(decide (r39.2=r40.1)))) (
 some (.inr false)) (
 tif ((!(decide (r41.1=r42.1)))) (
 some (.inr false)) (
 tif ((!(decide (r41.2.1=r42.2.1)))) (
 some (.inr false)) (
 tif ((!(decide (r41.2.2.1=r42.2.2)))) (
 some (.inr false)) (
 a0d (c0l n r43.1 r44.1) fun r45 =>
 tif ((!r45)) (
 some (.inr false)) (
 tif ((!(decide (r43.2.1=r44.2)))) (
 some (.inr false)) (
 a0d (c0d n r43.2.2) fun r46 =>
 tif ((!(r46.1==r39.1.2.2.2))) (
 some (.inr false)) (
 a0d (b0s n r46.2) fun r47 =>
 a0d (c0l n r47.1 r39.1.1) fun r48 =>
 tif ((!r48)) (
 some (.inr false)) (
 a0d (b0i n r47.2) fun r49 =>
 a0d (b0o n r49.1 r39.1.2.1) fun r50 =>
 tif ((!r50)) (
 some (.inr false)) (
 a0y n f (c_,(r49.2,(r39.1,(s69,(s70,((IntKind.wrap .i64 (s71+1)),())))))))))))))))) (
 tif ((decide (r0.1=4))) (
 a0d (e0x n a0c (c_,(d,(w,(0,(0,(0,(0,(s69,(s70,(s71,(r0.2.1,((((List.length r0.2.1):Nat):Int),(0,())))))))))))))) fun r51 =>
 d0b (fun y52 =>
 a0d (b0r n y52.2.1) fun r53 =>
 a0d (c0n n y52.2.2.1) fun r54 =>
 a0d (d0y n r53.2.2.2 y52.1) fun r55 =>
 a0d (g0z n y52.2.2.1 y52.1) fun r56 =>
 tif ((!(decide (y52.2.2.2.1=y52.2.2.2.2.1)))) (
 some (.inr false)) (
 tif ((!(decide (y52.2.2.2.2.2.1=y52.2.2.2.2.2.2.1)))) (
 some (.inr false)) (
 tif ((!(decide (r53.1=r54.1)))) (
 some (.inr false)) (
 tif ((!(decide (r53.2.1=r54.2.1)))) (
 some (.inr false)) (
 tif ((!(decide (r53.2.2.1=r54.2.2)))) (
 some (.inr false)) (
 a0d (c0l n r55.1 r56.1) fun r57 =>
 tif ((!r57)) (
 some (.inr false)) (
 tif ((!(decide (r55.2.1=r56.2)))) (
 some (.inr false)) (
 a0d (c0d n r55.2.2) fun r58 =>
 tif ((!(r58.1==y52.2.2.1.2.2.2))) (
 some (.inr false)) (
 a0d (b0s n r58.2) fun r59 =>
 a0d (c0l n r59.1 y52.2.2.1.1) fun r60 =>
 tif ((!r60)) (
 some (.inr false)) (
 a0d (b0i n r59.2) fun r61 =>
 a0d (b0o n r61.1 y52.2.2.1.2.1) fun r62 =>
 tif ((!r62)) (
 some (.inr false)) (
 a0y n f (y52.1,(r61.2,(y52.2.2.1,(y52.2.2.2.2.2.2.2.1,(y52.2.2.2.2.2.2.2.2.1,((IntKind.wrap .i64 (y52.2.2.2.2.2.2.2.2.2.1+1)),()))))))))))))))))) (fun z63 =>
 some (.inr z63)) r51) (
 tif ((decide (r0.1=5))) (
 a0d (j0v n c_ (IntKind.wrap .u8 r0.2.2.1)) fun r64 =>
 a0d (s0j n w c_ r64) fun r65 =>
 a0d (j0v n c_ (IntKind.wrap .u8 r0.2.2.1)) fun r66 =>
 a0d (j0m n d c_ r66) fun r67 =>
 a0d (b0r n r67.2) fun r68 =>
 a0d (c0n n r65.1) fun r69 =>
 a0d (d0y n r68.2.2.2 c_) fun r70 =>
 a0d (g0z n r65.1 c_) fun r71 =>
 tif ((!(decide (r65.2=r67.1)))) (
 some (.inr false)) (
 tif ((!(decide (r68.1=r69.1)))) (
 some (.inr false)) (
 tif ((!(decide (r68.2.1=r69.2.1)))) (
 some (.inr false)) (
 tif ((!(decide (r68.2.2.1=r69.2.2)))) (
 some (.inr false)) (
 a0d (c0l n r70.1 r71.1) fun r72 =>
 tif ((!r72)) (
 some (.inr false)) (
 tif ((!(decide (r70.2.1=r71.2)))) (
 some (.inr false)) (
 a0d (c0d n r70.2.2) fun r73 =>
 tif ((!(r73.1==r65.1.2.2.2))) (
 some (.inr false)) (
 a0d (b0s n r73.2) fun r74 =>
 a0d (c0l n r74.1 r65.1.1) fun r75 =>
 tif ((!r75)) (
 some (.inr false)) (
 a0d (b0i n r74.2) fun r76 =>
 a0d (b0o n r76.1 r65.1.2.1) fun r77 =>
 tif ((!r77)) (
 some (.inr false)) (
 a0y n f (c_,(r76.2,(r65.1,(s69,(s70,((IntKind.wrap .i64 (s71+1)),())))))))))))))))) (
 a0d (b0r n d) fun r78 =>
 a0d (c0n n w) fun r79 =>
 a0d (d0y n r78.2.2.2 c_) fun r80 =>
 a0d (g0z n w c_) fun r81 =>
 tif ((!(decide (r78.1=r79.1)))) (
 some (.inr false)) (
 tif ((!(decide (r78.2.1=r79.2.1)))) (
 some (.inr false)) (
 tif ((!(decide (r78.2.2.1=r79.2.2)))) (
 some (.inr false)) (
 a0d (c0l n r80.1 r81.1) fun r82 =>
 tif ((!r82)) (
 some (.inr false)) (
 tif ((!(decide (r80.2.1=r81.2)))) (
 some (.inr false)) (
 a0d (c0d n r80.2.2) fun r83 =>
 tif ((!(r83.1==w.2.2.2))) (
 some (.inr false)) (
 a0d (b0s n r83.2) fun r84 =>
 a0d (c0l n r84.1 w.1) fun r85 =>
 tif ((!r85)) (
 some (.inr false)) (
 a0d (b0i n r84.2) fun r86 =>
 a0d (b0o n r86.1 w.2.1) fun r87 =>
 tif ((!r87)) (
 some (.inr false)) (
 a0y n f (c_,(r86.2,(w,(s69,(s70,((IntKind.wrap .i64 (s71+1)),())))))))))))))))))))))) (
 some (.inl ())):=by kernel_rfl
theorem i0m (n f:Nat) (c_:a0p) (d:a0a) (w:a0a) (x:Int) (y:Int) (n_:Int) (m:Int) (s69:(List c0e)) (s70:Int) (s71:Int) (s139:(List (Int×Int))) (s140:Int) (s141:Int):e0x n (f+1) (c_,d,w,x,y,n_,m,s69,s70,s71,s139,s140,s141,()) =
 tif ((decide (s141<s140))) (
 a0d (at? s139 s141) fun r0 =>
 a0d (f0z n r0.2) fun r1 =>
 a0d (h0b n w r0.1 r1) fun r2 =>
 a0d (f0z n r0.2) fun r3 =>
 a0d (g0b n d r0.1 r3) fun r4 =>
 e0x n f (c_,(r4.2,(r2.1,(r2.2,(r4.1,(n_,(m,(s69,(s70,(s71,(s139,(s140,((IntKind.wrap .i64 (s141+1)),())))))))))))))) (
 some (.inl (c_,(d,(w,(x,(y,(n_,(m,(s69,(s70,(s71,())))))))))))):=by kernel_rfl
end Go.Proofs.YtmcgmijdnfcfgaaGreat
