/- Trees, printed by program. -/
import Derived.Test.YtmcgmijdnfcfgaaTr0
import Derived.KernelRfl
set_option linter.unusedVariables false
namespace Go.Proofs.Ytmcgmijdnfcfgaa
open Go.Flat
noncomputable def f0h (n f:Nat) (x:((List (Int×Int))×((List (Int×(List Bool)))×(b0a×(a0f×((List (List UInt8))×((List (List UInt8))×(Int×(Int×Unit))))))))):Option (((List (Int×Int))×((List (Int×(List Bool)))×(b0a×(a0f×((List (List UInt8))×((List (List UInt8))×Unit)))))) ⊕ Bool):=d0p cx (evF cx n) 3 12 f x
noncomputable def c0n (n f:Nat) (x:((List (Int×Int))×((List (Int×(List Bool)))×(b0a×(a0f×((List (List UInt8))×((List (List UInt8))×(Bool×((List (Int×(List Bool)))×(Int×(Int×Unit))))))))))):Option (((List (Int×Int))×((List (Int×(List Bool)))×(b0a×(a0f×((List (List UInt8))×((List (List UInt8))×(Bool×Unit))))))) ⊕ Bool):=d0p cx (evF cx n) 3 20 f x
theorem u0j (n:Nat) (c:b0a) (by_:Int) (l:(List (Int×Int))) (fails:(List (Int×(List Bool)))):t0f (n+1) c by_ l fails =
 a0c (o0z n ) fun r0 =>
 tif ((!r0)) (
 some false) (
 a0c (e0c n c) fun r1 =>
 tif ((!(decide (r1.2=0)))) (
 some true) (
 tif ((decide ((120:Int)<r1.1))) (
 some true) (
 tif ((decide (c.2.2.2.2<(((List.length l):Nat):Int)))) (
 some true) (
 tif ((decide ((12:Int)<(((List.length fails):Nat):Int)))) (
 some true) (
 a0c (p0e n r1.1) fun r2 =>
 oelim (r2.1) (
 tif ((!(decide (r2.2=0)))) (
 some false) (
 some false)) fun r3 =>
 tif ((!(decide (r2.2=0)))) (
 some false) (
 a0c (j0x n c by_) fun r4 =>
 a0c (i0l n r3 c r4) fun r5 =>
 tif ((!(decide (r5.1=0)))) (
 some false) (
 a0c (j0x n c by_) fun r6 =>
 a0c (j0x n c by_) fun r7 =>
 a0c (f0h n a0b (l,(fails,(c,(r5.2,(r6,(r7,((((List.length l):Nat):Int),(0,()))))))))) fun r8 =>
 f0v (fun y9 =>
 a0c (c0n n a0b (y9.1,(y9.2.1,(y9.2.2.1,(y9.2.2.2.1,(y9.2.2.2.2.1,(y9.2.2.2.2.2.1,(false,(y9.2.1,((((List.length y9.2.1):Nat):Int),(0,()))))))))))) fun r10 =>
 f0v (fun y11 =>
 tif ((decide ((((List.length y11.2.1):Nat):Int)=0))) (
 a0c (b0x n y11.1) fun r12 =>
 a0c (b0l n y11.2.2.2.1 y11.2.2.1 r12) fun r13 =>
 a0c (e0x n r13.2 y11.2.2.1) fun r14 =>
 tif ((!(decide (r14.2.1=0)))) (
 some false) (
 a0c (b0u n r14.2.2 y11.2.2.1) fun r15 =>
 a0c (c0c n r15.1 y11.2.2.2.2.2.1) fun r16 =>
 a0c (c0c n r15.1 y11.2.2.2.2.1) fun r17 =>
 a0c (c0h n r15.2.2) fun r18 =>
 tif ((!(decide (r15.2.1=0)))) (
 some false) (
 tif ((!(decide (r18.2.2.1=0)))) (
 some false) (
 tif ((!(decide (r18.2.1=0)))) (
 some false) (
 tif ((!r16)) (
 tif ((!r17)) (
 some false) (
 tif ((decide (r13.1=0))) (
 some false) (
 a0c (b0x n y11.1) fun r19 =>
 a0c (b0l n r18.2.2.2 y11.2.2.1 r19) fun r20 =>
 a0c (b0u n r20.2 y11.2.2.1) fun r21 =>
 tif ((decide (r20.1=0))) (
 tif ((decide (r21.2.1=0))) (
 a0c (c0c n r21.1 y11.2.2.2.2.2.1) fun r22 =>
 some r22) (
 some false)) (
 some false)))) (
 a0c (b0x n y11.1) fun r23 =>
 a0c (b0l n r18.2.2.2 y11.2.2.1 r23) fun r24 =>
 a0c (b0u n r24.2 y11.2.2.1) fun r25 =>
 tif ((decide (r24.1=0))) (
 tif ((decide (r25.2.1=0))) (
 a0c (c0c n r25.1 y11.2.2.2.2.2.1) fun r26 =>
 some r26) (
 some false)) (
 some false))))))) (
 a0c (e0x n y11.2.2.2.1 y11.2.2.1) fun r27 =>
 tif ((!(decide (r27.2.1=0)))) (
 some false) (
 a0c (b0u n r27.2.2 y11.2.2.1) fun r28 =>
 a0c (c0c n r28.1 y11.2.2.2.2.2.1) fun r29 =>
 a0c (c0c n r28.1 y11.2.2.2.2.1) fun r30 =>
 a0c (c0h n r28.2.2) fun r31 =>
 tif ((!(decide (r28.2.1=0)))) (
 some false) (
 tif ((!(decide (r31.2.2.1=0)))) (
 some false) (
 tif ((!(decide (r31.2.1=0)))) (
 some false) (
 tif ((!r29)) (
 tif ((!r30)) (
 some false) (
 tif (y11.2.2.2.2.2.2.1) (
 some false) (
 a0c (b0x n y11.1) fun r32 =>
 a0c (b0l n r31.2.2.2 y11.2.2.1 r32) fun r33 =>
 a0c (b0u n r33.2 y11.2.2.1) fun r34 =>
 tif ((decide (r33.1=0))) (
 tif ((decide (r34.2.1=0))) (
 a0c (c0c n r34.1 y11.2.2.2.2.2.1) fun r35 =>
 some r35) (
 some false)) (
 some false)))) (
 a0c (b0x n y11.1) fun r36 =>
 a0c (b0l n r31.2.2.2 y11.2.2.1 r36) fun r37 =>
 a0c (b0u n r37.2 y11.2.2.1) fun r38 =>
 tif ((decide (r37.1=0))) (
 tif ((decide (r38.2.1=0))) (
 a0c (c0c n r38.1 y11.2.2.2.2.2.1) fun r39 =>
 some r39) (
 some false)) (
 some false)))))))) (fun z40 =>
 some z40) r10) (fun z41 =>
 some z41) r8))))))):=by kernel_rfl
theorem j0f (n f:Nat) (l:(List (Int×Int))) (fails:(List (Int×(List Bool)))) (c_:b0a) (d:a0f) (was:(List (List UInt8))) (now:(List (List UInt8))) (s86:Int) (s87:Int):f0h n (f+1) (l,fails,c_,d,was,now,s86,s87,()) =
 tif ((decide (s87<s86))) (
 a0c (at? l s87) fun r0 =>
 tif ((decide ((((List.length was):Nat):Int)=0))) (
 none) (
 tif (((decide ((0:Int)≤s87))&&(decide (s87≤(((List.length l):Nat):Int))))) (
 tif ((decide (((0+(List.length (List.drop 0 (List.take (Int.toNat s87) l))))*16)≤140737488355328))) (
 a0c (f0k n c_) fun r1 =>
 a0c (at? l s87) fun r2 =>
 tif ((decide ((((List.length ([]++(List.drop 0 (List.take (Int.toNat s87) l))))+1)*16)≤140737488355328))) (
 tif ((decide ((0:Int)≤(IntKind.wrap .i64 (s87+1))))) (
 tif ((decide ((Int.toNat (IntKind.wrap .i64 (s87+1)))≤(List.length l)))) (
 tif ((decide ((((List.length (([]++(List.drop 0 (List.take (Int.toNat s87) l)))++(((IntKind.wrap .i64 (r1+(Int.tmod (IntKind.wrap .i64 (IntKind.wrap .u32 r0.1)) (((List.length was):Nat):Int)))),r2.2)::[])))+(List.length (List.drop (Int.toNat (IntKind.wrap .i64 (s87+1))) (List.take (List.length l) l))))*16)≤140737488355328))) (
 a0c (at? ((([]++(List.drop 0 (List.take (Int.toNat s87) l)))++(((IntKind.wrap .i64 (r1+(Int.tmod (IntKind.wrap .i64 (IntKind.wrap .u32 r0.1)) (((List.length was):Nat):Int)))),r2.2)::[]))++(List.drop (Int.toNat (IntKind.wrap .i64 (s87+1))) (List.take (List.length l) l))) s87) fun r3 =>
 a0c ((((([]++(List.drop 0 (List.take (Int.toNat s87) l)))++(((IntKind.wrap .i64 (r1+(Int.tmod (IntKind.wrap .i64 (IntKind.wrap .u32 r0.1)) (((List.length was):Nat):Int)))),r2.2)::[]))++(List.drop (Int.toNat (IntKind.wrap .i64 (s87+1))) (List.take (List.length l) l))))[(Int.toNat s87)]?) fun r4 =>
 a0c (g0l n r4.2) fun r5 =>
 a0c (at? now (Int.tmod (IntKind.wrap .i64 (IntKind.wrap .u32 r0.1)) (((List.length was):Nat):Int))) fun r6 =>
 a0c ((now)[(Int.toNat (Int.tmod (IntKind.wrap .i64 (IntKind.wrap .u32 r0.1)) (((List.length was):Nat):Int)))]?) fun r7 =>
 f0h n f (((([]++(List.drop 0 (List.take (Int.toNat s87) l)))++(((IntKind.wrap .i64 (r1+(Int.tmod (IntKind.wrap .i64 (IntKind.wrap .u32 r0.1)) (((List.length was):Nat):Int)))),r2.2)::[]))++(List.drop (Int.toNat (IntKind.wrap .i64 (s87+1))) (List.take (List.length l) l))),(fails,(c_,(d,(was,((List.set now (Int.toNat (Int.tmod (IntKind.wrap .i64 (IntKind.wrap .u32 r0.1)) (((List.length was):Nat):Int))) r5),(s86,((IntKind.wrap .i64 (s87+1)),()))))))))) (
 none)) (
 none)) (
 none)) (
 none)) (
 none)) (
 none))) (
 some (.inl (l,(fails,(c_,(d,(was,(now,())))))))):=by kernel_rfl
theorem j0e (n f:Nat) (l:(List (Int×Int))) (fails:(List (Int×(List Bool)))) (c_:b0a) (d:a0f) (was:(List (List UInt8))) (now:(List (List UInt8))) (told:Bool) (s132:(List (Int×(List Bool)))) (s133:Int) (s134:Int):c0n n (f+1) (l,fails,c_,d,was,now,told,s132,s133,s134,()) =
 tif ((decide (s134<s133))) (
 a0c (at? s132 s134) fun r0 =>
 a0c (p0g n d r0.1) fun r1 =>
 tif ((decide (s134=0))) (
 a0c (b0x n l) fun r2 =>
 a0c (b0l n r1 c_ r2) fun r3 =>
 a0c (e0z n r3.2 r0.2) fun r4 =>
 c0n n f (l,(fails,(c_,(r4.2,(was,(now,((decide (r3.1=0)),(s132,(s133,((IntKind.wrap .i64 (s134+1)),()))))))))))) (
 a0c (e0x n r1 c_) fun r5 =>
 tif ((!(decide (r5.2.1=0)))) (
 tif ((!(decide (r5.2.1=14)))) (
 some (.inr false)) (
 a0c (e0z n r5.2.2 r0.2) fun r6 =>
 c0n n f (l,(fails,(c_,(r6.2,(was,(now,(told,(s132,(s133,((IntKind.wrap .i64 (s134+1)),())))))))))))) (
 a0c (e0z n r5.2.2 r0.2) fun r7 =>
 c0n n f (l,(fails,(c_,(r7.2,(was,(now,(told,(s132,(s133,((IntKind.wrap .i64 (s134+1)),()))))))))))))) (
 some (.inl (l,(fails,(c_,(d,(was,(now,(told,()))))))))):=by kernel_rfl
end Go.Proofs.Ytmcgmijdnfcfgaa
