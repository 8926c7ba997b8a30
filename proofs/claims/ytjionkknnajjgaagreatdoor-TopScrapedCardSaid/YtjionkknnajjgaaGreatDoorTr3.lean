/- Trees, printed by program. -/
import Derived.Test.YtjionkknnajjgaaGreatDoorTr0
import Derived.KernelRfl
set_option linter.unusedVariables false
namespace Go.Proofs.YtjionkknnajjgaaGreatDoor
open Go.Flat
theorem t1p (n:Nat) (data:(List a0d)) (a:Int) (m:Int) (b:Int) (cmp:((a0d×(a0d×Unit))→Option Int)):b0l (n+1) data a m b cmp =
 tif ((decide ((IntKind.wrap .i64 (m-a))=1))) (
 a0a (l0x n a0c (data,(a,(cmp,(m,(b,())))))) fun r0 =>
 c0w (fun y1 =>
 a0a (p0z n a0c (y1.1,(y1.2.2.1,(y1.2.1,())))) fun r2 =>
 c0w (fun y3 =>
 some y3.1) (fun z4 =>
 some z4) r2) (fun z5 =>
 some z5) r0) (
 tif ((decide ((IntKind.wrap .i64 (b-m))=1))) (
 a0a (k0d n a0c (data,(m,(cmp,(a,(m,())))))) fun r6 =>
 c0w (fun y7 =>
 a0a (n0k n a0c (y7.1,(y7.2.2.1,(y7.2.1,())))) fun r8 =>
 c0w (fun y9 =>
 some y9.1) (fun z10 =>
 some z10) r8) (fun z11 =>
 some z11) r6) (
 tif ((decide ((IntKind.wrap .i64 (shrI .u64 (IntKind.wrap .u64 (IntKind.wrap .i64 (a+b))) (1:Int)))<m))) (
 a0a (h0h n a0c (data,(a,(m,(b,(cmp,((IntKind.wrap .i64 (shrI .u64 (IntKind.wrap .u64 (IntKind.wrap .i64 (a+b))) (1:Int))),((IntKind.wrap .i64 ((IntKind.wrap .i64 (shrI .u64 (IntKind.wrap .u64 (IntKind.wrap .i64 (a+b))) (1:Int)))+m)),((IntKind.wrap .i64 ((IntKind.wrap .i64 ((IntKind.wrap .i64 (shrI .u64 (IntKind.wrap .u64 (IntKind.wrap .i64 (a+b))) (1:Int)))+m))-b)),((IntKind.wrap .i64 (shrI .u64 (IntKind.wrap .u64 (IntKind.wrap .i64 (a+b))) (1:Int))),((IntKind.wrap .i64 ((IntKind.wrap .i64 ((IntKind.wrap .i64 (shrI .u64 (IntKind.wrap .u64 (IntKind.wrap .i64 (a+b))) (1:Int)))+m))-1)),()))))))))))) fun r12 =>
 c0w (fun y13 =>
 tif ((decide (y13.2.2.2.2.2.2.2.1<y13.2.2.1))) (
 tif ((decide (y13.2.2.1<(IntKind.wrap .i64 (y13.2.2.2.2.2.2.1-y13.2.2.2.2.2.2.2.1))))) (
 a0a (z0u n y13.1 y13.2.2.2.2.2.2.2.1 y13.2.2.1 (IntKind.wrap .i64 (y13.2.2.2.2.2.2.1-y13.2.2.2.2.2.2.2.1)) y13.2.2.2.2.1) fun r14 =>
 tif ((decide (y13.2.1<y13.2.2.2.2.2.2.2.1))) (
 tif ((decide (y13.2.2.2.2.2.2.2.1<y13.2.2.2.2.2.1))) (
 a0a (b0l n r14 y13.2.1 y13.2.2.2.2.2.2.2.1 y13.2.2.2.2.2.1 y13.2.2.2.2.1) fun r15 =>
 tif ((decide (y13.2.2.2.2.2.1<(IntKind.wrap .i64 (y13.2.2.2.2.2.2.1-y13.2.2.2.2.2.2.2.1))))) (
 tif ((decide ((IntKind.wrap .i64 (y13.2.2.2.2.2.2.1-y13.2.2.2.2.2.2.2.1))<y13.2.2.2.1))) (
 a0a (b0l n r15 y13.2.2.2.2.2.1 (IntKind.wrap .i64 (y13.2.2.2.2.2.2.1-y13.2.2.2.2.2.2.2.1)) y13.2.2.2.1 y13.2.2.2.2.1) fun r16 =>
 some r16) (
 some r15)) (
 some r15)) (
 tif ((decide (y13.2.2.2.2.2.1<(IntKind.wrap .i64 (y13.2.2.2.2.2.2.1-y13.2.2.2.2.2.2.2.1))))) (
 tif ((decide ((IntKind.wrap .i64 (y13.2.2.2.2.2.2.1-y13.2.2.2.2.2.2.2.1))<y13.2.2.2.1))) (
 a0a (b0l n r14 y13.2.2.2.2.2.1 (IntKind.wrap .i64 (y13.2.2.2.2.2.2.1-y13.2.2.2.2.2.2.2.1)) y13.2.2.2.1 y13.2.2.2.2.1) fun r17 =>
 some r17) (
 some r14)) (
 some r14))) (
 tif ((decide (y13.2.2.2.2.2.1<(IntKind.wrap .i64 (y13.2.2.2.2.2.2.1-y13.2.2.2.2.2.2.2.1))))) (
 tif ((decide ((IntKind.wrap .i64 (y13.2.2.2.2.2.2.1-y13.2.2.2.2.2.2.2.1))<y13.2.2.2.1))) (
 a0a (b0l n r14 y13.2.2.2.2.2.1 (IntKind.wrap .i64 (y13.2.2.2.2.2.2.1-y13.2.2.2.2.2.2.2.1)) y13.2.2.2.1 y13.2.2.2.2.1) fun r18 =>
 some r18) (
 some r14)) (
 some r14))) (
 tif ((decide (y13.2.1<y13.2.2.2.2.2.2.2.1))) (
 tif ((decide (y13.2.2.2.2.2.2.2.1<y13.2.2.2.2.2.1))) (
 a0a (b0l n y13.1 y13.2.1 y13.2.2.2.2.2.2.2.1 y13.2.2.2.2.2.1 y13.2.2.2.2.1) fun r19 =>
 tif ((decide (y13.2.2.2.2.2.1<(IntKind.wrap .i64 (y13.2.2.2.2.2.2.1-y13.2.2.2.2.2.2.2.1))))) (
 tif ((decide ((IntKind.wrap .i64 (y13.2.2.2.2.2.2.1-y13.2.2.2.2.2.2.2.1))<y13.2.2.2.1))) (
 a0a (b0l n r19 y13.2.2.2.2.2.1 (IntKind.wrap .i64 (y13.2.2.2.2.2.2.1-y13.2.2.2.2.2.2.2.1)) y13.2.2.2.1 y13.2.2.2.2.1) fun r20 =>
 some r20) (
 some r19)) (
 some r19)) (
 tif ((decide (y13.2.2.2.2.2.1<(IntKind.wrap .i64 (y13.2.2.2.2.2.2.1-y13.2.2.2.2.2.2.2.1))))) (
 tif ((decide ((IntKind.wrap .i64 (y13.2.2.2.2.2.2.1-y13.2.2.2.2.2.2.2.1))<y13.2.2.2.1))) (
 a0a (b0l n y13.1 y13.2.2.2.2.2.1 (IntKind.wrap .i64 (y13.2.2.2.2.2.2.1-y13.2.2.2.2.2.2.2.1)) y13.2.2.2.1 y13.2.2.2.2.1) fun r21 =>
 some r21) (
 some y13.1)) (
 some y13.1))) (
 tif ((decide (y13.2.2.2.2.2.1<(IntKind.wrap .i64 (y13.2.2.2.2.2.2.1-y13.2.2.2.2.2.2.2.1))))) (
 tif ((decide ((IntKind.wrap .i64 (y13.2.2.2.2.2.2.1-y13.2.2.2.2.2.2.2.1))<y13.2.2.2.1))) (
 a0a (b0l n y13.1 y13.2.2.2.2.2.1 (IntKind.wrap .i64 (y13.2.2.2.2.2.2.1-y13.2.2.2.2.2.2.2.1)) y13.2.2.2.1 y13.2.2.2.2.1) fun r22 =>
 some r22) (
 some y13.1)) (
 some y13.1)))) (
 tif ((decide (y13.2.1<y13.2.2.2.2.2.2.2.1))) (
 tif ((decide (y13.2.2.2.2.2.2.2.1<y13.2.2.2.2.2.1))) (
 a0a (b0l n y13.1 y13.2.1 y13.2.2.2.2.2.2.2.1 y13.2.2.2.2.2.1 y13.2.2.2.2.1) fun r23 =>
 tif ((decide (y13.2.2.2.2.2.1<(IntKind.wrap .i64 (y13.2.2.2.2.2.2.1-y13.2.2.2.2.2.2.2.1))))) (
 tif ((decide ((IntKind.wrap .i64 (y13.2.2.2.2.2.2.1-y13.2.2.2.2.2.2.2.1))<y13.2.2.2.1))) (
 a0a (b0l n r23 y13.2.2.2.2.2.1 (IntKind.wrap .i64 (y13.2.2.2.2.2.2.1-y13.2.2.2.2.2.2.2.1)) y13.2.2.2.1 y13.2.2.2.2.1) fun r24 =>
 some r24) (
 some r23)) (
 some r23)) (
 tif ((decide (y13.2.2.2.2.2.1<(IntKind.wrap .i64 (y13.2.2.2.2.2.2.1-y13.2.2.2.2.2.2.2.1))))) (
 tif ((decide ((IntKind.wrap .i64 (y13.2.2.2.2.2.2.1-y13.2.2.2.2.2.2.2.1))<y13.2.2.2.1))) (
 a0a (b0l n y13.1 y13.2.2.2.2.2.1 (IntKind.wrap .i64 (y13.2.2.2.2.2.2.1-y13.2.2.2.2.2.2.2.1)) y13.2.2.2.1 y13.2.2.2.2.1) fun r25 =>
 some r25) (
 some y13.1)) (
 some y13.1))) (
 tif ((decide (y13.2.2.2.2.2.1<(IntKind.wrap .i64 (y13.2.2.2.2.2.2.1-y13.2.2.2.2.2.2.2.1))))) (
 tif ((decide ((IntKind.wrap .i64 (y13.2.2.2.2.2.2.1-y13.2.2.2.2.2.2.2.1))<y13.2.2.2.1))) (
 a0a (b0l n y13.1 y13.2.2.2.2.2.1 (IntKind.wrap .i64 (y13.2.2.2.2.2.2.1-y13.2.2.2.2.2.2.2.1)) y13.2.2.2.1 y13.2.2.2.2.1) fun r26 =>
 some r26) (
 some y13.1)) (
 some y13.1)))) (fun z27 =>
 some z27) r12) (
 a0a (h0h n a0c (data,(a,(m,(b,(cmp,((IntKind.wrap .i64 (shrI .u64 (IntKind.wrap .u64 (IntKind.wrap .i64 (a+b))) (1:Int))),((IntKind.wrap .i64 ((IntKind.wrap .i64 (shrI .u64 (IntKind.wrap .u64 (IntKind.wrap .i64 (a+b))) (1:Int)))+m)),(a,(m,((IntKind.wrap .i64 ((IntKind.wrap .i64 ((IntKind.wrap .i64 (shrI .u64 (IntKind.wrap .u64 (IntKind.wrap .i64 (a+b))) (1:Int)))+m))-1)),()))))))))))) fun r28 =>
 c0w (fun y29 =>
 tif ((decide (y29.2.2.2.2.2.2.2.1<y29.2.2.1))) (
 tif ((decide (y29.2.2.1<(IntKind.wrap .i64 (y29.2.2.2.2.2.2.1-y29.2.2.2.2.2.2.2.1))))) (
 a0a (z0u n y29.1 y29.2.2.2.2.2.2.2.1 y29.2.2.1 (IntKind.wrap .i64 (y29.2.2.2.2.2.2.1-y29.2.2.2.2.2.2.2.1)) y29.2.2.2.2.1) fun r30 =>
 tif ((decide (y29.2.1<y29.2.2.2.2.2.2.2.1))) (
 tif ((decide (y29.2.2.2.2.2.2.2.1<y29.2.2.2.2.2.1))) (
 a0a (b0l n r30 y29.2.1 y29.2.2.2.2.2.2.2.1 y29.2.2.2.2.2.1 y29.2.2.2.2.1) fun r31 =>
 tif ((decide (y29.2.2.2.2.2.1<(IntKind.wrap .i64 (y29.2.2.2.2.2.2.1-y29.2.2.2.2.2.2.2.1))))) (
 tif ((decide ((IntKind.wrap .i64 (y29.2.2.2.2.2.2.1-y29.2.2.2.2.2.2.2.1))<y29.2.2.2.1))) (
 a0a (b0l n r31 y29.2.2.2.2.2.1 (IntKind.wrap .i64 (y29.2.2.2.2.2.2.1-y29.2.2.2.2.2.2.2.1)) y29.2.2.2.1 y29.2.2.2.2.1) fun r32 =>
 some r32) (
 some r31)) (
 some r31)) (
 tif ((decide (y29.2.2.2.2.2.1<(IntKind.wrap .i64 (y29.2.2.2.2.2.2.1-y29.2.2.2.2.2.2.2.1))))) (
 tif ((decide ((IntKind.wrap .i64 (y29.2.2.2.2.2.2.1-y29.2.2.2.2.2.2.2.1))<y29.2.2.2.1))) (
 a0a (b0l n r30 y29.2.2.2.2.2.1 (IntKind.wrap .i64 (y29.2.2.2.2.2.2.1-y29.2.2.2.2.2.2.2.1)) y29.2.2.2.1 y29.2.2.2.2.1) fun r33 =>
 some r33) (
 some r30)) (
 some r30))) (
 tif ((decide (y29.2.2.2.2.2.1<(IntKind.wrap .i64 (y29.2.2.2.2.2.2.1-y29.2.2.2.2.2.2.2.1))))) (
 tif ((decide ((IntKind.wrap .i64 (y29.2.2.2.2.2.2.1-y29.2.2.2.2.2.2.2.1))<y29.2.2.2.1))) (
 a0a (b0l n r30 y29.2.2.2.2.2.1 (IntKind.wrap .i64 (y29.2.2.2.2.2.2.1-y29.2.2.2.2.2.2.2.1)) y29.2.2.2.1 y29.2.2.2.2.1) fun r34 =>
 some r34) (
 some r30)) (
 some r30))) (
 tif ((decide (y29.2.1<y29.2.2.2.2.2.2.2.1))) (
 tif ((decide (y29.2.2.2.2.2.2.2.1<y29.2.2.2.2.2.1))) (
 a0a (b0l n y29.1 y29.2.1 y29.2.2.2.2.2.2.2.1 y29.2.2.2.2.2.1 y29.2.2.2.2.1) fun r35 =>
 tif ((decide (y29.2.2.2.2.2.1<(IntKind.wrap .i64 (y29.2.2.2.2.2.2.1-y29.2.2.2.2.2.2.2.1))))) (
 tif ((decide ((IntKind.wrap .i64 (y29.2.2.2.2.2.2.1-y29.2.2.2.2.2.2.2.1))<y29.2.2.2.1))) (
 a0a (b0l n r35 y29.2.2.2.2.2.1 (IntKind.wrap .i64 (y29.2.2.2.2.2.2.1-y29.2.2.2.2.2.2.2.1)) y29.2.2.2.1 y29.2.2.2.2.1) fun r36 =>
 some r36) (
 some r35)) (
 some r35)) (
 tif ((decide (y29.2.2.2.2.2.1<(IntKind.wrap .i64 (y29.2.2.2.2.2.2.1-y29.2.2.2.2.2.2.2.1))))) (
 tif ((decide ((IntKind.wrap .i64 (y29.2.2.2.2.2.2.1-y29.2.2.2.2.2.2.2.1))<y29.2.2.2.1))) (
 a0a (b0l n y29.1 y29.2.2.2.2.2.1 (IntKind.wrap .i64 (y29.2.2.2.2.2.2.1-y29.2.2.2.2.2.2.2.1)) y29.2.2.2.1 y29.2.2.2.2.1) fun r37 =>
 some r37) (
 some y29.1)) (
 some y29.1))) (
 tif ((decide (y29.2.2.2.2.2.1<(IntKind.wrap .i64 (y29.2.2.2.2.2.2.1-y29.2.2.2.2.2.2.2.1))))) (
 tif ((decide ((IntKind.wrap .i64 (y29.2.2.2.2.2.2.1-y29.2.2.2.2.2.2.2.1))<y29.2.2.2.1))) (
 a0a (b0l n y29.1 y29.2.2.2.2.2.1 (IntKind.wrap .i64 (y29.2.2.2.2.2.2.1-y29.2.2.2.2.2.2.2.1)) y29.2.2.2.1 y29.2.2.2.2.1) fun r38 =>
 some r38) (
 some y29.1)) (
 some y29.1)))) (
 tif ((decide (y29.2.1<y29.2.2.2.2.2.2.2.1))) (
 tif ((decide (y29.2.2.2.2.2.2.2.1<y29.2.2.2.2.2.1))) (
 a0a (b0l n y29.1 y29.2.1 y29.2.2.2.2.2.2.2.1 y29.2.2.2.2.2.1 y29.2.2.2.2.1) fun r39 =>
 tif ((decide (y29.2.2.2.2.2.1<(IntKind.wrap .i64 (y29.2.2.2.2.2.2.1-y29.2.2.2.2.2.2.2.1))))) (
 tif ((decide ((IntKind.wrap .i64 (y29.2.2.2.2.2.2.1-y29.2.2.2.2.2.2.2.1))<y29.2.2.2.1))) (
 a0a (b0l n r39 y29.2.2.2.2.2.1 (IntKind.wrap .i64 (y29.2.2.2.2.2.2.1-y29.2.2.2.2.2.2.2.1)) y29.2.2.2.1 y29.2.2.2.2.1) fun r40 =>
 some r40) (
 some r39)) (
 some r39)) (
 tif ((decide (y29.2.2.2.2.2.1<(IntKind.wrap .i64 (y29.2.2.2.2.2.2.1-y29.2.2.2.2.2.2.2.1))))) (
 tif ((decide ((IntKind.wrap .i64 (y29.2.2.2.2.2.2.1-y29.2.2.2.2.2.2.2.1))<y29.2.2.2.1))) (
 a0a (b0l n y29.1 y29.2.2.2.2.2.1 (IntKind.wrap .i64 (y29.2.2.2.2.2.2.1-y29.2.2.2.2.2.2.2.1)) y29.2.2.2.1 y29.2.2.2.2.1) fun r41 =>
 some r41) (
 some y29.1)) (
 some y29.1))) (
 tif ((decide (y29.2.2.2.2.2.1<(IntKind.wrap .i64 (y29.2.2.2.2.2.2.1-y29.2.2.2.2.2.2.2.1))))) (
 tif ((decide ((IntKind.wrap .i64 (y29.2.2.2.2.2.2.1-y29.2.2.2.2.2.2.2.1))<y29.2.2.2.1))) (
 a0a (b0l n y29.1 y29.2.2.2.2.2.1 (IntKind.wrap .i64 (y29.2.2.2.2.2.2.1-y29.2.2.2.2.2.2.2.1)) y29.2.2.2.1 y29.2.2.2.2.1) fun r42 =>
 some r42) (
 some y29.1)) (
 some y29.1)))) (fun z43 =>
 some z43) r28))):=by kernel_rfl
theorem t0k (n f:Nat) (data:(List a0d)) (a:Int) (cmp:((a0d×(a0d×Unit))→Option Int)) (i:Int) (j:Int):l0x n (f+1) (data,a,cmp,i,j,()) =
 tif ((decide (i<j))) (
 a0a (at? data (IntKind.wrap .i64 (shrI .u64 (IntKind.wrap .u64 (IntKind.wrap .i64 (i+j))) (1:Int)))) fun r0 =>
 a0a ((data)[(Int.toNat (IntKind.wrap .i64 (shrI .u64 (IntKind.wrap .u64 (IntKind.wrap .i64 (i+j))) (1:Int))))]?) fun r1 =>
 a0a (at? data a) fun r2 =>
 a0a ((data)[(Int.toNat a)]?) fun r3 =>
 a0a (cmp (r1,(r3,()))) fun r4 =>
 tif ((decide (r4<0))) (
 l0x n f (data,(a,(cmp,((IntKind.wrap .i64 ((IntKind.wrap .i64 (shrI .u64 (IntKind.wrap .u64 (IntKind.wrap .i64 (i+j))) (1:Int)))+1)),(j,())))))) (
 l0x n f (data,(a,(cmp,(i,((IntKind.wrap .i64 (shrI .u64 (IntKind.wrap .u64 (IntKind.wrap .i64 (i+j))) (1:Int))),()))))))) (
 some (.inl (data,(a,(i,()))))):=by kernel_rfl
theorem t0j (n f:Nat) (data:(List a0d)) (i:Int) (k:Int):p0z n (f+1) (data,i,k,()) =
 tif ((decide (k<(IntKind.wrap .i64 (i-1))))) (
 a0a (at? data (IntKind.wrap .i64 (k+1))) fun r0 =>
 a0a ((data)[(Int.toNat (IntKind.wrap .i64 (k+1)))]?) fun r1 =>
 a0a (at? data k) fun r2 =>
 a0a ((data)[(Int.toNat k)]?) fun r3 =>
 a0a (at? data k) fun r4 =>
 a0a ((data)[(Int.toNat k)]?) fun r5 =>
 a0a (at? (List.set data (Int.toNat k) r1) (IntKind.wrap .i64 (k+1))) fun r6 =>
 a0a (((List.set data (Int.toNat k) r1))[(Int.toNat (IntKind.wrap .i64 (k+1)))]?) fun r7 =>
 p0z n f ((List.set (List.set data (Int.toNat k) r1) (Int.toNat (IntKind.wrap .i64 (k+1))) r3),(i,((IntKind.wrap .i64 (k+1)),())))) (
 some (.inl (data,()))):=by kernel_rfl
theorem r0j (n f:Nat) (data:(List a0d)) (m:Int) (cmp:((a0d×(a0d×Unit))→Option Int)) (i_:Int) (j_:Int):k0d n (f+1) (data,m,cmp,i_,j_,()) =
 tif ((decide (i_<j_))) (
 a0a (at? data m) fun r0 =>
 a0a ((data)[(Int.toNat m)]?) fun r1 =>
 a0a (at? data (IntKind.wrap .i64 (shrI .u64 (IntKind.wrap .u64 (IntKind.wrap .i64 (i_+j_))) (1:Int)))) fun r2 =>
 a0a ((data)[(Int.toNat (IntKind.wrap .i64 (shrI .u64 (IntKind.wrap .u64 (IntKind.wrap .i64 (i_+j_))) (1:Int))))]?) fun r3 =>
 a0a (cmp (r1,(r3,()))) fun r4 =>
 tif ((!(decide (r4<0)))) (
 k0d n f (data,(m,(cmp,((IntKind.wrap .i64 ((IntKind.wrap .i64 (shrI .u64 (IntKind.wrap .u64 (IntKind.wrap .i64 (i_+j_))) (1:Int)))+1)),(j_,())))))) (
 k0d n f (data,(m,(cmp,(i_,((IntKind.wrap .i64 (shrI .u64 (IntKind.wrap .u64 (IntKind.wrap .i64 (i_+j_))) (1:Int))),()))))))) (
 some (.inl (data,(m,(i_,()))))):=by kernel_rfl
theorem r0i (n f:Nat) (data:(List a0d)) (i_:Int) (k_:Int):n0k n (f+1) (data,i_,k_,()) =
 tif ((decide (i_<k_))) (
 a0a (at? data (IntKind.wrap .i64 (k_-1))) fun r0 =>
 a0a ((data)[(Int.toNat (IntKind.wrap .i64 (k_-1)))]?) fun r1 =>
 a0a (at? data k_) fun r2 =>
 a0a ((data)[(Int.toNat k_)]?) fun r3 =>
 a0a (at? data k_) fun r4 =>
 a0a ((data)[(Int.toNat k_)]?) fun r5 =>
 a0a (at? (List.set data (Int.toNat k_) r1) (IntKind.wrap .i64 (k_-1))) fun r6 =>
 a0a (((List.set data (Int.toNat k_) r1))[(Int.toNat (IntKind.wrap .i64 (k_-1)))]?) fun r7 =>
 n0k n f ((List.set (List.set data (Int.toNat k_) r1) (Int.toNat (IntKind.wrap .i64 (k_-1))) r3),(i_,((IntKind.wrap .i64 (k_-1)),())))) (
 some (.inl (data,()))):=by kernel_rfl
theorem r0h (n f:Nat) (data:(List a0d)) (a:Int) (m:Int) (b:Int) (cmp:((a0d×(a0d×Unit))→Option Int)) (mid:Int) (n_:Int) (start:Int) (r:Int) (p:Int):h0h n (f+1) (data,a,m,b,cmp,mid,n_,start,r,p,()) =
 tif ((decide (start<r))) (
 a0a (at? data (IntKind.wrap .i64 (p-(IntKind.wrap .i64 (shrI .u64 (IntKind.wrap .u64 (IntKind.wrap .i64 (start+r))) (1:Int)))))) fun r0 =>
 a0a ((data)[(Int.toNat (IntKind.wrap .i64 (p-(IntKind.wrap .i64 (shrI .u64 (IntKind.wrap .u64 (IntKind.wrap .i64 (start+r))) (1:Int))))))]?) fun r1 =>
 a0a (at? data (IntKind.wrap .i64 (shrI .u64 (IntKind.wrap .u64 (IntKind.wrap .i64 (start+r))) (1:Int)))) fun r2 =>
 a0a ((data)[(Int.toNat (IntKind.wrap .i64 (shrI .u64 (IntKind.wrap .u64 (IntKind.wrap .i64 (start+r))) (1:Int))))]?) fun r3 =>
 a0a (cmp (r1,(r3,()))) fun r4 =>
 tif ((!(decide (r4<0)))) (
 h0h n f (data,(a,(m,(b,(cmp,(mid,(n_,((IntKind.wrap .i64 ((IntKind.wrap .i64 (shrI .u64 (IntKind.wrap .u64 (IntKind.wrap .i64 (start+r))) (1:Int)))+1)),(r,(p,()))))))))))) (
 h0h n f (data,(a,(m,(b,(cmp,(mid,(n_,(start,((IntKind.wrap .i64 (shrI .u64 (IntKind.wrap .u64 (IntKind.wrap .i64 (start+r))) (1:Int))),(p,())))))))))))) (
 some (.inl (data,(a,(m,(b,(cmp,(mid,(n_,(start,())))))))))):=by kernel_rfl
theorem b1w (n:Nat) (n_:Int) (low:Int) (high:Int):m0y (n+1) n_ low high =
 tif ((decide (low≤n_))) (
 some (decide (n_≤high))) (
 some false):=by kernel_rfl
theorem m1u (n:Nat) (w:Int):q1g (n+1) w =
 a0a (m0y n w (1:Int) (1099511627776:Int)) fun r0 =>
 some r0:=by kernel_rfl
theorem j1g (n:Nat) (n_:Int) (low:Int) (high:Int):j1h (n+1) n_ low high =
 tif ((decide (low≤n_))) (
 some (decide (n_≤high))) (
 some false):=by kernel_rfl
theorem s1u (n:Nat) (i:Int) (n_:Int):f1c (n+1) i n_ =
 tif ((decide (i<0))) (
 some (0:Int)) (
 tif ((decide (n_<1))) (
 some (0:Int)) (
 tif ((decide (n_=0))) (
 none) (
 some (Int.tmod i n_)))):=by kernel_rfl
theorem i1q (n:Nat) (c:c0o):w0i (n+1) c =
 tif ((decide (c.1=1))) (
 tif (((decide (c.2.1.1=c.2.2.1.1))&&((decide (c.2.1.2.1=c.2.2.1.2.1))&&((decide (c.2.1.2.2.1=c.2.2.1.2.2.1))&&(c.2.1.2.2.2==c.2.2.1.2.2.2))))) (
 a0a (d0f n c.2.1) fun r0 =>
 some (decide (r0=0))) (
 some false)) (
 tif ((decide ((1:Int)<c.1))) (
 a0a (i0n n c.2.1 c.2.2.1) fun r1 =>
 tif (r1) (
 some (decide ((IntKind.wrap .i64 (c.1-1))≤(IntKind.wrap .i64 (c.2.2.1.1-c.2.1.1))))) (
 some false)) (
 some false)):=by kernel_rfl
theorem e1y (n:Nat) (a:(Int×Int)) (n_:Int):u0u (n+1) a n_ =
 a0a (g0t n a.2 n_) fun r0 =>
 a0a (g0t n a.1 n_) fun r1 =>
 tif (((decide ((0:Int)≤r1.2))&&((decide ((0:Int)≤r0.1))&&true))) (
 a0a (s0q n ((((r1.2+r0.1)+0) % (18446744073709551616:Int)),r0.2) (orI .u64 r1.1 (((r1.2+r0.1)+0) / (18446744073709551616:Int)))) fun r2 =>
 some r2) (
 none):=by kernel_rfl
theorem s1t (n:Nat) (n_:Int):z0e (n+1) n_ =
 some (0,n_):=by kernel_rfl
theorem j1f (n:Nat) (a:(Int×Int)) (b:(Int×Int)):z0f (n+1) a b =
 tif ((decide (a.1<b.1))) (
 some true) (
 tif ((decide (a.1=b.1))) (
 some (decide (a.2<b.2))) (
 some false)):=by kernel_rfl
theorem w1f (n:Nat) (n_:Int) (most:Int):b1g (n+1) n_ most =
 tif ((decide ((0:Int)≤n_))) (
 some (decide (n_≤most))) (
 some false):=by kernel_rfl
theorem j1n (n:Nat) (l:(List a0d)) (i:Int) (k:Int):s0x (n+1) l i k =
 tif ((decide (i<0))) (
 some ((0,((0,(0,(0,false))),((0,(0,(0,false))),((0,0),(0,(0,0)))))),1)) (
 tif ((decide (k<i))) (
 some ((0,((0,(0,(0,false))),((0,(0,(0,false))),((0,0),(0,(0,0)))))),1)) (
 a0a (f1i n l) fun r0 =>
 a0a (g0k n a0c (i,(k,((0,((0,(0,(0,false))),((0,(0,(0,false))),((0,0),(0,(0,0)))))),([],(r0,((((List.length r0):Nat):Int),(0,())))))))) fun r1 =>
 c0w (fun y2 =>
 a0a (i1u n y2.2.1) fun r3 =>
 some r3) (fun z4 =>
 some z4) r1)):=by kernel_rfl
theorem o0r (n f:Nat) (i:Int) (k:Int) (s6:c0o) (cells:(List c0o)) (s20:(List a0d)) (s21:Int) (s22:Int):g0k n (f+1) (i,k,s6,cells,s20,s21,s22,()) =
 tif ((decide (s22<s21))) (
 a0a (at? s20 s22) fun r0 =>
 tif ((decide (i≤r0.1))) (
 tif ((decide (r0.1<k))) (
 tif ((decide ((((List.length cells)+1)*112)≤140737488355328))) (
 g0k n f (i,(k,(s6,((cells++(r0.2::[])),(s20,(s21,((IntKind.wrap .i64 (s22+1)),())))))))) (
 none)) (
 g0k n f (i,(k,(s6,(cells,(s20,(s21,((IntKind.wrap .i64 (s22+1)),()))))))))) (
 g0k n f (i,(k,(s6,(cells,(s20,(s21,((IntKind.wrap .i64 (s22+1)),()))))))))) (
 some (.inl (s6,(cells,())))):=by kernel_rfl
theorem y0f (n:Nat) (p:a0t) (c:a0t):o0b (n+1) p c =
 a0a (k0m n (p::(c::[]))) fun r0 =>
 tif ((!r0)) (
 some ((0,((0,(0,(0,false))),((0,(0,(0,false))),((0,0),(0,(0,0)))))),2)) (
 tif ((decide (c.1≤p.1))) (
 some ((0,((0,(0,(0,false))),((0,(0,(0,false))),((0,0),(0,(0,0)))))),9)) (
 tif (c.2.2.2) (
 some ((0,((0,(0,(0,false))),((0,(0,(0,false))),((0,0),(0,(0,0)))))),0)) (
 tif ((decide (p.1<c.2.2.1))) (
 a0a (q0l n c (IntKind.wrap .i64 (c.1-c.2.2.1))) fun r1 =>
 some (r1,0)) (
 tif (p.2.2.2) (
 some ((0,((0,(0,(0,false))),((0,(0,(0,false))),((0,0),(0,(1,0)))))),0)) (
 tif ((decide (c.2.1<p.2.1))) (
 a0a (q0l n c (IntKind.wrap .i64 (c.1-p.1))) fun r2 =>
 some (r2,0)) (
 a0a (z0e n (IntKind.wrap .u64 (c.2.1-p.2.1))) fun r3 =>
 some ((0,((0,(0,(0,false))),((0,(0,(0,false))),(r3,(0,(0,(IntKind.wrap .i64 (c.1-p.1)))))))),0))))))):=by kernel_rfl
theorem m1s (n:Nat) (l:(List (Int×Int))):e1z (n+1) l =
 a0a (m0x n a0c ((0,0),((0,0),(l,((((List.length l):Nat):Int),(0,())))))) fun r0 =>
 c0w (fun y1 =>
 some (y1.2.1,0)) (fun z2 =>
 some z2) r0:=by kernel_rfl
theorem r0e (n f:Nat) (s2:(Int×Int)) (a:(Int×Int)) (s9:(List (Int×Int))) (s10:Int) (s11:Int):m0x n (f+1) (s2,a,s9,s10,s11,()) =
 tif ((decide (s11<s10))) (
 a0a (at? s9 s11) fun r0 =>
 a0a (f1b n a r0) fun r1 =>
 tif ((!(decide (r1.2=0)))) (
 some (.inr ((0,0),r1.2))) (
 m0x n f (s2,(r1.1,(s9,(s10,((IntKind.wrap .i64 (s11+1)),()))))))) (
 some (.inl (s2,(a,())))):=by kernel_rfl
theorem t1t (n:Nat) (data:(List a0d)) (a:Int) (m:Int) (b:Int) (cmp:((a0d×(a0d×Unit))→Option Int)):z0u (n+1) data a m b cmp =
 a0a (l0z n a0c (data,(m,(cmp,((IntKind.wrap .i64 (m-a)),((IntKind.wrap .i64 (b-m)),())))))) fun r0 =>
 c0w (fun y1 =>
 a0a (z0t n y1.1 (IntKind.wrap .i64 (y1.2.1-y1.2.2.2.1)) y1.2.1 y1.2.2.2.1 y1.2.2.1) fun r2 =>
 some r2) (fun z3 =>
 some z3) r0:=by kernel_rfl
theorem f1v (n f:Nat) (data:(List a0d)) (m:Int) (cmp:((a0d×(a0d×Unit))→Option Int)) (i:Int) (j:Int):l0z n (f+1) (data,m,cmp,i,j,()) =
 tif ((!(decide (i=j)))) (
 tif ((decide (j<i))) (
 a0a (z0t n data (IntKind.wrap .i64 (m-i)) m j cmp) fun r0 =>
 l0z n f (r0,(m,(cmp,((IntKind.wrap .i64 (i-j)),(j,())))))) (
 a0a (z0t n data (IntKind.wrap .i64 (m-i)) (IntKind.wrap .i64 ((IntKind.wrap .i64 (m+j))-i)) i cmp) fun r1 =>
 l0z n f (r1,(m,(cmp,(i,((IntKind.wrap .i64 (j-i)),()))))))) (
 some (.inl (data,(m,(cmp,(i,())))))):=by kernel_rfl
theorem u0c (n:Nat) (x:Int) (y:Int):g0t (n+1) x y =
 some ((IntKind.wrap .u64 ((IntKind.wrap .u64 ((IntKind.wrap .u64 ((shrI .u64 x (32:Int))*(shrI .u64 y (32:Int))))+(shrI .u64 (IntKind.wrap .u64 ((IntKind.wrap .u64 ((shrI .u64 x (32:Int))*(andI .u64 y (4294967295:Int))))+(shrI .u64 (IntKind.wrap .u64 ((andI .u64 x (4294967295:Int))*(andI .u64 y (4294967295:Int)))) (32:Int)))) (32:Int))))+(shrI .u64 (IntKind.wrap .u64 ((andI .u64 (IntKind.wrap .u64 ((IntKind.wrap .u64 ((shrI .u64 x (32:Int))*(andI .u64 y (4294967295:Int))))+(shrI .u64 (IntKind.wrap .u64 ((andI .u64 x (4294967295:Int))*(andI .u64 y (4294967295:Int)))) (32:Int)))) (4294967295:Int))+(IntKind.wrap .u64 ((andI .u64 x (4294967295:Int))*(shrI .u64 y (32:Int)))))) (32:Int)))),(IntKind.wrap .u64 (x*y))):=by kernel_rfl
theorem j1e (n:Nat) (a:(Int×Int)) (over:Int):s0q (n+1) a over =
 tif ((!(decide (over=0)))) (
 some ((0,0),1)) (
 some (a,0)):=by kernel_rfl
theorem p1u (n:Nat) (l:(List c0o)):i1u (n+1) l =
 a0a (k0o n a0c ((0,((0,(0,(0,false))),((0,(0,(0,false))),((0,0),(0,(0,0)))))),((0,((0,(0,(0,false))),((0,(0,(0,false))),((0,0),(0,(0,0)))))),(l,((((List.length l):Nat):Int),(0,())))))) fun r0 =>
 c0w (fun y1 =>
 some (y1.2.1,0)) (fun z2 =>
 some z2) r0:=by kernel_rfl
theorem r0s (n f:Nat) (s2:c0o) (c:c0o) (s9:(List c0o)) (s10:Int) (s11:Int):k0o n (f+1) (s2,c,s9,s10,s11,()) =
 tif ((decide (s11<s10))) (
 a0a (at? s9 s11) fun r0 =>
 a0a (q0o n c r0) fun r1 =>
 tif ((!(decide (r1.2=0)))) (
 some (.inr ((0,((0,(0,(0,false))),((0,(0,(0,false))),((0,0),(0,(0,0)))))),r1.2))) (
 k0o n f (s2,(r1.1,(s9,(s10,((IntKind.wrap .i64 (s11+1)),()))))))) (
 some (.inl (s2,(c,())))):=by kernel_rfl
theorem i1c (n:Nat) (c:a0t) (seen:Int):q0l (n+1) c seen =
 a0a (z0e n c.2.1) fun r0 =>
 some (0,((0,(0,(0,false))),((0,(0,(0,false))),(r0,(1,(0,seen)))))):=by kernel_rfl
theorem m1t (n:Nat) (a:(Int×Int)) (b:(Int×Int)):f1b (n+1) a b =
 tif (((decide ((0:Int)≤a.2))&&((decide ((0:Int)≤b.2))&&true))) (
 tif (((decide ((0:Int)≤a.1))&&((decide ((0:Int)≤b.1))&&((decide ((0:Int)≤(((a.2+b.2)+0) / (18446744073709551616:Int))))&&(decide ((((a.2+b.2)+0) / (18446744073709551616:Int))≤1)))))) (
 a0a (s0q n ((((a.1+b.1)+(((a.2+b.2)+0) / (18446744073709551616:Int))) % (18446744073709551616:Int)),(((a.2+b.2)+0) % (18446744073709551616:Int))) (((a.1+b.1)+(((a.2+b.2)+0) / (18446744073709551616:Int))) / (18446744073709551616:Int))) fun r0 =>
 some r0) (
 none)) (
 none):=by kernel_rfl
theorem t1q (n:Nat) (data:(List a0d)) (a:Int) (b:Int) (n_:Int) (cmp:((a0d×(a0d×Unit))→Option Int)):z0t (n+1) data a b n_ cmp =
 a0a (q0a n a0c (data,(a,(b,(n_,(0,())))))) fun r0 =>
 c0w (fun y1 =>
 some y1.1) (fun z2 =>
 some z2) r0:=by kernel_rfl
theorem t0l (n f:Nat) (data:(List a0d)) (a:Int) (b:Int) (n_:Int) (i:Int):q0a n (f+1) (data,a,b,n_,i,()) =
 tif ((decide (i<n_))) (
 a0a (at? data (IntKind.wrap .i64 (b+i))) fun r0 =>
 a0a ((data)[(Int.toNat (IntKind.wrap .i64 (b+i)))]?) fun r1 =>
 a0a (at? data (IntKind.wrap .i64 (a+i))) fun r2 =>
 a0a ((data)[(Int.toNat (IntKind.wrap .i64 (a+i)))]?) fun r3 =>
 a0a (at? data (IntKind.wrap .i64 (a+i))) fun r4 =>
 a0a ((data)[(Int.toNat (IntKind.wrap .i64 (a+i)))]?) fun r5 =>
 a0a (at? (List.set data (Int.toNat (IntKind.wrap .i64 (a+i))) r1) (IntKind.wrap .i64 (b+i))) fun r6 =>
 a0a (((List.set data (Int.toNat (IntKind.wrap .i64 (a+i))) r1))[(Int.toNat (IntKind.wrap .i64 (b+i)))]?) fun r7 =>
 q0a n f ((List.set (List.set data (Int.toNat (IntKind.wrap .i64 (a+i))) r1) (Int.toNat (IntKind.wrap .i64 (b+i))) r3),(a,(b,(n_,((IntKind.wrap .i64 (i+1)),())))))) (
 some (.inl (data,()))):=by kernel_rfl
theorem i0h (n:Nat) (x0:List UInt8) (x1:List UInt8):b0p (n+1) x0 x1=e0z x0 x1:=by
    have h:b0p (n+1) x0 x1=Option.bind (e0z x0 x1) (fun z=>some z):=by kernel_rfl
    rw[h];cases e0z x0 x1<;>rfl
theorem j0g (n:Nat) (x0:List UInt8) (x1:Int):a0h (n+1) x0 x1=h0v x0 x1:=by
    have h:a0h (n+1) x0 x1=Option.bind (h0v x0 x1) (fun z=>some z):=by kernel_rfl
    rw[h];cases h0v x0 x1<;>rfl
theorem f0z (n:Nat) (x0:List UInt8):d0h (n+1) x0=some (x0,x0):=by kernel_rfl
theorem f1l (n:Nat) (x0:List UInt8):u0x (n+1) x0=a1u x0:=by
    have h:u0x (n+1) x0=Option.bind (a1u x0) (fun z=>some z):=by kernel_rfl
    rw[h];cases a1u x0<;>rfl
theorem q0x (n:Nat) (x0:List UInt8) (x1:Int) (x2:Int):d0a (n+1) x0 x1 x2=j0s x0 x1 x2:=by
    have h:d0a (n+1) x0 x1 x2=Option.bind (j0s x0 x1 x2) (fun z=>some z):=by kernel_rfl
    rw[h];cases j0s x0 x1 x2<;>rfl
theorem r0z (n:Nat) (x0:List UInt8) (x1:Int) (x2:Int):b0u (n+1) x0 x1 x2=m0m x0 x1 x2:=by
    have h:b0u (n+1) x0 x1 x2=Option.bind (m0m x0 x1 x2) (fun z=>some z):=by kernel_rfl
    rw[h];cases m0m x0 x1 x2<;>rfl
theorem i0y (n:Nat) (x0:List UInt8) (x1:List UInt8):stringslite_Index (n+1) x0 x1=a1v x0 x1:=by
    have h:stringslite_Index (n+1) x0 x1=Option.bind (a1v x0 x1) (fun z=>some z):=by kernel_rfl
    rw[h];cases a1v x0 x1<;>rfl
theorem x0s (n:Nat) (x0:List UInt8) (x1:List UInt8):strings_Count (n+1) x0 x1=e1j x0 x1:=by
    have h:strings_Count (n+1) x0 x1=Option.bind (e1j x0 x1) (fun z=>some z):=by kernel_rfl
    rw[h];cases e1j x0 x1<;>rfl
end Go.Proofs.YtjionkknnajjgaaGreatDoor
