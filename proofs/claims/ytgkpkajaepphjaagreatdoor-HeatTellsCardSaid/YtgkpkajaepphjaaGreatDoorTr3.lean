/- Trees, printed by program. -/
import Derived.Test.YtgkpkajaepphjaaGreatDoorTr0
import Derived.KernelRfl
set_option linter.unusedVariables false
namespace Go.Proofs.YtgkpkajaepphjaaGreatDoor
open Go.Flat
theorem c1b (n:Nat) (s:a0p) (a:TAsk):y0m (n+1) s a =
 a0a (s0p n s) fun r0 =>
 tif ((decide (r0=0))) (
 a0a (c0f n ) fun r1 =>
 some r1) (
 a0a (o0u n a.1) fun r2 =>
 tif ((decide (r2=0))) (
 a0a (c0f n ) fun r3 =>
 some r3) (
 a0a (t0t n s a.2.1 a.2.2.1 a.2.2.2) fun r4 =>
 tif ((decide (r4.2=0))) (
 tif ((decide ((1:Int)≤r4.1))) (
 tif ((decide (r4.1≤3))) (
 tif ((decide ((IntKind.wrap .i64 (r4.1-1))=0))) (
 tif ((decide (s.1.2.1.1=0))) (
 none) (
 tif ((decide ((60:Int)<(IntKind.wrap .i64 (Int.tdiv (IntKind.wrap .i64 (a.2.2.2-a.2.2.1)) s.1.2.1.1))))) (
 tif ((decide ((IntKind.wrap .i64 (Int.tdiv (IntKind.wrap .i64 (a.2.2.2-a.2.2.1)) s.1.2.1.1))≤4096))) (
 a0a (c0f n ) fun r5 =>
 some r5) (
 a0a (b0t n s a) fun r6 =>
 a0a (e0z n s a) fun r7 =>
 a0a (c0n n s a) fun r8 =>
 a0a (i0e n s a) fun r9 =>
 a0a (c0f n ) fun r10 =>
 tif (r10) (
 a0a (c0l n r6.1 r7.1) fun r11 =>
 tif (r11) (
 tif ((decide (r6.2=r7.2))) (
 tif ((r8.1==r9.1)) (
 some (decide (r8.2=r9.2))) (
 some false)) (
 some false)) (
 some false)) (
 some false))) (
 a0a (b0t n s a) fun r12 =>
 a0a (e0z n s a) fun r13 =>
 a0a (c0n n s a) fun r14 =>
 a0a (i0e n s a) fun r15 =>
 a0a (c0f n ) fun r16 =>
 tif (r16) (
 a0a (c0l n r12.1 r13.1) fun r17 =>
 tif (r17) (
 tif ((decide (r12.2=r13.2))) (
 tif ((r14.1==r15.1)) (
 some (decide (r14.2=r15.2))) (
 some false)) (
 some false)) (
 some false)) (
 some false)))) (
 tif ((decide ((IntKind.wrap .i64 (r4.1-1))=1))) (
 tif ((decide (s.1.2.1.2.1=0))) (
 none) (
 tif ((decide ((60:Int)<(IntKind.wrap .i64 (Int.tdiv (IntKind.wrap .i64 (a.2.2.2-a.2.2.1)) s.1.2.1.2.1))))) (
 tif ((decide ((IntKind.wrap .i64 (Int.tdiv (IntKind.wrap .i64 (a.2.2.2-a.2.2.1)) s.1.2.1.2.1))≤4096))) (
 a0a (c0f n ) fun r18 =>
 some r18) (
 a0a (b0t n s a) fun r19 =>
 a0a (e0z n s a) fun r20 =>
 a0a (c0n n s a) fun r21 =>
 a0a (i0e n s a) fun r22 =>
 a0a (c0f n ) fun r23 =>
 tif (r23) (
 a0a (c0l n r19.1 r20.1) fun r24 =>
 tif (r24) (
 tif ((decide (r19.2=r20.2))) (
 tif ((r21.1==r22.1)) (
 some (decide (r21.2=r22.2))) (
 some false)) (
 some false)) (
 some false)) (
 some false))) (
 a0a (b0t n s a) fun r25 =>
 a0a (e0z n s a) fun r26 =>
 a0a (c0n n s a) fun r27 =>
 a0a (i0e n s a) fun r28 =>
 a0a (c0f n ) fun r29 =>
 tif (r29) (
 a0a (c0l n r25.1 r26.1) fun r30 =>
 tif (r30) (
 tif ((decide (r25.2=r26.2))) (
 tif ((r27.1==r28.1)) (
 some (decide (r27.2=r28.2))) (
 some false)) (
 some false)) (
 some false)) (
 some false)))) (
 tif ((decide ((IntKind.wrap .i64 (r4.1-1))=2))) (
 tif ((decide (s.1.2.1.2.2=0))) (
 none) (
 tif ((decide ((60:Int)<(IntKind.wrap .i64 (Int.tdiv (IntKind.wrap .i64 (a.2.2.2-a.2.2.1)) s.1.2.1.2.2))))) (
 tif ((decide ((IntKind.wrap .i64 (Int.tdiv (IntKind.wrap .i64 (a.2.2.2-a.2.2.1)) s.1.2.1.2.2))≤4096))) (
 a0a (c0f n ) fun r31 =>
 some r31) (
 a0a (b0t n s a) fun r32 =>
 a0a (e0z n s a) fun r33 =>
 a0a (c0n n s a) fun r34 =>
 a0a (i0e n s a) fun r35 =>
 a0a (c0f n ) fun r36 =>
 tif (r36) (
 a0a (c0l n r32.1 r33.1) fun r37 =>
 tif (r37) (
 tif ((decide (r32.2=r33.2))) (
 tif ((r34.1==r35.1)) (
 some (decide (r34.2=r35.2))) (
 some false)) (
 some false)) (
 some false)) (
 some false))) (
 a0a (b0t n s a) fun r38 =>
 a0a (e0z n s a) fun r39 =>
 a0a (c0n n s a) fun r40 =>
 a0a (i0e n s a) fun r41 =>
 a0a (c0f n ) fun r42 =>
 tif (r42) (
 a0a (c0l n r38.1 r39.1) fun r43 =>
 tif (r43) (
 tif ((decide (r38.2=r39.2))) (
 tif ((r40.1==r41.1)) (
 some (decide (r40.2=r41.2))) (
 some false)) (
 some false)) (
 some false)) (
 some false)))) (
 none)))) (
 a0a (b0t n s a) fun r44 =>
 a0a (e0z n s a) fun r45 =>
 a0a (c0n n s a) fun r46 =>
 a0a (i0e n s a) fun r47 =>
 a0a (c0f n ) fun r48 =>
 tif (r48) (
 a0a (c0l n r44.1 r45.1) fun r49 =>
 tif (r49) (
 tif ((decide (r44.2=r45.2))) (
 tif ((r46.1==r47.1)) (
 some (decide (r46.2=r47.2))) (
 some false)) (
 some false)) (
 some false)) (
 some false))) (
 a0a (b0t n s a) fun r50 =>
 a0a (e0z n s a) fun r51 =>
 a0a (c0n n s a) fun r52 =>
 a0a (i0e n s a) fun r53 =>
 a0a (c0f n ) fun r54 =>
 tif (r54) (
 a0a (c0l n r50.1 r51.1) fun r55 =>
 tif (r55) (
 tif ((decide (r50.2=r51.2))) (
 tif ((r52.1==r53.1)) (
 some (decide (r52.2=r53.2))) (
 some false)) (
 some false)) (
 some false)) (
 some false))) (
 a0a (b0t n s a) fun r56 =>
 a0a (e0z n s a) fun r57 =>
 a0a (c0n n s a) fun r58 =>
 a0a (i0e n s a) fun r59 =>
 a0a (c0f n ) fun r60 =>
 tif (r60) (
 a0a (c0l n r56.1 r57.1) fun r61 =>
 tif (r61) (
 tif ((decide (r56.2=r57.2))) (
 tif ((r58.1==r59.1)) (
 some (decide (r58.2=r59.2))) (
 some false)) (
 some false)) (
 some false)) (
 some false)))):=by kernel_rfl
theorem c1c (n:Nat) (l:(List a0v)) (m:(List (Int×Int))):y0n (n+1) l m =
 tif ((decide ((60:Int)<(((List.length l):Nat):Int)))) (
 a0a (c0f n ) fun r0 =>
 some r0) (
 tif ((decide ((60:Int)<(((List.length m):Nat):Int)))) (
 a0a (c0f n ) fun r1 =>
 some r1) (
 a0a (e0i n l) fun r2 =>
 a0a (x0b n l) fun r3 =>
 a0a (f0v n m) fun r4 =>
 a0a (x0c n m) fun r5 =>
 a0a (d0o n m) fun r6 =>
 a0a (k0u n m) fun r7 =>
 a0a (c0f n ) fun r8 =>
 tif (r8) (
 a0a (i0d n r2.1 r3.1) fun r9 =>
 tif (r9) (
 tif ((decide (r2.2=r3.2))) (
 tif ((decide (r4.1=r5.1))) (
 tif ((r4.2==r5.2)) (
 a0a (x0s n r6.1 r7.1) fun r10 =>
 tif (r10) (
 some (decide (r6.2=r7.2))) (
 some false)) (
 some false)) (
 some false)) (
 some false)) (
 some false)) (
 some false))):=by kernel_rfl
theorem i1q (n:Nat) (s:a0p) (a:TAsk):e1u (n+1) s a =
 a0a (c0f n ) fun r0 =>
 tif ((!r0)) (
 some false) (
 a0a (s0p n s) fun r1 =>
 tif ((decide (r1=0))) (
 some true) (
 a0a (o0u n a.1) fun r2 =>
 tif ((decide (r2=0))) (
 some true) (
 a0a (n0w n s) fun r3 =>
 tif ((!(decide (r3=0)))) (
 some true) (
 a0a (q0d n s a) fun r4 =>
 tif ((!(decide (r4.2=0)))) (
 a0a (b0t n s a) fun r5 =>
 a0a (c0n n s a) fun r6 =>
 tif ((decide ((((List.length r5.1):Nat):Int)=0))) (
 tif ((decide (r5.2=r4.2))) (
 tif ((r6.1==[])) (
 some (decide (r6.2=r4.2))) (
 some false)) (
 some false)) (
 some false)) (
 tif ((decide (r4.1.1<1))) (
 some false) (
 tif ((decide ((3:Int)<r4.1.1))) (
 some false) (
 tif ((decide ((IntKind.wrap .i64 (r4.1.1-1))=0))) (
 tif ((decide (s.1.2.1.1=0))) (
 none) (
 tif ((decide ((60:Int)<(IntKind.wrap .i64 (Int.tdiv (IntKind.wrap .i64 (a.2.2.2-a.2.2.1)) s.1.2.1.1))))) (
 some true) (
 a0a (b0t n s a) fun r7 =>
 a0a (e0i n r7.1) fun r8 =>
 a0a (c0n n s a) fun r9 =>
 a0a (m0z n r7.1) fun r10 =>
 a0a (p0g n r8.1) fun r11 =>
 tif ((decide (s.1.2.1.1=0))) (
 none) (
 tif ((!(decide (r7.2=0)))) (
 some false) (
 tif ((!(decide (r8.2=0)))) (
 some false) (
 tif ((!(decide (r9.2=0)))) (
 some false) (
 tif ((!(decide (r10.2=0)))) (
 some false) (
 tif ((!(decide (r11.2=0)))) (
 some false) (
 tif ((!(decide ((((List.length r7.1):Nat):Int)=(IntKind.wrap .i64 (Int.tdiv (IntKind.wrap .i64 (a.2.2.2-a.2.2.1)) s.1.2.1.1)))))) (
 some false) (
 tif ((!(decide ((((List.length r8.1):Nat):Int)=(IntKind.wrap .i64 (Int.tdiv (IntKind.wrap .i64 (a.2.2.2-a.2.2.1)) s.1.2.1.1)))))) (
 some false) (
 tif ((!(decide ((((List.length r9.1):Nat):Int)=(IntKind.wrap .i64 (Int.tdiv (IntKind.wrap .i64 (a.2.2.2-a.2.2.1)) s.1.2.1.1)))))) (
 some false) (
 tif ((!((decide (r10.1.1=r4.1.2.1.1))&&((decide (r10.1.2.1.1=r4.1.2.1.2.1.1))&&((decide (r10.1.2.1.2.1=r4.1.2.1.2.1.2.1))&&((decide (r10.1.2.1.2.2.1=r4.1.2.1.2.1.2.2.1))&&((r10.1.2.1.2.2.2==r4.1.2.1.2.1.2.2.2)&&((decide (r10.1.2.2.1.1=r4.1.2.1.2.2.1.1))&&((decide (r10.1.2.2.1.2.1=r4.1.2.1.2.2.1.2.1))&&((decide (r10.1.2.2.1.2.2.1=r4.1.2.1.2.2.1.2.2.1))&&((r10.1.2.2.1.2.2.2==r4.1.2.1.2.2.1.2.2.2)&&((decide (r10.1.2.2.2.1.1=r4.1.2.1.2.2.2.1.1))&&((decide (r10.1.2.2.2.1.2=r4.1.2.1.2.2.2.1.2))&&((decide (r10.1.2.2.2.2.1=r4.1.2.1.2.2.2.2.1))&&((decide (r10.1.2.2.2.2.2.1=r4.1.2.1.2.2.2.2.2.1))&&(decide (r10.1.2.2.2.2.2.2=r4.1.2.1.2.2.2.2.2.2))))))))))))))))) (
 some false) (
 tif ((!((decide (r11.1.1=r4.1.2.1.2.2.2.1.1))&&(decide (r11.1.2=r4.1.2.1.2.2.2.1.2))))) (
 some false) (
 a0a (c0t n a0b (s,(a,(r4.1,(s.1.2.1.1,(r8.1,(r7.1,((((List.length r7.1):Nat):Int),(0,()))))))))) fun r12 =>
 b0c (fun y13 =>
 some true) (fun z14 =>
 some z14) r12)))))))))))))) (
 tif ((decide ((IntKind.wrap .i64 (r4.1.1-1))=1))) (
 tif ((decide (s.1.2.1.2.1=0))) (
 none) (
 tif ((decide ((60:Int)<(IntKind.wrap .i64 (Int.tdiv (IntKind.wrap .i64 (a.2.2.2-a.2.2.1)) s.1.2.1.2.1))))) (
 some true) (
 a0a (b0t n s a) fun r15 =>
 a0a (e0i n r15.1) fun r16 =>
 a0a (c0n n s a) fun r17 =>
 a0a (m0z n r15.1) fun r18 =>
 a0a (p0g n r16.1) fun r19 =>
 tif ((decide (s.1.2.1.2.1=0))) (
 none) (
 tif ((!(decide (r15.2=0)))) (
 some false) (
 tif ((!(decide (r16.2=0)))) (
 some false) (
 tif ((!(decide (r17.2=0)))) (
 some false) (
 tif ((!(decide (r18.2=0)))) (
 some false) (
 tif ((!(decide (r19.2=0)))) (
 some false) (
 tif ((!(decide ((((List.length r15.1):Nat):Int)=(IntKind.wrap .i64 (Int.tdiv (IntKind.wrap .i64 (a.2.2.2-a.2.2.1)) s.1.2.1.2.1)))))) (
 some false) (
 tif ((!(decide ((((List.length r16.1):Nat):Int)=(IntKind.wrap .i64 (Int.tdiv (IntKind.wrap .i64 (a.2.2.2-a.2.2.1)) s.1.2.1.2.1)))))) (
 some false) (
 tif ((!(decide ((((List.length r17.1):Nat):Int)=(IntKind.wrap .i64 (Int.tdiv (IntKind.wrap .i64 (a.2.2.2-a.2.2.1)) s.1.2.1.2.1)))))) (
 some false) (
 tif ((!((decide (r18.1.1=r4.1.2.1.1))&&((decide (r18.1.2.1.1=r4.1.2.1.2.1.1))&&((decide (r18.1.2.1.2.1=r4.1.2.1.2.1.2.1))&&((decide (r18.1.2.1.2.2.1=r4.1.2.1.2.1.2.2.1))&&((r18.1.2.1.2.2.2==r4.1.2.1.2.1.2.2.2)&&((decide (r18.1.2.2.1.1=r4.1.2.1.2.2.1.1))&&((decide (r18.1.2.2.1.2.1=r4.1.2.1.2.2.1.2.1))&&((decide (r18.1.2.2.1.2.2.1=r4.1.2.1.2.2.1.2.2.1))&&((r18.1.2.2.1.2.2.2==r4.1.2.1.2.2.1.2.2.2)&&((decide (r18.1.2.2.2.1.1=r4.1.2.1.2.2.2.1.1))&&((decide (r18.1.2.2.2.1.2=r4.1.2.1.2.2.2.1.2))&&((decide (r18.1.2.2.2.2.1=r4.1.2.1.2.2.2.2.1))&&((decide (r18.1.2.2.2.2.2.1=r4.1.2.1.2.2.2.2.2.1))&&(decide (r18.1.2.2.2.2.2.2=r4.1.2.1.2.2.2.2.2.2))))))))))))))))) (
 some false) (
 tif ((!((decide (r19.1.1=r4.1.2.1.2.2.2.1.1))&&(decide (r19.1.2=r4.1.2.1.2.2.2.1.2))))) (
 some false) (
 a0a (c0t n a0b (s,(a,(r4.1,(s.1.2.1.2.1,(r16.1,(r15.1,((((List.length r15.1):Nat):Int),(0,()))))))))) fun r20 =>
 b0c (fun y21 =>
 some true) (fun z22 =>
 some z22) r20)))))))))))))) (
 tif ((decide ((IntKind.wrap .i64 (r4.1.1-1))=2))) (
 tif ((decide (s.1.2.1.2.2=0))) (
 none) (
 tif ((decide ((60:Int)<(IntKind.wrap .i64 (Int.tdiv (IntKind.wrap .i64 (a.2.2.2-a.2.2.1)) s.1.2.1.2.2))))) (
 some true) (
 a0a (b0t n s a) fun r23 =>
 a0a (e0i n r23.1) fun r24 =>
 a0a (c0n n s a) fun r25 =>
 a0a (m0z n r23.1) fun r26 =>
 a0a (p0g n r24.1) fun r27 =>
 tif ((decide (s.1.2.1.2.2=0))) (
 none) (
 tif ((!(decide (r23.2=0)))) (
 some false) (
 tif ((!(decide (r24.2=0)))) (
 some false) (
 tif ((!(decide (r25.2=0)))) (
 some false) (
 tif ((!(decide (r26.2=0)))) (
 some false) (
 tif ((!(decide (r27.2=0)))) (
 some false) (
 tif ((!(decide ((((List.length r23.1):Nat):Int)=(IntKind.wrap .i64 (Int.tdiv (IntKind.wrap .i64 (a.2.2.2-a.2.2.1)) s.1.2.1.2.2)))))) (
 some false) (
 tif ((!(decide ((((List.length r24.1):Nat):Int)=(IntKind.wrap .i64 (Int.tdiv (IntKind.wrap .i64 (a.2.2.2-a.2.2.1)) s.1.2.1.2.2)))))) (
 some false) (
 tif ((!(decide ((((List.length r25.1):Nat):Int)=(IntKind.wrap .i64 (Int.tdiv (IntKind.wrap .i64 (a.2.2.2-a.2.2.1)) s.1.2.1.2.2)))))) (
 some false) (
 tif ((!((decide (r26.1.1=r4.1.2.1.1))&&((decide (r26.1.2.1.1=r4.1.2.1.2.1.1))&&((decide (r26.1.2.1.2.1=r4.1.2.1.2.1.2.1))&&((decide (r26.1.2.1.2.2.1=r4.1.2.1.2.1.2.2.1))&&((r26.1.2.1.2.2.2==r4.1.2.1.2.1.2.2.2)&&((decide (r26.1.2.2.1.1=r4.1.2.1.2.2.1.1))&&((decide (r26.1.2.2.1.2.1=r4.1.2.1.2.2.1.2.1))&&((decide (r26.1.2.2.1.2.2.1=r4.1.2.1.2.2.1.2.2.1))&&((r26.1.2.2.1.2.2.2==r4.1.2.1.2.2.1.2.2.2)&&((decide (r26.1.2.2.2.1.1=r4.1.2.1.2.2.2.1.1))&&((decide (r26.1.2.2.2.1.2=r4.1.2.1.2.2.2.1.2))&&((decide (r26.1.2.2.2.2.1=r4.1.2.1.2.2.2.2.1))&&((decide (r26.1.2.2.2.2.2.1=r4.1.2.1.2.2.2.2.2.1))&&(decide (r26.1.2.2.2.2.2.2=r4.1.2.1.2.2.2.2.2.2))))))))))))))))) (
 some false) (
 tif ((!((decide (r27.1.1=r4.1.2.1.2.2.2.1.1))&&(decide (r27.1.2=r4.1.2.1.2.2.2.1.2))))) (
 some false) (
 a0a (c0t n a0b (s,(a,(r4.1,(s.1.2.1.2.2,(r24.1,(r23.1,((((List.length r23.1):Nat):Int),(0,()))))))))) fun r28 =>
 b0c (fun y29 =>
 some true) (fun z30 =>
 some z30) r28)))))))))))))) (
 none)))))))))):=by kernel_rfl
theorem m0s (n f:Nat) (s_:a0p) (a_:TAsk) (r:v0d) (w:Int) (d:(List (Int×Int))) (s186:(List a0v)) (s187:Int) (s188:Int):c0t n (f+1) (s_,a_,r,w,d,s186,s187,s188,()) =
 tif ((decide (s188<s187))) (
 a0a (at? s186 s188) fun r0 =>
 a0a (q0d n s_ (a_.1,(r.1,((IntKind.wrap .i64 (a_.2.2.1+(IntKind.wrap .i64 (s188*w)))),(IntKind.wrap .i64 (a_.2.2.1+(IntKind.wrap .i64 ((IntKind.wrap .i64 (s188+1))*w)))))))) fun r1 =>
 tif ((!(decide (r1.2=0)))) (
 some (.inr false)) (
 tif ((!((decide (r1.1.2.1.1=r0.1))&&((decide (r1.1.2.1.2.1.1=r0.2.1.1))&&((decide (r1.1.2.1.2.1.2.1=r0.2.1.2.1))&&((decide (r1.1.2.1.2.1.2.2.1=r0.2.1.2.2.1))&&((r1.1.2.1.2.1.2.2.2==r0.2.1.2.2.2)&&((decide (r1.1.2.1.2.2.1.1=r0.2.2.1.1))&&((decide (r1.1.2.1.2.2.1.2.1=r0.2.2.1.2.1))&&((decide (r1.1.2.1.2.2.1.2.2.1=r0.2.2.1.2.2.1))&&((r1.1.2.1.2.2.1.2.2.2==r0.2.2.1.2.2.2)&&((decide (r1.1.2.1.2.2.2.1.1=r0.2.2.2.1.1))&&((decide (r1.1.2.1.2.2.2.1.2=r0.2.2.2.1.2))&&((decide (r1.1.2.1.2.2.2.2.1=r0.2.2.2.2.1))&&((decide (r1.1.2.1.2.2.2.2.2.1=r0.2.2.2.2.2.1))&&(decide (r1.1.2.1.2.2.2.2.2.2=r0.2.2.2.2.2.2))))))))))))))))) (
 some (.inr false)) (
 a0a (at? d s188) fun r2 =>
 a0a (b0z n r2 r0.2.2.2.1) fun r3 =>
 tif (r3) (
 some (.inr false)) (
 c0t n f (s_,(a_,(r,(w,(d,(s186,(s187,((IntKind.wrap .i64 (s188+1)),())))))))))))) (
 some (.inl ())):=by kernel_rfl
theorem s1v (n:Nat) (s:a0p):s0p (n+1) s =
 tif ((decide ((8:Int)<(((List.length s.2.2.2):Nat):Int)))) (
 some (0:Int)) (
 a0a (j0q n a0b (s.2.2.2,((((List.length s.2.2.2):Nat):Int),(0,())))) fun r0 =>
 b0c (fun y1 =>
 some (1:Int)) (fun z2 =>
 some z2) r0):=by kernel_rfl
theorem s0o (n f:Nat) (s10:(List a0x)) (s11:Int) (s12:Int):j0q n (f+1) (s10,s11,s12,()) =
 tif ((decide (s12<s11))) (
 a0a (at? s10 s12) fun r0 =>
 a0a (y0o n r0) fun r1 =>
 tif ((decide (r1=0))) (
 some (.inr (0:Int))) (
 j0q n f (s10,(s11,((IntKind.wrap .i64 (s12+1)),()))))) (
 some (.inl ())):=by kernel_rfl
theorem x1c (n:Nat) (a:(List Int)) (b:(List Int)):x0s (n+1) a b =
 tif ((!(decide ((((List.length a):Nat):Int)=(((List.length b):Nat):Int))))) (
 some false) (
 a0a (q0b n a0b (a,(b,((((List.length a):Nat):Int),(0,()))))) fun r0 =>
 b0c (fun y1 =>
 some true) (fun z2 =>
 some z2) r0):=by kernel_rfl
theorem u0v (n f:Nat) (a:(List Int)) (b:(List Int)) (s12:Int) (s13:Int):q0b n (f+1) (a,b,s12,s13,()) =
 tif ((decide (s13<s12))) (
 a0a (at? a s13) fun r0 =>
 a0a (at? b s13) fun r1 =>
 tif ((!(decide (r0=r1)))) (
 some (.inr false)) (
 q0b n f (a,(b,(s12,((IntKind.wrap .i64 (s13+1)),())))))) (
 some (.inl ())):=by kernel_rfl
theorem s1y (n:Nat) (l:(List (List UInt8×List UInt8))):o0u (n+1) l =
 a0a (j0r n a0b (l,((((List.length l):Nat):Int),(0,())))) fun r0 =>
 b0c (fun y1 =>
 some (1:Int)) (fun z2 =>
 some z2) r0:=by kernel_rfl
theorem s0q (n f:Nat) (s5:(List (List UInt8×List UInt8))) (s6:Int) (s7:Int):j0r n (f+1) (s5,s6,s7,()) =
 tif ((decide (s7<s6))) (
 a0a (at? s5 s7) fun r0 =>
 tif ((decide (s7=40))) (
 some (.inr (0:Int))) (
 tif ((decide ((1000:Int)<(((List.length r0.1):Nat):Int)))) (
 some (.inr (0:Int))) (
 tif ((decide ((1000:Int)<(((List.length r0.2):Nat):Int)))) (
 some (.inr (0:Int))) (
 j0r n f (s5,(s6,((IntKind.wrap .i64 (s7+1)),()))))))) (
 some (.inl ())):=by kernel_rfl
theorem p1x (n:Nat) (s:a0p):n0w (n+1) s =
 a0a (c1j n s) fun r0 =>
 tif ((!(decide (r0.2=0)))) (
 some (2:Int)) (
 a0a (n0g n r0.1) fun r1 =>
 tif ((!r1)) (
 some (2:Int)) (
 a0a (f0c n r0.1 (fun y2=>e0p n y2.1 r0.1)) fun r3 =>
 tif ((decide ((0:Int)≤r3))) (
 some (2:Int)) (
 some (0:Int)))):=by kernel_rfl
theorem x1n (n:Nat) (s:a0p) (a:TAsk):q0d (n+1) s a =
 a0a (e1e n s a.1) fun r0 =>
 tif ((!(decide (r0=0)))) (
 some ((0,((0,((0,(0,(0,false))),((0,(0,(0,false))),((0,0),(0,(0,0)))))),(((0,0),(0,0)),0))),r0)) (
 a0a (t0t n s a.2.1 a.2.2.1 a.2.2.2) fun r1 =>
 tif ((!(decide (r1.2=0)))) (
 some ((0,((0,((0,(0,(0,false))),((0,(0,(0,false))),((0,0),(0,(0,0)))))),(((0,0),(0,0)),0))),r1.2)) (
 a0a (m1s n s a (IntKind.wrap .i64 (r1.1-1))) fun r2 =>
 tif ((!(decide (r2.2=0)))) (
 some ((0,((0,((0,(0,(0,false))),((0,(0,(0,false))),((0,0),(0,(0,0)))))),(((0,0),(0,0)),0))),r2.2)) (
 a0a (z0t n r2.1) fun r3 =>
 some ((r1.1,(r2.1,r3)),0)))):=by kernel_rfl
theorem m1v (n:Nat) (s:a0p) (tier:Int) (from_:Int) (to:Int):t0t (n+1) s tier from_ to =
 a0a (n0w n s) fun r0 =>
 tif ((!(decide (r0=0)))) (
 some (0,r0)) (
 tif ((decide (tier<0))) (
 some (0,1)) (
 tif ((decide ((3:Int)<tier))) (
 some (0,1)) (
 tif ((decide (tier=0))) (
 a0a (l0x n s from_ to) fun r1 =>
 some r1) (
 a0a (y0b n s tier from_ to) fun r2 =>
 tif ((!(decide (r2=0)))) (
 some (0,r2)) (
 some (tier,0)))))):=by kernel_rfl
theorem q0l (n:Nat) (s:a0p) (a:TAsk):b0t (n+1) s a =
 a0a (q0d n s a) fun r0 =>
 tif ((!(decide (r0.2=0)))) (
 some ([],r0.2)) (
 tif ((decide ((IntKind.wrap .i64 (r0.1.1-1))=0))) (
 a0a (e0g n a.2.2.1 a.2.2.2 s.1.2.1.1) fun r1 =>
 tif ((!(decide (r1.2.2=0)))) (
 some ([],r1.2.2)) (
 tif ((decide ((4096:Int)<(IntKind.wrap .i64 (r1.2.1-r1.1))))) (
 some ([],(6:Int))) (
 tif (((decide ((0:Int)≤(IntKind.wrap .i64 (r1.2.1-r1.1))))&&((decide ((IntKind.wrap .i64 (r1.2.1-r1.1))≤(IntKind.wrap .i64 (r1.2.1-r1.1))))&&(decide (((IntKind.wrap .i64 (r1.2.1-r1.1))*112)≤140737488355328))))) (
 a0a (k0i n s a.1) fun r2 =>
 tif ((!(decide (r2.2=0)))) (
 some ((List.replicate (Int.toNat (IntKind.wrap .i64 (r1.2.1-r1.1))) ((0:Int),(((0:Int),((0:Int),((0:Int),false))),(((0:Int),((0:Int),((0:Int),false))),(((0:Int),(0:Int)),((0:Int),((0:Int),(0:Int)))))))),(0:Int))) (
 a0a (b0e n a0b (s,(r0.1,(r1.1,((List.replicate (Int.toNat (IntKind.wrap .i64 (r1.2.1-r1.1))) ((0:Int),(((0:Int),((0:Int),((0:Int),false))),(((0:Int),((0:Int),((0:Int),false))),(((0:Int),(0:Int)),((0:Int),((0:Int),(0:Int)))))))),(r2.1,((((List.length (List.replicate (Int.toNat (IntKind.wrap .i64 (r1.2.1-r1.1))) ((0:Int),(((0:Int),((0:Int),((0:Int),false))),(((0:Int),((0:Int),((0:Int),false))),(((0:Int),(0:Int)),((0:Int),((0:Int),(0:Int))))))))):Nat):Int),((0:Int),())))))))) fun r3 =>
 b0c (fun y4 =>
 some (y4.1,(0:Int))) (fun z5 =>
 some z5) r3)) (
 none)))) (
 tif ((decide ((IntKind.wrap .i64 (r0.1.1-1))=1))) (
 a0a (e0g n a.2.2.1 a.2.2.2 s.1.2.1.2.1) fun r6 =>
 tif ((!(decide (r6.2.2=0)))) (
 some ([],r6.2.2)) (
 tif ((decide ((4096:Int)<(IntKind.wrap .i64 (r6.2.1-r6.1))))) (
 some ([],(6:Int))) (
 tif (((decide ((0:Int)≤(IntKind.wrap .i64 (r6.2.1-r6.1))))&&((decide ((IntKind.wrap .i64 (r6.2.1-r6.1))≤(IntKind.wrap .i64 (r6.2.1-r6.1))))&&(decide (((IntKind.wrap .i64 (r6.2.1-r6.1))*112)≤140737488355328))))) (
 a0a (k0i n s a.1) fun r7 =>
 tif ((!(decide (r7.2=0)))) (
 some ((List.replicate (Int.toNat (IntKind.wrap .i64 (r6.2.1-r6.1))) ((0:Int),(((0:Int),((0:Int),((0:Int),false))),(((0:Int),((0:Int),((0:Int),false))),(((0:Int),(0:Int)),((0:Int),((0:Int),(0:Int)))))))),(0:Int))) (
 a0a (b0e n a0b (s,(r0.1,(r6.1,((List.replicate (Int.toNat (IntKind.wrap .i64 (r6.2.1-r6.1))) ((0:Int),(((0:Int),((0:Int),((0:Int),false))),(((0:Int),((0:Int),((0:Int),false))),(((0:Int),(0:Int)),((0:Int),((0:Int),(0:Int)))))))),(r7.1,((((List.length (List.replicate (Int.toNat (IntKind.wrap .i64 (r6.2.1-r6.1))) ((0:Int),(((0:Int),((0:Int),((0:Int),false))),(((0:Int),((0:Int),((0:Int),false))),(((0:Int),(0:Int)),((0:Int),((0:Int),(0:Int))))))))):Nat):Int),((0:Int),())))))))) fun r8 =>
 b0c (fun y9 =>
 some (y9.1,(0:Int))) (fun z10 =>
 some z10) r8)) (
 none)))) (
 tif ((decide ((IntKind.wrap .i64 (r0.1.1-1))=2))) (
 a0a (e0g n a.2.2.1 a.2.2.2 s.1.2.1.2.2) fun r11 =>
 tif ((!(decide (r11.2.2=0)))) (
 some ([],r11.2.2)) (
 tif ((decide ((4096:Int)<(IntKind.wrap .i64 (r11.2.1-r11.1))))) (
 some ([],(6:Int))) (
 tif (((decide ((0:Int)≤(IntKind.wrap .i64 (r11.2.1-r11.1))))&&((decide ((IntKind.wrap .i64 (r11.2.1-r11.1))≤(IntKind.wrap .i64 (r11.2.1-r11.1))))&&(decide (((IntKind.wrap .i64 (r11.2.1-r11.1))*112)≤140737488355328))))) (
 a0a (k0i n s a.1) fun r12 =>
 tif ((!(decide (r12.2=0)))) (
 some ((List.replicate (Int.toNat (IntKind.wrap .i64 (r11.2.1-r11.1))) ((0:Int),(((0:Int),((0:Int),((0:Int),false))),(((0:Int),((0:Int),((0:Int),false))),(((0:Int),(0:Int)),((0:Int),((0:Int),(0:Int)))))))),(0:Int))) (
 a0a (b0e n a0b (s,(r0.1,(r11.1,((List.replicate (Int.toNat (IntKind.wrap .i64 (r11.2.1-r11.1))) ((0:Int),(((0:Int),((0:Int),((0:Int),false))),(((0:Int),((0:Int),((0:Int),false))),(((0:Int),(0:Int)),((0:Int),((0:Int),(0:Int)))))))),(r12.1,((((List.length (List.replicate (Int.toNat (IntKind.wrap .i64 (r11.2.1-r11.1))) ((0:Int),(((0:Int),((0:Int),((0:Int),false))),(((0:Int),((0:Int),((0:Int),false))),(((0:Int),(0:Int)),((0:Int),((0:Int),(0:Int))))))))):Nat):Int),((0:Int),())))))))) fun r13 =>
 b0c (fun y14 =>
 some (y14.1,(0:Int))) (fun z15 =>
 some z15) r13)) (
 none)))) (
 none)))):=by kernel_rfl
theorem b0r (n f:Nat) (s_:a0p) (r:v0d) (i:Int) (out:(List a0v)) (at_:Int) (s61:Int) (s62:Int):b0e n (f+1) (s_,r,i,out,at_,s61,s62,()) =
 tif ((decide (s62<s61))) (
 a0a (at? s_.2.2.2 at_) fun r0 =>
 a0a (c0k n s_.1 r0 (IntKind.wrap .i64 (r.1-1)) (IntKind.wrap .i64 (i+s62))) fun r1 =>
 a0a (at? out s62) fun r2 =>
 a0a ((out)[(Int.toNat s62)]?) fun r3 =>
 tif ((!(decide (r1.2=0)))) (
 some (.inr ([],r1.2))) (
 b0e n f (s_,(r,(i,((List.set out (Int.toNat s62) r1.1),(at_,(s61,((IntKind.wrap .i64 (s62+1)),()))))))))) (
 some (.inl (out,()))):=by kernel_rfl
theorem q1y (n:Nat) (s:a0p) (a:TAsk):e0z (n+1) s a =
 a0a (g2k n s a) fun r0 =>
 tif ((!(decide (r0.2=0)))) (
 some ([],r0.2)) (
 tif ((decide ((IntKind.wrap .i64 (r0.1.1-1))=0))) (
 tif ((decide (s.1.2.1.1=0))) (
 none) (
 tif ((decide ((4096:Int)<(IntKind.wrap .i64 (Int.tdiv (IntKind.wrap .i64 (a.2.2.2-a.2.2.1)) s.1.2.1.1))))) (
 some ([],6)) (
 a0a (p0x n s a.1) fun r1 =>
 tif ((decide (s.1.2.1.1=0))) (
 none) (
 a0a (d0c n a0b (s,(a,(r0.1,(s.1.2.1.1,(r1.1,(r1.2,([],((IntKind.wrap .i64 (Int.tdiv a.2.2.1 s.1.2.1.1)),()))))))))) fun r2 =>
 b0c (fun y3 =>
 some (y3.1,0)) (fun z4 =>
 some z4) r2)))) (
 tif ((decide ((IntKind.wrap .i64 (r0.1.1-1))=1))) (
 tif ((decide (s.1.2.1.2.1=0))) (
 none) (
 tif ((decide ((4096:Int)<(IntKind.wrap .i64 (Int.tdiv (IntKind.wrap .i64 (a.2.2.2-a.2.2.1)) s.1.2.1.2.1))))) (
 some ([],6)) (
 a0a (p0x n s a.1) fun r5 =>
 tif ((decide (s.1.2.1.2.1=0))) (
 none) (
 a0a (d0c n a0b (s,(a,(r0.1,(s.1.2.1.2.1,(r5.1,(r5.2,([],((IntKind.wrap .i64 (Int.tdiv a.2.2.1 s.1.2.1.2.1)),()))))))))) fun r6 =>
 b0c (fun y7 =>
 some (y7.1,0)) (fun z8 =>
 some z8) r6)))) (
 tif ((decide ((IntKind.wrap .i64 (r0.1.1-1))=2))) (
 tif ((decide (s.1.2.1.2.2=0))) (
 none) (
 tif ((decide ((4096:Int)<(IntKind.wrap .i64 (Int.tdiv (IntKind.wrap .i64 (a.2.2.2-a.2.2.1)) s.1.2.1.2.2))))) (
 some ([],6)) (
 a0a (p0x n s a.1) fun r9 =>
 tif ((decide (s.1.2.1.2.2=0))) (
 none) (
 a0a (d0c n a0b (s,(a,(r0.1,(s.1.2.1.2.2,(r9.1,(r9.2,([],((IntKind.wrap .i64 (Int.tdiv a.2.2.1 s.1.2.1.2.2)),()))))))))) fun r10 =>
 b0c (fun y11 =>
 some (y11.1,0)) (fun z12 =>
 some z12) r10)))) (
 none)))):=by kernel_rfl
theorem q0t (n f:Nat) (s_:a0p) (a_:TAsk) (r:v0d) (w:Int) (at_:Int) (none_:Int) (out:(List a0v)) (i:Int):d0c n (f+1) (s_,a_,r,w,at_,none_,out,i,()) =
 tif ((decide (w=0))) (
 none) (
 tif ((decide (i<(IntKind.wrap .i64 (Int.tdiv a_.2.2.2 w))))) (
 tif ((decide (none_=0))) (
 a0a (at? s_.2.2.2 at_) fun r0 =>
 a0a (t0n n s_.1 r0 (IntKind.wrap .i64 (r.1-1)) i) fun r1 =>
 tif ((decide ((((List.length out)+1)*112)≤140737488355328))) (
 d0c n f (s_,(a_,(r,(w,(at_,(none_,((out++(r1.1::[])),((IntKind.wrap .i64 (i+1)),()))))))))) (
 none)) (
 tif ((decide ((((List.length out)+1)*112)≤140737488355328))) (
 d0c n f (s_,(a_,(r,(w,(at_,(none_,((out++((0,((0,(0,(0,false))),((0,(0,(0,false))),((0,0),(0,(0,0))))))::[])),((IntKind.wrap .i64 (i+1)),()))))))))) (
 none))) (
 some (.inl (out,())))):=by kernel_rfl
theorem b1g (n:Nat) (s:a0p) (a:TAsk):c0n (n+1) s a =
 a0a (b0t n s a) fun r0 =>
 tif ((!(decide (r0.2=0)))) (
 some ([],r0.2)) (
 a0a (e0i n r0.1) fun r1 =>
 tif ((!(decide (r1.2=0)))) (
 some ([],r1.2)) (
 a0a (d0o n r1.1) fun r2 =>
 tif (((decide ((0:Int)≤(((List.length r2.1):Nat):Int)))&&((decide ((((List.length r2.1):Nat):Int)≤(((List.length r2.1):Nat):Int)))&&(decide (((((List.length r2.1):Nat):Int)*1)≤140737488355328))))) (
 a0a (e0b n a0b (r2.2,((List.replicate (Int.toNat (((List.length r2.1):Nat):Int)) (0:Int)),(r2.1,((((List.length r2.1):Nat):Int),(0,())))))) fun r3 =>
 b0c (fun y4 =>
 some ((List.map (fun y5=>(UInt8.ofNat (Int.toNat y5))) y4.2.1),y4.1)) (fun z6 =>
 some z6) r3) (
 none))):=by kernel_rfl
theorem d0v (n f:Nat) (why:Int) (out:(List Int)) (s38:(List Int)) (s39:Int) (s40:Int):e0b n (f+1) (why,out,s38,s39,s40,()) =
 tif ((decide (s40<s39))) (
 a0a (at? s38 s40) fun r0 =>
 a0a (at? out s40) fun r1 =>
 a0a ((out)[(Int.toNat s40)]?) fun r2 =>
 e0b n f (why,((List.set out (Int.toNat s40) (IntKind.wrap .u8 (IntKind.wrap .i64 ((48:Int)+r0)))),(s38,(s39,((IntKind.wrap .i64 (s40+1)),())))))) (
 some (.inl (why,(out,())))):=by kernel_rfl
theorem w1c (n:Nat) (s:a0p) (a:TAsk):i0e (n+1) s a =
 a0a (e0z n s a) fun r0 =>
 tif ((!(decide (r0.2=0)))) (
 some ([],r0.2)) (
 a0a (x0b n r0.1) fun r1 =>
 a0a (k0u n r1.1) fun r2 =>
 a0a (p0u n a0b ([],(r2.1,((((List.length r2.1):Nat):Int),(0,()))))) fun r3 =>
 b0c (fun y4 =>
 some (y4.1,0)) (fun z5 =>
 some z5) r3):=by kernel_rfl
theorem u0r (n f:Nat) (out:List UInt8) (s34:(List Int)) (s35:Int) (s36:Int):p0u n (f+1) (out,s34,s35,s36,()) =
 tif ((decide (s36<s35))) (
 a0a (at? s34 s36) fun r0 =>
 tif ((decide ((0:Int)≤r0))) (
 tif (((decide ((((Int.toNat r0):Nat):Int)≤(IntKind.wrap .i64 (r0+1))))&&(decide ((IntKind.wrap .i64 (r0+1))≤10)))) (
 tif ((decide (((List.length out)+(List.length (List.drop (Int.toNat r0) (List.take (Int.toNat (IntKind.wrap .i64 (r0+1))) ((48:UInt8)::((49:UInt8)::((50:UInt8)::((51:UInt8)::((52:UInt8)::((53:UInt8)::((54:UInt8)::((55:UInt8)::((56:UInt8)::((57:UInt8)::[]))))))))))))))≤9223372036854775807))) (
 p0u n f ((out++(List.drop (Int.toNat r0) (List.take (Int.toNat (IntKind.wrap .i64 (r0+1))) ((48:UInt8)::((49:UInt8)::((50:UInt8)::((51:UInt8)::((52:UInt8)::((53:UInt8)::((54:UInt8)::((55:UInt8)::((56:UInt8)::((57:UInt8)::[]))))))))))))),(s34,(s35,((IntKind.wrap .i64 (s36+1)),()))))) (
 none)) (
 none)) (
 none)) (
 some (.inl (out,()))):=by kernel_rfl
theorem b1y (n:Nat) (a:(List a0v)) (b:(List a0v)):c0l (n+1) a b =
 tif ((!(decide ((((List.length a):Nat):Int)=(((List.length b):Nat):Int))))) (
 some false) (
 a0a (g0v n a0b (a,(b,((((List.length a):Nat):Int),(0,()))))) fun r0 =>
 b0c (fun y1 =>
 some true) (fun z2 =>
 some z2) r0):=by kernel_rfl
theorem l0q (n f:Nat) (a:(List a0v)) (b:(List a0v)) (s12:Int) (s13:Int):g0v n (f+1) (a,b,s12,s13,()) =
 tif ((decide (s13<s12))) (
 a0a (at? a s13) fun r0 =>
 a0a (at? b s13) fun r1 =>
 tif ((!((decide (r0.1=r1.1))&&((decide (r0.2.1.1=r1.2.1.1))&&((decide (r0.2.1.2.1=r1.2.1.2.1))&&((decide (r0.2.1.2.2.1=r1.2.1.2.2.1))&&((r0.2.1.2.2.2==r1.2.1.2.2.2)&&((decide (r0.2.2.1.1=r1.2.2.1.1))&&((decide (r0.2.2.1.2.1=r1.2.2.1.2.1))&&((decide (r0.2.2.1.2.2.1=r1.2.2.1.2.2.1))&&((r0.2.2.1.2.2.2==r1.2.2.1.2.2.2)&&((decide (r0.2.2.2.1.1=r1.2.2.2.1.1))&&((decide (r0.2.2.2.1.2=r1.2.2.2.1.2))&&((decide (r0.2.2.2.2.1=r1.2.2.2.2.1))&&((decide (r0.2.2.2.2.2.1=r1.2.2.2.2.2.1))&&(decide (r0.2.2.2.2.2.2=r1.2.2.2.2.2.2))))))))))))))))) (
 some (.inr false)) (
 g0v n f (a,(b,(s12,((IntKind.wrap .i64 (s13+1)),())))))) (
 some (.inl ())):=by kernel_rfl
theorem o1d (n:Nat) (l:(List a0v)):e0i (n+1) l =
 a0a (m0z n l) fun r0 =>
 tif ((!(decide (r0.2=0)))) (
 some ([],r0.2)) (
 tif (((decide ((0:Int)≤(((List.length l):Nat):Int)))&&((decide ((((List.length l):Nat):Int)≤(((List.length l):Nat):Int)))&&(decide (((((List.length l):Nat):Int)*16)≤140737488355328))))) (
 a0a (e0a n a0b (l,((List.replicate (Int.toNat (((List.length l):Nat):Int)) (0,0)),(none,((((List.length l):Nat):Int),(0,())))))) fun r1 =>
 b0c (fun y2 =>
 some (y2.1,0)) (fun z3 =>
 some z3) r1) (
 none)):=by kernel_rfl
theorem q0y (n f:Nat) (l:(List a0v)) (out:(List (Int×Int))) (last:(Option a0v)) (s24:Int) (s25:Int):e0a n (f+1) (l,out,last,s24,s25,()) =
 n1h (last) (
 tif ((decide (s25<s24))) (
 a0a (at? l s25) fun r0 =>
 tif ((decide (r0.1=0))) (
 e0a n f (l,(out,(none,(s24,((IntKind.wrap .i64 (s25+1)),())))))) (
 a0a (at? out s25) fun r1 =>
 a0a ((out)[(Int.toNat s25)]?) fun r2 =>
 e0a n f (l,((List.set out (Int.toNat s25) r0.2.2.2.1),((some r0),(s24,((IntKind.wrap .i64 (s25+1)),()))))))) (
 some (.inl (out,())))) fun r3 =>
 tif ((decide (s25<s24))) (
 a0a (at? l s25) fun r4 =>
 tif ((decide (r4.1=0))) (
 e0a n f (l,(out,((some r3),(s24,((IntKind.wrap .i64 (s25+1)),())))))) (
 a0a (at? out s25) fun r5 =>
 a0a ((out)[(Int.toNat s25)]?) fun r6 =>
 a0a (k0l n r3.2.2.1 r4.2.1) fun r7 =>
 a0a (t0a n r7.1.2.2.2.1 r4.2.2.2.1) fun r8 =>
 a0a (at? (List.set out (Int.toNat s25) r4.2.2.2.1) s25) fun r9 =>
 a0a (((List.set out (Int.toNat s25) r4.2.2.2.1))[(Int.toNat s25)]?) fun r10 =>
 e0a n f (l,((List.set (List.set out (Int.toNat s25) r4.2.2.2.1) (Int.toNat s25) r8.1),((some r4),(s24,((IntKind.wrap .i64 (s25+1)),()))))))) (
 some (.inl (out,()))):=by kernel_rfl
theorem q1x (n:Nat) (l:(List a0v)):x0b (n+1) l =
 a0a (z0q n l) fun r0 =>
 tif ((!(decide (r0.2=0)))) (
 some ([],r0.2)) (
 a0a (m0l n a0b (l,([],((((List.length l):Nat):Int),(0,()))))) fun r1 =>
 b0c (fun y2 =>
 some (y2.1,0)) (fun z3 =>
 some z3) r1):=by kernel_rfl
theorem r0p (n f:Nat) (l:(List a0v)) (out:(List (Int×Int))) (s23:Int) (s24:Int):m0l n (f+1) (l,out,s23,s24,()) =
 tif ((decide (s24<s23))) (
 tif (((decide ((0:Int)≤s24))&&(decide (s24≤(((List.length l):Nat):Int))))) (
 a0a (z0q n (List.drop 0 (List.take (Int.toNat s24) l))) fun r0 =>
 tif (((decide ((0:Int)≤(IntKind.wrap .i64 (s24+1))))&&(decide ((IntKind.wrap .i64 (s24+1))≤(((List.length l):Nat):Int))))) (
 a0a (z0q n (List.drop 0 (List.take (Int.toNat (IntKind.wrap .i64 (s24+1))) l))) fun r1 =>
 a0a (v0o n r1.1.2.2.2.1 r0.1.2.2.2.1) fun r2 =>
 tif ((decide ((((List.length out)+1)*16)≤140737488355328))) (
 m0l n f (l,((out++(r2.1::[])),(s23,((IntKind.wrap .i64 (s24+1)),()))))) (
 none)) (
 none)) (
 none)) (
 some (.inl (out,()))):=by kernel_rfl
theorem t1g (n:Nat) (l:(List (Int×Int))):f0v (n+1) l =
 a0a (h0p n a0b (l,(0,(l,((((List.length l):Nat):Int),(0,())))))) fun r0 =>
 b0c (fun y1 =>
 some (y1.2.1,(decide ((0:Int)<(((List.length y1.1):Nat):Int))))) (fun z2 =>
 some z2) r0:=by kernel_rfl
theorem s0t (n f:Nat) (l:(List (Int×Int))) (at_:Int) (s7:(List (Int×Int))) (s8:Int) (s9:Int):h0p n (f+1) (l,at_,s7,s8,s9,()) =
 tif ((decide (s9<s8))) (
 a0a (at? s7 s9) fun r0 =>
 a0a (at? l at_) fun r1 =>
 a0a (b0z n r1 r0) fun r2 =>
 tif (r2) (
 h0p n f (l,(s9,(s7,(s8,((IntKind.wrap .i64 (s9+1)),())))))) (
 h0p n f (l,(at_,(s7,(s8,((IntKind.wrap .i64 (s9+1)),()))))))) (
 some (.inl (l,(at_,())))):=by kernel_rfl
theorem d1t (n:Nat) (l:(List (Int×Int))):x0c (n+1) l =
 a0a (l0s n a0b (l,(l,((((List.length l):Nat):Int),(0,()))))) fun r0 =>
 b0c (fun y1 =>
 some (0,false)) (fun z2 =>
 some z2) r0:=by kernel_rfl
theorem n0n (n f:Nat) (l:(List (Int×Int))) (s9:(List (Int×Int))) (s10:Int) (s11:Int):l0s n (f+1) (l,s9,s10,s11,()) =
 tif ((decide (s11<s10))) (
 a0a (at? s9 s11) fun r0 =>
 a0a (l0r n a0b (l,(s11,(r0,(true,(s9,(s10,(s11,(l,((((List.length l):Nat):Int),(0,()))))))))))) fun r1 =>
 b0c (fun y2 =>
 tif (y2.2.2.1) (
 some (.inr (y2.2.1,true))) (
 l0s n f (y2.1,(y2.2.2.2.1,(y2.2.2.2.2.1,((IntKind.wrap .i64 (y2.2.2.2.2.2.1+1)),())))))) (fun z3 =>
 some (.inr z3)) r1) (
 some (.inl ())):=by kernel_rfl
theorem u0q (n f:Nat) (l:(List (Int×Int))) (i:Int) (x:(Int×Int)) (ok:Bool) (s9:(List (Int×Int))) (s10:Int) (s11:Int) (s16:(List (Int×Int))) (s17:Int) (s18:Int):l0r n (f+1) (l,i,x,ok,s9,s10,s11,s16,s17,s18,()) =
 tif ((decide (s18<s17))) (
 a0a (at? s16 s18) fun r0 =>
 tif (ok) (
 a0a (i0j n x r0) fun r1 =>
 l0r n f (l,(i,(x,((!r1),(s9,(s10,(s11,(s16,(s17,((IntKind.wrap .i64 (s18+1)),()))))))))))) (
 l0r n f (l,(i,(x,(false,(s9,(s10,(s11,(s16,(s17,((IntKind.wrap .i64 (s18+1)),())))))))))))) (
 some (.inl (l,(i,(ok,(s9,(s10,(s11,())))))))):=by kernel_rfl
theorem v0a (n:Nat) (l:(List (Int×Int))):d0o (n+1) l =
 a0a (f0v n l) fun r0 =>
 tif ((!r0.2)) (
 some ([],0)) (
 a0a (b0a n a0b (l,(r0.1,(((0,0),((0,0),((0,0),((0,0),((0,0),((0,0),((0,0),((0,0),((0,0),(0,0)))))))))),(0,()))))) fun r1 =>
 b0c (fun y2 =>
 tif (((decide ((0:Int)≤(((List.length y2.1):Nat):Int)))&&((decide ((((List.length y2.1):Nat):Int)≤(((List.length y2.1):Nat):Int)))&&(decide (((((List.length y2.1):Nat):Int)*8)≤140737488355328))))) (
 a0a (at? y2.1 y2.2.1) fun r3 =>
 a0a (e0o n (0:Int)) fun r4 =>
 tif (((decide (r3.1=r4.1))&&(decide (r3.2=r4.2)))) (
 some ((List.replicate (Int.toNat (((List.length y2.1):Nat):Int)) (0:Int)),0)) (
 a0a (i0m n a0b (y2.2.2.1,((List.replicate (Int.toNat (((List.length y2.1):Nat):Int)) (0:Int)),(y2.1,((((List.length y2.1):Nat):Int),(0,())))))) fun r5 =>
 b0c (fun y6 =>
 some (y6.1,0)) (fun z7 =>
 some z7) r5)) (
 none)) (fun z8 =>
 some z8) r1):=by kernel_rfl
theorem o0w (n f:Nat) (l:(List (Int×Int))) (at_:Int) (times:((Int×Int)×((Int×Int)×((Int×Int)×((Int×Int)×((Int×Int)×((Int×Int)×((Int×Int)×((Int×Int)×c0o))))))))) (s19:Int):b0a n (f+1) (l,at_,times,s19,()) =
 tif ((decide (s19<10))) (
 a0a (at? l at_) fun r0 =>
 a0a (k0q n r0 (IntKind.wrap .u64 s19)) fun r1 =>
 tif ((decide (s19=0))) (
 tif ((!(decide (r1.2=0)))) (
 some (.inr ([],r1.2))) (
 b0a n f (l,(at_,((r1.1,times.2),((IntKind.wrap .i64 (s19+1)),())))))) (
 tif ((decide (s19=1))) (
 tif ((!(decide (r1.2=0)))) (
 some (.inr ([],r1.2))) (
 b0a n f (l,(at_,((times.1,(r1.1,times.2.2)),((IntKind.wrap .i64 (s19+1)),())))))) (
 tif ((decide (s19=2))) (
 tif ((!(decide (r1.2=0)))) (
 some (.inr ([],r1.2))) (
 b0a n f (l,(at_,((times.1,(times.2.1,(r1.1,times.2.2.2))),((IntKind.wrap .i64 (s19+1)),())))))) (
 tif ((decide (s19=3))) (
 tif ((!(decide (r1.2=0)))) (
 some (.inr ([],r1.2))) (
 b0a n f (l,(at_,((times.1,(times.2.1,(times.2.2.1,(r1.1,times.2.2.2.2)))),((IntKind.wrap .i64 (s19+1)),())))))) (
 tif ((decide (s19=4))) (
 tif ((!(decide (r1.2=0)))) (
 some (.inr ([],r1.2))) (
 b0a n f (l,(at_,((times.1,(times.2.1,(times.2.2.1,(times.2.2.2.1,(r1.1,times.2.2.2.2.2))))),((IntKind.wrap .i64 (s19+1)),())))))) (
 tif ((decide (s19=5))) (
 tif ((!(decide (r1.2=0)))) (
 some (.inr ([],r1.2))) (
 b0a n f (l,(at_,((times.1,(times.2.1,(times.2.2.1,(times.2.2.2.1,(times.2.2.2.2.1,(r1.1,times.2.2.2.2.2.2)))))),((IntKind.wrap .i64 (s19+1)),())))))) (
 tif ((decide (s19=6))) (
 tif ((!(decide (r1.2=0)))) (
 some (.inr ([],r1.2))) (
 b0a n f (l,(at_,((times.1,(times.2.1,(times.2.2.1,(times.2.2.2.1,(times.2.2.2.2.1,(times.2.2.2.2.2.1,(r1.1,times.2.2.2.2.2.2.2))))))),((IntKind.wrap .i64 (s19+1)),())))))) (
 tif ((decide (s19=7))) (
 tif ((!(decide (r1.2=0)))) (
 some (.inr ([],r1.2))) (
 b0a n f (l,(at_,((times.1,(times.2.1,(times.2.2.1,(times.2.2.2.1,(times.2.2.2.2.1,(times.2.2.2.2.2.1,(times.2.2.2.2.2.2.1,(r1.1,times.2.2.2.2.2.2.2.2)))))))),((IntKind.wrap .i64 (s19+1)),())))))) (
 tif ((decide (s19=8))) (
 tif ((!(decide (r1.2=0)))) (
 some (.inr ([],r1.2))) (
 b0a n f (l,(at_,((times.1,(times.2.1,(times.2.2.1,(times.2.2.2.1,(times.2.2.2.2.1,(times.2.2.2.2.2.1,(times.2.2.2.2.2.2.1,(times.2.2.2.2.2.2.2.1,(r1.1,times.2.2.2.2.2.2.2.2.2))))))))),((IntKind.wrap .i64 (s19+1)),())))))) (
 tif ((decide (s19=9))) (
 tif ((!(decide (r1.2=0)))) (
 some (.inr ([],r1.2))) (
 b0a n f (l,(at_,((times.1,(times.2.1,(times.2.2.1,(times.2.2.2.1,(times.2.2.2.2.1,(times.2.2.2.2.2.1,(times.2.2.2.2.2.2.1,(times.2.2.2.2.2.2.2.1,(times.2.2.2.2.2.2.2.2.1,r1.1))))))))),((IntKind.wrap .i64 (s19+1)),())))))) (
 none))))))))))) (
 some (.inl (l,(at_,(times,()))))):=by kernel_rfl
theorem m0t (n f:Nat) (times:((Int×Int)×((Int×Int)×((Int×Int)×((Int×Int)×((Int×Int)×((Int×Int)×((Int×Int)×((Int×Int)×c0o))))))))) (out:(List Int)) (s48:(List (Int×Int))) (s49:Int) (s50:Int):i0m n (f+1) (times,out,s48,s49,s50,()) =
 tif ((decide (s50<s49))) (
 a0a (at? s48 s50) fun r0 =>
 a0a (a1d n r0 times) fun r1 =>
 a0a (at? out s50) fun r2 =>
 a0a ((out)[(Int.toNat s50)]?) fun r3 =>
 i0m n f (times,((List.set out (Int.toNat s50) r1),(s48,(s49,((IntKind.wrap .i64 (s50+1)),())))))) (
 some (.inl (out,()))):=by kernel_rfl
theorem x0d (n:Nat) (l:(List (Int×Int))):k0u (n+1) l =
 a0a (x0c n l) fun r0 =>
 tif ((!r0.2)) (
 some ([],0)) (
 a0a (at? l r0.1) fun r1 =>
 a0a (g0p n r1 (9:Int)) fun r2 =>
 tif ((!(decide (r2.2=0)))) (
 some ([],r2.2)) (
 a0a (j0f n a0b (r1,([],(l,((((List.length l):Nat):Int),(0,())))))) fun r3 =>
 b0c (fun y4 =>
 some (y4.1,0)) (fun z5 =>
 some z5) r3)):=by kernel_rfl
theorem o0e (n f:Nat) (top:(Int×Int)) (out:(List Int)) (s37:(List (Int×Int))) (s38:Int) (s39:Int):j0f n (f+1) (top,out,s37,s38,s39,()) =
 tif ((decide (s39<s38))) (
 a0a (at? s37 s39) fun r0 =>
 a0a (g0p n r0 (9:Int)) fun r1 =>
 a0a (e0e n a0b (top,(out,(r1.1,(0,(1,(s37,(s38,(s39,()))))))))) fun r2 =>
 b0c (fun y3 =>
 tif ((decide ((((List.length y3.2.1)+1)*8)≤140737488355328))) (
 j0f n f (y3.1,((y3.2.1++(y3.2.2.1::[])),(y3.2.2.2.1,(y3.2.2.2.2.1,((IntKind.wrap .i64 (y3.2.2.2.2.2.1+1)),())))))) (
 none)) (fun z4 =>
 some (.inr z4)) r2) (
 some (.inl (out,()))):=by kernel_rfl
theorem i0y (n f:Nat) (top:(Int×Int)) (out:(List Int)) (nine:(Int×Int)) (k:Int) (n_:Int) (s37:(List (Int×Int))) (s38:Int) (s39:Int):e0e n (f+1) (top,out,nine,k,n_,s37,s38,s39,()) =
 tif ((decide (n_≤9))) (
 tif ((!((decide (top.1=0))&&(decide (top.2=0))))) (
 a0a (g0p n top n_) fun r0 =>
 a0a (i0j n nine r0.1) fun r1 =>
 tif ((!r1)) (
 e0e n f (top,(out,(nine,((IntKind.wrap .i64 n_),((IntKind.wrap .u64 (n_+1)),(s37,(s38,(s39,()))))))))) (
 e0e n f (top,(out,(nine,(k,((IntKind.wrap .u64 (n_+1)),(s37,(s38,(s39,())))))))))) (
 some (.inl (top,(out,(k,(s37,(s38,(s39,()))))))))) (
 some (.inl (top,(out,(k,(s37,(s38,(s39,())))))))):=by kernel_rfl
theorem b1x (n:Nat) (a:(List (Int×Int))) (b:(List (Int×Int))):i0d (n+1) a b =
 tif ((!(decide ((((List.length a):Nat):Int)=(((List.length b):Nat):Int))))) (
 some false) (
 a0a (g0u n a0b (a,(b,((((List.length a):Nat):Int),(0,()))))) fun r0 =>
 b0c (fun y1 =>
 some true) (fun z2 =>
 some z2) r0):=by kernel_rfl
theorem l0p (n f:Nat) (a:(List (Int×Int))) (b:(List (Int×Int))) (s12:Int) (s13:Int):g0u n (f+1) (a,b,s12,s13,()) =
 tif ((decide (s13<s12))) (
 a0a (at? a s13) fun r0 =>
 a0a (at? b s13) fun r1 =>
 tif ((!((decide (r0.1=r1.1))&&(decide (r0.2=r1.2))))) (
 some (.inr false)) (
 g0u n f (a,(b,(s12,((IntKind.wrap .i64 (s13+1)),())))))) (
 some (.inl ())):=by kernel_rfl
theorem y1s (n:Nat) (l:(List a0v)):m0z (n+1) l =
 a0a (m0e n a0b ((0,((0,(0,(0,false))),((0,(0,(0,false))),((0,0),(0,(0,0)))))),((0,((0,(0,(0,false))),((0,(0,(0,false))),((0,0),(0,(0,0)))))),(l,((((List.length l):Nat):Int),(0,())))))) fun r0 =>
 b0c (fun y1 =>
 some (y1.2.1,0)) (fun z2 =>
 some z2) r0:=by kernel_rfl
theorem v0c (n f:Nat) (s2:a0v) (c:a0v) (s9:(List a0v)) (s10:Int) (s11:Int):m0e n (f+1) (s2,c,s9,s10,s11,()) =
 tif ((decide (s11<s10))) (
 a0a (at? s9 s11) fun r0 =>
 a0a (h0q n c r0) fun r1 =>
 tif ((!(decide (r1.2=0)))) (
 some (.inr ((0,((0,(0,(0,false))),((0,(0,(0,false))),((0,0),(0,(0,0)))))),r1.2))) (
 m0e n f (s2,(r1.1,(s9,(s10,((IntKind.wrap .i64 (s11+1)),()))))))) (
 some (.inl (s2,(c,())))):=by kernel_rfl
theorem u1q (n:Nat) (l:(List (Int×Int))):p0g (n+1) l =
 a0a (p0f n a0b ((0,0),((0,0),(l,((((List.length l):Nat):Int),(0,())))))) fun r0 =>
 b0c (fun y1 =>
 some (y1.2.1,0)) (fun z2 =>
 some z2) r0:=by kernel_rfl
theorem u0i (n f:Nat) (s2:(Int×Int)) (a:(Int×Int)) (s9:(List (Int×Int))) (s10:Int) (s11:Int):p0f n (f+1) (s2,a,s9,s10,s11,()) =
 tif ((decide (s11<s10))) (
 a0a (at? s9 s11) fun r0 =>
 a0a (t0a n a r0) fun r1 =>
 tif ((!(decide (r1.2=0)))) (
 some (.inr ((0,0),r1.2))) (
 p0f n f (s2,(r1.1,(s9,(s10,((IntKind.wrap .i64 (s11+1)),()))))))) (
 some (.inl (s2,(a,())))):=by kernel_rfl
theorem p1i (n:Nat) (a:(Int×Int)) (b:(Int×Int)):b0z (n+1) a b =
 tif ((decide (a.1<b.1))) (
 some true) (
 tif ((decide (a.1=b.1))) (
 some (decide (a.2<b.2))) (
 some false)):=by kernel_rfl
theorem k1u (n:Nat) (a:(Int×Int)) (n_:Int):k0q (n+1) a n_ =
 a0a (i0k n a.2 n_) fun r0 =>
 a0a (i0k n a.1 n_) fun r1 =>
 tif (((decide ((0:Int)≤r1.2))&&((decide ((0:Int)≤r0.1))&&true))) (
 a0a (r0c n ((((r1.2+r0.1)+0) % (18446744073709551616:Int)),r0.2) (orI .u64 r1.1 (((r1.2+r0.1)+0) / (18446744073709551616:Int)))) fun r2 =>
 some r2) (
 none):=by kernel_rfl
theorem y0l (n:Nat) (a:(List (List UInt8×List UInt8))) (b:(List (List UInt8×List UInt8))):o0s (n+1) a b =
 a0a (n0j n a b) fun r0 =>
 some r0:=by kernel_rfl
theorem s1w (n:Nat) (s:a0x):y0o (n+1) s =
 a0a (o0u n s.1) fun r0 =>
 tif ((decide (r0=0))) (
 some (0:Int)) (
 tif ((decide ((60:Int)<(((List.length s.2.2.1.2.2):Nat):Int)))) (
 some (0:Int)) (
 a0a (e1v n s.2.2.2.1) fun r1 =>
 some r1)):=by kernel_rfl
theorem r1e (n:Nat) (s:a0p):r0v (n+1) s =
 a0a (r0r n s) fun r0 =>
 tif ((!r0)) (
 some (2:Int)) (
 a0a (x0f n s.2.1) fun r1 =>
 tif ((!r1)) (
 some (2:Int)) (
 tif ((!(decide (s.2.2.1=((-1):Int))))) (
 a0a (x0f n s.2.2.1) fun r2 =>
 tif ((!r2)) (
 some (2:Int)) (
 tif ((decide (s.2.1<s.2.2.1))) (
 some (2:Int)) (
 a0a (x0g n s) fun r3 =>
 a0a (d0g n a0b (s,((IntKind.wrap .i64 (r3+s.1.2.1.1)),(s.2.2.2,((((List.length s.2.2.2):Nat):Int),(0,())))))) fun r4 =>
 b0c (fun y5 =>
 some (0:Int)) (fun z6 =>
 some z6) r4))) (
 tif ((decide (s.2.1<s.2.2.1))) (
 some (2:Int)) (
 a0a (x0g n s) fun r7 =>
 a0a (d0g n a0b (s,((IntKind.wrap .i64 (r7+s.1.2.1.1)),(s.2.2.2,((((List.length s.2.2.2):Nat):Int),(0,())))))) fun r8 =>
 b0c (fun y9 =>
 some (0:Int)) (fun z10 =>
 some z10) r8)))):=by kernel_rfl
theorem r0u (n f:Nat) (s_:a0p) (end_:Int) (s42:(List a0x)) (s43:Int) (s44:Int):d0g n (f+1) (s_,end_,s42,s43,s44,()) =
 tif ((decide (s44<s43))) (
 a0a (at? s42 s44) fun r0 =>
 a0a (x0h n r0) fun r1 =>
 tif (r1) (
 d0g n f (s_,(end_,(s42,(s43,((IntKind.wrap .i64 (s44+1)),())))))) (
 a0a (l0u n s_.1 r0) fun r2 =>
 tif ((!(decide (r2=0)))) (
 some (.inr (2:Int))) (
 tif ((decide (r0.2.1<0))) (
 some (.inr (2:Int))) (
 tif ((decide (end_≤r0.2.1))) (
 some (.inr (2:Int))) (
 tif (((decide ((0:Int)≤s44))&&(decide (s44≤(((List.length s_.2.2.2):Nat):Int))))) (
 a0a (d0d n a0b (s_,(end_,(s44,(r0,(s42,(s43,(s44,((((List.length (List.drop 0 (List.take (Int.toNat s44) s_.2.2.2))):Nat):Int),((0:Int),())))))))))) fun r3 =>
 b0c (fun y4 =>
 d0g n f (y4.1,(y4.2.1,(y4.2.2.1,(y4.2.2.2.1,((IntKind.wrap .i64 (y4.2.2.2.2.1+1)),())))))) (fun z5 =>
 some (.inr z5)) r3) (
 none)))))) (
 some (.inl ())):=by kernel_rfl
theorem q0u (n f:Nat) (s_:a0p) (end_:Int) (i:Int) (x:a0x) (s42:(List a0x)) (s43:Int) (s44:Int) (s71:Int) (s72:Int):d0d n (f+1) (s_,end_,i,x,s42,s43,s44,s71,s72,()) =
 tif ((decide (s72<s71))) (
 a0a (r0t n s_ i) fun r0 =>
 tif (r0) (
 a0a (r0t n s_ s72) fun r1 =>
 tif (r1) (
 a0a (at? s_.2.2.2 s72) fun r2 =>
 a0a (x0t n r2.1 x.1) fun r3 =>
 tif (r3) (
 some (.inr (2:Int))) (
 d0d n f (s_,(end_,(i,(x,(s42,(s43,(s44,(s71,((IntKind.wrap .i64 (s72+1)),()))))))))))) (
 d0d n f (s_,(end_,(i,(x,(s42,(s43,(s44,(s71,((IntKind.wrap .i64 (s72+1)),()))))))))))) (
 d0d n f (s_,(end_,(i,(x,(s42,(s43,(s44,(s71,((IntKind.wrap .i64 (s72+1)),()))))))))))) (
 some (.inl (s_,(end_,(s42,(s43,(s44,()))))))):=by kernel_rfl
end Go.Proofs.YtgkpkajaepphjaaGreatDoor
