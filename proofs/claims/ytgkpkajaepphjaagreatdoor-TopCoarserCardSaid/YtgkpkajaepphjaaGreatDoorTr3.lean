/- Trees, printed by program. -/
import Derived.Test.YtgkpkajaepphjaaGreatDoorTr0
import Derived.KernelRfl
set_option linter.unusedVariables false
namespace Go.Proofs.YtgkpkajaepphjaaGreatDoor
open Go.Flat
theorem z0c (n:Nat) (c:a0o) (l:(List b0u)) (labels:(List (List UInt8×List UInt8))) (k:Int) (from_:Int) (to:Int):u0i (n+1) c l labels k from_ to =
 a0a (r0a n ) fun r0 =>
 tif ((!r0)) (
 some false) (
 a0a (s0w n c) fun r1 =>
 tif ((!r1)) (
 some true) (
 a0a (k0j n l) fun r2 =>
 tif ((!r2)) (
 some true) (
 a0a (s0i n labels) fun r3 =>
 tif ((decide (r3=0))) (
 some true) (
 tif ((decide (k<2))) (
 some true) (
 tif ((decide ((3:Int)<k))) (
 some true) (
 a0a (z0m n c) fun r4 =>
 tif ((!(decide (r4.2=0)))) (
 some false) (
 a0a (f0o n a0b (labels,(k,(from_,(to,(c,(r4.1,(l,((((List.length l):Nat):Int),(0,())))))))))) fun r5 =>
 b0i (fun y6 =>
 tif ((decide (y6.2.2.1<0))) (
 some true) (
 tif ((decide (y6.2.2.2.1<y6.2.2.1))) (
 some true) (
 tif ((decide (y6.2.2.2.2.1.2.1.1=0))) (
 none) (
 tif ((decide ((200:Int)<(IntKind.wrap .i64 (Int.tdiv (IntKind.wrap .i64 (y6.2.2.2.1-y6.2.2.1)) y6.2.2.2.2.1.2.1.1))))) (
 some true) (
 a0a (t0p n y6.2.2.2.2.2.1 (y6.1,(y6.2.1,(y6.2.2.1,y6.2.2.2.1)))) fun r7 =>
 a0a (t0p n y6.2.2.2.2.2.1 (y6.1,((IntKind.wrap .i64 (y6.2.1-1)),(y6.2.2.1,y6.2.2.2.1)))) fun r8 =>
 tif ((!(decide (r7.2=0)))) (
 tif ((decide (r7.2=0))) (
 tif ((decide (r8.2=0))) (
 some true) (
 some (decide ((((List.length r8.1):Nat):Int)=0)))) (
 tif ((decide ((((List.length r7.1):Nat):Int)=0))) (
 tif ((decide (r8.2=0))) (
 some true) (
 some (decide ((((List.length r8.1):Nat):Int)=0)))) (
 some false))) (
 tif ((!(decide (r8.2=0)))) (
 tif ((decide (r7.2=0))) (
 tif ((decide (r8.2=0))) (
 some true) (
 some (decide ((((List.length r8.1):Nat):Int)=0)))) (
 tif ((decide ((((List.length r7.1):Nat):Int)=0))) (
 tif ((decide (r8.2=0))) (
 some true) (
 some (decide ((((List.length r8.1):Nat):Int)=0)))) (
 some false))) (
 tif ((decide ((IntKind.wrap .i64 (y6.2.1-1))=0))) (
 tif ((decide ((IntKind.wrap .i64 (y6.2.1-2))=0))) (
 tif ((decide (y6.2.2.2.2.1.2.1.1=0))) (
 none) (
 a0a (b0l n r7.1) fun r9 =>
 a0a (b0l n r8.1) fun r10 =>
 tif ((!(decide ((((List.length r8.1):Nat):Int)=(IntKind.wrap .i64 ((IntKind.wrap .i64 (Int.tdiv y6.2.2.2.2.1.2.1.1 y6.2.2.2.2.1.2.1.1))*(((List.length r7.1):Nat):Int))))))) (
 some false) (
 tif ((!(decide (r9.2=0)))) (
 some false) (
 tif ((!(decide (r10.2=0)))) (
 some false) (
 tif ((!(decide ((((List.length r9.1):Nat):Int)=(((List.length r7.1):Nat):Int))))) (
 some false) (
 tif ((!(decide ((((List.length r10.1):Nat):Int)=(((List.length r8.1):Nat):Int))))) (
 some false) (
 a0a (a0z n a0b (r8.1,((IntKind.wrap .i64 (Int.tdiv y6.2.2.2.2.1.2.1.1 y6.2.2.2.2.1.2.1.1)),(r9.1,(r10.1,(r7.1,((((List.length r7.1):Nat):Int),(0,())))))))) fun r11 =>
 b0i (fun y12 =>
 some true) (fun z13 =>
 some z13) r11))))))) (
 tif ((decide ((IntKind.wrap .i64 (y6.2.1-2))=1))) (
 tif ((decide (y6.2.2.2.2.1.2.1.2.1=0))) (
 none) (
 a0a (b0l n r7.1) fun r14 =>
 a0a (b0l n r8.1) fun r15 =>
 tif ((!(decide ((((List.length r8.1):Nat):Int)=(IntKind.wrap .i64 ((IntKind.wrap .i64 (Int.tdiv y6.2.2.2.2.1.2.1.1 y6.2.2.2.2.1.2.1.2.1))*(((List.length r7.1):Nat):Int))))))) (
 some false) (
 tif ((!(decide (r14.2=0)))) (
 some false) (
 tif ((!(decide (r15.2=0)))) (
 some false) (
 tif ((!(decide ((((List.length r14.1):Nat):Int)=(((List.length r7.1):Nat):Int))))) (
 some false) (
 tif ((!(decide ((((List.length r15.1):Nat):Int)=(((List.length r8.1):Nat):Int))))) (
 some false) (
 a0a (a0z n a0b (r8.1,((IntKind.wrap .i64 (Int.tdiv y6.2.2.2.2.1.2.1.1 y6.2.2.2.2.1.2.1.2.1)),(r14.1,(r15.1,(r7.1,((((List.length r7.1):Nat):Int),(0,())))))))) fun r16 =>
 b0i (fun y17 =>
 some true) (fun z18 =>
 some z18) r16))))))) (
 tif ((decide ((IntKind.wrap .i64 (y6.2.1-2))=2))) (
 tif ((decide (y6.2.2.2.2.1.2.1.2.2=0))) (
 none) (
 a0a (b0l n r7.1) fun r19 =>
 a0a (b0l n r8.1) fun r20 =>
 tif ((!(decide ((((List.length r8.1):Nat):Int)=(IntKind.wrap .i64 ((IntKind.wrap .i64 (Int.tdiv y6.2.2.2.2.1.2.1.1 y6.2.2.2.2.1.2.1.2.2))*(((List.length r7.1):Nat):Int))))))) (
 some false) (
 tif ((!(decide (r19.2=0)))) (
 some false) (
 tif ((!(decide (r20.2=0)))) (
 some false) (
 tif ((!(decide ((((List.length r19.1):Nat):Int)=(((List.length r7.1):Nat):Int))))) (
 some false) (
 tif ((!(decide ((((List.length r20.1):Nat):Int)=(((List.length r8.1):Nat):Int))))) (
 some false) (
 a0a (a0z n a0b (r8.1,((IntKind.wrap .i64 (Int.tdiv y6.2.2.2.2.1.2.1.1 y6.2.2.2.2.1.2.1.2.2)),(r19.1,(r20.1,(r7.1,((((List.length r7.1):Nat):Int),(0,())))))))) fun r21 =>
 b0i (fun y22 =>
 some true) (fun z23 =>
 some z23) r21))))))) (
 none)))) (
 tif ((decide ((IntKind.wrap .i64 (y6.2.1-1))=1))) (
 tif ((decide ((IntKind.wrap .i64 (y6.2.1-2))=0))) (
 tif ((decide (y6.2.2.2.2.1.2.1.1=0))) (
 none) (
 a0a (b0l n r7.1) fun r24 =>
 a0a (b0l n r8.1) fun r25 =>
 tif ((!(decide ((((List.length r8.1):Nat):Int)=(IntKind.wrap .i64 ((IntKind.wrap .i64 (Int.tdiv y6.2.2.2.2.1.2.1.2.1 y6.2.2.2.2.1.2.1.1))*(((List.length r7.1):Nat):Int))))))) (
 some false) (
 tif ((!(decide (r24.2=0)))) (
 some false) (
 tif ((!(decide (r25.2=0)))) (
 some false) (
 tif ((!(decide ((((List.length r24.1):Nat):Int)=(((List.length r7.1):Nat):Int))))) (
 some false) (
 tif ((!(decide ((((List.length r25.1):Nat):Int)=(((List.length r8.1):Nat):Int))))) (
 some false) (
 a0a (a0z n a0b (r8.1,((IntKind.wrap .i64 (Int.tdiv y6.2.2.2.2.1.2.1.2.1 y6.2.2.2.2.1.2.1.1)),(r24.1,(r25.1,(r7.1,((((List.length r7.1):Nat):Int),(0,())))))))) fun r26 =>
 b0i (fun y27 =>
 some true) (fun z28 =>
 some z28) r26))))))) (
 tif ((decide ((IntKind.wrap .i64 (y6.2.1-2))=1))) (
 tif ((decide (y6.2.2.2.2.1.2.1.2.1=0))) (
 none) (
 a0a (b0l n r7.1) fun r29 =>
 a0a (b0l n r8.1) fun r30 =>
 tif ((!(decide ((((List.length r8.1):Nat):Int)=(IntKind.wrap .i64 ((IntKind.wrap .i64 (Int.tdiv y6.2.2.2.2.1.2.1.2.1 y6.2.2.2.2.1.2.1.2.1))*(((List.length r7.1):Nat):Int))))))) (
 some false) (
 tif ((!(decide (r29.2=0)))) (
 some false) (
 tif ((!(decide (r30.2=0)))) (
 some false) (
 tif ((!(decide ((((List.length r29.1):Nat):Int)=(((List.length r7.1):Nat):Int))))) (
 some false) (
 tif ((!(decide ((((List.length r30.1):Nat):Int)=(((List.length r8.1):Nat):Int))))) (
 some false) (
 a0a (a0z n a0b (r8.1,((IntKind.wrap .i64 (Int.tdiv y6.2.2.2.2.1.2.1.2.1 y6.2.2.2.2.1.2.1.2.1)),(r29.1,(r30.1,(r7.1,((((List.length r7.1):Nat):Int),(0,())))))))) fun r31 =>
 b0i (fun y32 =>
 some true) (fun z33 =>
 some z33) r31))))))) (
 tif ((decide ((IntKind.wrap .i64 (y6.2.1-2))=2))) (
 tif ((decide (y6.2.2.2.2.1.2.1.2.2=0))) (
 none) (
 a0a (b0l n r7.1) fun r34 =>
 a0a (b0l n r8.1) fun r35 =>
 tif ((!(decide ((((List.length r8.1):Nat):Int)=(IntKind.wrap .i64 ((IntKind.wrap .i64 (Int.tdiv y6.2.2.2.2.1.2.1.2.1 y6.2.2.2.2.1.2.1.2.2))*(((List.length r7.1):Nat):Int))))))) (
 some false) (
 tif ((!(decide (r34.2=0)))) (
 some false) (
 tif ((!(decide (r35.2=0)))) (
 some false) (
 tif ((!(decide ((((List.length r34.1):Nat):Int)=(((List.length r7.1):Nat):Int))))) (
 some false) (
 tif ((!(decide ((((List.length r35.1):Nat):Int)=(((List.length r8.1):Nat):Int))))) (
 some false) (
 a0a (a0z n a0b (r8.1,((IntKind.wrap .i64 (Int.tdiv y6.2.2.2.2.1.2.1.2.1 y6.2.2.2.2.1.2.1.2.2)),(r34.1,(r35.1,(r7.1,((((List.length r7.1):Nat):Int),(0,())))))))) fun r36 =>
 b0i (fun y37 =>
 some true) (fun z38 =>
 some z38) r36))))))) (
 none)))) (
 tif ((decide ((IntKind.wrap .i64 (y6.2.1-1))=2))) (
 tif ((decide ((IntKind.wrap .i64 (y6.2.1-2))=0))) (
 tif ((decide (y6.2.2.2.2.1.2.1.1=0))) (
 none) (
 a0a (b0l n r7.1) fun r39 =>
 a0a (b0l n r8.1) fun r40 =>
 tif ((!(decide ((((List.length r8.1):Nat):Int)=(IntKind.wrap .i64 ((IntKind.wrap .i64 (Int.tdiv y6.2.2.2.2.1.2.1.2.2 y6.2.2.2.2.1.2.1.1))*(((List.length r7.1):Nat):Int))))))) (
 some false) (
 tif ((!(decide (r39.2=0)))) (
 some false) (
 tif ((!(decide (r40.2=0)))) (
 some false) (
 tif ((!(decide ((((List.length r39.1):Nat):Int)=(((List.length r7.1):Nat):Int))))) (
 some false) (
 tif ((!(decide ((((List.length r40.1):Nat):Int)=(((List.length r8.1):Nat):Int))))) (
 some false) (
 a0a (a0z n a0b (r8.1,((IntKind.wrap .i64 (Int.tdiv y6.2.2.2.2.1.2.1.2.2 y6.2.2.2.2.1.2.1.1)),(r39.1,(r40.1,(r7.1,((((List.length r7.1):Nat):Int),(0,())))))))) fun r41 =>
 b0i (fun y42 =>
 some true) (fun z43 =>
 some z43) r41))))))) (
 tif ((decide ((IntKind.wrap .i64 (y6.2.1-2))=1))) (
 tif ((decide (y6.2.2.2.2.1.2.1.2.1=0))) (
 none) (
 a0a (b0l n r7.1) fun r44 =>
 a0a (b0l n r8.1) fun r45 =>
 tif ((!(decide ((((List.length r8.1):Nat):Int)=(IntKind.wrap .i64 ((IntKind.wrap .i64 (Int.tdiv y6.2.2.2.2.1.2.1.2.2 y6.2.2.2.2.1.2.1.2.1))*(((List.length r7.1):Nat):Int))))))) (
 some false) (
 tif ((!(decide (r44.2=0)))) (
 some false) (
 tif ((!(decide (r45.2=0)))) (
 some false) (
 tif ((!(decide ((((List.length r44.1):Nat):Int)=(((List.length r7.1):Nat):Int))))) (
 some false) (
 tif ((!(decide ((((List.length r45.1):Nat):Int)=(((List.length r8.1):Nat):Int))))) (
 some false) (
 a0a (a0z n a0b (r8.1,((IntKind.wrap .i64 (Int.tdiv y6.2.2.2.2.1.2.1.2.2 y6.2.2.2.2.1.2.1.2.1)),(r44.1,(r45.1,(r7.1,((((List.length r7.1):Nat):Int),(0,())))))))) fun r46 =>
 b0i (fun y47 =>
 some true) (fun z48 =>
 some z48) r46))))))) (
 tif ((decide ((IntKind.wrap .i64 (y6.2.1-2))=2))) (
 tif ((decide (y6.2.2.2.2.1.2.1.2.2=0))) (
 none) (
 a0a (b0l n r7.1) fun r49 =>
 a0a (b0l n r8.1) fun r50 =>
 tif ((!(decide ((((List.length r8.1):Nat):Int)=(IntKind.wrap .i64 ((IntKind.wrap .i64 (Int.tdiv y6.2.2.2.2.1.2.1.2.2 y6.2.2.2.2.1.2.1.2.2))*(((List.length r7.1):Nat):Int))))))) (
 some false) (
 tif ((!(decide (r49.2=0)))) (
 some false) (
 tif ((!(decide (r50.2=0)))) (
 some false) (
 tif ((!(decide ((((List.length r49.1):Nat):Int)=(((List.length r7.1):Nat):Int))))) (
 some false) (
 tif ((!(decide ((((List.length r50.1):Nat):Int)=(((List.length r8.1):Nat):Int))))) (
 some false) (
 a0a (a0z n a0b (r8.1,((IntKind.wrap .i64 (Int.tdiv y6.2.2.2.2.1.2.1.2.2 y6.2.2.2.2.1.2.1.2.2)),(r49.1,(r50.1,(r7.1,((((List.length r7.1):Nat):Int),(0,())))))))) fun r51 =>
 b0i (fun y52 =>
 some true) (fun z53 =>
 some z53) r51))))))) (
 none)))) (
 none)))))))))) (fun z54 =>
 some z54) r5))))))):=by kernel_rfl
theorem j0z (n f:Nat) (labels:(List (List UInt8×List UInt8))) (k:Int) (from_:Int) (to:Int) (c_:a0o) (s:a0l) (s62:(List b0u)) (s63:Int) (s64:Int):f0o n (f+1) (labels,k,from_,to,c_,s,s62,s63,s64,()) =
 tif ((decide (s64<s63))) (
 a0a (at? s62 s64) fun r0 =>
 a0a (s0x n r0 s) fun r1 =>
 f0o n f (labels,(k,(from_,(to,(c_,(r1.1,(s62,(s63,((IntKind.wrap .i64 (s64+1)),())))))))))) (
 some (.inl (labels,(k,(from_,(to,(c_,(s,())))))))):=by kernel_rfl
theorem j0k (n f:Nat) (fine:(List b0a)) (f_:Int) (p:(List (Int×Int))) (q:(List (Int×Int))) (s185:(List b0a)) (s186:Int) (s187:Int):a0z n (f+1) (fine,f_,p,q,s185,s186,s187,()) =
 tif ((decide (s187<s186))) (
 a0a (at? s185 s187) fun r0 =>
 tif ((decide ((0:Int)≤(IntKind.wrap .i64 (s187*f_))))) (
 tif (((decide ((((Int.toNat (IntKind.wrap .i64 (s187*f_))):Nat):Int)≤(IntKind.wrap .i64 ((IntKind.wrap .i64 (s187+1))*f_))))&&(decide ((IntKind.wrap .i64 ((IntKind.wrap .i64 (s187+1))*f_))≤(((List.length fine):Nat):Int))))) (
 a0a (y0r n (List.drop (Int.toNat (IntKind.wrap .i64 (s187*f_))) (List.take (Int.toNat (IntKind.wrap .i64 ((IntKind.wrap .i64 (s187+1))*f_))) fine))) fun r1 =>
 tif ((decide ((0:Int)≤(IntKind.wrap .i64 (s187*f_))))) (
 tif (((decide ((((Int.toNat (IntKind.wrap .i64 (s187*f_))):Nat):Int)≤(IntKind.wrap .i64 ((IntKind.wrap .i64 (s187+1))*f_))))&&(decide ((IntKind.wrap .i64 ((IntKind.wrap .i64 (s187+1))*f_))≤(((List.length q):Nat):Int))))) (
 a0a (c1u n (List.drop (Int.toNat (IntKind.wrap .i64 (s187*f_))) (List.take (Int.toNat (IntKind.wrap .i64 ((IntKind.wrap .i64 (s187+1))*f_))) q))) fun r2 =>
 tif ((!(decide (r1.2=0)))) (
 some (.inr false)) (
 tif ((!((decide (r1.1.1=r0.1))&&((decide (r1.1.2.1.1=r0.2.1.1))&&((decide (r1.1.2.1.2.1=r0.2.1.2.1))&&((decide (r1.1.2.1.2.2.1=r0.2.1.2.2.1))&&((r1.1.2.1.2.2.2==r0.2.1.2.2.2)&&((decide (r1.1.2.2.1.1=r0.2.2.1.1))&&((decide (r1.1.2.2.1.2.1=r0.2.2.1.2.1))&&((decide (r1.1.2.2.1.2.2.1=r0.2.2.1.2.2.1))&&((r1.1.2.2.1.2.2.2==r0.2.2.1.2.2.2)&&((decide (r1.1.2.2.2.1.1=r0.2.2.2.1.1))&&((decide (r1.1.2.2.2.1.2=r0.2.2.2.1.2))&&((decide (r1.1.2.2.2.2.1=r0.2.2.2.2.1))&&((decide (r1.1.2.2.2.2.2.1=r0.2.2.2.2.2.1))&&(decide (r1.1.2.2.2.2.2.2=r0.2.2.2.2.2.2))))))))))))))))) (
 some (.inr false)) (
 tif ((!(decide (r2.2=0)))) (
 some (.inr false)) (
 a0a (at? p s187) fun r3 =>
 tif ((!((decide (r2.1.1=r3.1))&&(decide (r2.1.2=r3.2))))) (
 some (.inr false)) (
 a0z n f (fine,(f_,(p,(q,(s185,(s186,((IntKind.wrap .i64 (s187+1)),())))))))))))) (
 none)) (
 none)) (
 none)) (
 none)) (
 some (.inl ())):=by kernel_rfl
theorem t1u (n:Nat) (l:(List (List UInt8×List UInt8))):s0i (n+1) l =
 a0a (j0p n a0b (l,((((List.length l):Nat):Int),(0,())))) fun r0 =>
 b0i (fun y1 =>
 some (1:Int)) (fun z2 =>
 some z2) r0:=by kernel_rfl
theorem s0h (n f:Nat) (s5:(List (List UInt8×List UInt8))) (s6:Int) (s7:Int):j0p n (f+1) (s5,s6,s7,()) =
 tif ((decide (s7<s6))) (
 a0a (at? s5 s7) fun r0 =>
 tif ((decide (s7=40))) (
 some (.inr (0:Int))) (
 tif ((decide ((1000:Int)<(((List.length r0.1):Nat):Int)))) (
 some (.inr (0:Int))) (
 tif ((decide ((1000:Int)<(((List.length r0.2):Nat):Int)))) (
 some (.inr (0:Int))) (
 j0p n f (s5,(s6,((IntKind.wrap .i64 (s7+1)),()))))))) (
 some (.inl ())):=by kernel_rfl
theorem q1r (n:Nat) (s:a0l):f0g (n+1) s =
 a0a (p0n n s) fun r0 =>
 tif ((!(decide (r0.2=0)))) (
 some (2:Int)) (
 a0a (n0e n r0.1) fun r1 =>
 tif ((!r1)) (
 some (2:Int)) (
 a0a (d0q n r0.1 (fun y2=>e0h n y2.1 r0.1)) fun r3 =>
 tif ((decide ((0:Int)≤r3))) (
 some (2:Int)) (
 some (0:Int)))):=by kernel_rfl
theorem y1h (n:Nat) (s:a0l) (a:TAsk):n1r (n+1) s a =
 a0a (f1r n s a.1) fun r0 =>
 tif ((!(decide (r0=0)))) (
 some ((0,((0,((0,(0,(0,false))),((0,(0,(0,false))),((0,0),(0,(0,0)))))),(((0,0),(0,0)),0))),r0)) (
 a0a (a1e n s a.2.1 a.2.2.1 a.2.2.2) fun r1 =>
 tif ((!(decide (r1.2=0)))) (
 some ((0,((0,((0,(0,(0,false))),((0,(0,(0,false))),((0,0),(0,(0,0)))))),(((0,0),(0,0)),0))),r1.2)) (
 a0a (n1n n s a (IntKind.wrap .i64 (r1.1-1))) fun r2 =>
 tif ((!(decide (r2.2=0)))) (
 some ((0,((0,((0,(0,(0,false))),((0,(0,(0,false))),((0,0),(0,(0,0)))))),(((0,0),(0,0)),0))),r2.2)) (
 a0a (a1f n r2.1) fun r3 =>
 some ((r1.1,(r2.1,r3)),0)))):=by kernel_rfl
theorem n1p (n:Nat) (s:a0l) (tier:Int) (from_:Int) (to:Int):a1e (n+1) s tier from_ to =
 a0a (f0g n s) fun r0 =>
 tif ((!(decide (r0=0)))) (
 some (0,r0)) (
 tif ((decide (tier<0))) (
 some (0,1)) (
 tif ((decide ((3:Int)<tier))) (
 some (0,1)) (
 tif ((decide (tier=0))) (
 a0a (l0y n s from_ to) fun r1 =>
 some r1) (
 a0a (x0s n s tier from_ to) fun r2 =>
 tif ((!(decide (r2=0)))) (
 some (0,r2)) (
 some (tier,0)))))):=by kernel_rfl
theorem o1i (n:Nat) (s:a0l) (a:TAsk):t0p (n+1) s a =
 a0a (n1r n s a) fun r0 =>
 tif ((!(decide (r0.2=0)))) (
 some ([],r0.2)) (
 tif ((decide ((IntKind.wrap .i64 (r0.1.1-1))=0))) (
 a0a (e0t n a.2.2.1 a.2.2.2 s.1.2.1.1) fun r1 =>
 tif ((!(decide (r1.2.2=0)))) (
 some ([],r1.2.2)) (
 tif ((decide ((4096:Int)<(IntKind.wrap .i64 (r1.2.1-r1.1))))) (
 some ([],(6:Int))) (
 tif (((decide ((0:Int)≤(IntKind.wrap .i64 (r1.2.1-r1.1))))&&((decide ((IntKind.wrap .i64 (r1.2.1-r1.1))≤(IntKind.wrap .i64 (r1.2.1-r1.1))))&&(decide (((IntKind.wrap .i64 (r1.2.1-r1.1))*112)≤140737488355328))))) (
 a0a (m0k n s a.1) fun r2 =>
 tif ((!(decide (r2.2=0)))) (
 some ((List.replicate (Int.toNat (IntKind.wrap .i64 (r1.2.1-r1.1))) ((0:Int),(((0:Int),((0:Int),((0:Int),false))),(((0:Int),((0:Int),((0:Int),false))),(((0:Int),(0:Int)),((0:Int),((0:Int),(0:Int)))))))),(0:Int))) (
 a0a (c0w n a0b (s,(r0.1,(r1.1,((List.replicate (Int.toNat (IntKind.wrap .i64 (r1.2.1-r1.1))) ((0:Int),(((0:Int),((0:Int),((0:Int),false))),(((0:Int),((0:Int),((0:Int),false))),(((0:Int),(0:Int)),((0:Int),((0:Int),(0:Int)))))))),(r2.1,((((List.length (List.replicate (Int.toNat (IntKind.wrap .i64 (r1.2.1-r1.1))) ((0:Int),(((0:Int),((0:Int),((0:Int),false))),(((0:Int),((0:Int),((0:Int),false))),(((0:Int),(0:Int)),((0:Int),((0:Int),(0:Int))))))))):Nat):Int),((0:Int),())))))))) fun r3 =>
 b0i (fun y4 =>
 some (y4.1,(0:Int))) (fun z5 =>
 some z5) r3)) (
 none)))) (
 tif ((decide ((IntKind.wrap .i64 (r0.1.1-1))=1))) (
 a0a (e0t n a.2.2.1 a.2.2.2 s.1.2.1.2.1) fun r6 =>
 tif ((!(decide (r6.2.2=0)))) (
 some ([],r6.2.2)) (
 tif ((decide ((4096:Int)<(IntKind.wrap .i64 (r6.2.1-r6.1))))) (
 some ([],(6:Int))) (
 tif (((decide ((0:Int)≤(IntKind.wrap .i64 (r6.2.1-r6.1))))&&((decide ((IntKind.wrap .i64 (r6.2.1-r6.1))≤(IntKind.wrap .i64 (r6.2.1-r6.1))))&&(decide (((IntKind.wrap .i64 (r6.2.1-r6.1))*112)≤140737488355328))))) (
 a0a (m0k n s a.1) fun r7 =>
 tif ((!(decide (r7.2=0)))) (
 some ((List.replicate (Int.toNat (IntKind.wrap .i64 (r6.2.1-r6.1))) ((0:Int),(((0:Int),((0:Int),((0:Int),false))),(((0:Int),((0:Int),((0:Int),false))),(((0:Int),(0:Int)),((0:Int),((0:Int),(0:Int)))))))),(0:Int))) (
 a0a (c0w n a0b (s,(r0.1,(r6.1,((List.replicate (Int.toNat (IntKind.wrap .i64 (r6.2.1-r6.1))) ((0:Int),(((0:Int),((0:Int),((0:Int),false))),(((0:Int),((0:Int),((0:Int),false))),(((0:Int),(0:Int)),((0:Int),((0:Int),(0:Int)))))))),(r7.1,((((List.length (List.replicate (Int.toNat (IntKind.wrap .i64 (r6.2.1-r6.1))) ((0:Int),(((0:Int),((0:Int),((0:Int),false))),(((0:Int),((0:Int),((0:Int),false))),(((0:Int),(0:Int)),((0:Int),((0:Int),(0:Int))))))))):Nat):Int),((0:Int),())))))))) fun r8 =>
 b0i (fun y9 =>
 some (y9.1,(0:Int))) (fun z10 =>
 some z10) r8)) (
 none)))) (
 tif ((decide ((IntKind.wrap .i64 (r0.1.1-1))=2))) (
 a0a (e0t n a.2.2.1 a.2.2.2 s.1.2.1.2.2) fun r11 =>
 tif ((!(decide (r11.2.2=0)))) (
 some ([],r11.2.2)) (
 tif ((decide ((4096:Int)<(IntKind.wrap .i64 (r11.2.1-r11.1))))) (
 some ([],(6:Int))) (
 tif (((decide ((0:Int)≤(IntKind.wrap .i64 (r11.2.1-r11.1))))&&((decide ((IntKind.wrap .i64 (r11.2.1-r11.1))≤(IntKind.wrap .i64 (r11.2.1-r11.1))))&&(decide (((IntKind.wrap .i64 (r11.2.1-r11.1))*112)≤140737488355328))))) (
 a0a (m0k n s a.1) fun r12 =>
 tif ((!(decide (r12.2=0)))) (
 some ((List.replicate (Int.toNat (IntKind.wrap .i64 (r11.2.1-r11.1))) ((0:Int),(((0:Int),((0:Int),((0:Int),false))),(((0:Int),((0:Int),((0:Int),false))),(((0:Int),(0:Int)),((0:Int),((0:Int),(0:Int)))))))),(0:Int))) (
 a0a (c0w n a0b (s,(r0.1,(r11.1,((List.replicate (Int.toNat (IntKind.wrap .i64 (r11.2.1-r11.1))) ((0:Int),(((0:Int),((0:Int),((0:Int),false))),(((0:Int),((0:Int),((0:Int),false))),(((0:Int),(0:Int)),((0:Int),((0:Int),(0:Int)))))))),(r12.1,((((List.length (List.replicate (Int.toNat (IntKind.wrap .i64 (r11.2.1-r11.1))) ((0:Int),(((0:Int),((0:Int),((0:Int),false))),(((0:Int),((0:Int),((0:Int),false))),(((0:Int),(0:Int)),((0:Int),((0:Int),(0:Int))))))))):Nat):Int),((0:Int),())))))))) fun r13 =>
 b0i (fun y14 =>
 some (y14.1,(0:Int))) (fun z15 =>
 some z15) r13)) (
 none)))) (
 none)))):=by kernel_rfl
theorem o0t (n f:Nat) (s_:a0l) (r:o2j) (i:Int) (out:(List b0a)) (at_:Int) (s61:Int) (s62:Int):c0w n (f+1) (s_,r,i,out,at_,s61,s62,()) =
 tif ((decide (s62<s61))) (
 a0a (at? s_.2.2.2 at_) fun r0 =>
 a0a (f0i n s_.1 r0 (IntKind.wrap .i64 (r.1-1)) (IntKind.wrap .i64 (i+s62))) fun r1 =>
 a0a (at? out s62) fun r2 =>
 a0a ((out)[(Int.toNat s62)]?) fun r3 =>
 tif ((!(decide (r1.2=0)))) (
 some (.inr ([],r1.2))) (
 c0w n f (s_,(r,(i,((List.set out (Int.toNat s62) r1.1),(at_,(s61,((IntKind.wrap .i64 (s62+1)),()))))))))) (
 some (.inl (out,()))):=by kernel_rfl
theorem o1h (n:Nat) (l:(List b0a)):b0l (n+1) l =
 a0a (y0r n l) fun r0 =>
 tif ((!(decide (r0.2=0)))) (
 some ([],r0.2)) (
 tif (((decide ((0:Int)≤(((List.length l):Nat):Int)))&&((decide ((((List.length l):Nat):Int)≤(((List.length l):Nat):Int)))&&(decide (((((List.length l):Nat):Int)*16)≤140737488355328))))) (
 a0a (d0o n a0b (l,((List.replicate (Int.toNat (((List.length l):Nat):Int)) (0,0)),(none,((((List.length l):Nat):Int),(0,())))))) fun r1 =>
 b0i (fun y2 =>
 some (y2.1,0)) (fun z3 =>
 some z3) r1) (
 none)):=by kernel_rfl
theorem q0s (n f:Nat) (l:(List b0a)) (out:(List (Int×Int))) (last:(Option b0a)) (s24:Int) (s25:Int):d0o n (f+1) (l,out,last,s24,s25,()) =
 s0e (last) (
 tif ((decide (s25<s24))) (
 a0a (at? l s25) fun r0 =>
 tif ((decide (r0.1=0))) (
 d0o n f (l,(out,(none,(s24,((IntKind.wrap .i64 (s25+1)),())))))) (
 a0a (at? out s25) fun r1 =>
 a0a ((out)[(Int.toNat s25)]?) fun r2 =>
 d0o n f (l,((List.set out (Int.toNat s25) r0.2.2.2.1),((some r0),(s24,((IntKind.wrap .i64 (s25+1)),()))))))) (
 some (.inl (out,())))) fun r3 =>
 tif ((decide (s25<s24))) (
 a0a (at? l s25) fun r4 =>
 tif ((decide (r4.1=0))) (
 d0o n f (l,(out,((some r3),(s24,((IntKind.wrap .i64 (s25+1)),())))))) (
 a0a (at? out s25) fun r5 =>
 a0a ((out)[(Int.toNat s25)]?) fun r6 =>
 a0a (k0p n r3.2.2.1 r4.2.1) fun r7 =>
 a0a (s0u n r7.1.2.2.2.1 r4.2.2.2.1) fun r8 =>
 a0a (at? (List.set out (Int.toNat s25) r4.2.2.2.1) s25) fun r9 =>
 a0a (((List.set out (Int.toNat s25) r4.2.2.2.1))[(Int.toNat s25)]?) fun r10 =>
 d0o n f (l,((List.set (List.set out (Int.toNat s25) r4.2.2.2.1) (Int.toNat s25) r8.1),((some r4),(s24,((IntKind.wrap .i64 (s25+1)),()))))))) (
 some (.inl (out,()))):=by kernel_rfl
theorem z1t (n:Nat) (l:(List b0a)):y0r (n+1) l =
 a0a (m0e n a0b ((0,((0,(0,(0,false))),((0,(0,(0,false))),((0,0),(0,(0,0)))))),((0,((0,(0,(0,false))),((0,(0,(0,false))),((0,0),(0,(0,0)))))),(l,((((List.length l):Nat):Int),(0,())))))) fun r0 =>
 b0i (fun y1 =>
 some (y1.2.1,0)) (fun z2 =>
 some z2) r0:=by kernel_rfl
theorem v0a (n f:Nat) (s2:b0a) (c:b0a) (s9:(List b0a)) (s10:Int) (s11:Int):m0e n (f+1) (s2,c,s9,s10,s11,()) =
 tif ((decide (s11<s10))) (
 a0a (at? s9 s11) fun r0 =>
 a0a (g0a n c r0) fun r1 =>
 tif ((!(decide (r1.2=0)))) (
 some (.inr ((0,((0,(0,(0,false))),((0,(0,(0,false))),((0,0),(0,(0,0)))))),r1.2))) (
 m0e n f (s2,(r1.1,(s9,(s10,((IntKind.wrap .i64 (s11+1)),()))))))) (
 some (.inl (s2,(c,())))):=by kernel_rfl
theorem v1m (n:Nat) (l:(List (Int×Int))):c1u (n+1) l =
 a0a (p0h n a0b ((0,0),((0,0),(l,((((List.length l):Nat):Int),(0,())))))) fun r0 =>
 b0i (fun y1 =>
 some (y1.2.1,0)) (fun z2 =>
 some z2) r0:=by kernel_rfl
theorem u0h (n f:Nat) (s2:(Int×Int)) (a:(Int×Int)) (s9:(List (Int×Int))) (s10:Int) (s11:Int):p0h n (f+1) (s2,a,s9,s10,s11,()) =
 tif ((decide (s11<s10))) (
 a0a (at? s9 s11) fun r0 =>
 a0a (s0u n a r0) fun r1 =>
 tif ((!(decide (r1.2=0)))) (
 some (.inr ((0,0),r1.2))) (
 p0h n f (s2,(r1.1,(s9,(s10,((IntKind.wrap .i64 (s11+1)),()))))))) (
 some (.inl (s2,(a,())))):=by kernel_rfl
theorem p1z (n:Nat) (a:(Int×Int)) (b:(Int×Int)):l0e (n+1) a b =
 tif ((decide (a.1<b.1))) (
 some true) (
 tif ((decide (a.1=b.1))) (
 some (decide (a.2<b.2))) (
 some false)):=by kernel_rfl
theorem l1h (n:Nat) (a:(Int×Int)) (n_:Int):s0t (n+1) a n_ =
 a0a (i0c n a.2 n_) fun r0 =>
 a0a (i0c n a.1 n_) fun r1 =>
 tif (((decide ((0:Int)≤r1.2))&&((decide ((0:Int)≤r0.1))&&true))) (
 a0a (q0w n ((((r1.2+r0.1)+0) % (18446744073709551616:Int)),r0.2) (orI .u64 r1.1 (((r1.2+r0.1)+0) / (18446744073709551616:Int)))) fun r2 =>
 some r2) (
 none):=by kernel_rfl
theorem y0c (n:Nat) (a:(List (List UInt8×List UInt8))) (b:(List (List UInt8×List UInt8))):o0q (n+1) a b =
 a0a (n0h n a b) fun r0 =>
 some r0:=by kernel_rfl
theorem w1b (n:Nat) (s:a0l):l1t (n+1) s =
 a0a (f0g n s) fun r0 =>
 tif ((!(decide (r0=0)))) (
 some (((0,((0,(0,0)),((0,(0,0)),(0,0)))),(0,(0,[]))),(0,r0))) (
 a0a (e1k n s) fun r1 =>
 some ((s.1,(s.2.1,(s.2.1,s.2.2.2))),((((List.length r1):Nat):Int),0))):=by kernel_rfl
theorem l1m (n:Nat) (c:a0o):s0w (n+1) c =
 a0a (z0m n c) fun r0 =>
 tif ((decide (r0.2=0))) (
 tif ((decide ((((List.length r0.1.2.2.2):Nat):Int)≤8))) (
 tif ((decide (c.1≤60))) (
 tif ((decide (c.2.2.1.1≤40))) (
 tif ((decide (c.2.2.1.2.1≤40))) (
 some (decide (c.2.2.1.2.2≤40))) (
 some false)) (
 some false)) (
 some false)) (
 some false)) (
 some false):=by kernel_rfl
theorem c1d (n:Nat) (l:(List b0u)):k0j (n+1) l =
 tif ((decide ((40:Int)<(((List.length l):Nat):Int)))) (
 some false) (
 a0a (e0p n a0b (l,((((List.length l):Nat):Int),(0,())))) fun r0 =>
 b0i (fun y1 =>
 some true) (fun z2 =>
 some z2) r0):=by kernel_rfl
theorem l0h (n f:Nat) (s8:(List b0u)) (s9:Int) (s10:Int):e0p n (f+1) (s8,s9,s10,()) =
 tif ((decide (s10<s9))) (
 a0a (at? s8 s10) fun r0 =>
 a0a (s0i n r0.2.1.1) fun r1 =>
 tif ((decide (r1=0))) (
 some (.inr false)) (
 e0p n f (s8,(s9,((IntKind.wrap .i64 (s10+1)),()))))) (
 some (.inl ())):=by kernel_rfl
theorem d2q (n:Nat) (c:a0o):z0m (n+1) c =
 a0a (y0n n c) fun r0 =>
 tif ((!(decide (r0.2=0)))) (
 some (((0,((0,(0,0)),((0,(0,0)),(0,0)))),(0,(0,[]))),r0.2)) (
 tif (((decide ((0:Int)≤c.2.2.2.1))&&((decide (c.2.2.2.1≤c.2.2.2.1))&&(decide ((c.2.2.2.1*264)≤140737488355328))))) (
 some ((c,(0,(((-1):Int),(List.replicate (Int.toNat c.2.2.2.1) ([],(0,((0,(0,[])),(([],([],[])),(0,(0,((0,(0,(0,false))),((0,(0,(0,false))),((0,0),(0,(0,0))))))))))))))),0)) (
 none)):=by kernel_rfl
theorem w0c (n:Nat) (a:b0u) (s:a0l):s0x (n+1) a s =
 tif ((decide (a.1=0))) (
 a0a (d1q n s a.2.1.1 a.2.1.2) fun r0 =>
 tif ((decide (r0.2=0))) (
 some r0) (
 some (s,r0.2))) (
 tif ((decide (a.1=1))) (
 a0a (p1b n s a.2.2) fun r1 =>
 some (r1.1,0)) (
 tif ((decide (a.1=2))) (
 a0a (l1t n s) fun r2 =>
 tif ((decide (r2.2.2=0))) (
 some (r2.1,0)) (
 some (s,0))) (
 tif ((decide (a.1=3))) (
 a0a (v0g n s) fun r3 =>
 tif ((decide (r3.2=0))) (
 some (r3.1,0)) (
 some (s,0))) (
 some (s,0))))):=by kernel_rfl
end Go.Proofs.YtgkpkajaepphjaaGreatDoor
