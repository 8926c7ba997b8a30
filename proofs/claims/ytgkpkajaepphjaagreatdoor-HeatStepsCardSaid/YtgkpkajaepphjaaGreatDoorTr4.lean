/- Trees, printed by program. -/
import Derived.Test.YtgkpkajaepphjaaGreatDoorTr0
import Derived.KernelRfl
set_option linter.unusedVariables false
namespace Go.Proofs.YtgkpkajaepphjaaGreatDoor
open Go.Flat
theorem wide_Of_eq (n:Nat) (n_:Int):wide_Of (n+1) n_ =
 some ((0:Int),n_):=by kernel_rfl
theorem event_Between_eq (n:Nat) (p:TEvent) (c:TEvent):event_Between (n+1) p c =
 obind (event_right n (p::(c::[]))) fun r0 =>
 tif ((!r0)) (
 some (((0:Int),(((0:Int),((0:Int),((0:Int),false))),(((0:Int),((0:Int),((0:Int),false))),(((0:Int),(0:Int)),((0:Int),((0:Int),(0:Int))))))),(2:Int))) (
 tif ((decide (c.1≤p.1))) (
 some (((0:Int),(((0:Int),((0:Int),((0:Int),false))),(((0:Int),((0:Int),((0:Int),false))),(((0:Int),(0:Int)),((0:Int),((0:Int),(0:Int))))))),(9:Int))) (
 tif (c.2.2.2) (
 some (((0:Int),(((0:Int),((0:Int),((0:Int),false))),(((0:Int),((0:Int),((0:Int),false))),(((0:Int),(0:Int)),((0:Int),((0:Int),(0:Int))))))),(0:Int))) (
 tif ((decide (p.1<c.2.2.1))) (
 obind (event_anew n c (IntKind.wrap .i64 (c.1-c.2.2.1))) fun r1 =>
 some (r1,(0:Int))) (
 tif (p.2.2.2) (
 some (((0:Int),(((0:Int),((0:Int),((0:Int),false))),(((0:Int),((0:Int),((0:Int),false))),(((0:Int),(0:Int)),((0:Int),((1:Int),(0:Int))))))),(0:Int))) (
 tif ((decide (c.2.1<p.2.1))) (
 obind (event_anew n c (IntKind.wrap .i64 (c.1-p.1))) fun r2 =>
 some (r2,(0:Int))) (
 obind (wide_Of n (IntKind.wrap .u64 (c.2.1-p.2.1))) fun r3 =>
 some (((0:Int),(((0:Int),((0:Int),((0:Int),false))),(((0:Int),((0:Int),((0:Int),false))),(r3,((0:Int),((0:Int),(IntKind.wrap .i64 (c.1-p.1)))))))),(0:Int)))))))):=by kernel_rfl
theorem wide_Add_eq (n:Nat) (a:(Int×Int)) (b:(Int×Int)):wide_Add (n+1) a b =
 tif (((decide ((0:Int)≤a.2))&&((decide ((0:Int)≤b.2))&&true))) (
 tif (((decide ((0:Int)≤a.1))&&((decide ((0:Int)≤b.1))&&((decide ((0:Int)≤(((a.2+b.2)+0) / (18446744073709551616:Int))))&&(decide ((((a.2+b.2)+0) / (18446744073709551616:Int))≤1)))))) (
 obind (wide_sure n ((((a.1+b.1)+(((a.2+b.2)+0) / (18446744073709551616:Int))) % (18446744073709551616:Int)),(((a.2+b.2)+0) % (18446744073709551616:Int))) (((a.1+b.1)+(((a.2+b.2)+0) / (18446744073709551616:Int))) / (18446744073709551616:Int))) fun r0 =>
 some r0) (
 none)) (
 none):=by kernel_rfl
theorem r08_All_eq (n:Nat) (l:(List TCell)):r08_All (n+1) l =
 obind (r08_All_l3 n loopFuel (((0:Int),(((0:Int),((0:Int),((0:Int),false))),(((0:Int),((0:Int),((0:Int),false))),(((0:Int),(0:Int)),((0:Int),((0:Int),(0:Int))))))),(((0:Int),(((0:Int),((0:Int),((0:Int),false))),(((0:Int),((0:Int),((0:Int),false))),(((0:Int),(0:Int)),((0:Int),((0:Int),(0:Int))))))),(l,((((List.length l):Nat):Int),((0:Int),())))))) fun r0 =>
 selim (fun y1 =>
 some (y1.2.1,(0:Int))) (fun z2 =>
 some z2) r0:=by kernel_rfl
theorem r08_All_l3_eq (n f:Nat) (s2:TCell) (c:TCell) (s9:(List TCell)) (s10:Int) (s11:Int):r08_All_l3 n (f+1) (s2,c,s9,s10,s11,()) =
 tif ((decide (s11<s10))) (
 obind (at? s9 s11) fun r0 =>
 obind (r08_Merge n c r0) fun r1 =>
 tif ((!(decide (r1.2=0)))) (
 some (.inr (((0:Int),(((0:Int),((0:Int),((0:Int),false))),(((0:Int),((0:Int),((0:Int),false))),(((0:Int),(0:Int)),((0:Int),((0:Int),(0:Int))))))),r1.2))) (
 r08_All_l3 n f (s2,(r1.1,(s9,(s10,((IntKind.wrap .i64 (s11+1)),()))))))) (
 some (.inl (s2,(c,())))):=by kernel_rfl
theorem r01_Sub_eq (n:Nat) (a:(Int×Int)) (b:(Int×Int)):r01_Sub (n+1) a b =
 obind (r01_Less n a b) fun r0 =>
 tif (r0) (
 some (((0:Int),(0:Int)),(1:Int))) (
 obind (r01_Bytes n a) fun r1 =>
 obind (r01_Bytes n b) fun r2 =>
 tif ((decide (16=((((((((((((((((1+1)+1)+1)+1)+1)+1)+1)+1)+1)+1)+1)+1)+1)+1)+1) / 1)))) (
 tif ((decide (16=((((((((((((((((1+1)+1)+1)+1)+1)+1)+1)+1)+1)+1)+1)+1)+1)+1)+1) / 1)))) (
 obind (r01_Sub_l6 n loopFuel (((0:Int),(0:Int)),((r1.1::(r1.2.1::(r1.2.2.1::(r1.2.2.2.1::(r1.2.2.2.2.1::(r1.2.2.2.2.2.1::(r1.2.2.2.2.2.2.1::(r1.2.2.2.2.2.2.2.1::(r1.2.2.2.2.2.2.2.2.1::(r1.2.2.2.2.2.2.2.2.2.1::(r1.2.2.2.2.2.2.2.2.2.2.1::(r1.2.2.2.2.2.2.2.2.2.2.2.1::(r1.2.2.2.2.2.2.2.2.2.2.2.2.1::(r1.2.2.2.2.2.2.2.2.2.2.2.2.2.1::(r1.2.2.2.2.2.2.2.2.2.2.2.2.2.2.1::(r1.2.2.2.2.2.2.2.2.2.2.2.2.2.2.2::[])))))))))))))))),((r2.1::(r2.2.1::(r2.2.2.1::(r2.2.2.2.1::(r2.2.2.2.2.1::(r2.2.2.2.2.2.1::(r2.2.2.2.2.2.2.1::(r2.2.2.2.2.2.2.2.1::(r2.2.2.2.2.2.2.2.2.1::(r2.2.2.2.2.2.2.2.2.2.1::(r2.2.2.2.2.2.2.2.2.2.2.1::(r2.2.2.2.2.2.2.2.2.2.2.2.1::(r2.2.2.2.2.2.2.2.2.2.2.2.2.1::(r2.2.2.2.2.2.2.2.2.2.2.2.2.2.1::(r2.2.2.2.2.2.2.2.2.2.2.2.2.2.2.1::(r2.2.2.2.2.2.2.2.2.2.2.2.2.2.2.2::[])))))))))))))))),((0:Int),((0:Int),())))))) fun r3 =>
 selim (fun y4 =>
 obind ((y4.2.1)[0]?) fun r5 =>
 obind ((y4.2.1)[1]?) fun r6 =>
 obind ((y4.2.1)[2]?) fun r7 =>
 obind ((y4.2.1)[3]?) fun r8 =>
 obind ((y4.2.1)[4]?) fun r9 =>
 obind ((y4.2.1)[5]?) fun r10 =>
 obind ((y4.2.1)[6]?) fun r11 =>
 obind ((y4.2.1)[7]?) fun r12 =>
 obind ((y4.2.1)[8]?) fun r13 =>
 obind ((y4.2.1)[9]?) fun r14 =>
 obind ((y4.2.1)[10]?) fun r15 =>
 obind ((y4.2.1)[11]?) fun r16 =>
 obind ((y4.2.1)[12]?) fun r17 =>
 obind ((y4.2.1)[13]?) fun r18 =>
 obind ((y4.2.1)[14]?) fun r19 =>
 obind ((y4.2.1)[15]?) fun r20 =>
 obind (r01_Of n (r5,(r6,(r7,(r8,(r9,(r10,(r11,(r12,(r13,(r14,(r15,(r16,(r17,(r18,(r19,r20)))))))))))))))) fun r21 =>
 some (r21,(0:Int))) (fun z22 =>
 some z22) r3) (
 none)) (
 none)):=by kernel_rfl
theorem r01_Sub_l6_eq (n f:Nat) (s4:(Int×Int)) (x:(List Int)) (y:(List Int)) (owed:Int) (s19:Int):r01_Sub_l6 n (f+1) (s4,x,y,owed,s19,()) =
 tif ((decide (s19<16))) (
 tif (((decide ((0:Int)≤s19))&&((decide (s19<16))&&(decide (s19<(((List.length x):Nat):Int)))))) (
 obind ((x)[(Int.toNat s19)]?) fun r0 =>
 tif (((decide ((0:Int)≤s19))&&((decide (s19<16))&&(decide (s19<(((List.length y):Nat):Int)))))) (
 obind ((y)[(Int.toNat s19)]?) fun r1 =>
 tif ((decide ((IntKind.wrap .i64 ((IntKind.wrap .i64 (r0-r1))-owed))<0))) (
 tif (((decide ((0:Int)≤s19))&&((decide (s19<16))&&(decide (s19<(((List.length x):Nat):Int)))))) (
 obind ((x)[(Int.toNat s19)]?) fun r2 =>
 r01_Sub_l6 n f (s4,((List.set x (Int.toNat s19) (IntKind.wrap .i64 ((IntKind.wrap .i64 ((IntKind.wrap .i64 (r0-r1))-owed))+256))),(y,((1:Int),((IntKind.wrap .i64 (s19+1)),())))))) (
 none)) (
 tif (((decide ((0:Int)≤s19))&&((decide (s19<16))&&(decide (s19<(((List.length x):Nat):Int)))))) (
 obind ((x)[(Int.toNat s19)]?) fun r3 =>
 r01_Sub_l6 n f (s4,((List.set x (Int.toNat s19) (IntKind.wrap .i64 ((IntKind.wrap .i64 (r0-r1))-owed))),(y,((0:Int),((IntKind.wrap .i64 (s19+1)),())))))) (
 none))) (
 none)) (
 none)) (
 some (.inl (s4,(x,())))):=by kernel_rfl
theorem r01_Less_eq (n:Nat) (a:(Int×Int)) (b:(Int×Int)):r01_Less (n+1) a b =
 obind (r01_Bytes n a) fun r0 =>
 obind (r01_Bytes n b) fun r1 =>
 tif ((!(decide (r0.2.2.2.2.2.2.2.2.2.2.2.2.2.2.2=r1.2.2.2.2.2.2.2.2.2.2.2.2.2.2.2)))) (
 some (decide (r0.2.2.2.2.2.2.2.2.2.2.2.2.2.2.2<r1.2.2.2.2.2.2.2.2.2.2.2.2.2.2.2))) (
 tif ((!(decide (r0.2.2.2.2.2.2.2.2.2.2.2.2.2.2.1=r1.2.2.2.2.2.2.2.2.2.2.2.2.2.2.1)))) (
 some (decide (r0.2.2.2.2.2.2.2.2.2.2.2.2.2.2.1<r1.2.2.2.2.2.2.2.2.2.2.2.2.2.2.1))) (
 tif ((!(decide (r0.2.2.2.2.2.2.2.2.2.2.2.2.2.1=r1.2.2.2.2.2.2.2.2.2.2.2.2.2.1)))) (
 some (decide (r0.2.2.2.2.2.2.2.2.2.2.2.2.2.1<r1.2.2.2.2.2.2.2.2.2.2.2.2.2.1))) (
 tif ((!(decide (r0.2.2.2.2.2.2.2.2.2.2.2.2.1=r1.2.2.2.2.2.2.2.2.2.2.2.2.1)))) (
 some (decide (r0.2.2.2.2.2.2.2.2.2.2.2.2.1<r1.2.2.2.2.2.2.2.2.2.2.2.2.1))) (
 tif ((!(decide (r0.2.2.2.2.2.2.2.2.2.2.2.1=r1.2.2.2.2.2.2.2.2.2.2.2.1)))) (
 some (decide (r0.2.2.2.2.2.2.2.2.2.2.2.1<r1.2.2.2.2.2.2.2.2.2.2.2.1))) (
 tif ((!(decide (r0.2.2.2.2.2.2.2.2.2.2.1=r1.2.2.2.2.2.2.2.2.2.2.1)))) (
 some (decide (r0.2.2.2.2.2.2.2.2.2.2.1<r1.2.2.2.2.2.2.2.2.2.2.1))) (
 tif ((!(decide (r0.2.2.2.2.2.2.2.2.2.1=r1.2.2.2.2.2.2.2.2.2.1)))) (
 some (decide (r0.2.2.2.2.2.2.2.2.2.1<r1.2.2.2.2.2.2.2.2.2.1))) (
 tif ((!(decide (r0.2.2.2.2.2.2.2.2.1=r1.2.2.2.2.2.2.2.2.1)))) (
 some (decide (r0.2.2.2.2.2.2.2.2.1<r1.2.2.2.2.2.2.2.2.1))) (
 tif ((!(decide (r0.2.2.2.2.2.2.2.1=r1.2.2.2.2.2.2.2.1)))) (
 some (decide (r0.2.2.2.2.2.2.2.1<r1.2.2.2.2.2.2.2.1))) (
 tif ((!(decide (r0.2.2.2.2.2.2.1=r1.2.2.2.2.2.2.1)))) (
 some (decide (r0.2.2.2.2.2.2.1<r1.2.2.2.2.2.2.1))) (
 tif ((!(decide (r0.2.2.2.2.2.1=r1.2.2.2.2.2.1)))) (
 some (decide (r0.2.2.2.2.2.1<r1.2.2.2.2.2.1))) (
 tif ((!(decide (r0.2.2.2.2.1=r1.2.2.2.2.1)))) (
 some (decide (r0.2.2.2.2.1<r1.2.2.2.2.1))) (
 tif ((!(decide (r0.2.2.2.1=r1.2.2.2.1)))) (
 some (decide (r0.2.2.2.1<r1.2.2.2.1))) (
 tif ((!(decide (r0.2.2.1=r1.2.2.1)))) (
 some (decide (r0.2.2.1<r1.2.2.1))) (
 tif ((!(decide (r0.2.1=r1.2.1)))) (
 some (decide (r0.2.1<r1.2.1))) (
 tif ((!(decide (r0.1=r1.1)))) (
 some (decide (r0.1<r1.1))) (
 some false)))))))))))))))):=by kernel_rfl
theorem heat_level_eq (n:Nat) (x:(Int×Int)) (times:((Int×Int)×((Int×Int)×((Int×Int)×((Int×Int)×((Int×Int)×((Int×Int)×((Int×Int)×((Int×Int)×TFraction))))))))):heat_level (n+1) x times =
 obind (wide_Times n x (9:Int)) fun r0 =>
 obind (heat_level_l3 n loopFuel (times,(r0.1,((0:Int),())))) fun r1 =>
 selim (fun y2 =>
 some y2.1) (fun z3 =>
 some z3) r1:=by kernel_rfl
theorem heat_level_l3_eq (n f:Nat) (times:((Int×Int)×((Int×Int)×((Int×Int)×((Int×Int)×((Int×Int)×((Int×Int)×((Int×Int)×((Int×Int)×TFraction))))))))) (all:(Int×Int)) (k:Int):heat_level_l3 n (f+1) (times,all,k,()) =
 tif ((decide (k<9))) (
 tif ((decide ((IntKind.wrap .i64 (k+1))=0))) (
 obind (wide_Less n all times.1) fun r0 =>
 tif ((!r0)) (
 heat_level_l3 n f (times,(all,((IntKind.wrap .i64 (k+1)),())))) (
 some (.inl (k,())))) (
 tif ((decide ((IntKind.wrap .i64 (k+1))=1))) (
 obind (wide_Less n all times.2.1) fun r1 =>
 tif ((!r1)) (
 heat_level_l3 n f (times,(all,((IntKind.wrap .i64 (k+1)),())))) (
 some (.inl (k,())))) (
 tif ((decide ((IntKind.wrap .i64 (k+1))=2))) (
 obind (wide_Less n all times.2.2.1) fun r2 =>
 tif ((!r2)) (
 heat_level_l3 n f (times,(all,((IntKind.wrap .i64 (k+1)),())))) (
 some (.inl (k,())))) (
 tif ((decide ((IntKind.wrap .i64 (k+1))=3))) (
 obind (wide_Less n all times.2.2.2.1) fun r3 =>
 tif ((!r3)) (
 heat_level_l3 n f (times,(all,((IntKind.wrap .i64 (k+1)),())))) (
 some (.inl (k,())))) (
 tif ((decide ((IntKind.wrap .i64 (k+1))=4))) (
 obind (wide_Less n all times.2.2.2.2.1) fun r4 =>
 tif ((!r4)) (
 heat_level_l3 n f (times,(all,((IntKind.wrap .i64 (k+1)),())))) (
 some (.inl (k,())))) (
 tif ((decide ((IntKind.wrap .i64 (k+1))=5))) (
 obind (wide_Less n all times.2.2.2.2.2.1) fun r5 =>
 tif ((!r5)) (
 heat_level_l3 n f (times,(all,((IntKind.wrap .i64 (k+1)),())))) (
 some (.inl (k,())))) (
 tif ((decide ((IntKind.wrap .i64 (k+1))=6))) (
 obind (wide_Less n all times.2.2.2.2.2.2.1) fun r6 =>
 tif ((!r6)) (
 heat_level_l3 n f (times,(all,((IntKind.wrap .i64 (k+1)),())))) (
 some (.inl (k,())))) (
 tif ((decide ((IntKind.wrap .i64 (k+1))=7))) (
 obind (wide_Less n all times.2.2.2.2.2.2.2.1) fun r7 =>
 tif ((!r7)) (
 heat_level_l3 n f (times,(all,((IntKind.wrap .i64 (k+1)),())))) (
 some (.inl (k,())))) (
 tif ((decide ((IntKind.wrap .i64 (k+1))=8))) (
 obind (wide_Less n all times.2.2.2.2.2.2.2.2.1) fun r8 =>
 tif ((!r8)) (
 heat_level_l3 n f (times,(all,((IntKind.wrap .i64 (k+1)),())))) (
 some (.inl (k,())))) (
 tif ((decide ((IntKind.wrap .i64 (k+1))=9))) (
 obind (wide_Less n all times.2.2.2.2.2.2.2.2.2) fun r9 =>
 tif ((!r9)) (
 heat_level_l3 n f (times,(all,((IntKind.wrap .i64 (k+1)),())))) (
 some (.inl (k,())))) (
 none))))))))))) (
 some (.inl (k,()))):=by kernel_rfl
theorem r01_Times_eq (n:Nat) (a:(Int×Int)) (n_:Int):r01_Times (n+1) a n_ =
 obind (r01_Times_l4 n loopFuel (n_,(a,(((0:Int),(0:Int)),(((0:Int),(0:Int)),(false,())))))) fun r0 =>
 selim (fun y1 =>
 some (y1.2.1,(0:Int))) (fun z2 =>
 some z2) r0:=by kernel_rfl
theorem r01_Times_l4_eq (n f:Nat) (n_:Int) (a_:(Int×Int)) (s4:(Int×Int)) (out:(Int×Int)) (over:Bool):r01_Times_l4 n (f+1) (n_,a_,s4,out,over,()) =
 tif ((decide ((0:Int)<n_))) (
 tif ((decide ((Int.tmod n_ (2:Int))=1))) (
 tif (over) (
 some (.inr (((0:Int),(0:Int)),(1:Int)))) (
 obind (r01_Add n out a_) fun r0 =>
 tif ((!(decide (r0.2=0)))) (
 some (.inr (((0:Int),(0:Int)),r0.2))) (
 obind (r01_Add n a_ a_) fun r1 =>
 tif (over) (
 r01_Times_l4 n f ((IntKind.wrap .u64 (Int.tdiv n_ (2:Int))),(r1.1,(s4,(r0.1,(true,())))))) (
 r01_Times_l4 n f ((IntKind.wrap .u64 (Int.tdiv n_ (2:Int))),(r1.1,(s4,(r0.1,((!(decide (r1.2=0))),()))))))))) (
 obind (r01_Add n a_ a_) fun r2 =>
 tif (over) (
 r01_Times_l4 n f ((IntKind.wrap .u64 (Int.tdiv n_ (2:Int))),(r2.1,(s4,(out,(true,())))))) (
 r01_Times_l4 n f ((IntKind.wrap .u64 (Int.tdiv n_ (2:Int))),(r2.1,(s4,(out,((!(decide (r2.2=0))),())))))))) (
 some (.inl (s4,(out,())))):=by kernel_rfl
theorem cell_Merge_eq (n:Nat) (a:TCell) (b:TCell):cell_Merge (n+1) a b =
 obind (cell_Check n a) fun r0 =>
 tif ((!(decide (r0=0)))) (
 some (((0:Int),(((0:Int),((0:Int),((0:Int),false))),(((0:Int),((0:Int),((0:Int),false))),(((0:Int),(0:Int)),((0:Int),((0:Int),(0:Int))))))),(2:Int))) (
 obind (cell_Check n b) fun r1 =>
 tif ((!(decide (r1=0)))) (
 some (((0:Int),(((0:Int),((0:Int),((0:Int),false))),(((0:Int),((0:Int),((0:Int),false))),(((0:Int),(0:Int)),((0:Int),((0:Int),(0:Int))))))),(2:Int))) (
 obind (cell_none n a) fun r2 =>
 tif (r2) (
 some (b,(0:Int))) (
 obind (cell_none n b) fun r3 =>
 tif (r3) (
 some (a,(0:Int))) (
 obind (cell_join n a b) fun r4 =>
 some r4)))):=by kernel_rfl
theorem math_bits_Mul64_eq (n:Nat) (x:Int) (y:Int):math_bits_Mul64 (n+1) x y =
 some ((IntKind.wrap .u64 ((IntKind.wrap .u64 ((IntKind.wrap .u64 ((shrI .u64 x (32:Int))*(shrI .u64 y (32:Int))))+(shrI .u64 (IntKind.wrap .u64 ((IntKind.wrap .u64 ((shrI .u64 x (32:Int))*(andI .u64 y (4294967295:Int))))+(shrI .u64 (IntKind.wrap .u64 ((andI .u64 x (4294967295:Int))*(andI .u64 y (4294967295:Int)))) (32:Int)))) (32:Int))))+(shrI .u64 (IntKind.wrap .u64 ((andI .u64 (IntKind.wrap .u64 ((IntKind.wrap .u64 ((shrI .u64 x (32:Int))*(andI .u64 y (4294967295:Int))))+(shrI .u64 (IntKind.wrap .u64 ((andI .u64 x (4294967295:Int))*(andI .u64 y (4294967295:Int)))) (32:Int)))) (4294967295:Int))+(IntKind.wrap .u64 ((andI .u64 x (4294967295:Int))*(shrI .u64 y (32:Int)))))) (32:Int)))),(IntKind.wrap .u64 (x*y))):=by kernel_rfl
theorem wide_sure_eq (n:Nat) (a:(Int×Int)) (over:Int):wide_sure (n+1) a over =
 tif ((!(decide (over=0)))) (
 some (((0:Int),(0:Int)),(1:Int))) (
 some (a,(0:Int))):=by kernel_rfl
theorem r01_Add_eq (n:Nat) (a:(Int×Int)) (b:(Int×Int)):r01_Add (n+1) a b =
 obind (r01_Bytes n a) fun r0 =>
 obind (r01_Bytes n b) fun r1 =>
 tif ((decide ((0:Int)<(IntKind.wrap .i64 (Int.tdiv (IntKind.wrap .i64 ((IntKind.wrap .i64 (r0.2.2.2.2.2.2.2.2.2.2.2.2.2.2.2+r1.2.2.2.2.2.2.2.2.2.2.2.2.2.2.2))+(IntKind.wrap .i64 (Int.tdiv (IntKind.wrap .i64 ((IntKind.wrap .i64 (r0.2.2.2.2.2.2.2.2.2.2.2.2.2.2.1+r1.2.2.2.2.2.2.2.2.2.2.2.2.2.2.1))+(IntKind.wrap .i64 (Int.tdiv (IntKind.wrap .i64 ((IntKind.wrap .i64 (r0.2.2.2.2.2.2.2.2.2.2.2.2.2.1+r1.2.2.2.2.2.2.2.2.2.2.2.2.2.1))+(IntKind.wrap .i64 (Int.tdiv (IntKind.wrap .i64 ((IntKind.wrap .i64 (r0.2.2.2.2.2.2.2.2.2.2.2.2.1+r1.2.2.2.2.2.2.2.2.2.2.2.2.1))+(IntKind.wrap .i64 (Int.tdiv (IntKind.wrap .i64 ((IntKind.wrap .i64 (r0.2.2.2.2.2.2.2.2.2.2.2.1+r1.2.2.2.2.2.2.2.2.2.2.2.1))+(IntKind.wrap .i64 (Int.tdiv (IntKind.wrap .i64 ((IntKind.wrap .i64 (r0.2.2.2.2.2.2.2.2.2.2.1+r1.2.2.2.2.2.2.2.2.2.2.1))+(IntKind.wrap .i64 (Int.tdiv (IntKind.wrap .i64 ((IntKind.wrap .i64 (r0.2.2.2.2.2.2.2.2.2.1+r1.2.2.2.2.2.2.2.2.2.1))+(IntKind.wrap .i64 (Int.tdiv (IntKind.wrap .i64 ((IntKind.wrap .i64 (r0.2.2.2.2.2.2.2.2.1+r1.2.2.2.2.2.2.2.2.1))+(IntKind.wrap .i64 (Int.tdiv (IntKind.wrap .i64 ((IntKind.wrap .i64 (r0.2.2.2.2.2.2.2.1+r1.2.2.2.2.2.2.2.1))+(IntKind.wrap .i64 (Int.tdiv (IntKind.wrap .i64 ((IntKind.wrap .i64 (r0.2.2.2.2.2.2.1+r1.2.2.2.2.2.2.1))+(IntKind.wrap .i64 (Int.tdiv (IntKind.wrap .i64 ((IntKind.wrap .i64 (r0.2.2.2.2.2.1+r1.2.2.2.2.2.1))+(IntKind.wrap .i64 (Int.tdiv (IntKind.wrap .i64 ((IntKind.wrap .i64 (r0.2.2.2.2.1+r1.2.2.2.2.1))+(IntKind.wrap .i64 (Int.tdiv (IntKind.wrap .i64 ((IntKind.wrap .i64 (r0.2.2.2.1+r1.2.2.2.1))+(IntKind.wrap .i64 (Int.tdiv (IntKind.wrap .i64 ((IntKind.wrap .i64 (r0.2.2.1+r1.2.2.1))+(IntKind.wrap .i64 (Int.tdiv (IntKind.wrap .i64 ((IntKind.wrap .i64 (r0.2.1+r1.2.1))+(IntKind.wrap .i64 (Int.tdiv (IntKind.wrap .i64 ((IntKind.wrap .i64 (r0.1+r1.1))+0)) (256:Int))))) (256:Int))))) (256:Int))))) (256:Int))))) (256:Int))))) (256:Int))))) (256:Int))))) (256:Int))))) (256:Int))))) (256:Int))))) (256:Int))))) (256:Int))))) (256:Int))))) (256:Int))))) (256:Int))))) (256:Int)))))) (
 some (((0:Int),(0:Int)),(1:Int))) (
 obind (r01_Of n ((Int.tmod (IntKind.wrap .i64 ((IntKind.wrap .i64 (r0.1+r1.1))+0)) (256:Int)),((Int.tmod (IntKind.wrap .i64 ((IntKind.wrap .i64 (r0.2.1+r1.2.1))+(IntKind.wrap .i64 (Int.tdiv (IntKind.wrap .i64 ((IntKind.wrap .i64 (r0.1+r1.1))+0)) (256:Int))))) (256:Int)),((Int.tmod (IntKind.wrap .i64 ((IntKind.wrap .i64 (r0.2.2.1+r1.2.2.1))+(IntKind.wrap .i64 (Int.tdiv (IntKind.wrap .i64 ((IntKind.wrap .i64 (r0.2.1+r1.2.1))+(IntKind.wrap .i64 (Int.tdiv (IntKind.wrap .i64 ((IntKind.wrap .i64 (r0.1+r1.1))+0)) (256:Int))))) (256:Int))))) (256:Int)),((Int.tmod (IntKind.wrap .i64 ((IntKind.wrap .i64 (r0.2.2.2.1+r1.2.2.2.1))+(IntKind.wrap .i64 (Int.tdiv (IntKind.wrap .i64 ((IntKind.wrap .i64 (r0.2.2.1+r1.2.2.1))+(IntKind.wrap .i64 (Int.tdiv (IntKind.wrap .i64 ((IntKind.wrap .i64 (r0.2.1+r1.2.1))+(IntKind.wrap .i64 (Int.tdiv (IntKind.wrap .i64 ((IntKind.wrap .i64 (r0.1+r1.1))+0)) (256:Int))))) (256:Int))))) (256:Int))))) (256:Int)),((Int.tmod (IntKind.wrap .i64 ((IntKind.wrap .i64 (r0.2.2.2.2.1+r1.2.2.2.2.1))+(IntKind.wrap .i64 (Int.tdiv (IntKind.wrap .i64 ((IntKind.wrap .i64 (r0.2.2.2.1+r1.2.2.2.1))+(IntKind.wrap .i64 (Int.tdiv (IntKind.wrap .i64 ((IntKind.wrap .i64 (r0.2.2.1+r1.2.2.1))+(IntKind.wrap .i64 (Int.tdiv (IntKind.wrap .i64 ((IntKind.wrap .i64 (r0.2.1+r1.2.1))+(IntKind.wrap .i64 (Int.tdiv (IntKind.wrap .i64 ((IntKind.wrap .i64 (r0.1+r1.1))+0)) (256:Int))))) (256:Int))))) (256:Int))))) (256:Int))))) (256:Int)),((Int.tmod (IntKind.wrap .i64 ((IntKind.wrap .i64 (r0.2.2.2.2.2.1+r1.2.2.2.2.2.1))+(IntKind.wrap .i64 (Int.tdiv (IntKind.wrap .i64 ((IntKind.wrap .i64 (r0.2.2.2.2.1+r1.2.2.2.2.1))+(IntKind.wrap .i64 (Int.tdiv (IntKind.wrap .i64 ((IntKind.wrap .i64 (r0.2.2.2.1+r1.2.2.2.1))+(IntKind.wrap .i64 (Int.tdiv (IntKind.wrap .i64 ((IntKind.wrap .i64 (r0.2.2.1+r1.2.2.1))+(IntKind.wrap .i64 (Int.tdiv (IntKind.wrap .i64 ((IntKind.wrap .i64 (r0.2.1+r1.2.1))+(IntKind.wrap .i64 (Int.tdiv (IntKind.wrap .i64 ((IntKind.wrap .i64 (r0.1+r1.1))+0)) (256:Int))))) (256:Int))))) (256:Int))))) (256:Int))))) (256:Int))))) (256:Int)),((Int.tmod (IntKind.wrap .i64 ((IntKind.wrap .i64 (r0.2.2.2.2.2.2.1+r1.2.2.2.2.2.2.1))+(IntKind.wrap .i64 (Int.tdiv (IntKind.wrap .i64 ((IntKind.wrap .i64 (r0.2.2.2.2.2.1+r1.2.2.2.2.2.1))+(IntKind.wrap .i64 (Int.tdiv (IntKind.wrap .i64 ((IntKind.wrap .i64 (r0.2.2.2.2.1+r1.2.2.2.2.1))+(IntKind.wrap .i64 (Int.tdiv (IntKind.wrap .i64 ((IntKind.wrap .i64 (r0.2.2.2.1+r1.2.2.2.1))+(IntKind.wrap .i64 (Int.tdiv (IntKind.wrap .i64 ((IntKind.wrap .i64 (r0.2.2.1+r1.2.2.1))+(IntKind.wrap .i64 (Int.tdiv (IntKind.wrap .i64 ((IntKind.wrap .i64 (r0.2.1+r1.2.1))+(IntKind.wrap .i64 (Int.tdiv (IntKind.wrap .i64 ((IntKind.wrap .i64 (r0.1+r1.1))+0)) (256:Int))))) (256:Int))))) (256:Int))))) (256:Int))))) (256:Int))))) (256:Int))))) (256:Int)),((Int.tmod (IntKind.wrap .i64 ((IntKind.wrap .i64 (r0.2.2.2.2.2.2.2.1+r1.2.2.2.2.2.2.2.1))+(IntKind.wrap .i64 (Int.tdiv (IntKind.wrap .i64 ((IntKind.wrap .i64 (r0.2.2.2.2.2.2.1+r1.2.2.2.2.2.2.1))+(IntKind.wrap .i64 (Int.tdiv (IntKind.wrap .i64 ((IntKind.wrap .i64 (r0.2.2.2.2.2.1+r1.2.2.2.2.2.1))+(IntKind.wrap .i64 (Int.tdiv (IntKind.wrap .i64 ((IntKind.wrap .i64 (r0.2.2.2.2.1+r1.2.2.2.2.1))+(IntKind.wrap .i64 (Int.tdiv (IntKind.wrap .i64 ((IntKind.wrap .i64 (r0.2.2.2.1+r1.2.2.2.1))+(IntKind.wrap .i64 (Int.tdiv (IntKind.wrap .i64 ((IntKind.wrap .i64 (r0.2.2.1+r1.2.2.1))+(IntKind.wrap .i64 (Int.tdiv (IntKind.wrap .i64 ((IntKind.wrap .i64 (r0.2.1+r1.2.1))+(IntKind.wrap .i64 (Int.tdiv (IntKind.wrap .i64 ((IntKind.wrap .i64 (r0.1+r1.1))+0)) (256:Int))))) (256:Int))))) (256:Int))))) (256:Int))))) (256:Int))))) (256:Int))))) (256:Int))))) (256:Int)),((Int.tmod (IntKind.wrap .i64 ((IntKind.wrap .i64 (r0.2.2.2.2.2.2.2.2.1+r1.2.2.2.2.2.2.2.2.1))+(IntKind.wrap .i64 (Int.tdiv (IntKind.wrap .i64 ((IntKind.wrap .i64 (r0.2.2.2.2.2.2.2.1+r1.2.2.2.2.2.2.2.1))+(IntKind.wrap .i64 (Int.tdiv (IntKind.wrap .i64 ((IntKind.wrap .i64 (r0.2.2.2.2.2.2.1+r1.2.2.2.2.2.2.1))+(IntKind.wrap .i64 (Int.tdiv (IntKind.wrap .i64 ((IntKind.wrap .i64 (r0.2.2.2.2.2.1+r1.2.2.2.2.2.1))+(IntKind.wrap .i64 (Int.tdiv (IntKind.wrap .i64 ((IntKind.wrap .i64 (r0.2.2.2.2.1+r1.2.2.2.2.1))+(IntKind.wrap .i64 (Int.tdiv (IntKind.wrap .i64 ((IntKind.wrap .i64 (r0.2.2.2.1+r1.2.2.2.1))+(IntKind.wrap .i64 (Int.tdiv (IntKind.wrap .i64 ((IntKind.wrap .i64 (r0.2.2.1+r1.2.2.1))+(IntKind.wrap .i64 (Int.tdiv (IntKind.wrap .i64 ((IntKind.wrap .i64 (r0.2.1+r1.2.1))+(IntKind.wrap .i64 (Int.tdiv (IntKind.wrap .i64 ((IntKind.wrap .i64 (r0.1+r1.1))+0)) (256:Int))))) (256:Int))))) (256:Int))))) (256:Int))))) (256:Int))))) (256:Int))))) (256:Int))))) (256:Int))))) (256:Int)),((Int.tmod (IntKind.wrap .i64 ((IntKind.wrap .i64 (r0.2.2.2.2.2.2.2.2.2.1+r1.2.2.2.2.2.2.2.2.2.1))+(IntKind.wrap .i64 (Int.tdiv (IntKind.wrap .i64 ((IntKind.wrap .i64 (r0.2.2.2.2.2.2.2.2.1+r1.2.2.2.2.2.2.2.2.1))+(IntKind.wrap .i64 (Int.tdiv (IntKind.wrap .i64 ((IntKind.wrap .i64 (r0.2.2.2.2.2.2.2.1+r1.2.2.2.2.2.2.2.1))+(IntKind.wrap .i64 (Int.tdiv (IntKind.wrap .i64 ((IntKind.wrap .i64 (r0.2.2.2.2.2.2.1+r1.2.2.2.2.2.2.1))+(IntKind.wrap .i64 (Int.tdiv (IntKind.wrap .i64 ((IntKind.wrap .i64 (r0.2.2.2.2.2.1+r1.2.2.2.2.2.1))+(IntKind.wrap .i64 (Int.tdiv (IntKind.wrap .i64 ((IntKind.wrap .i64 (r0.2.2.2.2.1+r1.2.2.2.2.1))+(IntKind.wrap .i64 (Int.tdiv (IntKind.wrap .i64 ((IntKind.wrap .i64 (r0.2.2.2.1+r1.2.2.2.1))+(IntKind.wrap .i64 (Int.tdiv (IntKind.wrap .i64 ((IntKind.wrap .i64 (r0.2.2.1+r1.2.2.1))+(IntKind.wrap .i64 (Int.tdiv (IntKind.wrap .i64 ((IntKind.wrap .i64 (r0.2.1+r1.2.1))+(IntKind.wrap .i64 (Int.tdiv (IntKind.wrap .i64 ((IntKind.wrap .i64 (r0.1+r1.1))+0)) (256:Int))))) (256:Int))))) (256:Int))))) (256:Int))))) (256:Int))))) (256:Int))))) (256:Int))))) (256:Int))))) (256:Int))))) (256:Int)),((Int.tmod (IntKind.wrap .i64 ((IntKind.wrap .i64 (r0.2.2.2.2.2.2.2.2.2.2.1+r1.2.2.2.2.2.2.2.2.2.2.1))+(IntKind.wrap .i64 (Int.tdiv (IntKind.wrap .i64 ((IntKind.wrap .i64 (r0.2.2.2.2.2.2.2.2.2.1+r1.2.2.2.2.2.2.2.2.2.1))+(IntKind.wrap .i64 (Int.tdiv (IntKind.wrap .i64 ((IntKind.wrap .i64 (r0.2.2.2.2.2.2.2.2.1+r1.2.2.2.2.2.2.2.2.1))+(IntKind.wrap .i64 (Int.tdiv (IntKind.wrap .i64 ((IntKind.wrap .i64 (r0.2.2.2.2.2.2.2.1+r1.2.2.2.2.2.2.2.1))+(IntKind.wrap .i64 (Int.tdiv (IntKind.wrap .i64 ((IntKind.wrap .i64 (r0.2.2.2.2.2.2.1+r1.2.2.2.2.2.2.1))+(IntKind.wrap .i64 (Int.tdiv (IntKind.wrap .i64 ((IntKind.wrap .i64 (r0.2.2.2.2.2.1+r1.2.2.2.2.2.1))+(IntKind.wrap .i64 (Int.tdiv (IntKind.wrap .i64 ((IntKind.wrap .i64 (r0.2.2.2.2.1+r1.2.2.2.2.1))+(IntKind.wrap .i64 (Int.tdiv (IntKind.wrap .i64 ((IntKind.wrap .i64 (r0.2.2.2.1+r1.2.2.2.1))+(IntKind.wrap .i64 (Int.tdiv (IntKind.wrap .i64 ((IntKind.wrap .i64 (r0.2.2.1+r1.2.2.1))+(IntKind.wrap .i64 (Int.tdiv (IntKind.wrap .i64 ((IntKind.wrap .i64 (r0.2.1+r1.2.1))+(IntKind.wrap .i64 (Int.tdiv (IntKind.wrap .i64 ((IntKind.wrap .i64 (r0.1+r1.1))+0)) (256:Int))))) (256:Int))))) (256:Int))))) (256:Int))))) (256:Int))))) (256:Int))))) (256:Int))))) (256:Int))))) (256:Int))))) (256:Int))))) (256:Int)),((Int.tmod (IntKind.wrap .i64 ((IntKind.wrap .i64 (r0.2.2.2.2.2.2.2.2.2.2.2.1+r1.2.2.2.2.2.2.2.2.2.2.2.1))+(IntKind.wrap .i64 (Int.tdiv (IntKind.wrap .i64 ((IntKind.wrap .i64 (r0.2.2.2.2.2.2.2.2.2.2.1+r1.2.2.2.2.2.2.2.2.2.2.1))+(IntKind.wrap .i64 (Int.tdiv (IntKind.wrap .i64 ((IntKind.wrap .i64 (r0.2.2.2.2.2.2.2.2.2.1+r1.2.2.2.2.2.2.2.2.2.1))+(IntKind.wrap .i64 (Int.tdiv (IntKind.wrap .i64 ((IntKind.wrap .i64 (r0.2.2.2.2.2.2.2.2.1+r1.2.2.2.2.2.2.2.2.1))+(IntKind.wrap .i64 (Int.tdiv (IntKind.wrap .i64 ((IntKind.wrap .i64 (r0.2.2.2.2.2.2.2.1+r1.2.2.2.2.2.2.2.1))+(IntKind.wrap .i64 (Int.tdiv (IntKind.wrap .i64 ((IntKind.wrap .i64 (r0.2.2.2.2.2.2.1+r1.2.2.2.2.2.2.1))+(IntKind.wrap .i64 (Int.tdiv (IntKind.wrap .i64 ((IntKind.wrap .i64 (r0.2.2.2.2.2.1+r1.2.2.2.2.2.1))+(IntKind.wrap .i64 (Int.tdiv (IntKind.wrap .i64 ((IntKind.wrap .i64 (r0.2.2.2.2.1+r1.2.2.2.2.1))+(IntKind.wrap .i64 (Int.tdiv (IntKind.wrap .i64 ((IntKind.wrap .i64 (r0.2.2.2.1+r1.2.2.2.1))+(IntKind.wrap .i64 (Int.tdiv (IntKind.wrap .i64 ((IntKind.wrap .i64 (r0.2.2.1+r1.2.2.1))+(IntKind.wrap .i64 (Int.tdiv (IntKind.wrap .i64 ((IntKind.wrap .i64 (r0.2.1+r1.2.1))+(IntKind.wrap .i64 (Int.tdiv (IntKind.wrap .i64 ((IntKind.wrap .i64 (r0.1+r1.1))+0)) (256:Int))))) (256:Int))))) (256:Int))))) (256:Int))))) (256:Int))))) (256:Int))))) (256:Int))))) (256:Int))))) (256:Int))))) (256:Int))))) (256:Int))))) (256:Int)),((Int.tmod (IntKind.wrap .i64 ((IntKind.wrap .i64 (r0.2.2.2.2.2.2.2.2.2.2.2.2.1+r1.2.2.2.2.2.2.2.2.2.2.2.2.1))+(IntKind.wrap .i64 (Int.tdiv (IntKind.wrap .i64 ((IntKind.wrap .i64 (r0.2.2.2.2.2.2.2.2.2.2.2.1+r1.2.2.2.2.2.2.2.2.2.2.2.1))+(IntKind.wrap .i64 (Int.tdiv (IntKind.wrap .i64 ((IntKind.wrap .i64 (r0.2.2.2.2.2.2.2.2.2.2.1+r1.2.2.2.2.2.2.2.2.2.2.1))+(IntKind.wrap .i64 (Int.tdiv (IntKind.wrap .i64 ((IntKind.wrap .i64 (r0.2.2.2.2.2.2.2.2.2.1+r1.2.2.2.2.2.2.2.2.2.1))+(IntKind.wrap .i64 (Int.tdiv (IntKind.wrap .i64 ((IntKind.wrap .i64 (r0.2.2.2.2.2.2.2.2.1+r1.2.2.2.2.2.2.2.2.1))+(IntKind.wrap .i64 (Int.tdiv (IntKind.wrap .i64 ((IntKind.wrap .i64 (r0.2.2.2.2.2.2.2.1+r1.2.2.2.2.2.2.2.1))+(IntKind.wrap .i64 (Int.tdiv (IntKind.wrap .i64 ((IntKind.wrap .i64 (r0.2.2.2.2.2.2.1+r1.2.2.2.2.2.2.1))+(IntKind.wrap .i64 (Int.tdiv (IntKind.wrap .i64 ((IntKind.wrap .i64 (r0.2.2.2.2.2.1+r1.2.2.2.2.2.1))+(IntKind.wrap .i64 (Int.tdiv (IntKind.wrap .i64 ((IntKind.wrap .i64 (r0.2.2.2.2.1+r1.2.2.2.2.1))+(IntKind.wrap .i64 (Int.tdiv (IntKind.wrap .i64 ((IntKind.wrap .i64 (r0.2.2.2.1+r1.2.2.2.1))+(IntKind.wrap .i64 (Int.tdiv (IntKind.wrap .i64 ((IntKind.wrap .i64 (r0.2.2.1+r1.2.2.1))+(IntKind.wrap .i64 (Int.tdiv (IntKind.wrap .i64 ((IntKind.wrap .i64 (r0.2.1+r1.2.1))+(IntKind.wrap .i64 (Int.tdiv (IntKind.wrap .i64 ((IntKind.wrap .i64 (r0.1+r1.1))+0)) (256:Int))))) (256:Int))))) (256:Int))))) (256:Int))))) (256:Int))))) (256:Int))))) (256:Int))))) (256:Int))))) (256:Int))))) (256:Int))))) (256:Int))))) (256:Int))))) (256:Int)),((Int.tmod (IntKind.wrap .i64 ((IntKind.wrap .i64 (r0.2.2.2.2.2.2.2.2.2.2.2.2.2.1+r1.2.2.2.2.2.2.2.2.2.2.2.2.2.1))+(IntKind.wrap .i64 (Int.tdiv (IntKind.wrap .i64 ((IntKind.wrap .i64 (r0.2.2.2.2.2.2.2.2.2.2.2.2.1+r1.2.2.2.2.2.2.2.2.2.2.2.2.1))+(IntKind.wrap .i64 (Int.tdiv (IntKind.wrap .i64 ((IntKind.wrap .i64 (r0.2.2.2.2.2.2.2.2.2.2.2.1+r1.2.2.2.2.2.2.2.2.2.2.2.1))+(IntKind.wrap .i64 (Int.tdiv (IntKind.wrap .i64 ((IntKind.wrap .i64 (r0.2.2.2.2.2.2.2.2.2.2.1+r1.2.2.2.2.2.2.2.2.2.2.1))+(IntKind.wrap .i64 (Int.tdiv (IntKind.wrap .i64 ((IntKind.wrap .i64 (r0.2.2.2.2.2.2.2.2.2.1+r1.2.2.2.2.2.2.2.2.2.1))+(IntKind.wrap .i64 (Int.tdiv (IntKind.wrap .i64 ((IntKind.wrap .i64 (r0.2.2.2.2.2.2.2.2.1+r1.2.2.2.2.2.2.2.2.1))+(IntKind.wrap .i64 (Int.tdiv (IntKind.wrap .i64 ((IntKind.wrap .i64 (r0.2.2.2.2.2.2.2.1+r1.2.2.2.2.2.2.2.1))+(IntKind.wrap .i64 (Int.tdiv (IntKind.wrap .i64 ((IntKind.wrap .i64 (r0.2.2.2.2.2.2.1+r1.2.2.2.2.2.2.1))+(IntKind.wrap .i64 (Int.tdiv (IntKind.wrap .i64 ((IntKind.wrap .i64 (r0.2.2.2.2.2.1+r1.2.2.2.2.2.1))+(IntKind.wrap .i64 (Int.tdiv (IntKind.wrap .i64 ((IntKind.wrap .i64 (r0.2.2.2.2.1+r1.2.2.2.2.1))+(IntKind.wrap .i64 (Int.tdiv (IntKind.wrap .i64 ((IntKind.wrap .i64 (r0.2.2.2.1+r1.2.2.2.1))+(IntKind.wrap .i64 (Int.tdiv (IntKind.wrap .i64 ((IntKind.wrap .i64 (r0.2.2.1+r1.2.2.1))+(IntKind.wrap .i64 (Int.tdiv (IntKind.wrap .i64 ((IntKind.wrap .i64 (r0.2.1+r1.2.1))+(IntKind.wrap .i64 (Int.tdiv (IntKind.wrap .i64 ((IntKind.wrap .i64 (r0.1+r1.1))+0)) (256:Int))))) (256:Int))))) (256:Int))))) (256:Int))))) (256:Int))))) (256:Int))))) (256:Int))))) (256:Int))))) (256:Int))))) (256:Int))))) (256:Int))))) (256:Int))))) (256:Int))))) (256:Int)),((Int.tmod (IntKind.wrap .i64 ((IntKind.wrap .i64 (r0.2.2.2.2.2.2.2.2.2.2.2.2.2.2.1+r1.2.2.2.2.2.2.2.2.2.2.2.2.2.2.1))+(IntKind.wrap .i64 (Int.tdiv (IntKind.wrap .i64 ((IntKind.wrap .i64 (r0.2.2.2.2.2.2.2.2.2.2.2.2.2.1+r1.2.2.2.2.2.2.2.2.2.2.2.2.2.1))+(IntKind.wrap .i64 (Int.tdiv (IntKind.wrap .i64 ((IntKind.wrap .i64 (r0.2.2.2.2.2.2.2.2.2.2.2.2.1+r1.2.2.2.2.2.2.2.2.2.2.2.2.1))+(IntKind.wrap .i64 (Int.tdiv (IntKind.wrap .i64 ((IntKind.wrap .i64 (r0.2.2.2.2.2.2.2.2.2.2.2.1+r1.2.2.2.2.2.2.2.2.2.2.2.1))+(IntKind.wrap .i64 (Int.tdiv (IntKind.wrap .i64 ((IntKind.wrap .i64 (r0.2.2.2.2.2.2.2.2.2.2.1+r1.2.2.2.2.2.2.2.2.2.2.1))+(IntKind.wrap .i64 (Int.tdiv (IntKind.wrap .i64 ((IntKind.wrap .i64 (r0.2.2.2.2.2.2.2.2.2.1+r1.2.2.2.2.2.2.2.2.2.1))+(IntKind.wrap .i64 (Int.tdiv (IntKind.wrap .i64 ((IntKind.wrap .i64 (r0.2.2.2.2.2.2.2.2.1+r1.2.2.2.2.2.2.2.2.1))+(IntKind.wrap .i64 (Int.tdiv (IntKind.wrap .i64 ((IntKind.wrap .i64 (r0.2.2.2.2.2.2.2.1+r1.2.2.2.2.2.2.2.1))+(IntKind.wrap .i64 (Int.tdiv (IntKind.wrap .i64 ((IntKind.wrap .i64 (r0.2.2.2.2.2.2.1+r1.2.2.2.2.2.2.1))+(IntKind.wrap .i64 (Int.tdiv (IntKind.wrap .i64 ((IntKind.wrap .i64 (r0.2.2.2.2.2.1+r1.2.2.2.2.2.1))+(IntKind.wrap .i64 (Int.tdiv (IntKind.wrap .i64 ((IntKind.wrap .i64 (r0.2.2.2.2.1+r1.2.2.2.2.1))+(IntKind.wrap .i64 (Int.tdiv (IntKind.wrap .i64 ((IntKind.wrap .i64 (r0.2.2.2.1+r1.2.2.2.1))+(IntKind.wrap .i64 (Int.tdiv (IntKind.wrap .i64 ((IntKind.wrap .i64 (r0.2.2.1+r1.2.2.1))+(IntKind.wrap .i64 (Int.tdiv (IntKind.wrap .i64 ((IntKind.wrap .i64 (r0.2.1+r1.2.1))+(IntKind.wrap .i64 (Int.tdiv (IntKind.wrap .i64 ((IntKind.wrap .i64 (r0.1+r1.1))+0)) (256:Int))))) (256:Int))))) (256:Int))))) (256:Int))))) (256:Int))))) (256:Int))))) (256:Int))))) (256:Int))))) (256:Int))))) (256:Int))))) (256:Int))))) (256:Int))))) (256:Int))))) (256:Int))))) (256:Int)),(Int.tmod (IntKind.wrap .i64 ((IntKind.wrap .i64 (r0.2.2.2.2.2.2.2.2.2.2.2.2.2.2.2+r1.2.2.2.2.2.2.2.2.2.2.2.2.2.2.2))+(IntKind.wrap .i64 (Int.tdiv (IntKind.wrap .i64 ((IntKind.wrap .i64 (r0.2.2.2.2.2.2.2.2.2.2.2.2.2.2.1+r1.2.2.2.2.2.2.2.2.2.2.2.2.2.2.1))+(IntKind.wrap .i64 (Int.tdiv (IntKind.wrap .i64 ((IntKind.wrap .i64 (r0.2.2.2.2.2.2.2.2.2.2.2.2.2.1+r1.2.2.2.2.2.2.2.2.2.2.2.2.2.1))+(IntKind.wrap .i64 (Int.tdiv (IntKind.wrap .i64 ((IntKind.wrap .i64 (r0.2.2.2.2.2.2.2.2.2.2.2.2.1+r1.2.2.2.2.2.2.2.2.2.2.2.2.1))+(IntKind.wrap .i64 (Int.tdiv (IntKind.wrap .i64 ((IntKind.wrap .i64 (r0.2.2.2.2.2.2.2.2.2.2.2.1+r1.2.2.2.2.2.2.2.2.2.2.2.1))+(IntKind.wrap .i64 (Int.tdiv (IntKind.wrap .i64 ((IntKind.wrap .i64 (r0.2.2.2.2.2.2.2.2.2.2.1+r1.2.2.2.2.2.2.2.2.2.2.1))+(IntKind.wrap .i64 (Int.tdiv (IntKind.wrap .i64 ((IntKind.wrap .i64 (r0.2.2.2.2.2.2.2.2.2.1+r1.2.2.2.2.2.2.2.2.2.1))+(IntKind.wrap .i64 (Int.tdiv (IntKind.wrap .i64 ((IntKind.wrap .i64 (r0.2.2.2.2.2.2.2.2.1+r1.2.2.2.2.2.2.2.2.1))+(IntKind.wrap .i64 (Int.tdiv (IntKind.wrap .i64 ((IntKind.wrap .i64 (r0.2.2.2.2.2.2.2.1+r1.2.2.2.2.2.2.2.1))+(IntKind.wrap .i64 (Int.tdiv (IntKind.wrap .i64 ((IntKind.wrap .i64 (r0.2.2.2.2.2.2.1+r1.2.2.2.2.2.2.1))+(IntKind.wrap .i64 (Int.tdiv (IntKind.wrap .i64 ((IntKind.wrap .i64 (r0.2.2.2.2.2.1+r1.2.2.2.2.2.1))+(IntKind.wrap .i64 (Int.tdiv (IntKind.wrap .i64 ((IntKind.wrap .i64 (r0.2.2.2.2.1+r1.2.2.2.2.1))+(IntKind.wrap .i64 (Int.tdiv (IntKind.wrap .i64 ((IntKind.wrap .i64 (r0.2.2.2.1+r1.2.2.2.1))+(IntKind.wrap .i64 (Int.tdiv (IntKind.wrap .i64 ((IntKind.wrap .i64 (r0.2.2.1+r1.2.2.1))+(IntKind.wrap .i64 (Int.tdiv (IntKind.wrap .i64 ((IntKind.wrap .i64 (r0.2.1+r1.2.1))+(IntKind.wrap .i64 (Int.tdiv (IntKind.wrap .i64 ((IntKind.wrap .i64 (r0.1+r1.1))+0)) (256:Int))))) (256:Int))))) (256:Int))))) (256:Int))))) (256:Int))))) (256:Int))))) (256:Int))))) (256:Int))))) (256:Int))))) (256:Int))))) (256:Int))))) (256:Int))))) (256:Int))))) (256:Int))))) (256:Int))))) (256:Int)))))))))))))))))) fun r2 =>
 some (r2,(0:Int))):=by kernel_rfl
end Go.Proofs.YtgkpkajaepphjaaGreatDoor
