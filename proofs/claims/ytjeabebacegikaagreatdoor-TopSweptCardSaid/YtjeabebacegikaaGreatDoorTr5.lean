/- Trees, printed by program. -/
import Derived.Test.YtjeabebacegikaaGreatDoorTr0
import Derived.KernelRfl
set_option linter.unusedVariables false
namespace Go.Proofs.YtjeabebacegikaaGreatDoor
open Go.Flat
theorem r02_Whole_eq (n:Nat) (a:(Int×Int)) (d:(Int×Int)):r02_Whole (n+1) a d =
 tif (((decide (d.1=0))&&(decide (d.2=0)))) (
 some (((0:Int),(0:Int)),a)) (
 obind (r01_Bytes n a) fun r0 =>
 tif ((decide (16=((((((((((((((((1+1)+1)+1)+1)+1)+1)+1)+1)+1)+1)+1)+1)+1)+1)+1) / 1)))) (
 obind (r02_Whole_l7 n loopFuel (d,(((0:Int),(0:Int)),(((0:Int),(0:Int)),((List.replicate 16 (0:Int)),(((0:Int),(0:Int)),((r0.1::(r0.2.1::(r0.2.2.1::(r0.2.2.2.1::(r0.2.2.2.2.1::(r0.2.2.2.2.2.1::(r0.2.2.2.2.2.2.1::(r0.2.2.2.2.2.2.2.1::(r0.2.2.2.2.2.2.2.2.1::(r0.2.2.2.2.2.2.2.2.2.1::(r0.2.2.2.2.2.2.2.2.2.2.1::(r0.2.2.2.2.2.2.2.2.2.2.2.1::(r0.2.2.2.2.2.2.2.2.2.2.2.2.1::(r0.2.2.2.2.2.2.2.2.2.2.2.2.2.1::(r0.2.2.2.2.2.2.2.2.2.2.2.2.2.2.1::(r0.2.2.2.2.2.2.2.2.2.2.2.2.2.2.2::[])))))))))))))))),((127:Int),())))))))) fun r1 =>
 selim (fun y2 =>
 obind ((y2.2.2.1)[0]?) fun r3 =>
 obind ((y2.2.2.1)[1]?) fun r4 =>
 obind ((y2.2.2.1)[2]?) fun r5 =>
 obind ((y2.2.2.1)[3]?) fun r6 =>
 obind ((y2.2.2.1)[4]?) fun r7 =>
 obind ((y2.2.2.1)[5]?) fun r8 =>
 obind ((y2.2.2.1)[6]?) fun r9 =>
 obind ((y2.2.2.1)[7]?) fun r10 =>
 obind ((y2.2.2.1)[8]?) fun r11 =>
 obind ((y2.2.2.1)[9]?) fun r12 =>
 obind ((y2.2.2.1)[10]?) fun r13 =>
 obind ((y2.2.2.1)[11]?) fun r14 =>
 obind ((y2.2.2.1)[12]?) fun r15 =>
 obind ((y2.2.2.1)[13]?) fun r16 =>
 obind ((y2.2.2.1)[14]?) fun r17 =>
 obind ((y2.2.2.1)[15]?) fun r18 =>
 obind (r01_Of n (r3,(r4,(r5,(r6,(r7,(r8,(r9,(r10,(r11,(r12,(r13,(r14,(r15,(r16,(r17,r18)))))))))))))))) fun r19 =>
 some (r19,y2.2.2.2.1)) (fun z20 =>
 some z20) r1) (
 none)):=by kernel_rfl
theorem r02_Whole_l7_eq (n f:Nat) (d_:(Int×Int)) (s4:(Int×Int)) (s5:(Int×Int)) (out:(List Int)) (left:(Int×Int)) (x:(List Int)) (i:Int):r02_Whole_l7 n (f+1) (d_,s4,s5,out,left,x,i,()) =
 tif ((decide ((0:Int)≤i))) (
 obind (r01_Add n left left) fun r0 =>
 tif ((!(decide (r0.2=0)))) (
 obind (r01_Sub n d_ left) fun r1 =>
 obind (r01_Sub n left r1.1) fun r2 =>
 tif (((decide ((0:Int)≤(IntKind.wrap .i64 (Int.tdiv i (8:Int)))))&&((decide ((IntKind.wrap .i64 (Int.tdiv i (8:Int)))<16))&&(decide ((IntKind.wrap .i64 (Int.tdiv i (8:Int)))<(((List.length x):Nat):Int)))))) (
 obind ((x)[(Int.toNat (IntKind.wrap .i64 (Int.tdiv i (8:Int))))]?) fun r3 =>
 tif ((decide ((Int.tmod i (8:Int))<0))) (
 none) (
 obind (r01_Add n r2.1 ((0:Int),(IntKind.wrap .u64 (andI .i64 (shrI .i64 r3 (Int.tmod i (8:Int))) (1:Int))))) fun r4 =>
 tif (((decide ((0:Int)≤(IntKind.wrap .i64 (Int.tdiv i (8:Int)))))&&((decide ((IntKind.wrap .i64 (Int.tdiv i (8:Int)))<16))&&(decide ((IntKind.wrap .i64 (Int.tdiv i (8:Int)))<(((List.length out):Nat):Int)))))) (
 obind ((out)[(Int.toNat (IntKind.wrap .i64 (Int.tdiv i (8:Int))))]?) fun r5 =>
 tif ((decide ((Int.tmod i (8:Int))<0))) (
 none) (
 tif (((decide ((0:Int)≤(IntKind.wrap .i64 (Int.tdiv i (8:Int)))))&&((decide ((IntKind.wrap .i64 (Int.tdiv i (8:Int)))<16))&&(decide ((IntKind.wrap .i64 (Int.tdiv i (8:Int)))<(((List.length out):Nat):Int)))))) (
 obind ((out)[(Int.toNat (IntKind.wrap .i64 (Int.tdiv i (8:Int))))]?) fun r6 =>
 r02_Whole_l7 n f (d_,(s4,(s5,((List.set out (Int.toNat (IntKind.wrap .i64 (Int.tdiv i (8:Int)))) (orI .i64 r5 (shlI .i64 (1:Int) (Int.tmod i (8:Int))))),(r4.1,(x,((IntKind.wrap .i64 (i-1)),())))))))) (
 none))) (
 none))) (
 none)) (
 tif (((decide ((0:Int)≤(IntKind.wrap .i64 (Int.tdiv i (8:Int)))))&&((decide ((IntKind.wrap .i64 (Int.tdiv i (8:Int)))<16))&&(decide ((IntKind.wrap .i64 (Int.tdiv i (8:Int)))<(((List.length x):Nat):Int)))))) (
 obind ((x)[(Int.toNat (IntKind.wrap .i64 (Int.tdiv i (8:Int))))]?) fun r7 =>
 tif ((decide ((Int.tmod i (8:Int))<0))) (
 none) (
 obind (r01_Add n r0.1 ((0:Int),(IntKind.wrap .u64 (andI .i64 (shrI .i64 r7 (Int.tmod i (8:Int))) (1:Int))))) fun r8 =>
 obind (r01_Less n r8.1 d_) fun r9 =>
 tif ((!r9)) (
 obind (r01_Sub n r8.1 d_) fun r10 =>
 tif (((decide ((0:Int)≤(IntKind.wrap .i64 (Int.tdiv i (8:Int)))))&&((decide ((IntKind.wrap .i64 (Int.tdiv i (8:Int)))<16))&&(decide ((IntKind.wrap .i64 (Int.tdiv i (8:Int)))<(((List.length out):Nat):Int)))))) (
 obind ((out)[(Int.toNat (IntKind.wrap .i64 (Int.tdiv i (8:Int))))]?) fun r11 =>
 tif ((decide ((Int.tmod i (8:Int))<0))) (
 none) (
 tif (((decide ((0:Int)≤(IntKind.wrap .i64 (Int.tdiv i (8:Int)))))&&((decide ((IntKind.wrap .i64 (Int.tdiv i (8:Int)))<16))&&(decide ((IntKind.wrap .i64 (Int.tdiv i (8:Int)))<(((List.length out):Nat):Int)))))) (
 obind ((out)[(Int.toNat (IntKind.wrap .i64 (Int.tdiv i (8:Int))))]?) fun r12 =>
 r02_Whole_l7 n f (d_,(s4,(s5,((List.set out (Int.toNat (IntKind.wrap .i64 (Int.tdiv i (8:Int)))) (orI .i64 r11 (shlI .i64 (1:Int) (Int.tmod i (8:Int))))),(r10.1,(x,((IntKind.wrap .i64 (i-1)),())))))))) (
 none))) (
 none)) (
 r02_Whole_l7 n f (d_,(s4,(s5,(out,(r8.1,(x,((IntKind.wrap .i64 (i-1)),())))))))))) (
 none))) (
 some (.inl (s4,(s5,(out,(left,())))))):=by kernel_rfl
theorem event_right_eq (n:Nat) (l:(List TEvent)):event_right (n+1) l =
 obind (event_right_l2 n loopFuel (l,((((List.length l):Nat):Int),((0:Int),())))) fun r0 =>
 selim (fun y1 =>
 some true) (fun z2 =>
 some z2) r0:=by kernel_rfl
theorem event_right_l2_eq (n f:Nat) (s5:(List TEvent)) (s6:Int) (s7:Int):event_right_l2 n (f+1) (s5,s6,s7,()) =
 tif ((decide (s7<s6))) (
 obind (at? s5 s7) fun r0 =>
 obind (event_Check n r0) fun r1 =>
 tif ((!(decide (r1=0)))) (
 some (.inr false)) (
 event_right_l2 n f (s5,(s6,((IntKind.wrap .i64 (s7+1)),()))))) (
 some (.inl ())):=by kernel_rfl
theorem ratio_noughts_eq (n:Nat) (a:(Int×Int)):ratio_noughts (n+1) a =
 tif ((decide (a.2=0))) (
 obind (bits_tz64 n a.1) fun r0 =>
 some (IntKind.wrap .i64 ((64:Int)+r0))) (
 obind (bits_tz64 n a.2) fun r1 =>
 some r1):=by kernel_rfl
theorem ratio_down_eq (n:Nat) (a:(Int×Int)) (by_:Int):ratio_down (n+1) a by_ =
 tif ((decide ((64:Int)≤by_))) (
 tif ((decide ((IntKind.wrap .i64 (by_-64))<0))) (
 none) (
 some ((0:Int),(shrI .u64 a.1 (IntKind.wrap .i64 (by_-64)))))) (
 tif ((decide (by_<0))) (
 none) (
 tif ((decide (by_<0))) (
 none) (
 tif ((decide ((IntKind.wrap .i64 ((64:Int)-by_))<0))) (
 none) (
 some ((shrI .u64 a.1 by_),(orI .u64 (shrI .u64 a.2 by_) (shlI .u64 a.1 (IntKind.wrap .i64 ((64:Int)-by_))))))))):=by kernel_rfl
theorem ratio_less_eq (n:Nat) (a:(Int×Int)) (b:(Int×Int)):ratio_less (n+1) a b =
 obind (wide_Sub n a b) fun r0 =>
 some r0.1:=by kernel_rfl
theorem ratio_up_eq (n:Nat) (a:(Int×Int)) (by_:Int):ratio_up (n+1) a by_ =
 tif ((decide ((64:Int)≤by_))) (
 tif ((decide ((IntKind.wrap .i64 (by_-64))<0))) (
 none) (
 some ((shlI .u64 a.2 (IntKind.wrap .i64 (by_-64))),(0:Int)))) (
 tif ((decide (by_<0))) (
 none) (
 tif ((decide ((IntKind.wrap .i64 ((64:Int)-by_))<0))) (
 none) (
 tif ((decide (by_<0))) (
 none) (
 some ((orI .u64 (shlI .u64 a.1 by_) (shrI .u64 a.2 (IntKind.wrap .i64 ((64:Int)-by_)))),(shlI .u64 a.2 by_)))))):=by kernel_rfl
theorem ratio_long_eq (n:Nat) (a:(Int×Int)):ratio_long (n+1) a =
 tif ((!(decide (a.1=0)))) (
 obind (math_bits_Len64 n a.1) fun r0 =>
 some (IntKind.wrap .i64 ((64:Int)+r0))) (
 obind (math_bits_Len64 n a.2) fun r1 =>
 some r1):=by kernel_rfl
theorem conf_Index_eq (n:Nat) (c:TConfig):conf_Index (n+1) c =
 obind (conf_Check n c) fun r0 =>
 tif ((!(decide (r0=0)))) (
 some (0:Int)) (
 obind (conf_parts n c.2.2.2.2 (120:Int)) fun r1 =>
 some r1):=by kernel_rfl
theorem event_anew_eq (n:Nat) (c:TEvent) (seen:Int):event_anew (n+1) c seen =
 obind (wide_Of n c.2.1) fun r0 =>
 some ((0:Int),(((0:Int),((0:Int),((0:Int),false))),(((0:Int),((0:Int),((0:Int),false))),(r0,((1:Int),((0:Int),seen)))))):=by kernel_rfl
theorem wide_Add_eq (n:Nat) (a:(Int×Int)) (b:(Int×Int)):wide_Add (n+1) a b =
 tif (((decide ((0:Int)≤a.2))&&((decide ((0:Int)≤b.2))&&true))) (
 tif (((decide ((0:Int)≤a.1))&&((decide ((0:Int)≤b.1))&&((decide ((0:Int)≤(((a.2+b.2)+0) / (18446744073709551616:Int))))&&(decide ((((a.2+b.2)+0) / (18446744073709551616:Int))≤1)))))) (
 obind (wide_sure n ((((a.1+b.1)+(((a.2+b.2)+0) / (18446744073709551616:Int))) % (18446744073709551616:Int)),(((a.2+b.2)+0) % (18446744073709551616:Int))) (((a.1+b.1)+(((a.2+b.2)+0) / (18446744073709551616:Int))) / (18446744073709551616:Int))) fun r0 =>
 some r0) (
 none)) (
 none):=by kernel_rfl
theorem stt_Mark_eq (n:Nat) (s:TState):stt_Mark (n+1) s =
 obind (stt_open n s) fun r0 =>
 tif ((!(decide (r0.2=0)))) (
 some (0:Int)) (
 obind (stt_time n s.2.1) fun r1 =>
 tif ((!r1)) (
 some (0:Int)) (
 obind (stt_view_mark n r0.1) fun r2 =>
 some r2)):=by kernel_rfl
theorem fold_Empty_eq (n:Nat) (c:TConfig):fold_Empty (n+1) c =
 obind (conf_Check n c) fun r0 =>
 tif ((!(decide (r0=0)))) (
 some ([],([],[]))) (
 obind (tier_New n c.2.2.1.1) fun r1 =>
 obind (tier_New n c.2.2.1.2.1) fun r2 =>
 obind (tier_New n c.2.2.1.2.2) fun r3 =>
 some (r1,(r2,r3))):=by kernel_rfl
theorem fold_Check_eq (n:Nat) (c:TConfig) (s:((List TSlot)×((List TSlot)×(List TSlot)))):fold_Check (n+1) c s =
 obind (fold_open n c s) fun r0 =>
 oelim (r0.1) (
 some r0.2) fun r1 =>
 some r0.2:=by kernel_rfl
theorem raw_Check_eq (n:Nat) (r:(Int×(Int×(List TEvent)))) (room:Int):raw_Check (n+1) r room =
 tif ((decide (room<1))) (
 some (2:Int)) (
 tif ((decide ((4096:Int)<room))) (
 some (2:Int)) (
 tif ((decide (room<(((List.length r.2.2):Nat):Int)))) (
 some (2:Int)) (
 tif ((decide (r.1<0))) (
 some (2:Int)) (
 tif ((decide ((70368744177664:Int)<r.1))) (
 some (2:Int)) (
 obind (raw_rising n r.2.2) fun r0 =>
 tif ((!r0)) (
 some (2:Int)) (
 obind (raw_marked n r room) fun r1 =>
 tif ((!r1)) (
 some (2:Int)) (
 some (0:Int)))))))):=by kernel_rfl
theorem srk_fresh_eq (n:Nat) (s:Tseries_kept):srk_fresh (n+1) s =
 tif ((decide ((((List.length s.2.2.2.1.2.2):Nat):Int)=0))) (
 tif (((decide (s.2.2.2.2.2.1=0))&&((decide (s.2.2.2.2.2.2.1=0))&&((decide (s.2.2.2.2.2.2.2.1.1=0))&&((decide (s.2.2.2.2.2.2.2.1.2.1=0))&&((decide (s.2.2.2.2.2.2.2.1.2.2.1=0))&&((s.2.2.2.2.2.2.2.1.2.2.2==false)&&((decide (s.2.2.2.2.2.2.2.2.1.1=0))&&((decide (s.2.2.2.2.2.2.2.2.1.2.1=0))&&((decide (s.2.2.2.2.2.2.2.2.1.2.2.1=0))&&((s.2.2.2.2.2.2.2.2.1.2.2.2==false)&&((decide (s.2.2.2.2.2.2.2.2.2.1.1=0))&&((decide (s.2.2.2.2.2.2.2.2.2.1.2=0))&&((decide (s.2.2.2.2.2.2.2.2.2.2.1=0))&&((decide (s.2.2.2.2.2.2.2.2.2.2.2.1=0))&&(decide (s.2.2.2.2.2.2.2.2.2.2.2.2=0))))))))))))))))) (
 obind (series_behind n s.2.2.2.2.1.1 (0:Int)) fun r0 =>
 tif ((!r0)) (
 obind (series_behind n s.2.2.2.2.1.2.1 (0:Int)) fun r1 =>
 tif ((!r1)) (
 obind (series_behind n s.2.2.2.2.1.2.2 (0:Int)) fun r2 =>
 some (!r2)) (
 some false)) (
 some false)) (
 some false)) (
 some false):=by kernel_rfl
theorem srk_ends_eq (n:Nat) (s:Tseries_kept):srk_ends (n+1) s =
 obind (raw_Last n s.2.2.2.1) fun r0 =>
 tif ((decide (r0.2=0))) (
 tif ((decide (r0.1.1=s.2.2.1))) (
 tif ((decide (s.2.2.2.2.2.2.2.2.1.1=s.2.2.1))) (
 obind (tier_Fits n s.2.2.2.2.2.2 s.1.2.1.1 s.2.2.2.2.2.1) fun r1 =>
 tif (r1) (
 tif ((decide (s.1.2.1.1=0))) (
 none) (
 obind (series_behind n s.2.2.2.2.1.1 (IntKind.wrap .i64 (Int.tdiv s.2.2.1 s.1.2.1.1))) fun r2 =>
 tif ((!r2)) (
 tif ((decide (s.1.2.1.2.1=0))) (
 none) (
 obind (series_behind n s.2.2.2.2.1.2.1 (IntKind.wrap .i64 (Int.tdiv s.2.2.1 s.1.2.1.2.1))) fun r3 =>
 tif ((!r3)) (
 tif ((decide (s.1.2.1.2.2=0))) (
 none) (
 obind (series_behind n s.2.2.2.2.1.2.2 (IntKind.wrap .i64 (Int.tdiv s.2.2.1 s.1.2.1.2.2))) fun r4 =>
 some (!r4))) (
 some false))) (
 some false))) (
 some false)) (
 some false)) (
 some false)) (
 some false):=by kernel_rfl
theorem fold_Close_eq (n:Nat) (c:TConfig) (s:((List TSlot)×((List TSlot)×(List TSlot)))) (was:TSlot) (j:Int):fold_Close (n+1) c s was j =
 obind (fold_open n c s) fun r0 =>
 oelim (r0.1) (
 tif ((!(decide (r0.2=0)))) (
 some (([],([],[])),r0.2)) (
 tif ((!((decide (was.1=0))&&((decide (was.2.1=0))&&((decide (was.2.2.1.1=0))&&((decide (was.2.2.1.2.1=0))&&((decide (was.2.2.1.2.2.1=0))&&((was.2.2.1.2.2.2==false)&&((decide (was.2.2.2.1.1=0))&&((decide (was.2.2.2.1.2.1=0))&&((decide (was.2.2.2.1.2.2.1=0))&&((was.2.2.2.1.2.2.2==false)&&((decide (was.2.2.2.2.1.1=0))&&((decide (was.2.2.2.2.1.2=0))&&((decide (was.2.2.2.2.2.1=0))&&((decide (was.2.2.2.2.2.2.1=0))&&(decide (was.2.2.2.2.2.2.2=0)))))))))))))))))) (
 obind (tier_Fits n was.2 c.2.1.1 was.1) fun r1 =>
 tif ((!r1)) (
 some (([],([],[])),(2:Int))) (
 tif (((decide (was.1=0))&&((decide (was.2.1=0))&&((decide (was.2.2.1.1=0))&&((decide (was.2.2.1.2.1=0))&&((decide (was.2.2.1.2.2.1=0))&&((was.2.2.1.2.2.2==false)&&((decide (was.2.2.2.1.1=0))&&((decide (was.2.2.2.1.2.1=0))&&((decide (was.2.2.2.1.2.2.1=0))&&((was.2.2.2.1.2.2.2==false)&&((decide (was.2.2.2.2.1.1=0))&&((decide (was.2.2.2.2.1.2=0))&&((decide (was.2.2.2.2.2.1=0))&&((decide (was.2.2.2.2.2.2.1=0))&&(decide (was.2.2.2.2.2.2.2=0))))))))))))))))) (
 some (s,(0:Int))) (
 tif ((decide (was.1=j))) (
 some (s,(0:Int))) (
 tif ((decide (j<was.1))) (
 some (([],([],[])),(1:Int))) (
 none))))) (
 tif (((decide (was.1=0))&&((decide (was.2.1=0))&&((decide (was.2.2.1.1=0))&&((decide (was.2.2.1.2.1=0))&&((decide (was.2.2.1.2.2.1=0))&&((was.2.2.1.2.2.2==false)&&((decide (was.2.2.2.1.1=0))&&((decide (was.2.2.2.1.2.1=0))&&((decide (was.2.2.2.1.2.2.1=0))&&((was.2.2.2.1.2.2.2==false)&&((decide (was.2.2.2.2.1.1=0))&&((decide (was.2.2.2.2.1.2=0))&&((decide (was.2.2.2.2.2.1=0))&&((decide (was.2.2.2.2.2.2.1=0))&&(decide (was.2.2.2.2.2.2.2=0))))))))))))))))) (
 some (s,(0:Int))) (
 tif ((decide (was.1=j))) (
 some (s,(0:Int))) (
 tif ((decide (j<was.1))) (
 some (([],([],[])),(1:Int))) (
 none)))))) fun r2 =>
 tif ((!(decide (r0.2=0)))) (
 some (([],([],[])),r0.2)) (
 tif ((!((decide (was.1=0))&&((decide (was.2.1=0))&&((decide (was.2.2.1.1=0))&&((decide (was.2.2.1.2.1=0))&&((decide (was.2.2.1.2.2.1=0))&&((was.2.2.1.2.2.2==false)&&((decide (was.2.2.2.1.1=0))&&((decide (was.2.2.2.1.2.1=0))&&((decide (was.2.2.2.1.2.2.1=0))&&((was.2.2.2.1.2.2.2==false)&&((decide (was.2.2.2.2.1.1=0))&&((decide (was.2.2.2.2.1.2=0))&&((decide (was.2.2.2.2.2.1=0))&&((decide (was.2.2.2.2.2.2.1=0))&&(decide (was.2.2.2.2.2.2.2=0)))))))))))))))))) (
 obind (tier_Fits n was.2 c.2.1.1 was.1) fun r3 =>
 tif ((!r3)) (
 some (([],([],[])),(2:Int))) (
 tif (((decide (was.1=0))&&((decide (was.2.1=0))&&((decide (was.2.2.1.1=0))&&((decide (was.2.2.1.2.1=0))&&((decide (was.2.2.1.2.2.1=0))&&((was.2.2.1.2.2.2==false)&&((decide (was.2.2.2.1.1=0))&&((decide (was.2.2.2.1.2.1=0))&&((decide (was.2.2.2.1.2.2.1=0))&&((was.2.2.2.1.2.2.2==false)&&((decide (was.2.2.2.2.1.1=0))&&((decide (was.2.2.2.2.1.2=0))&&((decide (was.2.2.2.2.2.1=0))&&((decide (was.2.2.2.2.2.2.1=0))&&(decide (was.2.2.2.2.2.2.2=0))))))))))))))))) (
 some (s,(0:Int))) (
 tif ((decide (was.1=j))) (
 some (s,(0:Int))) (
 tif ((decide (j<was.1))) (
 some (([],([],[])),(1:Int))) (
 obind (fdst_begins n r2 (0:Int) j) fun r4 =>
 tif ((!r4.1)) (
 some (([],([],[])),(1:Int))) (
 obind (fdst_put n r4.2 (0:Int) was.1 was.2) fun r5 =>
 tif ((!(decide (r5.1=0)))) (
 some (([],([],[])),r5.1)) (
 obind (fdst_up n r5.2 was.1 j) fun r6 =>
 some (r6.2,(0:Int))))))))) (
 tif (((decide (was.1=0))&&((decide (was.2.1=0))&&((decide (was.2.2.1.1=0))&&((decide (was.2.2.1.2.1=0))&&((decide (was.2.2.1.2.2.1=0))&&((was.2.2.1.2.2.2==false)&&((decide (was.2.2.2.1.1=0))&&((decide (was.2.2.2.1.2.1=0))&&((decide (was.2.2.2.1.2.2.1=0))&&((was.2.2.2.1.2.2.2==false)&&((decide (was.2.2.2.2.1.1=0))&&((decide (was.2.2.2.2.1.2=0))&&((decide (was.2.2.2.2.2.1=0))&&((decide (was.2.2.2.2.2.2.1=0))&&(decide (was.2.2.2.2.2.2.2=0))))))))))))))))) (
 some (s,(0:Int))) (
 tif ((decide (was.1=j))) (
 some (s,(0:Int))) (
 tif ((decide (j<was.1))) (
 some (([],([],[])),(1:Int))) (
 obind (fdst_begins n r2 (0:Int) j) fun r7 =>
 tif ((!r7.1)) (
 some (([],([],[])),(1:Int))) (
 obind (fdst_put n r7.2 (0:Int) was.1 was.2) fun r8 =>
 tif ((!(decide (r8.1=0)))) (
 some (([],([],[])),r8.1)) (
 obind (fdst_up n r8.2 was.1 j) fun r9 =>
 some (r9.2,(0:Int))))))))):=by kernel_rfl
theorem raw_Put_eq (n:Nat) (r:(Int×(Int×(List TEvent)))) (room:Int) (e:TEvent):raw_Put (n+1) r room e =
 obind (raw_Check n r room) fun r0 =>
 tif ((!(decide (r0=0)))) (
 some (((0:Int),((0:Int),[])),(2:Int))) (
 obind (event_Check n e) fun r1 =>
 tif ((!(decide (r1=0)))) (
 some (((0:Int),((0:Int),[])),(2:Int))) (
 obind (raw_Last n r) fun r2 =>
 tif ((decide (r2.2=0))) (
 obind (event_Follow n r2.1 e) fun r3 =>
 tif ((!r3)) (
 some (((0:Int),((0:Int),[])),(9:Int))) (
 tif ((decide ((((List.length r.2.2):Nat):Int)=room))) (
 tif ((decide (r.1=70368744177664))) (
 some (((0:Int),((0:Int),[])),(1:Int))) (
 obind (raw_open n r.2.2 room) fun r4 =>
 oelim (r4.1) (
 tif ((!(decide (r4.2=0)))) (
 some (((0:Int),((0:Int),[])),r4.2)) (
 none)) fun r5 =>
 tif ((!(decide (r4.2=0)))) (
 some (((0:Int),((0:Int),[])),r4.2)) (
 obind (rg_Put n r5 e) fun r6 =>
 tif (r6.2.1) (
 obind (rg_All n r6.2.2) fun r7 =>
 some (((IntKind.wrap .i64 (r.1+1)),(r6.1.1,r7.1)),(0:Int))) (
 obind (rg_All n r6.2.2) fun r8 =>
 some ((r.1,(r.2.1,r8.1)),(0:Int)))))) (
 obind (raw_open n r.2.2 room) fun r9 =>
 oelim (r9.1) (
 tif ((!(decide (r9.2=0)))) (
 some (((0:Int),((0:Int),[])),r9.2)) (
 none)) fun r10 =>
 tif ((!(decide (r9.2=0)))) (
 some (((0:Int),((0:Int),[])),r9.2)) (
 obind (rg_Put n r10 e) fun r11 =>
 tif (r11.2.1) (
 obind (rg_All n r11.2.2) fun r12 =>
 some (((IntKind.wrap .i64 (r.1+1)),(r11.1.1,r12.1)),(0:Int))) (
 obind (rg_All n r11.2.2) fun r13 =>
 some ((r.1,(r.2.1,r13.1)),(0:Int))))))) (
 tif ((decide ((((List.length r.2.2):Nat):Int)=room))) (
 tif ((decide (r.1=70368744177664))) (
 some (((0:Int),((0:Int),[])),(1:Int))) (
 obind (raw_open n r.2.2 room) fun r14 =>
 oelim (r14.1) (
 tif ((!(decide (r14.2=0)))) (
 some (((0:Int),((0:Int),[])),r14.2)) (
 none)) fun r15 =>
 tif ((!(decide (r14.2=0)))) (
 some (((0:Int),((0:Int),[])),r14.2)) (
 obind (rg_Put n r15 e) fun r16 =>
 tif (r16.2.1) (
 obind (rg_All n r16.2.2) fun r17 =>
 some (((IntKind.wrap .i64 (r.1+1)),(r16.1.1,r17.1)),(0:Int))) (
 obind (rg_All n r16.2.2) fun r18 =>
 some ((r.1,(r.2.1,r18.1)),(0:Int)))))) (
 obind (raw_open n r.2.2 room) fun r19 =>
 oelim (r19.1) (
 tif ((!(decide (r19.2=0)))) (
 some (((0:Int),((0:Int),[])),r19.2)) (
 none)) fun r20 =>
 tif ((!(decide (r19.2=0)))) (
 some (((0:Int),((0:Int),[])),r19.2)) (
 obind (rg_Put n r20 e) fun r21 =>
 tif (r21.2.1) (
 obind (rg_All n r21.2.2) fun r22 =>
 some (((IntKind.wrap .i64 (r.1+1)),(r21.1.1,r22.1)),(0:Int))) (
 obind (rg_All n r21.2.2) fun r23 =>
 some ((r.1,(r.2.1,r23.1)),(0:Int)))))))):=by kernel_rfl
theorem cell_Add_eq (n:Nat) (c:TCell) (e:TEvent):cell_Add (n+1) c e =
 obind (event_Check n e) fun r0 =>
 tif ((!(decide (r0=0)))) (
 some (((0:Int),(((0:Int),((0:Int),((0:Int),false))),(((0:Int),((0:Int),((0:Int),false))),(((0:Int),(0:Int)),((0:Int),((0:Int),(0:Int))))))),r0)) (
 obind (cell_one n e) fun r1 =>
 obind (cell_Merge n c r1) fun r2 =>
 some r2):=by kernel_rfl
theorem sl_IndexFunc_Slot_eq (n:Nat) (s:(List TSlot)) (f_:((TSlot×Unit)→Option Bool)):sl_IndexFunc_Slot (n+1) s f_ =
 obind (sl_IndexFunc_Slot_l2 n loopFuel (s,(f_,((((List.length s):Nat):Int),((0:Int),()))))) fun r0 =>
 selim (fun y1 =>
 some ((-1):Int)) (fun z2 =>
 some z2) r0:=by kernel_rfl
theorem sl_IndexFunc_Slot_l2_eq (n f:Nat) (s:(List TSlot)) (f_:((TSlot×Unit)→Option Bool)) (s7:Int) (s8:Int):sl_IndexFunc_Slot_l2 n (f+1) (s,f_,s7,s8,()) =
 tif ((decide (s8<s7))) (
 obind (at? s s8) fun r0 =>
 obind (f_ (r0,())) fun r1 =>
 tif (r1) (
 some (.inr s8)) (
 sl_IndexFunc_Slot_l2 n f (s,(f_,(s7,((IntKind.wrap .i64 (s8+1)),())))))) (
 some (.inl ())):=by kernel_rfl
theorem sl_stab_eq (n:Nat) (data:(List TSlot)) (n_:Int) (cmp:((TSlot×(TSlot×Unit))→Option Int)):sl_stab (n+1) data n_ cmp =
 obind (sl_stab_l2 n loopFuel (data,(n_,(cmp,((20:Int),((0:Int),((20:Int),()))))))) fun r0 =>
 selim (fun y1 =>
 obind (sl_insS n y1.1 y1.2.2.2.2.1 y1.2.1 y1.2.2.1) fun r2 =>
 obind (sl_stab_l7 n loopFuel (r2,(y1.2.1,(y1.2.2.1,(y1.2.2.2.1,()))))) fun r3 =>
 selim (fun y4 =>
 some y4.1) (fun z5 =>
 some z5) r3) (fun z6 =>
 some z6) r0:=by kernel_rfl
theorem sl_stab_l2_eq (n f:Nat) (data:(List TSlot)) (n_:Int) (cmp:((TSlot×(TSlot×Unit))→Option Int)) (blockSize:Int) (a:Int) (b:Int):sl_stab_l2 n (f+1) (data,n_,cmp,blockSize,a,b,()) =
 tif ((decide (b≤n_))) (
 obind (sl_insS n data a b cmp) fun r0 =>
 sl_stab_l2 n f (r0,(n_,(cmp,(blockSize,(b,((IntKind.wrap .i64 (b+blockSize)),()))))))) (
 some (.inl (data,(n_,(cmp,(blockSize,(a,()))))))):=by kernel_rfl
theorem sl_stab_l7_eq (n f:Nat) (data:(List TSlot)) (n_:Int) (cmp:((TSlot×(TSlot×Unit))→Option Int)) (blockSize:Int):sl_stab_l7 n (f+1) (data,n_,cmp,blockSize,()) =
 tif ((decide (blockSize<n_))) (
 obind (sl_stab_l9 n loopFuel (data,(n_,(cmp,(blockSize,((0:Int),((IntKind.wrap .i64 ((2:Int)*blockSize)),()))))))) fun r0 =>
 selim (fun y1 =>
 tif ((decide ((IntKind.wrap .i64 (y1.2.2.2.2.1+y1.2.2.2.1))<y1.2.1))) (
 obind (sl_symM n y1.1 y1.2.2.2.2.1 (IntKind.wrap .i64 (y1.2.2.2.2.1+y1.2.2.2.1)) y1.2.1 y1.2.2.1) fun r2 =>
 sl_stab_l7 n f (r2,(y1.2.1,(y1.2.2.1,((IntKind.wrap .i64 (y1.2.2.2.1*2)),()))))) (
 sl_stab_l7 n f (y1.1,(y1.2.1,(y1.2.2.1,((IntKind.wrap .i64 (y1.2.2.2.1*2)),())))))) (fun z3 =>
 some (.inr z3)) r0) (
 some (.inl (data,()))):=by kernel_rfl
theorem sl_stab_l9_eq (n f:Nat) (data:(List TSlot)) (n_:Int) (cmp:((TSlot×(TSlot×Unit))→Option Int)) (blockSize:Int) (a:Int) (b:Int):sl_stab_l9 n (f+1) (data,n_,cmp,blockSize,a,b,()) =
 tif ((decide (b≤n_))) (
 obind (sl_symM n data a (IntKind.wrap .i64 (a+blockSize)) b cmp) fun r0 =>
 sl_stab_l9 n f (r0,(n_,(cmp,(blockSize,(b,((IntKind.wrap .i64 (b+(IntKind.wrap .i64 ((2:Int)*blockSize)))),()))))))) (
 some (.inl (data,(n_,(cmp,(blockSize,(a,()))))))):=by kernel_rfl
theorem cmp_isNaN_int64_eq (n:Nat) (x:Int):cmp_isNaN_int64 (n+1) x =
 some (!(decide (x=x))):=by kernel_rfl
theorem r13_Same_eq (n:Nat) (a:(List TSlot)) (b:(List TSlot)):r13_Same (n+1) a b =
 tif ((!(decide ((((List.length a):Nat):Int)=(((List.length b):Nat):Int))))) (
 some false) (
 obind (r13_Same_l4 n loopFuel (a,(b,((((List.length a):Nat):Int),((0:Int),()))))) fun r0 =>
 selim (fun y1 =>
 some true) (fun z2 =>
 some z2) r0):=by kernel_rfl
theorem r13_Same_l4_eq (n f:Nat) (a:(List TSlot)) (b:(List TSlot)) (s12:Int) (s13:Int):r13_Same_l4 n (f+1) (a,b,s12,s13,()) =
 tif ((decide (s13<s12))) (
 obind (at? a s13) fun r0 =>
 obind (at? b s13) fun r1 =>
 tif ((!((decide (r0.1=r1.1))&&((decide (r0.2.1=r1.2.1))&&((decide (r0.2.2.1.1=r1.2.2.1.1))&&((decide (r0.2.2.1.2.1=r1.2.2.1.2.1))&&((decide (r0.2.2.1.2.2.1=r1.2.2.1.2.2.1))&&((r0.2.2.1.2.2.2==r1.2.2.1.2.2.2)&&((decide (r0.2.2.2.1.1=r1.2.2.2.1.1))&&((decide (r0.2.2.2.1.2.1=r1.2.2.2.1.2.1))&&((decide (r0.2.2.2.1.2.2.1=r1.2.2.2.1.2.2.1))&&((r0.2.2.2.1.2.2.2==r1.2.2.2.1.2.2.2)&&((decide (r0.2.2.2.2.1.1=r1.2.2.2.2.1.1))&&((decide (r0.2.2.2.2.1.2=r1.2.2.2.2.1.2))&&((decide (r0.2.2.2.2.2.1=r1.2.2.2.2.2.1))&&((decide (r0.2.2.2.2.2.2.1=r1.2.2.2.2.2.2.1))&&(decide (r0.2.2.2.2.2.2.2=r1.2.2.2.2.2.2.2)))))))))))))))))) (
 some (.inr false)) (
 r13_Same_l4 n f (a,(b,(s12,((IntKind.wrap .i64 (s13+1)),())))))) (
 some (.inl ())):=by kernel_rfl
theorem r10_parts_eq (n:Nat) (n_:Int) (each:Int):r10_parts (n+1) n_ each =
 obind (r10_parts_l2 n loopFuel (n_,(each,((0:Int),())))) fun r0 =>
 selim (fun y1 =>
 some y1.1) (fun z2 =>
 some z2) r0:=by kernel_rfl
theorem r10_parts_l2_eq (n f:Nat) (n_:Int) (each:Int) (k:Int):r10_parts_l2 n (f+1) (n_,each,k,()) =
 tif ((decide ((0:Int)<n_))) (
 r10_parts_l2 n f ((IntKind.wrap .i64 (n_-each)),(each,((IntKind.wrap .i64 (k+1)),())))) (
 some (.inl (k,()))):=by kernel_rfl
theorem r01_Bytes_eq (n:Nat) (a:(Int×Int)):r01_Bytes (n+1) a =
 some ((IntKind.wrap .i64 (andI .u64 (shrI .u64 a.2 (0:Int)) (255:Int))),((IntKind.wrap .i64 (andI .u64 (shrI .u64 a.2 (8:Int)) (255:Int))),((IntKind.wrap .i64 (andI .u64 (shrI .u64 a.2 (16:Int)) (255:Int))),((IntKind.wrap .i64 (andI .u64 (shrI .u64 a.2 (24:Int)) (255:Int))),((IntKind.wrap .i64 (andI .u64 (shrI .u64 a.2 (32:Int)) (255:Int))),((IntKind.wrap .i64 (andI .u64 (shrI .u64 a.2 (40:Int)) (255:Int))),((IntKind.wrap .i64 (andI .u64 (shrI .u64 a.2 (48:Int)) (255:Int))),((IntKind.wrap .i64 (andI .u64 (shrI .u64 a.2 (56:Int)) (255:Int))),((IntKind.wrap .i64 (andI .u64 (shrI .u64 a.1 (0:Int)) (255:Int))),((IntKind.wrap .i64 (andI .u64 (shrI .u64 a.1 (8:Int)) (255:Int))),((IntKind.wrap .i64 (andI .u64 (shrI .u64 a.1 (16:Int)) (255:Int))),((IntKind.wrap .i64 (andI .u64 (shrI .u64 a.1 (24:Int)) (255:Int))),((IntKind.wrap .i64 (andI .u64 (shrI .u64 a.1 (32:Int)) (255:Int))),((IntKind.wrap .i64 (andI .u64 (shrI .u64 a.1 (40:Int)) (255:Int))),((IntKind.wrap .i64 (andI .u64 (shrI .u64 a.1 (48:Int)) (255:Int))),(IntKind.wrap .i64 (andI .u64 (shrI .u64 a.1 (56:Int)) (255:Int)))))))))))))))))):=by kernel_rfl
theorem r01_Less_eq (n:Nat) (a:(Int×Int)) (b:(Int×Int)):r01_Less (n+1) a b =
 obind (r01_Bytes n a) fun r0 =>
 obind (r01_Bytes n b) fun r1 =>
 tif ((!(decide (r0.2.2.2.2.2.2.2.2.2.2.2.2.2.2.2=r1.2.2.2.2.2.2.2.2.2.2.2.2.2.2.2)))) (
 some (decide (r0.2.2.2.2.2.2.2.2.2.2.2.2.2.2.2<r1.2.2.2.2.2.2.2.2.2.2.2.2.2.2.2))) (
 tif ((!(decide (r0.2.2.2.2.2.2.2.2.2.2.2.2.2.2.1=r1.2.2.2.2.2.2.2.2.2.2.2.2.2.2.1)))) (
 some (decide (r0.2.2.2.2.2.2.2.2.2.2.2.2.2.2.1<r1.2.2.2.2.2.2.2.2.2.2.2.2.2.2.1))) (
 tif ((!(decide (r0.2.2.2.2.2.2.2.2.2.2.2.2.2.1=r1.2.2.2.2.2.2.2.2.2.2.2.2.2.1)))) (
 some (decide (r0.2.2.2.2.2.2.2.2.2.2.2.2.2.1<r1.2.2.2.2.2.2.2.2.2.2.2.2.2.1))) (
 tif ((!(decide (r0.2.2.2.2.2.2.2.2.2.2.2.2.1=r1.2.2.2.2.2.2.2.2.2.2.2.2.1)))) (
 some (decide (r0.2.2.2.2.2.2.2.2.2.2.2.2.1<r1.2.2.2.2.2.2.2.2.2.2.2.2.1))) (
 tif ((!(decide (r0.2.2.2.2.2.2.2.2.2.2.2.1=r1.2.2.2.2.2.2.2.2.2.2.2.1)))) (
 some (decide (r0.2.2.2.2.2.2.2.2.2.2.2.1<r1.2.2.2.2.2.2.2.2.2.2.2.1))) (
 tif ((!(decide (r0.2.2.2.2.2.2.2.2.2.2.1=r1.2.2.2.2.2.2.2.2.2.2.1)))) (
 some (decide (r0.2.2.2.2.2.2.2.2.2.2.1<r1.2.2.2.2.2.2.2.2.2.2.1))) (
 tif ((!(decide (r0.2.2.2.2.2.2.2.2.2.1=r1.2.2.2.2.2.2.2.2.2.1)))) (
 some (decide (r0.2.2.2.2.2.2.2.2.2.1<r1.2.2.2.2.2.2.2.2.2.1))) (
 tif ((!(decide (r0.2.2.2.2.2.2.2.2.1=r1.2.2.2.2.2.2.2.2.1)))) (
 some (decide (r0.2.2.2.2.2.2.2.2.1<r1.2.2.2.2.2.2.2.2.1))) (
 tif ((!(decide (r0.2.2.2.2.2.2.2.1=r1.2.2.2.2.2.2.2.1)))) (
 some (decide (r0.2.2.2.2.2.2.2.1<r1.2.2.2.2.2.2.2.1))) (
 tif ((!(decide (r0.2.2.2.2.2.2.1=r1.2.2.2.2.2.2.1)))) (
 some (decide (r0.2.2.2.2.2.2.1<r1.2.2.2.2.2.2.1))) (
 tif ((!(decide (r0.2.2.2.2.2.1=r1.2.2.2.2.2.1)))) (
 some (decide (r0.2.2.2.2.2.1<r1.2.2.2.2.2.1))) (
 tif ((!(decide (r0.2.2.2.2.1=r1.2.2.2.2.1)))) (
 some (decide (r0.2.2.2.2.1<r1.2.2.2.2.1))) (
 tif ((!(decide (r0.2.2.2.1=r1.2.2.2.1)))) (
 some (decide (r0.2.2.2.1<r1.2.2.2.1))) (
 tif ((!(decide (r0.2.2.1=r1.2.2.1)))) (
 some (decide (r0.2.2.1<r1.2.2.1))) (
 tif ((!(decide (r0.2.1=r1.2.1)))) (
 some (decide (r0.2.1<r1.2.1))) (
 tif ((!(decide (r0.1=r1.1)))) (
 some (decide (r0.1<r1.1))) (
 some false)))))))))))))))):=by kernel_rfl
theorem r01_Sub_eq (n:Nat) (a:(Int×Int)) (b:(Int×Int)):r01_Sub (n+1) a b =
 obind (r01_Less n a b) fun r0 =>
 tif (r0) (
 some (((0:Int),(0:Int)),(1:Int))) (
 obind (r01_Bytes n a) fun r1 =>
 obind (r01_Bytes n b) fun r2 =>
 tif ((decide (16=((((((((((((((((1+1)+1)+1)+1)+1)+1)+1)+1)+1)+1)+1)+1)+1)+1)+1) / 1)))) (
 tif ((decide (16=((((((((((((((((1+1)+1)+1)+1)+1)+1)+1)+1)+1)+1)+1)+1)+1)+1)+1) / 1)))) (
 obind (r01_Sub_l6 n loopFuel (((0:Int),(0:Int)),((r1.1::(r1.2.1::(r1.2.2.1::(r1.2.2.2.1::(r1.2.2.2.2.1::(r1.2.2.2.2.2.1::(r1.2.2.2.2.2.2.1::(r1.2.2.2.2.2.2.2.1::(r1.2.2.2.2.2.2.2.2.1::(r1.2.2.2.2.2.2.2.2.2.1::(r1.2.2.2.2.2.2.2.2.2.2.1::(r1.2.2.2.2.2.2.2.2.2.2.2.1::(r1.2.2.2.2.2.2.2.2.2.2.2.2.1::(r1.2.2.2.2.2.2.2.2.2.2.2.2.2.1::(r1.2.2.2.2.2.2.2.2.2.2.2.2.2.2.1::(r1.2.2.2.2.2.2.2.2.2.2.2.2.2.2.2::[])))))))))))))))),((r2.1::(r2.2.1::(r2.2.2.1::(r2.2.2.2.1::(r2.2.2.2.2.1::(r2.2.2.2.2.2.1::(r2.2.2.2.2.2.2.1::(r2.2.2.2.2.2.2.2.1::(r2.2.2.2.2.2.2.2.2.1::(r2.2.2.2.2.2.2.2.2.2.1::(r2.2.2.2.2.2.2.2.2.2.2.1::(r2.2.2.2.2.2.2.2.2.2.2.2.1::(r2.2.2.2.2.2.2.2.2.2.2.2.2.1::(r2.2.2.2.2.2.2.2.2.2.2.2.2.2.1::(r2.2.2.2.2.2.2.2.2.2.2.2.2.2.2.1::(r2.2.2.2.2.2.2.2.2.2.2.2.2.2.2.2::[])))))))))))))))),((0:Int),((0:Int),())))))) fun r3 =>
 selim (fun y4 =>
 obind ((y4.2.1)[0]?) fun r5 =>
 obind ((y4.2.1)[1]?) fun r6 =>
 obind ((y4.2.1)[2]?) fun r7 =>
 obind ((y4.2.1)[3]?) fun r8 =>
 obind ((y4.2.1)[4]?) fun r9 =>
 obind ((y4.2.1)[5]?) fun r10 =>
 obind ((y4.2.1)[6]?) fun r11 =>
 obind ((y4.2.1)[7]?) fun r12 =>
 obind ((y4.2.1)[8]?) fun r13 =>
 obind ((y4.2.1)[9]?) fun r14 =>
 obind ((y4.2.1)[10]?) fun r15 =>
 obind ((y4.2.1)[11]?) fun r16 =>
 obind ((y4.2.1)[12]?) fun r17 =>
 obind ((y4.2.1)[13]?) fun r18 =>
 obind ((y4.2.1)[14]?) fun r19 =>
 obind ((y4.2.1)[15]?) fun r20 =>
 obind (r01_Of n (r5,(r6,(r7,(r8,(r9,(r10,(r11,(r12,(r13,(r14,(r15,(r16,(r17,(r18,(r19,r20)))))))))))))))) fun r21 =>
 some (r21,(0:Int))) (fun z22 =>
 some z22) r3) (
 none)) (
 none)):=by kernel_rfl
theorem r01_Sub_l6_eq (n f:Nat) (s4:(Int×Int)) (x:(List Int)) (y:(List Int)) (owed:Int) (s19:Int):r01_Sub_l6 n (f+1) (s4,x,y,owed,s19,()) =
 tif ((decide (s19<16))) (
 tif (((decide ((0:Int)≤s19))&&((decide (s19<16))&&(decide (s19<(((List.length x):Nat):Int)))))) (
 obind ((x)[(Int.toNat s19)]?) fun r0 =>
 tif (((decide ((0:Int)≤s19))&&((decide (s19<16))&&(decide (s19<(((List.length y):Nat):Int)))))) (
 obind ((y)[(Int.toNat s19)]?) fun r1 =>
 tif ((decide ((IntKind.wrap .i64 ((IntKind.wrap .i64 (r0-r1))-owed))<0))) (
 tif (((decide ((0:Int)≤s19))&&((decide (s19<16))&&(decide (s19<(((List.length x):Nat):Int)))))) (
 obind ((x)[(Int.toNat s19)]?) fun r2 =>
 r01_Sub_l6 n f (s4,((List.set x (Int.toNat s19) (IntKind.wrap .i64 ((IntKind.wrap .i64 ((IntKind.wrap .i64 (r0-r1))-owed))+256))),(y,((1:Int),((IntKind.wrap .i64 (s19+1)),())))))) (
 none)) (
 tif (((decide ((0:Int)≤s19))&&((decide (s19<16))&&(decide (s19<(((List.length x):Nat):Int)))))) (
 obind ((x)[(Int.toNat s19)]?) fun r3 =>
 r01_Sub_l6 n f (s4,((List.set x (Int.toNat s19) (IntKind.wrap .i64 ((IntKind.wrap .i64 (r0-r1))-owed))),(y,((0:Int),((IntKind.wrap .i64 (s19+1)),())))))) (
 none))) (
 none)) (
 none)) (
 some (.inl (s4,(x,())))):=by kernel_rfl
theorem r01_Of_eq (n:Nat) (l:(Int×(Int×(Int×(Int×(Int×(Int×(Int×(Int×(Int×(Int×(Int×(Int×(Int×(Int×(Int×Int)))))))))))))))):r01_Of (n+1) l =
 some ((orI .u64 (orI .u64 (orI .u64 (orI .u64 (orI .u64 (orI .u64 (orI .u64 (orI .u64 (0:Int) (shlI .u64 (IntKind.wrap .u64 l.2.2.2.2.2.2.2.2.1) (0:Int))) (shlI .u64 (IntKind.wrap .u64 l.2.2.2.2.2.2.2.2.2.1) (8:Int))) (shlI .u64 (IntKind.wrap .u64 l.2.2.2.2.2.2.2.2.2.2.1) (16:Int))) (shlI .u64 (IntKind.wrap .u64 l.2.2.2.2.2.2.2.2.2.2.2.1) (24:Int))) (shlI .u64 (IntKind.wrap .u64 l.2.2.2.2.2.2.2.2.2.2.2.2.1) (32:Int))) (shlI .u64 (IntKind.wrap .u64 l.2.2.2.2.2.2.2.2.2.2.2.2.2.1) (40:Int))) (shlI .u64 (IntKind.wrap .u64 l.2.2.2.2.2.2.2.2.2.2.2.2.2.2.1) (48:Int))) (shlI .u64 (IntKind.wrap .u64 l.2.2.2.2.2.2.2.2.2.2.2.2.2.2.2) (56:Int))),(orI .u64 (orI .u64 (orI .u64 (orI .u64 (orI .u64 (orI .u64 (orI .u64 (orI .u64 (0:Int) (shlI .u64 (IntKind.wrap .u64 l.1) (0:Int))) (shlI .u64 (IntKind.wrap .u64 l.2.1) (8:Int))) (shlI .u64 (IntKind.wrap .u64 l.2.2.1) (16:Int))) (shlI .u64 (IntKind.wrap .u64 l.2.2.2.1) (24:Int))) (shlI .u64 (IntKind.wrap .u64 l.2.2.2.2.1) (32:Int))) (shlI .u64 (IntKind.wrap .u64 l.2.2.2.2.2.1) (40:Int))) (shlI .u64 (IntKind.wrap .u64 l.2.2.2.2.2.2.1) (48:Int))) (shlI .u64 (IntKind.wrap .u64 l.2.2.2.2.2.2.2.1) (56:Int)))):=by kernel_rfl
theorem r09_Slot_eq (n:Nat) (i:Int) (n_:Int):r09_Slot (n+1) i n_ =
 tif ((decide (i<0))) (
 some (0:Int)) (
 tif ((decide (n_<1))) (
 some (0:Int)) (
 tif ((decide (n_=0))) (
 none) (
 some (Int.tmod i n_)))):=by kernel_rfl
theorem conf_parts_eq (n:Nat) (n_:Int) (by_:Int):conf_parts (n+1) n_ by_ =
 tif ((decide (by_=0))) (
 none) (
 some (IntKind.wrap .i64 (Int.tdiv (IntKind.wrap .i64 ((IntKind.wrap .i64 (n_+by_))-1)) by_))):=by kernel_rfl
theorem raw_Same_eq (n:Nat) (a:(Int×(Int×(List TEvent)))) (b:(Int×(Int×(List TEvent)))):raw_Same (n+1) a b =
 tif ((decide (a.1=b.1))) (
 tif ((decide (a.2.1=b.2.1))) (
 obind (sl_Equal_Event n a.2.2 b.2.2) fun r0 =>
 some r0) (
 some false)) (
 some false):=by kernel_rfl
theorem sl_Equal_Slot_eq (n:Nat) (s1:(List TSlot)) (s2:(List TSlot)):sl_Equal_Slot (n+1) s1 s2 =
 tif ((!(decide ((((List.length s1):Nat):Int)=(((List.length s2):Nat):Int))))) (
 some false) (
 obind (sl_Equal_Slot_l4 n loopFuel (s1,(s2,((((List.length s1):Nat):Int),((0:Int),()))))) fun r0 =>
 selim (fun y1 =>
 some true) (fun z2 =>
 some z2) r0):=by kernel_rfl
theorem sl_Equal_Slot_l4_eq (n f:Nat) (s1:(List TSlot)) (s2:(List TSlot)) (s12:Int) (s13:Int):sl_Equal_Slot_l4 n (f+1) (s1,s2,s12,s13,()) =
 tif ((decide (s13<s12))) (
 obind (at? s1 s13) fun r0 =>
 obind (at? s2 s13) fun r1 =>
 tif ((!((decide (r0.1=r1.1))&&((decide (r0.2.1=r1.2.1))&&((decide (r0.2.2.1.1=r1.2.2.1.1))&&((decide (r0.2.2.1.2.1=r1.2.2.1.2.1))&&((decide (r0.2.2.1.2.2.1=r1.2.2.1.2.2.1))&&((r0.2.2.1.2.2.2==r1.2.2.1.2.2.2)&&((decide (r0.2.2.2.1.1=r1.2.2.2.1.1))&&((decide (r0.2.2.2.1.2.1=r1.2.2.2.1.2.1))&&((decide (r0.2.2.2.1.2.2.1=r1.2.2.2.1.2.2.1))&&((r0.2.2.2.1.2.2.2==r1.2.2.2.1.2.2.2)&&((decide (r0.2.2.2.2.1.1=r1.2.2.2.2.1.1))&&((decide (r0.2.2.2.2.1.2=r1.2.2.2.2.1.2))&&((decide (r0.2.2.2.2.2.1=r1.2.2.2.2.2.1))&&((decide (r0.2.2.2.2.2.2.1=r1.2.2.2.2.2.2.1))&&(decide (r0.2.2.2.2.2.2.2=r1.2.2.2.2.2.2.2)))))))))))))))))) (
 some (.inr false)) (
 sl_Equal_Slot_l4 n f (s1,(s2,(s12,((IntKind.wrap .i64 (s13+1)),())))))) (
 some (.inl ())):=by kernel_rfl
theorem label_digit_eq (n:Nat) (c:Int):label_digit (n+1) c =
 tif ((decide ((48:Int)≤c))) (
 some (decide (c≤57))) (
 some false):=by kernel_rfl
theorem sl_ContainsFunc_byte_eq (n:Nat) (s:(List Int)) (f_:((Int×Unit)→Option Bool)):sl_ContainsFunc_byte (n+1) s f_ =
 obind (sl_IndexFunc_byte n s f_) fun r0 =>
 some (decide ((0:Int)≤r0)):=by kernel_rfl
theorem label_name_1_eq (n:Nat) (c:Int):label_name_1 (n+1) c =
 obind (label_sign n c) fun r0 =>
 some (!r0):=by kernel_rfl
theorem label_sign_eq (n:Nat) (c:Int):label_sign (n+1) c =
 obind (label_digit n c) fun r0 =>
 tif (r0) (
 some true) (
 tif ((decide (c=95))) (
 some true) (
 tif ((decide ((97:Int)≤(orI .u8 c (32:Int))))) (
 some (decide ((orI .u8 c (32:Int))≤122))) (
 some false))):=by kernel_rfl
theorem tier_Fold_eq (n:Nat) (l:(List TSlot)) (i:Int) (k:Int):tier_Fold (n+1) l i k =
 tif ((decide (i<0))) (
 some (((0:Int),(((0:Int),((0:Int),((0:Int),false))),(((0:Int),((0:Int),((0:Int),false))),(((0:Int),(0:Int)),((0:Int),((0:Int),(0:Int))))))),(1:Int))) (
 tif ((decide (k<i))) (
 some (((0:Int),(((0:Int),((0:Int),((0:Int),false))),(((0:Int),((0:Int),((0:Int),false))),(((0:Int),(0:Int)),((0:Int),((0:Int),(0:Int))))))),(1:Int))) (
 obind (tier_All n l) fun r0 =>
 obind (tier_Fold_l5 n loopFuel (i,(k,(((0:Int),(((0:Int),((0:Int),((0:Int),false))),(((0:Int),((0:Int),((0:Int),false))),(((0:Int),(0:Int)),((0:Int),((0:Int),(0:Int))))))),([],(r0,((((List.length r0):Nat):Int),((0:Int),())))))))) fun r1 =>
 selim (fun y2 =>
 obind (cell_All n y2.2.1) fun r3 =>
 some r3) (fun z4 =>
 some z4) r1)):=by kernel_rfl
theorem tier_Fold_l5_eq (n f:Nat) (i:Int) (k:Int) (s6:TCell) (cells:(List TCell)) (s20:(List TSlot)) (s21:Int) (s22:Int):tier_Fold_l5 n (f+1) (i,k,s6,cells,s20,s21,s22,()) =
 tif ((decide (s22<s21))) (
 obind (at? s20 s22) fun r0 =>
 tif ((decide (i≤r0.1))) (
 tif ((decide (r0.1<k))) (
 tif ((decide ((((List.length cells)+1)*112)≤140737488355328))) (
 tier_Fold_l5 n f (i,(k,(s6,((cells++(r0.2::[])),(s20,(s21,((IntKind.wrap .i64 (s22+1)),())))))))) (
 none)) (
 tier_Fold_l5 n f (i,(k,(s6,(cells,(s20,(s21,((IntKind.wrap .i64 (s22+1)),()))))))))) (
 tier_Fold_l5 n f (i,(k,(s6,(cells,(s20,(s21,((IntKind.wrap .i64 (s22+1)),()))))))))) (
 some (.inl (s6,(cells,())))):=by kernel_rfl
theorem srk_now_eq_0 (n:Nat) (s:Tseries_kept):srk_now (n+1) s (0:Int) =
 some (s.2.2.2.2.2.2,(0:Int)):=by kernel_rfl
theorem srk_now_eq_1 (n:Nat) (s:Tseries_kept):srk_now (n+1) s (1:Int) =
 tif ((decide (s.1.2.1.2.1=0))) (
 none) (
 tif ((decide (s.1.2.1.1=0))) (
 none) (
 tif ((decide (s.1.2.1.1=0))) (
 none) (
 obind (tier_Fold n s.2.2.2.2.1.1 (IntKind.wrap .i64 ((IntKind.wrap .i64 (Int.tdiv s.2.2.1 s.1.2.1.2.1))*(IntKind.wrap .i64 (Int.tdiv s.1.2.1.2.1 s.1.2.1.1)))) (IntKind.wrap .i64 (Int.tdiv s.2.2.1 s.1.2.1.1))) fun r0 =>
 obind (srk_now n s (0:Int)) fun r1 =>
 tif ((!(decide (r0.2=0)))) (
 some (((0:Int),(((0:Int),((0:Int),((0:Int),false))),(((0:Int),((0:Int),((0:Int),false))),(((0:Int),(0:Int)),((0:Int),((0:Int),(0:Int))))))),(if r0.2<r1.2 then r1.2 else r0.2))) (
 tif ((!(decide (r1.2=0)))) (
 some (((0:Int),(((0:Int),((0:Int),((0:Int),false))),(((0:Int),((0:Int),((0:Int),false))),(((0:Int),(0:Int)),((0:Int),((0:Int),(0:Int))))))),(if r0.2<r1.2 then r1.2 else r0.2))) (
 obind (cell_Merge n r0.1 r1.1) fun r2 =>
 some r2))))):=by kernel_rfl
theorem srk_now_eq_2 (n:Nat) (s:Tseries_kept):srk_now (n+1) s (2:Int) =
 tif ((decide (s.1.2.1.2.2=0))) (
 none) (
 tif ((decide (s.1.2.1.2.1=0))) (
 none) (
 tif ((decide (s.1.2.1.2.1=0))) (
 none) (
 obind (tier_Fold n s.2.2.2.2.1.2.1 (IntKind.wrap .i64 ((IntKind.wrap .i64 (Int.tdiv s.2.2.1 s.1.2.1.2.2))*(IntKind.wrap .i64 (Int.tdiv s.1.2.1.2.2 s.1.2.1.2.1)))) (IntKind.wrap .i64 (Int.tdiv s.2.2.1 s.1.2.1.2.1))) fun r0 =>
 obind (srk_now n s (1:Int)) fun r1 =>
 tif ((!(decide (r0.2=0)))) (
 some (((0:Int),(((0:Int),((0:Int),((0:Int),false))),(((0:Int),((0:Int),((0:Int),false))),(((0:Int),(0:Int)),((0:Int),((0:Int),(0:Int))))))),(if r0.2<r1.2 then r1.2 else r0.2))) (
 tif ((!(decide (r1.2=0)))) (
 some (((0:Int),(((0:Int),((0:Int),((0:Int),false))),(((0:Int),((0:Int),((0:Int),false))),(((0:Int),(0:Int)),((0:Int),((0:Int),(0:Int))))))),(if r0.2<r1.2 then r1.2 else r0.2))) (
 obind (cell_Merge n r0.1 r1.1) fun r2 =>
 some r2))))):=by kernel_rfl
theorem bits_tz64_eq (n:Nat) (x:Int):bits_tz64 (n+1) x =
 tif ((decide (x=0))) (
 some (64:Int)) (
 obind (at? ((0:Int)::((1:Int)::((56:Int)::((2:Int)::((57:Int)::((49:Int)::((28:Int)::((3:Int)::((61:Int)::((58:Int)::((42:Int)::((50:Int)::((38:Int)::((29:Int)::((17:Int)::((4:Int)::((62:Int)::((47:Int)::((59:Int)::((36:Int)::((45:Int)::((43:Int)::((51:Int)::((22:Int)::((53:Int)::((39:Int)::((33:Int)::((30:Int)::((24:Int)::((18:Int)::((12:Int)::((5:Int)::((63:Int)::((55:Int)::((48:Int)::((27:Int)::((60:Int)::((41:Int)::((37:Int)::((16:Int)::((46:Int)::((35:Int)::((44:Int)::((21:Int)::((52:Int)::((32:Int)::((23:Int)::((11:Int)::((54:Int)::((26:Int)::((40:Int)::((15:Int)::((34:Int)::((20:Int)::((31:Int)::((10:Int)::((25:Int)::((14:Int)::((19:Int)::((9:Int)::((13:Int)::((8:Int)::((7:Int)::((6:Int)::[])))))))))))))))))))))))))))))))))))))))))))))))))))))))))))))))) (shrI .u64 (IntKind.wrap .u64 ((285870213051353865:Int)*(andI .u64 x (IntKind.wrap .u64 ((0:Int)-x))))) (58:Int))) fun r0 =>
 some (IntKind.wrap .i64 r0)):=by kernel_rfl
theorem wide_Sub_eq (n:Nat) (a:(Int×Int)) (b:(Int×Int)):wide_Sub (n+1) a b =
 tif ((((decide ((0:Int)≤a.2))&&(decide ((0:Int)≤b.2)))&&((decide (b.2<18446744073709551616))&&true))) (
 tif ((((decide ((0:Int)≤a.1))&&(decide ((0:Int)≤b.1)))&&((decide (b.1<18446744073709551616))&&((decide ((0:Int)≤(if a.2<(b.2+0) then (1:Int) else (0:Int))))&&(decide ((if a.2<(b.2+0) then (1:Int) else (0:Int))≤1)))))) (
 obind (wide_sure n ((((a.1-b.1)-(if a.2<(b.2+0) then (1:Int) else (0:Int))) % (18446744073709551616:Int)),(((a.2-b.2)-0) % (18446744073709551616:Int))) (if a.1<(b.1+(if a.2<(b.2+0) then (1:Int) else (0:Int))) then (1:Int) else (0:Int))) fun r0 =>
 some r0) (
 none)) (
 none):=by kernel_rfl
theorem math_bits_Len64_eq (n:Nat) (x:Int):math_bits_Len64 (n+1) x =
 tif ((decide ((4294967296:Int)≤x))) (
 tif ((decide ((65536:Int)≤(shrI .u64 x (32:Int))))) (
 tif ((decide ((256:Int)≤(shrI .u64 (shrI .u64 x (32:Int)) (16:Int))))) (
 obind (at? ((((0:UInt8)::((1:UInt8)::((2:UInt8)::((2:UInt8)::((3:UInt8)::((3:UInt8)::((3:UInt8)::((3:UInt8)::((4:UInt8)::((4:UInt8)::((4:UInt8)::((4:UInt8)::((4:UInt8)::((4:UInt8)::((4:UInt8)::((4:UInt8)::((5:UInt8)::((5:UInt8)::((5:UInt8)::((5:UInt8)::((5:UInt8)::((5:UInt8)::((5:UInt8)::((5:UInt8)::((5:UInt8)::((5:UInt8)::((5:UInt8)::((5:UInt8)::((5:UInt8)::((5:UInt8)::((5:UInt8)::((5:UInt8)::((6:UInt8)::((6:UInt8)::((6:UInt8)::((6:UInt8)::((6:UInt8)::((6:UInt8)::((6:UInt8)::((6:UInt8)::((6:UInt8)::((6:UInt8)::((6:UInt8)::((6:UInt8)::((6:UInt8)::((6:UInt8)::((6:UInt8)::((6:UInt8)::((6:UInt8)::((6:UInt8)::((6:UInt8)::((6:UInt8)::((6:UInt8)::((6:UInt8)::((6:UInt8)::((6:UInt8)::((6:UInt8)::((6:UInt8)::((6:UInt8)::((6:UInt8)::((6:UInt8)::((6:UInt8)::((6:UInt8)::((6:UInt8)::[]))))))))))))))))))))))))))))))))))))))))))))))))))))))))))))))))++((7:UInt8)::((7:UInt8)::((7:UInt8)::((7:UInt8)::((7:UInt8)::((7:UInt8)::((7:UInt8)::((7:UInt8)::((7:UInt8)::((7:UInt8)::((7:UInt8)::((7:UInt8)::((7:UInt8)::((7:UInt8)::((7:UInt8)::((7:UInt8)::((7:UInt8)::((7:UInt8)::((7:UInt8)::((7:UInt8)::((7:UInt8)::((7:UInt8)::((7:UInt8)::((7:UInt8)::((7:UInt8)::((7:UInt8)::((7:UInt8)::((7:UInt8)::((7:UInt8)::((7:UInt8)::((7:UInt8)::((7:UInt8)::((7:UInt8)::((7:UInt8)::((7:UInt8)::((7:UInt8)::((7:UInt8)::((7:UInt8)::((7:UInt8)::((7:UInt8)::((7:UInt8)::((7:UInt8)::((7:UInt8)::((7:UInt8)::((7:UInt8)::((7:UInt8)::((7:UInt8)::((7:UInt8)::((7:UInt8)::((7:UInt8)::((7:UInt8)::((7:UInt8)::((7:UInt8)::((7:UInt8)::((7:UInt8)::((7:UInt8)::((7:UInt8)::((7:UInt8)::((7:UInt8)::((7:UInt8)::((7:UInt8)::((7:UInt8)::((7:UInt8)::((7:UInt8)::[])))))))))))))))))))))))))))))))))))))))))))))))))))))))))))))))))++(((8:UInt8)::((8:UInt8)::((8:UInt8)::((8:UInt8)::((8:UInt8)::((8:UInt8)::((8:UInt8)::((8:UInt8)::((8:UInt8)::((8:UInt8)::((8:UInt8)::((8:UInt8)::((8:UInt8)::((8:UInt8)::((8:UInt8)::((8:UInt8)::((8:UInt8)::((8:UInt8)::((8:UInt8)::((8:UInt8)::((8:UInt8)::((8:UInt8)::((8:UInt8)::((8:UInt8)::((8:UInt8)::((8:UInt8)::((8:UInt8)::((8:UInt8)::((8:UInt8)::((8:UInt8)::((8:UInt8)::((8:UInt8)::((8:UInt8)::((8:UInt8)::((8:UInt8)::((8:UInt8)::((8:UInt8)::((8:UInt8)::((8:UInt8)::((8:UInt8)::((8:UInt8)::((8:UInt8)::((8:UInt8)::((8:UInt8)::((8:UInt8)::((8:UInt8)::((8:UInt8)::((8:UInt8)::((8:UInt8)::((8:UInt8)::((8:UInt8)::((8:UInt8)::((8:UInt8)::((8:UInt8)::((8:UInt8)::((8:UInt8)::((8:UInt8)::((8:UInt8)::((8:UInt8)::((8:UInt8)::((8:UInt8)::((8:UInt8)::((8:UInt8)::((8:UInt8)::[]))))))))))))))))))))))))))))))))))))))))))))))))))))))))))))))))++((8:UInt8)::((8:UInt8)::((8:UInt8)::((8:UInt8)::((8:UInt8)::((8:UInt8)::((8:UInt8)::((8:UInt8)::((8:UInt8)::((8:UInt8)::((8:UInt8)::((8:UInt8)::((8:UInt8)::((8:UInt8)::((8:UInt8)::((8:UInt8)::((8:UInt8)::((8:UInt8)::((8:UInt8)::((8:UInt8)::((8:UInt8)::((8:UInt8)::((8:UInt8)::((8:UInt8)::((8:UInt8)::((8:UInt8)::((8:UInt8)::((8:UInt8)::((8:UInt8)::((8:UInt8)::((8:UInt8)::((8:UInt8)::((8:UInt8)::((8:UInt8)::((8:UInt8)::((8:UInt8)::((8:UInt8)::((8:UInt8)::((8:UInt8)::((8:UInt8)::((8:UInt8)::((8:UInt8)::((8:UInt8)::((8:UInt8)::((8:UInt8)::((8:UInt8)::((8:UInt8)::((8:UInt8)::((8:UInt8)::((8:UInt8)::((8:UInt8)::((8:UInt8)::((8:UInt8)::((8:UInt8)::((8:UInt8)::((8:UInt8)::((8:UInt8)::((8:UInt8)::((8:UInt8)::((8:UInt8)::((8:UInt8)::((8:UInt8)::((8:UInt8)::((8:UInt8)::[])))))))))))))))))))))))))))))))))))))))))))))))))))))))))))))))))) (IntKind.wrap .u8 (shrI .u64 (shrI .u64 (shrI .u64 x (32:Int)) (16:Int)) (8:Int)))) fun r0 =>
 some (IntKind.wrap .i64 ((56:Int)+(IntKind.wrap .i64 (((UInt8.toNat r0):Nat):Int))))) (
 obind (at? ((((0:UInt8)::((1:UInt8)::((2:UInt8)::((2:UInt8)::((3:UInt8)::((3:UInt8)::((3:UInt8)::((3:UInt8)::((4:UInt8)::((4:UInt8)::((4:UInt8)::((4:UInt8)::((4:UInt8)::((4:UInt8)::((4:UInt8)::((4:UInt8)::((5:UInt8)::((5:UInt8)::((5:UInt8)::((5:UInt8)::((5:UInt8)::((5:UInt8)::((5:UInt8)::((5:UInt8)::((5:UInt8)::((5:UInt8)::((5:UInt8)::((5:UInt8)::((5:UInt8)::((5:UInt8)::((5:UInt8)::((5:UInt8)::((6:UInt8)::((6:UInt8)::((6:UInt8)::((6:UInt8)::((6:UInt8)::((6:UInt8)::((6:UInt8)::((6:UInt8)::((6:UInt8)::((6:UInt8)::((6:UInt8)::((6:UInt8)::((6:UInt8)::((6:UInt8)::((6:UInt8)::((6:UInt8)::((6:UInt8)::((6:UInt8)::((6:UInt8)::((6:UInt8)::((6:UInt8)::((6:UInt8)::((6:UInt8)::((6:UInt8)::((6:UInt8)::((6:UInt8)::((6:UInt8)::((6:UInt8)::((6:UInt8)::((6:UInt8)::((6:UInt8)::((6:UInt8)::[]))))))))))))))))))))))))))))))))))))))))))))))))))))))))))))))))++((7:UInt8)::((7:UInt8)::((7:UInt8)::((7:UInt8)::((7:UInt8)::((7:UInt8)::((7:UInt8)::((7:UInt8)::((7:UInt8)::((7:UInt8)::((7:UInt8)::((7:UInt8)::((7:UInt8)::((7:UInt8)::((7:UInt8)::((7:UInt8)::((7:UInt8)::((7:UInt8)::((7:UInt8)::((7:UInt8)::((7:UInt8)::((7:UInt8)::((7:UInt8)::((7:UInt8)::((7:UInt8)::((7:UInt8)::((7:UInt8)::((7:UInt8)::((7:UInt8)::((7:UInt8)::((7:UInt8)::((7:UInt8)::((7:UInt8)::((7:UInt8)::((7:UInt8)::((7:UInt8)::((7:UInt8)::((7:UInt8)::((7:UInt8)::((7:UInt8)::((7:UInt8)::((7:UInt8)::((7:UInt8)::((7:UInt8)::((7:UInt8)::((7:UInt8)::((7:UInt8)::((7:UInt8)::((7:UInt8)::((7:UInt8)::((7:UInt8)::((7:UInt8)::((7:UInt8)::((7:UInt8)::((7:UInt8)::((7:UInt8)::((7:UInt8)::((7:UInt8)::((7:UInt8)::((7:UInt8)::((7:UInt8)::((7:UInt8)::((7:UInt8)::((7:UInt8)::[])))))))))))))))))))))))))))))))))))))))))))))))))))))))))))))))))++(((8:UInt8)::((8:UInt8)::((8:UInt8)::((8:UInt8)::((8:UInt8)::((8:UInt8)::((8:UInt8)::((8:UInt8)::((8:UInt8)::((8:UInt8)::((8:UInt8)::((8:UInt8)::((8:UInt8)::((8:UInt8)::((8:UInt8)::((8:UInt8)::((8:UInt8)::((8:UInt8)::((8:UInt8)::((8:UInt8)::((8:UInt8)::((8:UInt8)::((8:UInt8)::((8:UInt8)::((8:UInt8)::((8:UInt8)::((8:UInt8)::((8:UInt8)::((8:UInt8)::((8:UInt8)::((8:UInt8)::((8:UInt8)::((8:UInt8)::((8:UInt8)::((8:UInt8)::((8:UInt8)::((8:UInt8)::((8:UInt8)::((8:UInt8)::((8:UInt8)::((8:UInt8)::((8:UInt8)::((8:UInt8)::((8:UInt8)::((8:UInt8)::((8:UInt8)::((8:UInt8)::((8:UInt8)::((8:UInt8)::((8:UInt8)::((8:UInt8)::((8:UInt8)::((8:UInt8)::((8:UInt8)::((8:UInt8)::((8:UInt8)::((8:UInt8)::((8:UInt8)::((8:UInt8)::((8:UInt8)::((8:UInt8)::((8:UInt8)::((8:UInt8)::((8:UInt8)::[]))))))))))))))))))))))))))))))))))))))))))))))))))))))))))))))))++((8:UInt8)::((8:UInt8)::((8:UInt8)::((8:UInt8)::((8:UInt8)::((8:UInt8)::((8:UInt8)::((8:UInt8)::((8:UInt8)::((8:UInt8)::((8:UInt8)::((8:UInt8)::((8:UInt8)::((8:UInt8)::((8:UInt8)::((8:UInt8)::((8:UInt8)::((8:UInt8)::((8:UInt8)::((8:UInt8)::((8:UInt8)::((8:UInt8)::((8:UInt8)::((8:UInt8)::((8:UInt8)::((8:UInt8)::((8:UInt8)::((8:UInt8)::((8:UInt8)::((8:UInt8)::((8:UInt8)::((8:UInt8)::((8:UInt8)::((8:UInt8)::((8:UInt8)::((8:UInt8)::((8:UInt8)::((8:UInt8)::((8:UInt8)::((8:UInt8)::((8:UInt8)::((8:UInt8)::((8:UInt8)::((8:UInt8)::((8:UInt8)::((8:UInt8)::((8:UInt8)::((8:UInt8)::((8:UInt8)::((8:UInt8)::((8:UInt8)::((8:UInt8)::((8:UInt8)::((8:UInt8)::((8:UInt8)::((8:UInt8)::((8:UInt8)::((8:UInt8)::((8:UInt8)::((8:UInt8)::((8:UInt8)::((8:UInt8)::((8:UInt8)::((8:UInt8)::[])))))))))))))))))))))))))))))))))))))))))))))))))))))))))))))))))) (IntKind.wrap .u8 (shrI .u64 (shrI .u64 x (32:Int)) (16:Int)))) fun r1 =>
 some (IntKind.wrap .i64 ((48:Int)+(IntKind.wrap .i64 (((UInt8.toNat r1):Nat):Int)))))) (
 tif ((decide ((256:Int)≤(shrI .u64 x (32:Int))))) (
 obind (at? ((((0:UInt8)::((1:UInt8)::((2:UInt8)::((2:UInt8)::((3:UInt8)::((3:UInt8)::((3:UInt8)::((3:UInt8)::((4:UInt8)::((4:UInt8)::((4:UInt8)::((4:UInt8)::((4:UInt8)::((4:UInt8)::((4:UInt8)::((4:UInt8)::((5:UInt8)::((5:UInt8)::((5:UInt8)::((5:UInt8)::((5:UInt8)::((5:UInt8)::((5:UInt8)::((5:UInt8)::((5:UInt8)::((5:UInt8)::((5:UInt8)::((5:UInt8)::((5:UInt8)::((5:UInt8)::((5:UInt8)::((5:UInt8)::((6:UInt8)::((6:UInt8)::((6:UInt8)::((6:UInt8)::((6:UInt8)::((6:UInt8)::((6:UInt8)::((6:UInt8)::((6:UInt8)::((6:UInt8)::((6:UInt8)::((6:UInt8)::((6:UInt8)::((6:UInt8)::((6:UInt8)::((6:UInt8)::((6:UInt8)::((6:UInt8)::((6:UInt8)::((6:UInt8)::((6:UInt8)::((6:UInt8)::((6:UInt8)::((6:UInt8)::((6:UInt8)::((6:UInt8)::((6:UInt8)::((6:UInt8)::((6:UInt8)::((6:UInt8)::((6:UInt8)::((6:UInt8)::[]))))))))))))))))))))))))))))))))))))))))))))))))))))))))))))))))++((7:UInt8)::((7:UInt8)::((7:UInt8)::((7:UInt8)::((7:UInt8)::((7:UInt8)::((7:UInt8)::((7:UInt8)::((7:UInt8)::((7:UInt8)::((7:UInt8)::((7:UInt8)::((7:UInt8)::((7:UInt8)::((7:UInt8)::((7:UInt8)::((7:UInt8)::((7:UInt8)::((7:UInt8)::((7:UInt8)::((7:UInt8)::((7:UInt8)::((7:UInt8)::((7:UInt8)::((7:UInt8)::((7:UInt8)::((7:UInt8)::((7:UInt8)::((7:UInt8)::((7:UInt8)::((7:UInt8)::((7:UInt8)::((7:UInt8)::((7:UInt8)::((7:UInt8)::((7:UInt8)::((7:UInt8)::((7:UInt8)::((7:UInt8)::((7:UInt8)::((7:UInt8)::((7:UInt8)::((7:UInt8)::((7:UInt8)::((7:UInt8)::((7:UInt8)::((7:UInt8)::((7:UInt8)::((7:UInt8)::((7:UInt8)::((7:UInt8)::((7:UInt8)::((7:UInt8)::((7:UInt8)::((7:UInt8)::((7:UInt8)::((7:UInt8)::((7:UInt8)::((7:UInt8)::((7:UInt8)::((7:UInt8)::((7:UInt8)::((7:UInt8)::((7:UInt8)::[])))))))))))))))))))))))))))))))))))))))))))))))))))))))))))))))))++(((8:UInt8)::((8:UInt8)::((8:UInt8)::((8:UInt8)::((8:UInt8)::((8:UInt8)::((8:UInt8)::((8:UInt8)::((8:UInt8)::((8:UInt8)::((8:UInt8)::((8:UInt8)::((8:UInt8)::((8:UInt8)::((8:UInt8)::((8:UInt8)::((8:UInt8)::((8:UInt8)::((8:UInt8)::((8:UInt8)::((8:UInt8)::((8:UInt8)::((8:UInt8)::((8:UInt8)::((8:UInt8)::((8:UInt8)::((8:UInt8)::((8:UInt8)::((8:UInt8)::((8:UInt8)::((8:UInt8)::((8:UInt8)::((8:UInt8)::((8:UInt8)::((8:UInt8)::((8:UInt8)::((8:UInt8)::((8:UInt8)::((8:UInt8)::((8:UInt8)::((8:UInt8)::((8:UInt8)::((8:UInt8)::((8:UInt8)::((8:UInt8)::((8:UInt8)::((8:UInt8)::((8:UInt8)::((8:UInt8)::((8:UInt8)::((8:UInt8)::((8:UInt8)::((8:UInt8)::((8:UInt8)::((8:UInt8)::((8:UInt8)::((8:UInt8)::((8:UInt8)::((8:UInt8)::((8:UInt8)::((8:UInt8)::((8:UInt8)::((8:UInt8)::((8:UInt8)::[]))))))))))))))))))))))))))))))))))))))))))))))))))))))))))))))))++((8:UInt8)::((8:UInt8)::((8:UInt8)::((8:UInt8)::((8:UInt8)::((8:UInt8)::((8:UInt8)::((8:UInt8)::((8:UInt8)::((8:UInt8)::((8:UInt8)::((8:UInt8)::((8:UInt8)::((8:UInt8)::((8:UInt8)::((8:UInt8)::((8:UInt8)::((8:UInt8)::((8:UInt8)::((8:UInt8)::((8:UInt8)::((8:UInt8)::((8:UInt8)::((8:UInt8)::((8:UInt8)::((8:UInt8)::((8:UInt8)::((8:UInt8)::((8:UInt8)::((8:UInt8)::((8:UInt8)::((8:UInt8)::((8:UInt8)::((8:UInt8)::((8:UInt8)::((8:UInt8)::((8:UInt8)::((8:UInt8)::((8:UInt8)::((8:UInt8)::((8:UInt8)::((8:UInt8)::((8:UInt8)::((8:UInt8)::((8:UInt8)::((8:UInt8)::((8:UInt8)::((8:UInt8)::((8:UInt8)::((8:UInt8)::((8:UInt8)::((8:UInt8)::((8:UInt8)::((8:UInt8)::((8:UInt8)::((8:UInt8)::((8:UInt8)::((8:UInt8)::((8:UInt8)::((8:UInt8)::((8:UInt8)::((8:UInt8)::((8:UInt8)::((8:UInt8)::[])))))))))))))))))))))))))))))))))))))))))))))))))))))))))))))))))) (IntKind.wrap .u8 (shrI .u64 (shrI .u64 x (32:Int)) (8:Int)))) fun r2 =>
 some (IntKind.wrap .i64 ((40:Int)+(IntKind.wrap .i64 (((UInt8.toNat r2):Nat):Int))))) (
 obind (at? ((((0:UInt8)::((1:UInt8)::((2:UInt8)::((2:UInt8)::((3:UInt8)::((3:UInt8)::((3:UInt8)::((3:UInt8)::((4:UInt8)::((4:UInt8)::((4:UInt8)::((4:UInt8)::((4:UInt8)::((4:UInt8)::((4:UInt8)::((4:UInt8)::((5:UInt8)::((5:UInt8)::((5:UInt8)::((5:UInt8)::((5:UInt8)::((5:UInt8)::((5:UInt8)::((5:UInt8)::((5:UInt8)::((5:UInt8)::((5:UInt8)::((5:UInt8)::((5:UInt8)::((5:UInt8)::((5:UInt8)::((5:UInt8)::((6:UInt8)::((6:UInt8)::((6:UInt8)::((6:UInt8)::((6:UInt8)::((6:UInt8)::((6:UInt8)::((6:UInt8)::((6:UInt8)::((6:UInt8)::((6:UInt8)::((6:UInt8)::((6:UInt8)::((6:UInt8)::((6:UInt8)::((6:UInt8)::((6:UInt8)::((6:UInt8)::((6:UInt8)::((6:UInt8)::((6:UInt8)::((6:UInt8)::((6:UInt8)::((6:UInt8)::((6:UInt8)::((6:UInt8)::((6:UInt8)::((6:UInt8)::((6:UInt8)::((6:UInt8)::((6:UInt8)::((6:UInt8)::[]))))))))))))))))))))))))))))))))))))))))))))))))))))))))))))))))++((7:UInt8)::((7:UInt8)::((7:UInt8)::((7:UInt8)::((7:UInt8)::((7:UInt8)::((7:UInt8)::((7:UInt8)::((7:UInt8)::((7:UInt8)::((7:UInt8)::((7:UInt8)::((7:UInt8)::((7:UInt8)::((7:UInt8)::((7:UInt8)::((7:UInt8)::((7:UInt8)::((7:UInt8)::((7:UInt8)::((7:UInt8)::((7:UInt8)::((7:UInt8)::((7:UInt8)::((7:UInt8)::((7:UInt8)::((7:UInt8)::((7:UInt8)::((7:UInt8)::((7:UInt8)::((7:UInt8)::((7:UInt8)::((7:UInt8)::((7:UInt8)::((7:UInt8)::((7:UInt8)::((7:UInt8)::((7:UInt8)::((7:UInt8)::((7:UInt8)::((7:UInt8)::((7:UInt8)::((7:UInt8)::((7:UInt8)::((7:UInt8)::((7:UInt8)::((7:UInt8)::((7:UInt8)::((7:UInt8)::((7:UInt8)::((7:UInt8)::((7:UInt8)::((7:UInt8)::((7:UInt8)::((7:UInt8)::((7:UInt8)::((7:UInt8)::((7:UInt8)::((7:UInt8)::((7:UInt8)::((7:UInt8)::((7:UInt8)::((7:UInt8)::((7:UInt8)::[])))))))))))))))))))))))))))))))))))))))))))))))))))))))))))))))))++(((8:UInt8)::((8:UInt8)::((8:UInt8)::((8:UInt8)::((8:UInt8)::((8:UInt8)::((8:UInt8)::((8:UInt8)::((8:UInt8)::((8:UInt8)::((8:UInt8)::((8:UInt8)::((8:UInt8)::((8:UInt8)::((8:UInt8)::((8:UInt8)::((8:UInt8)::((8:UInt8)::((8:UInt8)::((8:UInt8)::((8:UInt8)::((8:UInt8)::((8:UInt8)::((8:UInt8)::((8:UInt8)::((8:UInt8)::((8:UInt8)::((8:UInt8)::((8:UInt8)::((8:UInt8)::((8:UInt8)::((8:UInt8)::((8:UInt8)::((8:UInt8)::((8:UInt8)::((8:UInt8)::((8:UInt8)::((8:UInt8)::((8:UInt8)::((8:UInt8)::((8:UInt8)::((8:UInt8)::((8:UInt8)::((8:UInt8)::((8:UInt8)::((8:UInt8)::((8:UInt8)::((8:UInt8)::((8:UInt8)::((8:UInt8)::((8:UInt8)::((8:UInt8)::((8:UInt8)::((8:UInt8)::((8:UInt8)::((8:UInt8)::((8:UInt8)::((8:UInt8)::((8:UInt8)::((8:UInt8)::((8:UInt8)::((8:UInt8)::((8:UInt8)::((8:UInt8)::[]))))))))))))))))))))))))))))))))))))))))))))))))))))))))))))))))++((8:UInt8)::((8:UInt8)::((8:UInt8)::((8:UInt8)::((8:UInt8)::((8:UInt8)::((8:UInt8)::((8:UInt8)::((8:UInt8)::((8:UInt8)::((8:UInt8)::((8:UInt8)::((8:UInt8)::((8:UInt8)::((8:UInt8)::((8:UInt8)::((8:UInt8)::((8:UInt8)::((8:UInt8)::((8:UInt8)::((8:UInt8)::((8:UInt8)::((8:UInt8)::((8:UInt8)::((8:UInt8)::((8:UInt8)::((8:UInt8)::((8:UInt8)::((8:UInt8)::((8:UInt8)::((8:UInt8)::((8:UInt8)::((8:UInt8)::((8:UInt8)::((8:UInt8)::((8:UInt8)::((8:UInt8)::((8:UInt8)::((8:UInt8)::((8:UInt8)::((8:UInt8)::((8:UInt8)::((8:UInt8)::((8:UInt8)::((8:UInt8)::((8:UInt8)::((8:UInt8)::((8:UInt8)::((8:UInt8)::((8:UInt8)::((8:UInt8)::((8:UInt8)::((8:UInt8)::((8:UInt8)::((8:UInt8)::((8:UInt8)::((8:UInt8)::((8:UInt8)::((8:UInt8)::((8:UInt8)::((8:UInt8)::((8:UInt8)::((8:UInt8)::((8:UInt8)::[])))))))))))))))))))))))))))))))))))))))))))))))))))))))))))))))))) (IntKind.wrap .u8 (shrI .u64 x (32:Int)))) fun r3 =>
 some (IntKind.wrap .i64 ((32:Int)+(IntKind.wrap .i64 (((UInt8.toNat r3):Nat):Int))))))) (
 tif ((decide ((65536:Int)≤x))) (
 tif ((decide ((256:Int)≤(shrI .u64 x (16:Int))))) (
 obind (at? ((((0:UInt8)::((1:UInt8)::((2:UInt8)::((2:UInt8)::((3:UInt8)::((3:UInt8)::((3:UInt8)::((3:UInt8)::((4:UInt8)::((4:UInt8)::((4:UInt8)::((4:UInt8)::((4:UInt8)::((4:UInt8)::((4:UInt8)::((4:UInt8)::((5:UInt8)::((5:UInt8)::((5:UInt8)::((5:UInt8)::((5:UInt8)::((5:UInt8)::((5:UInt8)::((5:UInt8)::((5:UInt8)::((5:UInt8)::((5:UInt8)::((5:UInt8)::((5:UInt8)::((5:UInt8)::((5:UInt8)::((5:UInt8)::((6:UInt8)::((6:UInt8)::((6:UInt8)::((6:UInt8)::((6:UInt8)::((6:UInt8)::((6:UInt8)::((6:UInt8)::((6:UInt8)::((6:UInt8)::((6:UInt8)::((6:UInt8)::((6:UInt8)::((6:UInt8)::((6:UInt8)::((6:UInt8)::((6:UInt8)::((6:UInt8)::((6:UInt8)::((6:UInt8)::((6:UInt8)::((6:UInt8)::((6:UInt8)::((6:UInt8)::((6:UInt8)::((6:UInt8)::((6:UInt8)::((6:UInt8)::((6:UInt8)::((6:UInt8)::((6:UInt8)::((6:UInt8)::[]))))))))))))))))))))))))))))))))))))))))))))))))))))))))))))))))++((7:UInt8)::((7:UInt8)::((7:UInt8)::((7:UInt8)::((7:UInt8)::((7:UInt8)::((7:UInt8)::((7:UInt8)::((7:UInt8)::((7:UInt8)::((7:UInt8)::((7:UInt8)::((7:UInt8)::((7:UInt8)::((7:UInt8)::((7:UInt8)::((7:UInt8)::((7:UInt8)::((7:UInt8)::((7:UInt8)::((7:UInt8)::((7:UInt8)::((7:UInt8)::((7:UInt8)::((7:UInt8)::((7:UInt8)::((7:UInt8)::((7:UInt8)::((7:UInt8)::((7:UInt8)::((7:UInt8)::((7:UInt8)::((7:UInt8)::((7:UInt8)::((7:UInt8)::((7:UInt8)::((7:UInt8)::((7:UInt8)::((7:UInt8)::((7:UInt8)::((7:UInt8)::((7:UInt8)::((7:UInt8)::((7:UInt8)::((7:UInt8)::((7:UInt8)::((7:UInt8)::((7:UInt8)::((7:UInt8)::((7:UInt8)::((7:UInt8)::((7:UInt8)::((7:UInt8)::((7:UInt8)::((7:UInt8)::((7:UInt8)::((7:UInt8)::((7:UInt8)::((7:UInt8)::((7:UInt8)::((7:UInt8)::((7:UInt8)::((7:UInt8)::((7:UInt8)::[])))))))))))))))))))))))))))))))))))))))))))))))))))))))))))))))))++(((8:UInt8)::((8:UInt8)::((8:UInt8)::((8:UInt8)::((8:UInt8)::((8:UInt8)::((8:UInt8)::((8:UInt8)::((8:UInt8)::((8:UInt8)::((8:UInt8)::((8:UInt8)::((8:UInt8)::((8:UInt8)::((8:UInt8)::((8:UInt8)::((8:UInt8)::((8:UInt8)::((8:UInt8)::((8:UInt8)::((8:UInt8)::((8:UInt8)::((8:UInt8)::((8:UInt8)::((8:UInt8)::((8:UInt8)::((8:UInt8)::((8:UInt8)::((8:UInt8)::((8:UInt8)::((8:UInt8)::((8:UInt8)::((8:UInt8)::((8:UInt8)::((8:UInt8)::((8:UInt8)::((8:UInt8)::((8:UInt8)::((8:UInt8)::((8:UInt8)::((8:UInt8)::((8:UInt8)::((8:UInt8)::((8:UInt8)::((8:UInt8)::((8:UInt8)::((8:UInt8)::((8:UInt8)::((8:UInt8)::((8:UInt8)::((8:UInt8)::((8:UInt8)::((8:UInt8)::((8:UInt8)::((8:UInt8)::((8:UInt8)::((8:UInt8)::((8:UInt8)::((8:UInt8)::((8:UInt8)::((8:UInt8)::((8:UInt8)::((8:UInt8)::((8:UInt8)::[]))))))))))))))))))))))))))))))))))))))))))))))))))))))))))))))))++((8:UInt8)::((8:UInt8)::((8:UInt8)::((8:UInt8)::((8:UInt8)::((8:UInt8)::((8:UInt8)::((8:UInt8)::((8:UInt8)::((8:UInt8)::((8:UInt8)::((8:UInt8)::((8:UInt8)::((8:UInt8)::((8:UInt8)::((8:UInt8)::((8:UInt8)::((8:UInt8)::((8:UInt8)::((8:UInt8)::((8:UInt8)::((8:UInt8)::((8:UInt8)::((8:UInt8)::((8:UInt8)::((8:UInt8)::((8:UInt8)::((8:UInt8)::((8:UInt8)::((8:UInt8)::((8:UInt8)::((8:UInt8)::((8:UInt8)::((8:UInt8)::((8:UInt8)::((8:UInt8)::((8:UInt8)::((8:UInt8)::((8:UInt8)::((8:UInt8)::((8:UInt8)::((8:UInt8)::((8:UInt8)::((8:UInt8)::((8:UInt8)::((8:UInt8)::((8:UInt8)::((8:UInt8)::((8:UInt8)::((8:UInt8)::((8:UInt8)::((8:UInt8)::((8:UInt8)::((8:UInt8)::((8:UInt8)::((8:UInt8)::((8:UInt8)::((8:UInt8)::((8:UInt8)::((8:UInt8)::((8:UInt8)::((8:UInt8)::((8:UInt8)::((8:UInt8)::[])))))))))))))))))))))))))))))))))))))))))))))))))))))))))))))))))) (IntKind.wrap .u8 (shrI .u64 (shrI .u64 x (16:Int)) (8:Int)))) fun r4 =>
 some (IntKind.wrap .i64 ((24:Int)+(IntKind.wrap .i64 (((UInt8.toNat r4):Nat):Int))))) (
 obind (at? ((((0:UInt8)::((1:UInt8)::((2:UInt8)::((2:UInt8)::((3:UInt8)::((3:UInt8)::((3:UInt8)::((3:UInt8)::((4:UInt8)::((4:UInt8)::((4:UInt8)::((4:UInt8)::((4:UInt8)::((4:UInt8)::((4:UInt8)::((4:UInt8)::((5:UInt8)::((5:UInt8)::((5:UInt8)::((5:UInt8)::((5:UInt8)::((5:UInt8)::((5:UInt8)::((5:UInt8)::((5:UInt8)::((5:UInt8)::((5:UInt8)::((5:UInt8)::((5:UInt8)::((5:UInt8)::((5:UInt8)::((5:UInt8)::((6:UInt8)::((6:UInt8)::((6:UInt8)::((6:UInt8)::((6:UInt8)::((6:UInt8)::((6:UInt8)::((6:UInt8)::((6:UInt8)::((6:UInt8)::((6:UInt8)::((6:UInt8)::((6:UInt8)::((6:UInt8)::((6:UInt8)::((6:UInt8)::((6:UInt8)::((6:UInt8)::((6:UInt8)::((6:UInt8)::((6:UInt8)::((6:UInt8)::((6:UInt8)::((6:UInt8)::((6:UInt8)::((6:UInt8)::((6:UInt8)::((6:UInt8)::((6:UInt8)::((6:UInt8)::((6:UInt8)::((6:UInt8)::[]))))))))))))))))))))))))))))))))))))))))))))))))))))))))))))))))++((7:UInt8)::((7:UInt8)::((7:UInt8)::((7:UInt8)::((7:UInt8)::((7:UInt8)::((7:UInt8)::((7:UInt8)::((7:UInt8)::((7:UInt8)::((7:UInt8)::((7:UInt8)::((7:UInt8)::((7:UInt8)::((7:UInt8)::((7:UInt8)::((7:UInt8)::((7:UInt8)::((7:UInt8)::((7:UInt8)::((7:UInt8)::((7:UInt8)::((7:UInt8)::((7:UInt8)::((7:UInt8)::((7:UInt8)::((7:UInt8)::((7:UInt8)::((7:UInt8)::((7:UInt8)::((7:UInt8)::((7:UInt8)::((7:UInt8)::((7:UInt8)::((7:UInt8)::((7:UInt8)::((7:UInt8)::((7:UInt8)::((7:UInt8)::((7:UInt8)::((7:UInt8)::((7:UInt8)::((7:UInt8)::((7:UInt8)::((7:UInt8)::((7:UInt8)::((7:UInt8)::((7:UInt8)::((7:UInt8)::((7:UInt8)::((7:UInt8)::((7:UInt8)::((7:UInt8)::((7:UInt8)::((7:UInt8)::((7:UInt8)::((7:UInt8)::((7:UInt8)::((7:UInt8)::((7:UInt8)::((7:UInt8)::((7:UInt8)::((7:UInt8)::((7:UInt8)::[])))))))))))))))))))))))))))))))))))))))))))))))))))))))))))))))))++(((8:UInt8)::((8:UInt8)::((8:UInt8)::((8:UInt8)::((8:UInt8)::((8:UInt8)::((8:UInt8)::((8:UInt8)::((8:UInt8)::((8:UInt8)::((8:UInt8)::((8:UInt8)::((8:UInt8)::((8:UInt8)::((8:UInt8)::((8:UInt8)::((8:UInt8)::((8:UInt8)::((8:UInt8)::((8:UInt8)::((8:UInt8)::((8:UInt8)::((8:UInt8)::((8:UInt8)::((8:UInt8)::((8:UInt8)::((8:UInt8)::((8:UInt8)::((8:UInt8)::((8:UInt8)::((8:UInt8)::((8:UInt8)::((8:UInt8)::((8:UInt8)::((8:UInt8)::((8:UInt8)::((8:UInt8)::((8:UInt8)::((8:UInt8)::((8:UInt8)::((8:UInt8)::((8:UInt8)::((8:UInt8)::((8:UInt8)::((8:UInt8)::((8:UInt8)::((8:UInt8)::((8:UInt8)::((8:UInt8)::((8:UInt8)::((8:UInt8)::((8:UInt8)::((8:UInt8)::((8:UInt8)::((8:UInt8)::((8:UInt8)::((8:UInt8)::((8:UInt8)::((8:UInt8)::((8:UInt8)::((8:UInt8)::((8:UInt8)::((8:UInt8)::((8:UInt8)::[]))))))))))))))))))))))))))))))))))))))))))))))))))))))))))))))))++((8:UInt8)::((8:UInt8)::((8:UInt8)::((8:UInt8)::((8:UInt8)::((8:UInt8)::((8:UInt8)::((8:UInt8)::((8:UInt8)::((8:UInt8)::((8:UInt8)::((8:UInt8)::((8:UInt8)::((8:UInt8)::((8:UInt8)::((8:UInt8)::((8:UInt8)::((8:UInt8)::((8:UInt8)::((8:UInt8)::((8:UInt8)::((8:UInt8)::((8:UInt8)::((8:UInt8)::((8:UInt8)::((8:UInt8)::((8:UInt8)::((8:UInt8)::((8:UInt8)::((8:UInt8)::((8:UInt8)::((8:UInt8)::((8:UInt8)::((8:UInt8)::((8:UInt8)::((8:UInt8)::((8:UInt8)::((8:UInt8)::((8:UInt8)::((8:UInt8)::((8:UInt8)::((8:UInt8)::((8:UInt8)::((8:UInt8)::((8:UInt8)::((8:UInt8)::((8:UInt8)::((8:UInt8)::((8:UInt8)::((8:UInt8)::((8:UInt8)::((8:UInt8)::((8:UInt8)::((8:UInt8)::((8:UInt8)::((8:UInt8)::((8:UInt8)::((8:UInt8)::((8:UInt8)::((8:UInt8)::((8:UInt8)::((8:UInt8)::((8:UInt8)::((8:UInt8)::[])))))))))))))))))))))))))))))))))))))))))))))))))))))))))))))))))) (IntKind.wrap .u8 (shrI .u64 x (16:Int)))) fun r5 =>
 some (IntKind.wrap .i64 ((16:Int)+(IntKind.wrap .i64 (((UInt8.toNat r5):Nat):Int)))))) (
 tif ((decide ((256:Int)≤x))) (
 obind (at? ((((0:UInt8)::((1:UInt8)::((2:UInt8)::((2:UInt8)::((3:UInt8)::((3:UInt8)::((3:UInt8)::((3:UInt8)::((4:UInt8)::((4:UInt8)::((4:UInt8)::((4:UInt8)::((4:UInt8)::((4:UInt8)::((4:UInt8)::((4:UInt8)::((5:UInt8)::((5:UInt8)::((5:UInt8)::((5:UInt8)::((5:UInt8)::((5:UInt8)::((5:UInt8)::((5:UInt8)::((5:UInt8)::((5:UInt8)::((5:UInt8)::((5:UInt8)::((5:UInt8)::((5:UInt8)::((5:UInt8)::((5:UInt8)::((6:UInt8)::((6:UInt8)::((6:UInt8)::((6:UInt8)::((6:UInt8)::((6:UInt8)::((6:UInt8)::((6:UInt8)::((6:UInt8)::((6:UInt8)::((6:UInt8)::((6:UInt8)::((6:UInt8)::((6:UInt8)::((6:UInt8)::((6:UInt8)::((6:UInt8)::((6:UInt8)::((6:UInt8)::((6:UInt8)::((6:UInt8)::((6:UInt8)::((6:UInt8)::((6:UInt8)::((6:UInt8)::((6:UInt8)::((6:UInt8)::((6:UInt8)::((6:UInt8)::((6:UInt8)::((6:UInt8)::((6:UInt8)::[]))))))))))))))))))))))))))))))))))))))))))))))))))))))))))))))))++((7:UInt8)::((7:UInt8)::((7:UInt8)::((7:UInt8)::((7:UInt8)::((7:UInt8)::((7:UInt8)::((7:UInt8)::((7:UInt8)::((7:UInt8)::((7:UInt8)::((7:UInt8)::((7:UInt8)::((7:UInt8)::((7:UInt8)::((7:UInt8)::((7:UInt8)::((7:UInt8)::((7:UInt8)::((7:UInt8)::((7:UInt8)::((7:UInt8)::((7:UInt8)::((7:UInt8)::((7:UInt8)::((7:UInt8)::((7:UInt8)::((7:UInt8)::((7:UInt8)::((7:UInt8)::((7:UInt8)::((7:UInt8)::((7:UInt8)::((7:UInt8)::((7:UInt8)::((7:UInt8)::((7:UInt8)::((7:UInt8)::((7:UInt8)::((7:UInt8)::((7:UInt8)::((7:UInt8)::((7:UInt8)::((7:UInt8)::((7:UInt8)::((7:UInt8)::((7:UInt8)::((7:UInt8)::((7:UInt8)::((7:UInt8)::((7:UInt8)::((7:UInt8)::((7:UInt8)::((7:UInt8)::((7:UInt8)::((7:UInt8)::((7:UInt8)::((7:UInt8)::((7:UInt8)::((7:UInt8)::((7:UInt8)::((7:UInt8)::((7:UInt8)::((7:UInt8)::[])))))))))))))))))))))))))))))))))))))))))))))))))))))))))))))))))++(((8:UInt8)::((8:UInt8)::((8:UInt8)::((8:UInt8)::((8:UInt8)::((8:UInt8)::((8:UInt8)::((8:UInt8)::((8:UInt8)::((8:UInt8)::((8:UInt8)::((8:UInt8)::((8:UInt8)::((8:UInt8)::((8:UInt8)::((8:UInt8)::((8:UInt8)::((8:UInt8)::((8:UInt8)::((8:UInt8)::((8:UInt8)::((8:UInt8)::((8:UInt8)::((8:UInt8)::((8:UInt8)::((8:UInt8)::((8:UInt8)::((8:UInt8)::((8:UInt8)::((8:UInt8)::((8:UInt8)::((8:UInt8)::((8:UInt8)::((8:UInt8)::((8:UInt8)::((8:UInt8)::((8:UInt8)::((8:UInt8)::((8:UInt8)::((8:UInt8)::((8:UInt8)::((8:UInt8)::((8:UInt8)::((8:UInt8)::((8:UInt8)::((8:UInt8)::((8:UInt8)::((8:UInt8)::((8:UInt8)::((8:UInt8)::((8:UInt8)::((8:UInt8)::((8:UInt8)::((8:UInt8)::((8:UInt8)::((8:UInt8)::((8:UInt8)::((8:UInt8)::((8:UInt8)::((8:UInt8)::((8:UInt8)::((8:UInt8)::((8:UInt8)::((8:UInt8)::[]))))))))))))))))))))))))))))))))))))))))))))))))))))))))))))))))++((8:UInt8)::((8:UInt8)::((8:UInt8)::((8:UInt8)::((8:UInt8)::((8:UInt8)::((8:UInt8)::((8:UInt8)::((8:UInt8)::((8:UInt8)::((8:UInt8)::((8:UInt8)::((8:UInt8)::((8:UInt8)::((8:UInt8)::((8:UInt8)::((8:UInt8)::((8:UInt8)::((8:UInt8)::((8:UInt8)::((8:UInt8)::((8:UInt8)::((8:UInt8)::((8:UInt8)::((8:UInt8)::((8:UInt8)::((8:UInt8)::((8:UInt8)::((8:UInt8)::((8:UInt8)::((8:UInt8)::((8:UInt8)::((8:UInt8)::((8:UInt8)::((8:UInt8)::((8:UInt8)::((8:UInt8)::((8:UInt8)::((8:UInt8)::((8:UInt8)::((8:UInt8)::((8:UInt8)::((8:UInt8)::((8:UInt8)::((8:UInt8)::((8:UInt8)::((8:UInt8)::((8:UInt8)::((8:UInt8)::((8:UInt8)::((8:UInt8)::((8:UInt8)::((8:UInt8)::((8:UInt8)::((8:UInt8)::((8:UInt8)::((8:UInt8)::((8:UInt8)::((8:UInt8)::((8:UInt8)::((8:UInt8)::((8:UInt8)::((8:UInt8)::((8:UInt8)::[])))))))))))))))))))))))))))))))))))))))))))))))))))))))))))))))))) (IntKind.wrap .u8 (shrI .u64 x (8:Int)))) fun r6 =>
 some (IntKind.wrap .i64 ((8:Int)+(IntKind.wrap .i64 (((UInt8.toNat r6):Nat):Int))))) (
 obind (at? ((((0:UInt8)::((1:UInt8)::((2:UInt8)::((2:UInt8)::((3:UInt8)::((3:UInt8)::((3:UInt8)::((3:UInt8)::((4:UInt8)::((4:UInt8)::((4:UInt8)::((4:UInt8)::((4:UInt8)::((4:UInt8)::((4:UInt8)::((4:UInt8)::((5:UInt8)::((5:UInt8)::((5:UInt8)::((5:UInt8)::((5:UInt8)::((5:UInt8)::((5:UInt8)::((5:UInt8)::((5:UInt8)::((5:UInt8)::((5:UInt8)::((5:UInt8)::((5:UInt8)::((5:UInt8)::((5:UInt8)::((5:UInt8)::((6:UInt8)::((6:UInt8)::((6:UInt8)::((6:UInt8)::((6:UInt8)::((6:UInt8)::((6:UInt8)::((6:UInt8)::((6:UInt8)::((6:UInt8)::((6:UInt8)::((6:UInt8)::((6:UInt8)::((6:UInt8)::((6:UInt8)::((6:UInt8)::((6:UInt8)::((6:UInt8)::((6:UInt8)::((6:UInt8)::((6:UInt8)::((6:UInt8)::((6:UInt8)::((6:UInt8)::((6:UInt8)::((6:UInt8)::((6:UInt8)::((6:UInt8)::((6:UInt8)::((6:UInt8)::((6:UInt8)::((6:UInt8)::[]))))))))))))))))))))))))))))))))))))))))))))))))))))))))))))))))++((7:UInt8)::((7:UInt8)::((7:UInt8)::((7:UInt8)::((7:UInt8)::((7:UInt8)::((7:UInt8)::((7:UInt8)::((7:UInt8)::((7:UInt8)::((7:UInt8)::((7:UInt8)::((7:UInt8)::((7:UInt8)::((7:UInt8)::((7:UInt8)::((7:UInt8)::((7:UInt8)::((7:UInt8)::((7:UInt8)::((7:UInt8)::((7:UInt8)::((7:UInt8)::((7:UInt8)::((7:UInt8)::((7:UInt8)::((7:UInt8)::((7:UInt8)::((7:UInt8)::((7:UInt8)::((7:UInt8)::((7:UInt8)::((7:UInt8)::((7:UInt8)::((7:UInt8)::((7:UInt8)::((7:UInt8)::((7:UInt8)::((7:UInt8)::((7:UInt8)::((7:UInt8)::((7:UInt8)::((7:UInt8)::((7:UInt8)::((7:UInt8)::((7:UInt8)::((7:UInt8)::((7:UInt8)::((7:UInt8)::((7:UInt8)::((7:UInt8)::((7:UInt8)::((7:UInt8)::((7:UInt8)::((7:UInt8)::((7:UInt8)::((7:UInt8)::((7:UInt8)::((7:UInt8)::((7:UInt8)::((7:UInt8)::((7:UInt8)::((7:UInt8)::((7:UInt8)::[])))))))))))))))))))))))))))))))))))))))))))))))))))))))))))))))))++(((8:UInt8)::((8:UInt8)::((8:UInt8)::((8:UInt8)::((8:UInt8)::((8:UInt8)::((8:UInt8)::((8:UInt8)::((8:UInt8)::((8:UInt8)::((8:UInt8)::((8:UInt8)::((8:UInt8)::((8:UInt8)::((8:UInt8)::((8:UInt8)::((8:UInt8)::((8:UInt8)::((8:UInt8)::((8:UInt8)::((8:UInt8)::((8:UInt8)::((8:UInt8)::((8:UInt8)::((8:UInt8)::((8:UInt8)::((8:UInt8)::((8:UInt8)::((8:UInt8)::((8:UInt8)::((8:UInt8)::((8:UInt8)::((8:UInt8)::((8:UInt8)::((8:UInt8)::((8:UInt8)::((8:UInt8)::((8:UInt8)::((8:UInt8)::((8:UInt8)::((8:UInt8)::((8:UInt8)::((8:UInt8)::((8:UInt8)::((8:UInt8)::((8:UInt8)::((8:UInt8)::((8:UInt8)::((8:UInt8)::((8:UInt8)::((8:UInt8)::((8:UInt8)::((8:UInt8)::((8:UInt8)::((8:UInt8)::((8:UInt8)::((8:UInt8)::((8:UInt8)::((8:UInt8)::((8:UInt8)::((8:UInt8)::((8:UInt8)::((8:UInt8)::((8:UInt8)::[]))))))))))))))))))))))))))))))))))))))))))))))))))))))))))))))))++((8:UInt8)::((8:UInt8)::((8:UInt8)::((8:UInt8)::((8:UInt8)::((8:UInt8)::((8:UInt8)::((8:UInt8)::((8:UInt8)::((8:UInt8)::((8:UInt8)::((8:UInt8)::((8:UInt8)::((8:UInt8)::((8:UInt8)::((8:UInt8)::((8:UInt8)::((8:UInt8)::((8:UInt8)::((8:UInt8)::((8:UInt8)::((8:UInt8)::((8:UInt8)::((8:UInt8)::((8:UInt8)::((8:UInt8)::((8:UInt8)::((8:UInt8)::((8:UInt8)::((8:UInt8)::((8:UInt8)::((8:UInt8)::((8:UInt8)::((8:UInt8)::((8:UInt8)::((8:UInt8)::((8:UInt8)::((8:UInt8)::((8:UInt8)::((8:UInt8)::((8:UInt8)::((8:UInt8)::((8:UInt8)::((8:UInt8)::((8:UInt8)::((8:UInt8)::((8:UInt8)::((8:UInt8)::((8:UInt8)::((8:UInt8)::((8:UInt8)::((8:UInt8)::((8:UInt8)::((8:UInt8)::((8:UInt8)::((8:UInt8)::((8:UInt8)::((8:UInt8)::((8:UInt8)::((8:UInt8)::((8:UInt8)::((8:UInt8)::((8:UInt8)::((8:UInt8)::[])))))))))))))))))))))))))))))))))))))))))))))))))))))))))))))))))) (IntKind.wrap .u8 x)) fun r7 =>
 some (IntKind.wrap .i64 ((0:Int)+(IntKind.wrap .i64 (((UInt8.toNat r7):Nat):Int))))))):=by kernel_rfl
theorem tier_New_eq (n:Nat) (n_:Int):tier_New (n+1) n_ =
 tif ((decide (n_<1))) (
 some []) (
 tif ((decide ((4096:Int)<n_))) (
 some []) (
 tif (((decide ((0:Int)≤n_))&&((decide (n_≤n_))&&(decide ((n_*120)≤140737488355328))))) (
 some (List.replicate (Int.toNat n_) ((0:Int),((0:Int),(((0:Int),((0:Int),((0:Int),false))),(((0:Int),((0:Int),((0:Int),false))),(((0:Int),(0:Int)),((0:Int),((0:Int),(0:Int)))))))))) (
 none))):=by kernel_rfl
theorem fold_open_eq (n:Nat) (c:TConfig) (s:((List TSlot)×((List TSlot)×(List TSlot)))):fold_open (n+1) c s =
 obind (conf_Check n c) fun r0 =>
 tif ((!(decide (r0=0)))) (
 some (none,r0)) (
 tif ((!(decide ((((List.length s.1):Nat):Int)=c.2.2.1.1)))) (
 some (none,(2:Int))) (
 obind (tier_Check n s.1 c.2.1.1) fun r1 =>
 tif ((!(decide (r1=0)))) (
 some (none,(2:Int))) (
 tif ((!(decide ((((List.length s.2.1):Nat):Int)=c.2.2.1.2.1)))) (
 some (none,(2:Int))) (
 obind (tier_Check n s.2.1 c.2.1.2.1) fun r2 =>
 tif ((!(decide (r2=0)))) (
 some (none,(2:Int))) (
 tif ((!(decide ((((List.length s.2.2):Nat):Int)=c.2.2.1.2.2)))) (
 some (none,(2:Int))) (
 obind (tier_Check n s.2.2 c.2.1.2.2) fun r3 =>
 tif ((!(decide (r3=0)))) (
 some (none,(2:Int))) (
 some ((some (c,s)),(0:Int))))))))):=by kernel_rfl
theorem raw_rising_eq (n:Nat) (l:(List TEvent)):raw_rising (n+1) l =
 obind (raw_rising_l2 n loopFuel (l,(l,((((List.length l):Nat):Int),((0:Int),()))))) fun r0 =>
 selim (fun y1 =>
 some true) (fun z2 =>
 some z2) r0:=by kernel_rfl
theorem raw_rising_l2_eq (n f:Nat) (l:(List TEvent)) (s5:(List TEvent)) (s6:Int) (s7:Int):raw_rising_l2 n (f+1) (l,s5,s6,s7,()) =
 tif ((decide (s7<s6))) (
 obind (at? s5 s7) fun r0 =>
 obind (event_Check n r0) fun r1 =>
 tif ((!(decide (r1=0)))) (
 some (.inr false)) (
 tif ((decide ((0:Int)<s7))) (
 obind (at? l (IntKind.wrap .i64 (s7-1))) fun r2 =>
 obind (event_Follow n r2 r0) fun r3 =>
 tif ((!r3)) (
 some (.inr false)) (
 raw_rising_l2 n f (l,(s5,(s6,((IntKind.wrap .i64 (s7+1)),())))))) (
 raw_rising_l2 n f (l,(s5,(s6,((IntKind.wrap .i64 (s7+1)),()))))))) (
 some (.inl ())):=by kernel_rfl
theorem raw_marked_eq (n:Nat) (r:(Int×(Int×(List TEvent)))) (room:Int):raw_marked (n+1) r room =
 tif ((decide (r.1=0))) (
 some (decide (r.2.1=0))) (
 tif ((decide ((((List.length r.2.2):Nat):Int)=room))) (
 tif ((decide ((0:Int)≤r.2.1))) (
 obind (at? r.2.2 (0:Int)) fun r0 =>
 some (decide (r.2.1<r0.1))) (
 some false)) (
 some false)):=by kernel_rfl
theorem series_behind_eq (n:Nat) (l:(List TSlot)) (i:Int):series_behind (n+1) l i =
 obind (sl_ContainsFunc_Slot n l (fun y0=>series_behind_1 n y0.1 i)) fun r1 =>
 some r1:=by kernel_rfl
theorem raw_Last_eq (n:Nat) (r:(Int×(Int×(List TEvent)))):raw_Last (n+1) r =
 tif ((decide ((((List.length r.2.2):Nat):Int)=0))) (
 some (((0:Int),((0:Int),((0:Int),false))),(3:Int))) (
 obind (at? r.2.2 (IntKind.wrap .i64 ((((List.length r.2.2):Nat):Int)-1))) fun r0 =>
 some (r0,(0:Int))):=by kernel_rfl
theorem tier_Fits_eq (n:Nat) (c:TCell) (w:Int) (i:Int):tier_Fits (n+1) c w i =
 tif ((decide (c.1=0))) (
 some false) (
 obind (cell_Check n c) fun r0 =>
 tif ((!(decide (r0=0)))) (
 some false) (
 obind (tier_Fits_l4 n loopFuel (w,(i,((c.2.1.1,c.2.2.1.1),((0:Int),()))))) fun r1 =>
 selim (fun y2 =>
 some true) (fun z3 =>
 some z3) r1)):=by kernel_rfl
theorem tier_Fits_l4_eq (n f:Nat) (w:Int) (i:Int) (s25:(Int×Int)) (s26:Int):tier_Fits_l4 n (f+1) (w,i,s25,s26,()) =
 tif ((decide (s26<2))) (
 tif ((decide (s26=0))) (
 obind (wi_Of n s25.1 w) fun r0 =>
 tif ((!(decide (r0.2=0)))) (
 some (.inr false)) (
 tif ((!(decide (r0.1=i)))) (
 some (.inr false)) (
 tier_Fits_l4 n f (w,(i,(s25,((IntKind.wrap .i64 (s26+1)),()))))))) (
 tif ((decide (s26=1))) (
 obind (wi_Of n s25.2 w) fun r1 =>
 tif ((!(decide (r1.2=0)))) (
 some (.inr false)) (
 tif ((!(decide (r1.1=i)))) (
 some (.inr false)) (
 tier_Fits_l4 n f (w,(i,(s25,((IntKind.wrap .i64 (s26+1)),()))))))) (
 none))) (
 some (.inl ())):=by kernel_rfl
theorem fdst_begins_eq_0 (n:Nat) (s:Tfdst) (i:Int):fdst_begins (n+1) s (0:Int) i =
 tif ((decide ((0:Int)≤i))) (
 tif ((decide (s.1.2.1.1=0))) (
 none) (
 some ((decide (i≤(IntKind.wrap .i64 (Int.tdiv (35184372088831:Int) s.1.2.1.1)))),s))) (
 some (false,s)):=by kernel_rfl
theorem fdst_put_eq_0 (n:Nat) (s:Tfdst) (i:Int) (c:TCell):fdst_put (n+1) s (0:Int) i c =
 obind (tier_Put n s.2.1 s.1.2.1.1 i c) fun r0 =>
 tif ((decide (r0.2=0))) (
 some (r0.2,(s.1,(r0.1,s.2.2)))) (
 some (r0.2,s)):=by kernel_rfl
theorem fdst_put_eq_1 (n:Nat) (s:Tfdst) (i:Int) (c:TCell):fdst_put (n+1) s (1:Int) i c =
 obind (tier_Put n s.2.2.1 s.1.2.1.2.1 i c) fun r0 =>
 tif ((decide (r0.2=0))) (
 some (r0.2,(s.1,(s.2.1,(r0.1,s.2.2.2))))) (
 some (r0.2,s)):=by kernel_rfl
theorem fdst_put_eq_2 (n:Nat) (s:Tfdst) (i:Int) (c:TCell):fdst_put (n+1) s (2:Int) i c =
 obind (tier_Put n s.2.2.2 s.1.2.1.2.2 i c) fun r0 =>
 tif ((decide (r0.2=0))) (
 some (r0.2,(s.1,(s.2.1,(s.2.2.1,r0.1))))) (
 some (r0.2,s)):=by kernel_rfl
theorem fdst_up_eq (n:Nat) (s:Tfdst) (i:Int) (j:Int):fdst_up (n+1) s i j =
 tif ((decide (s.1.2.1.2.1=0))) (
 none) (
 tif ((decide (s.1.2.1.2.1=0))) (
 none) (
 tif ((decide ((IntKind.wrap .i64 (Int.tdiv (IntKind.wrap .i64 (i*s.1.2.1.1)) s.1.2.1.2.1))=(IntKind.wrap .i64 (Int.tdiv (IntKind.wrap .i64 (j*s.1.2.1.1)) s.1.2.1.2.1))))) (
 tif ((decide (s.1.2.1.2.2=0))) (
 none) (
 tif ((decide (s.1.2.1.2.2=0))) (
 none) (
 tif ((decide ((IntKind.wrap .i64 (Int.tdiv (IntKind.wrap .i64 (i*s.1.2.1.1)) s.1.2.1.2.2))=(IntKind.wrap .i64 (Int.tdiv (IntKind.wrap .i64 (j*s.1.2.1.1)) s.1.2.1.2.2))))) (
 some s) (
 obind (fdst_made n s (2:Int) (IntKind.wrap .i64 (Int.tdiv (IntKind.wrap .i64 (i*s.1.2.1.1)) s.1.2.1.2.2))) fun r0 =>
 tif ((decide (r0.2.1=0))) (
 tif ((decide ((0:Int)<r0.1.1))) (
 obind (fdst_put n r0.2.2 (2:Int) (IntKind.wrap .i64 (Int.tdiv (IntKind.wrap .i64 (i*s.1.2.1.1)) s.1.2.1.2.2)) r0.1) fun r1 =>
 some r1.2) (
 some r0.2.2)) (
 some r0.2.2))))) (
 obind (fdst_made n s (1:Int) (IntKind.wrap .i64 (Int.tdiv (IntKind.wrap .i64 (i*s.1.2.1.1)) s.1.2.1.2.1))) fun r2 =>
 tif ((decide (r2.2.1=0))) (
 tif ((decide ((0:Int)<r2.1.1))) (
 obind (fdst_put n r2.2.2 (1:Int) (IntKind.wrap .i64 (Int.tdiv (IntKind.wrap .i64 (i*s.1.2.1.1)) s.1.2.1.2.1)) r2.1) fun r3 =>
 tif ((decide (r3.2.1.2.1.2.2=0))) (
 none) (
 tif ((decide (r3.2.1.2.1.2.2=0))) (
 none) (
 tif ((decide ((IntKind.wrap .i64 (Int.tdiv (IntKind.wrap .i64 (i*r3.2.1.2.1.1)) r3.2.1.2.1.2.2))=(IntKind.wrap .i64 (Int.tdiv (IntKind.wrap .i64 (j*r3.2.1.2.1.1)) r3.2.1.2.1.2.2))))) (
 some r3.2) (
 obind (fdst_made n r3.2 (2:Int) (IntKind.wrap .i64 (Int.tdiv (IntKind.wrap .i64 (i*r3.2.1.2.1.1)) r3.2.1.2.1.2.2))) fun r4 =>
 tif ((decide (r4.2.1=0))) (
 tif ((decide ((0:Int)<r4.1.1))) (
 obind (fdst_put n r4.2.2 (2:Int) (IntKind.wrap .i64 (Int.tdiv (IntKind.wrap .i64 (i*r3.2.1.2.1.1)) r3.2.1.2.1.2.2)) r4.1) fun r5 =>
 some r5.2) (
 some r4.2.2)) (
 some r4.2.2))))) (
 tif ((decide (r2.2.2.1.2.1.2.2=0))) (
 none) (
 tif ((decide (r2.2.2.1.2.1.2.2=0))) (
 none) (
 tif ((decide ((IntKind.wrap .i64 (Int.tdiv (IntKind.wrap .i64 (i*r2.2.2.1.2.1.1)) r2.2.2.1.2.1.2.2))=(IntKind.wrap .i64 (Int.tdiv (IntKind.wrap .i64 (j*r2.2.2.1.2.1.1)) r2.2.2.1.2.1.2.2))))) (
 some r2.2.2) (
 obind (fdst_made n r2.2.2 (2:Int) (IntKind.wrap .i64 (Int.tdiv (IntKind.wrap .i64 (i*r2.2.2.1.2.1.1)) r2.2.2.1.2.1.2.2))) fun r6 =>
 tif ((decide (r6.2.1=0))) (
 tif ((decide ((0:Int)<r6.1.1))) (
 obind (fdst_put n r6.2.2 (2:Int) (IntKind.wrap .i64 (Int.tdiv (IntKind.wrap .i64 (i*r2.2.2.1.2.1.1)) r2.2.2.1.2.1.2.2)) r6.1) fun r7 =>
 some r7.2) (
 some r6.2.2)) (
 some r6.2.2)))))) (
 tif ((decide (r2.2.2.1.2.1.2.2=0))) (
 none) (
 tif ((decide (r2.2.2.1.2.1.2.2=0))) (
 none) (
 tif ((decide ((IntKind.wrap .i64 (Int.tdiv (IntKind.wrap .i64 (i*r2.2.2.1.2.1.1)) r2.2.2.1.2.1.2.2))=(IntKind.wrap .i64 (Int.tdiv (IntKind.wrap .i64 (j*r2.2.2.1.2.1.1)) r2.2.2.1.2.1.2.2))))) (
 some r2.2.2) (
 obind (fdst_made n r2.2.2 (2:Int) (IntKind.wrap .i64 (Int.tdiv (IntKind.wrap .i64 (i*r2.2.2.1.2.1.1)) r2.2.2.1.2.1.2.2))) fun r8 =>
 tif ((decide (r8.2.1=0))) (
 tif ((decide ((0:Int)<r8.1.1))) (
 obind (fdst_put n r8.2.2 (2:Int) (IntKind.wrap .i64 (Int.tdiv (IntKind.wrap .i64 (i*r2.2.2.1.2.1.1)) r2.2.2.1.2.1.2.2)) r8.1) fun r9 =>
 some r9.2) (
 some r8.2.2)) (
 some r8.2.2)))))))):=by kernel_rfl
theorem raw_open_eq (n:Nat) (l:(List TEvent)) (room:Int):raw_open (n+1) l room =
 obind (ring_New_Event n room) fun r0 =>
 oelim (r0.1) (
 tif ((!(decide (r0.2=0)))) (
 some (none,r0.2)) (
 none)) fun r1 =>
 tif ((!(decide (r0.2=0)))) (
 some (none,r0.2)) (
 obind (raw_open_l5 n loopFuel (r1,(l,((((List.length l):Nat):Int),((0:Int),()))))) fun r2 =>
 selim (fun y3 =>
 some ((some y3.1),(0:Int))) (fun z4 =>
 some z4) r2):=by kernel_rfl
theorem raw_open_l5_eq (n f:Nat) (q:TEvent_) (s18:(List TEvent)) (s19:Int) (s20:Int):raw_open_l5 n (f+1) (q,s18,s19,s20,()) =
 tif ((decide (s20<s19))) (
 obind (at? s18 s20) fun r0 =>
 obind (rg_Put n q r0) fun r1 =>
 raw_open_l5 n f (r1.2.2,(s18,(s19,((IntKind.wrap .i64 (s20+1)),()))))) (
 some (.inl (q,()))):=by kernel_rfl
theorem rg_Put_eq (n:Nat) (r:TEvent_) (x:TEvent):rg_Put (n+1) r x =
 tif ((decide ((((List.length r.2.1):Nat):Int)<r.1))) (
 tif ((decide ((((List.length r.2.1)+1)*32)≤140737488355328))) (
 some (((0:Int),((0:Int),((0:Int),false))),(false,(r.1,((r.2.1++(x::[])),r.2.2))))) (
 none)) (
 obind (at? r.2.1 r.2.2.1) fun r0 =>
 obind ((r.2.1)[(Int.toNat r.2.2.1)]?) fun r1 =>
 obind (at? r.2.1 r.2.2.1) fun r2 =>
 obind ((r.2.1)[(Int.toNat r.2.2.1)]?) fun r3 =>
 obind (rg_place n (r.1,((List.set r.2.1 (Int.toNat r.2.2.1) x),r.2.2)) (1:Int)) fun r4 =>
 some (r1,(true,(r4.2.1,(r4.2.2.1,(r4.1,(IntKind.wrap .u64 (r4.2.2.2.2+1)))))))):=by kernel_rfl
theorem rg_All_eq (n:Nat) (r:TEvent_):rg_All (n+1) r =
 tif ((true&&((decide ((0:Int)≤(((List.length r.2.1):Nat):Int)))&&(decide (((((List.length r.2.1):Nat):Int)*32)≤140737488355328))))) (
 tif ((decide ((0:Int)≤r.2.2.1))) (
 tif ((decide ((Int.toNat r.2.2.1)≤(List.length r.2.1)))) (
 tif ((decide (((0+(List.length (List.take ((List.length r.2.1)-(Int.toNat r.2.2.1)) (List.drop (Int.toNat r.2.2.1) r.2.1))))*32)≤140737488355328))) (
 tif (((decide ((0:Int)≤r.2.2.1))&&(decide (r.2.2.1≤(((List.length r.2.1):Nat):Int))))) (
 tif ((decide ((((List.length ((List.replicate 0 ((0:Int),((0:Int),((0:Int),false))))++(List.take ((List.length r.2.1)-(Int.toNat r.2.2.1)) (List.drop (Int.toNat r.2.2.1) r.2.1))))+(List.length (List.take ((Int.toNat r.2.2.1)-0) (List.drop 0 r.2.1))))*32)≤140737488355328))) (
 some ((((List.replicate 0 ((0:Int),((0:Int),((0:Int),false))))++(List.take ((List.length r.2.1)-(Int.toNat r.2.2.1)) (List.drop (Int.toNat r.2.2.1) r.2.1)))++(List.take ((Int.toNat r.2.2.1)-0) (List.drop 0 r.2.1))),r)) (
 none)) (
 none)) (
 none)) (
 none)) (
 none)) (
 none):=by kernel_rfl
theorem sl_insS_eq (n:Nat) (data:(List TSlot)) (a:Int) (b:Int) (cmp:((TSlot×(TSlot×Unit))→Option Int)):sl_insS (n+1) data a b cmp =
 obind (sl_insS_l1 n loopFuel (data,(a,(b,(cmp,((IntKind.wrap .i64 (a+1)),())))))) fun r0 =>
 selim (fun y1 =>
 some y1.1) (fun z2 =>
 some z2) r0:=by kernel_rfl
theorem sl_insS_l1_eq (n f:Nat) (data:(List TSlot)) (a:Int) (b:Int) (cmp:((TSlot×(TSlot×Unit))→Option Int)) (i:Int):sl_insS_l1 n (f+1) (data,a,b,cmp,i,()) =
 tif ((decide (i<b))) (
 obind (sl_insS_l4 n loopFuel (data,(a,(b,(cmp,(i,(i,()))))))) fun r0 =>
 selim (fun y1 =>
 sl_insS_l1 n f (y1.1,(y1.2.1,(y1.2.2.1,(y1.2.2.2.1,((IntKind.wrap .i64 (y1.2.2.2.2.1+1)),())))))) (fun z2 =>
 some (.inr z2)) r0) (
 some (.inl (data,()))):=by kernel_rfl
theorem sl_insS_l4_eq (n f:Nat) (data:(List TSlot)) (a:Int) (b:Int) (cmp:((TSlot×(TSlot×Unit))→Option Int)) (i:Int) (j:Int):sl_insS_l4 n (f+1) (data,a,b,cmp,i,j,()) =
 tif ((decide (a<j))) (
 obind (at? data j) fun r0 =>
 obind ((data)[(Int.toNat j)]?) fun r1 =>
 obind (at? data (IntKind.wrap .i64 (j-1))) fun r2 =>
 obind ((data)[(Int.toNat (IntKind.wrap .i64 (j-1)))]?) fun r3 =>
 obind (cmp (r1,(r3,()))) fun r4 =>
 tif ((decide (r4<0))) (
 obind (at? data (IntKind.wrap .i64 (j-1))) fun r5 =>
 obind ((data)[(Int.toNat (IntKind.wrap .i64 (j-1)))]?) fun r6 =>
 obind (at? data j) fun r7 =>
 obind ((data)[(Int.toNat j)]?) fun r8 =>
 obind (at? data j) fun r9 =>
 obind ((data)[(Int.toNat j)]?) fun r10 =>
 obind (at? (List.set data (Int.toNat j) r6) (IntKind.wrap .i64 (j-1))) fun r11 =>
 obind (((List.set data (Int.toNat j) r6))[(Int.toNat (IntKind.wrap .i64 (j-1)))]?) fun r12 =>
 sl_insS_l4 n f ((List.set (List.set data (Int.toNat j) r6) (Int.toNat (IntKind.wrap .i64 (j-1))) r8),(a,(b,(cmp,(i,((IntKind.wrap .i64 (j-1)),()))))))) (
 some (.inl (data,(a,(b,(cmp,(i,())))))))) (
 some (.inl (data,(a,(b,(cmp,(i,()))))))):=by kernel_rfl
theorem sl_symM_eq (n:Nat) (data:(List TSlot)) (a:Int) (m:Int) (b:Int) (cmp:((TSlot×(TSlot×Unit))→Option Int)):sl_symM (n+1) data a m b cmp =
 tif ((decide ((IntKind.wrap .i64 (m-a))=1))) (
 obind (sl_symM_l3 n loopFuel (data,(a,(cmp,(m,(b,())))))) fun r0 =>
 selim (fun y1 =>
 obind (sl_symM_l9 n loopFuel (y1.1,(y1.2.2.1,(y1.2.1,())))) fun r2 =>
 selim (fun y3 =>
 some y3.1) (fun z4 =>
 some z4) r2) (fun z5 =>
 some z5) r0) (
 tif ((decide ((IntKind.wrap .i64 (b-m))=1))) (
 obind (sl_symM_l15 n loopFuel (data,(m,(cmp,(a,(m,())))))) fun r6 =>
 selim (fun y7 =>
 obind (sl_symM_l21 n loopFuel (y7.1,(y7.2.2.1,(y7.2.1,())))) fun r8 =>
 selim (fun y9 =>
 some y9.1) (fun z10 =>
 some z10) r8) (fun z11 =>
 some z11) r6) (
 tif ((decide ((IntKind.wrap .i64 (shrI .u64 (IntKind.wrap .u64 (IntKind.wrap .i64 (a+b))) (1:Int)))<m))) (
 obind (sl_symM_l33 n loopFuel (data,(a,(m,(b,(cmp,((IntKind.wrap .i64 (shrI .u64 (IntKind.wrap .u64 (IntKind.wrap .i64 (a+b))) (1:Int))),((IntKind.wrap .i64 ((IntKind.wrap .i64 (shrI .u64 (IntKind.wrap .u64 (IntKind.wrap .i64 (a+b))) (1:Int)))+m)),((IntKind.wrap .i64 ((IntKind.wrap .i64 ((IntKind.wrap .i64 (shrI .u64 (IntKind.wrap .u64 (IntKind.wrap .i64 (a+b))) (1:Int)))+m))-b)),((IntKind.wrap .i64 (shrI .u64 (IntKind.wrap .u64 (IntKind.wrap .i64 (a+b))) (1:Int))),((IntKind.wrap .i64 ((IntKind.wrap .i64 ((IntKind.wrap .i64 (shrI .u64 (IntKind.wrap .u64 (IntKind.wrap .i64 (a+b))) (1:Int)))+m))-1)),()))))))))))) fun r12 =>
 selim (fun y13 =>
 tif ((decide (y13.2.2.2.2.2.2.2.1<y13.2.2.1))) (
 tif ((decide (y13.2.2.1<(IntKind.wrap .i64 (y13.2.2.2.2.2.2.1-y13.2.2.2.2.2.2.2.1))))) (
 obind (sl_rotS n y13.1 y13.2.2.2.2.2.2.2.1 y13.2.2.1 (IntKind.wrap .i64 (y13.2.2.2.2.2.2.1-y13.2.2.2.2.2.2.2.1)) y13.2.2.2.2.1) fun r14 =>
 tif ((decide (y13.2.1<y13.2.2.2.2.2.2.2.1))) (
 tif ((decide (y13.2.2.2.2.2.2.2.1<y13.2.2.2.2.2.1))) (
 obind (sl_symM n r14 y13.2.1 y13.2.2.2.2.2.2.2.1 y13.2.2.2.2.2.1 y13.2.2.2.2.1) fun r15 =>
 tif ((decide (y13.2.2.2.2.2.1<(IntKind.wrap .i64 (y13.2.2.2.2.2.2.1-y13.2.2.2.2.2.2.2.1))))) (
 tif ((decide ((IntKind.wrap .i64 (y13.2.2.2.2.2.2.1-y13.2.2.2.2.2.2.2.1))<y13.2.2.2.1))) (
 obind (sl_symM n r15 y13.2.2.2.2.2.1 (IntKind.wrap .i64 (y13.2.2.2.2.2.2.1-y13.2.2.2.2.2.2.2.1)) y13.2.2.2.1 y13.2.2.2.2.1) fun r16 =>
 some r16) (
 some r15)) (
 some r15)) (
 tif ((decide (y13.2.2.2.2.2.1<(IntKind.wrap .i64 (y13.2.2.2.2.2.2.1-y13.2.2.2.2.2.2.2.1))))) (
 tif ((decide ((IntKind.wrap .i64 (y13.2.2.2.2.2.2.1-y13.2.2.2.2.2.2.2.1))<y13.2.2.2.1))) (
 obind (sl_symM n r14 y13.2.2.2.2.2.1 (IntKind.wrap .i64 (y13.2.2.2.2.2.2.1-y13.2.2.2.2.2.2.2.1)) y13.2.2.2.1 y13.2.2.2.2.1) fun r17 =>
 some r17) (
 some r14)) (
 some r14))) (
 tif ((decide (y13.2.2.2.2.2.1<(IntKind.wrap .i64 (y13.2.2.2.2.2.2.1-y13.2.2.2.2.2.2.2.1))))) (
 tif ((decide ((IntKind.wrap .i64 (y13.2.2.2.2.2.2.1-y13.2.2.2.2.2.2.2.1))<y13.2.2.2.1))) (
 obind (sl_symM n r14 y13.2.2.2.2.2.1 (IntKind.wrap .i64 (y13.2.2.2.2.2.2.1-y13.2.2.2.2.2.2.2.1)) y13.2.2.2.1 y13.2.2.2.2.1) fun r18 =>
 some r18) (
 some r14)) (
 some r14))) (
 tif ((decide (y13.2.1<y13.2.2.2.2.2.2.2.1))) (
 tif ((decide (y13.2.2.2.2.2.2.2.1<y13.2.2.2.2.2.1))) (
 obind (sl_symM n y13.1 y13.2.1 y13.2.2.2.2.2.2.2.1 y13.2.2.2.2.2.1 y13.2.2.2.2.1) fun r19 =>
 tif ((decide (y13.2.2.2.2.2.1<(IntKind.wrap .i64 (y13.2.2.2.2.2.2.1-y13.2.2.2.2.2.2.2.1))))) (
 tif ((decide ((IntKind.wrap .i64 (y13.2.2.2.2.2.2.1-y13.2.2.2.2.2.2.2.1))<y13.2.2.2.1))) (
 obind (sl_symM n r19 y13.2.2.2.2.2.1 (IntKind.wrap .i64 (y13.2.2.2.2.2.2.1-y13.2.2.2.2.2.2.2.1)) y13.2.2.2.1 y13.2.2.2.2.1) fun r20 =>
 some r20) (
 some r19)) (
 some r19)) (
 tif ((decide (y13.2.2.2.2.2.1<(IntKind.wrap .i64 (y13.2.2.2.2.2.2.1-y13.2.2.2.2.2.2.2.1))))) (
 tif ((decide ((IntKind.wrap .i64 (y13.2.2.2.2.2.2.1-y13.2.2.2.2.2.2.2.1))<y13.2.2.2.1))) (
 obind (sl_symM n y13.1 y13.2.2.2.2.2.1 (IntKind.wrap .i64 (y13.2.2.2.2.2.2.1-y13.2.2.2.2.2.2.2.1)) y13.2.2.2.1 y13.2.2.2.2.1) fun r21 =>
 some r21) (
 some y13.1)) (
 some y13.1))) (
 tif ((decide (y13.2.2.2.2.2.1<(IntKind.wrap .i64 (y13.2.2.2.2.2.2.1-y13.2.2.2.2.2.2.2.1))))) (
 tif ((decide ((IntKind.wrap .i64 (y13.2.2.2.2.2.2.1-y13.2.2.2.2.2.2.2.1))<y13.2.2.2.1))) (
 obind (sl_symM n y13.1 y13.2.2.2.2.2.1 (IntKind.wrap .i64 (y13.2.2.2.2.2.2.1-y13.2.2.2.2.2.2.2.1)) y13.2.2.2.1 y13.2.2.2.2.1) fun r22 =>
 some r22) (
 some y13.1)) (
 some y13.1)))) (
 tif ((decide (y13.2.1<y13.2.2.2.2.2.2.2.1))) (
 tif ((decide (y13.2.2.2.2.2.2.2.1<y13.2.2.2.2.2.1))) (
 obind (sl_symM n y13.1 y13.2.1 y13.2.2.2.2.2.2.2.1 y13.2.2.2.2.2.1 y13.2.2.2.2.1) fun r23 =>
 tif ((decide (y13.2.2.2.2.2.1<(IntKind.wrap .i64 (y13.2.2.2.2.2.2.1-y13.2.2.2.2.2.2.2.1))))) (
 tif ((decide ((IntKind.wrap .i64 (y13.2.2.2.2.2.2.1-y13.2.2.2.2.2.2.2.1))<y13.2.2.2.1))) (
 obind (sl_symM n r23 y13.2.2.2.2.2.1 (IntKind.wrap .i64 (y13.2.2.2.2.2.2.1-y13.2.2.2.2.2.2.2.1)) y13.2.2.2.1 y13.2.2.2.2.1) fun r24 =>
 some r24) (
 some r23)) (
 some r23)) (
 tif ((decide (y13.2.2.2.2.2.1<(IntKind.wrap .i64 (y13.2.2.2.2.2.2.1-y13.2.2.2.2.2.2.2.1))))) (
 tif ((decide ((IntKind.wrap .i64 (y13.2.2.2.2.2.2.1-y13.2.2.2.2.2.2.2.1))<y13.2.2.2.1))) (
 obind (sl_symM n y13.1 y13.2.2.2.2.2.1 (IntKind.wrap .i64 (y13.2.2.2.2.2.2.1-y13.2.2.2.2.2.2.2.1)) y13.2.2.2.1 y13.2.2.2.2.1) fun r25 =>
 some r25) (
 some y13.1)) (
 some y13.1))) (
 tif ((decide (y13.2.2.2.2.2.1<(IntKind.wrap .i64 (y13.2.2.2.2.2.2.1-y13.2.2.2.2.2.2.2.1))))) (
 tif ((decide ((IntKind.wrap .i64 (y13.2.2.2.2.2.2.1-y13.2.2.2.2.2.2.2.1))<y13.2.2.2.1))) (
 obind (sl_symM n y13.1 y13.2.2.2.2.2.1 (IntKind.wrap .i64 (y13.2.2.2.2.2.2.1-y13.2.2.2.2.2.2.2.1)) y13.2.2.2.1 y13.2.2.2.2.1) fun r26 =>
 some r26) (
 some y13.1)) (
 some y13.1)))) (fun z27 =>
 some z27) r12) (
 obind (sl_symM_l33 n loopFuel (data,(a,(m,(b,(cmp,((IntKind.wrap .i64 (shrI .u64 (IntKind.wrap .u64 (IntKind.wrap .i64 (a+b))) (1:Int))),((IntKind.wrap .i64 ((IntKind.wrap .i64 (shrI .u64 (IntKind.wrap .u64 (IntKind.wrap .i64 (a+b))) (1:Int)))+m)),(a,(m,((IntKind.wrap .i64 ((IntKind.wrap .i64 ((IntKind.wrap .i64 (shrI .u64 (IntKind.wrap .u64 (IntKind.wrap .i64 (a+b))) (1:Int)))+m))-1)),()))))))))))) fun r28 =>
 selim (fun y29 =>
 tif ((decide (y29.2.2.2.2.2.2.2.1<y29.2.2.1))) (
 tif ((decide (y29.2.2.1<(IntKind.wrap .i64 (y29.2.2.2.2.2.2.1-y29.2.2.2.2.2.2.2.1))))) (
 obind (sl_rotS n y29.1 y29.2.2.2.2.2.2.2.1 y29.2.2.1 (IntKind.wrap .i64 (y29.2.2.2.2.2.2.1-y29.2.2.2.2.2.2.2.1)) y29.2.2.2.2.1) fun r30 =>
 tif ((decide (y29.2.1<y29.2.2.2.2.2.2.2.1))) (
 tif ((decide (y29.2.2.2.2.2.2.2.1<y29.2.2.2.2.2.1))) (
 obind (sl_symM n r30 y29.2.1 y29.2.2.2.2.2.2.2.1 y29.2.2.2.2.2.1 y29.2.2.2.2.1) fun r31 =>
 tif ((decide (y29.2.2.2.2.2.1<(IntKind.wrap .i64 (y29.2.2.2.2.2.2.1-y29.2.2.2.2.2.2.2.1))))) (
 tif ((decide ((IntKind.wrap .i64 (y29.2.2.2.2.2.2.1-y29.2.2.2.2.2.2.2.1))<y29.2.2.2.1))) (
 obind (sl_symM n r31 y29.2.2.2.2.2.1 (IntKind.wrap .i64 (y29.2.2.2.2.2.2.1-y29.2.2.2.2.2.2.2.1)) y29.2.2.2.1 y29.2.2.2.2.1) fun r32 =>
 some r32) (
 some r31)) (
 some r31)) (
 tif ((decide (y29.2.2.2.2.2.1<(IntKind.wrap .i64 (y29.2.2.2.2.2.2.1-y29.2.2.2.2.2.2.2.1))))) (
 tif ((decide ((IntKind.wrap .i64 (y29.2.2.2.2.2.2.1-y29.2.2.2.2.2.2.2.1))<y29.2.2.2.1))) (
 obind (sl_symM n r30 y29.2.2.2.2.2.1 (IntKind.wrap .i64 (y29.2.2.2.2.2.2.1-y29.2.2.2.2.2.2.2.1)) y29.2.2.2.1 y29.2.2.2.2.1) fun r33 =>
 some r33) (
 some r30)) (
 some r30))) (
 tif ((decide (y29.2.2.2.2.2.1<(IntKind.wrap .i64 (y29.2.2.2.2.2.2.1-y29.2.2.2.2.2.2.2.1))))) (
 tif ((decide ((IntKind.wrap .i64 (y29.2.2.2.2.2.2.1-y29.2.2.2.2.2.2.2.1))<y29.2.2.2.1))) (
 obind (sl_symM n r30 y29.2.2.2.2.2.1 (IntKind.wrap .i64 (y29.2.2.2.2.2.2.1-y29.2.2.2.2.2.2.2.1)) y29.2.2.2.1 y29.2.2.2.2.1) fun r34 =>
 some r34) (
 some r30)) (
 some r30))) (
 tif ((decide (y29.2.1<y29.2.2.2.2.2.2.2.1))) (
 tif ((decide (y29.2.2.2.2.2.2.2.1<y29.2.2.2.2.2.1))) (
 obind (sl_symM n y29.1 y29.2.1 y29.2.2.2.2.2.2.2.1 y29.2.2.2.2.2.1 y29.2.2.2.2.1) fun r35 =>
 tif ((decide (y29.2.2.2.2.2.1<(IntKind.wrap .i64 (y29.2.2.2.2.2.2.1-y29.2.2.2.2.2.2.2.1))))) (
 tif ((decide ((IntKind.wrap .i64 (y29.2.2.2.2.2.2.1-y29.2.2.2.2.2.2.2.1))<y29.2.2.2.1))) (
 obind (sl_symM n r35 y29.2.2.2.2.2.1 (IntKind.wrap .i64 (y29.2.2.2.2.2.2.1-y29.2.2.2.2.2.2.2.1)) y29.2.2.2.1 y29.2.2.2.2.1) fun r36 =>
 some r36) (
 some r35)) (
 some r35)) (
 tif ((decide (y29.2.2.2.2.2.1<(IntKind.wrap .i64 (y29.2.2.2.2.2.2.1-y29.2.2.2.2.2.2.2.1))))) (
 tif ((decide ((IntKind.wrap .i64 (y29.2.2.2.2.2.2.1-y29.2.2.2.2.2.2.2.1))<y29.2.2.2.1))) (
 obind (sl_symM n y29.1 y29.2.2.2.2.2.1 (IntKind.wrap .i64 (y29.2.2.2.2.2.2.1-y29.2.2.2.2.2.2.2.1)) y29.2.2.2.1 y29.2.2.2.2.1) fun r37 =>
 some r37) (
 some y29.1)) (
 some y29.1))) (
 tif ((decide (y29.2.2.2.2.2.1<(IntKind.wrap .i64 (y29.2.2.2.2.2.2.1-y29.2.2.2.2.2.2.2.1))))) (
 tif ((decide ((IntKind.wrap .i64 (y29.2.2.2.2.2.2.1-y29.2.2.2.2.2.2.2.1))<y29.2.2.2.1))) (
 obind (sl_symM n y29.1 y29.2.2.2.2.2.1 (IntKind.wrap .i64 (y29.2.2.2.2.2.2.1-y29.2.2.2.2.2.2.2.1)) y29.2.2.2.1 y29.2.2.2.2.1) fun r38 =>
 some r38) (
 some y29.1)) (
 some y29.1)))) (
 tif ((decide (y29.2.1<y29.2.2.2.2.2.2.2.1))) (
 tif ((decide (y29.2.2.2.2.2.2.2.1<y29.2.2.2.2.2.1))) (
 obind (sl_symM n y29.1 y29.2.1 y29.2.2.2.2.2.2.2.1 y29.2.2.2.2.2.1 y29.2.2.2.2.1) fun r39 =>
 tif ((decide (y29.2.2.2.2.2.1<(IntKind.wrap .i64 (y29.2.2.2.2.2.2.1-y29.2.2.2.2.2.2.2.1))))) (
 tif ((decide ((IntKind.wrap .i64 (y29.2.2.2.2.2.2.1-y29.2.2.2.2.2.2.2.1))<y29.2.2.2.1))) (
 obind (sl_symM n r39 y29.2.2.2.2.2.1 (IntKind.wrap .i64 (y29.2.2.2.2.2.2.1-y29.2.2.2.2.2.2.2.1)) y29.2.2.2.1 y29.2.2.2.2.1) fun r40 =>
 some r40) (
 some r39)) (
 some r39)) (
 tif ((decide (y29.2.2.2.2.2.1<(IntKind.wrap .i64 (y29.2.2.2.2.2.2.1-y29.2.2.2.2.2.2.2.1))))) (
 tif ((decide ((IntKind.wrap .i64 (y29.2.2.2.2.2.2.1-y29.2.2.2.2.2.2.2.1))<y29.2.2.2.1))) (
 obind (sl_symM n y29.1 y29.2.2.2.2.2.1 (IntKind.wrap .i64 (y29.2.2.2.2.2.2.1-y29.2.2.2.2.2.2.2.1)) y29.2.2.2.1 y29.2.2.2.2.1) fun r41 =>
 some r41) (
 some y29.1)) (
 some y29.1))) (
 tif ((decide (y29.2.2.2.2.2.1<(IntKind.wrap .i64 (y29.2.2.2.2.2.2.1-y29.2.2.2.2.2.2.2.1))))) (
 tif ((decide ((IntKind.wrap .i64 (y29.2.2.2.2.2.2.1-y29.2.2.2.2.2.2.2.1))<y29.2.2.2.1))) (
 obind (sl_symM n y29.1 y29.2.2.2.2.2.1 (IntKind.wrap .i64 (y29.2.2.2.2.2.2.1-y29.2.2.2.2.2.2.2.1)) y29.2.2.2.1 y29.2.2.2.2.1) fun r42 =>
 some r42) (
 some y29.1)) (
 some y29.1)))) (fun z43 =>
 some z43) r28))):=by kernel_rfl
theorem sl_symM_l3_eq (n f:Nat) (data:(List TSlot)) (a:Int) (cmp:((TSlot×(TSlot×Unit))→Option Int)) (i:Int) (j:Int):sl_symM_l3 n (f+1) (data,a,cmp,i,j,()) =
 tif ((decide (i<j))) (
 obind (at? data (IntKind.wrap .i64 (shrI .u64 (IntKind.wrap .u64 (IntKind.wrap .i64 (i+j))) (1:Int)))) fun r0 =>
 obind ((data)[(Int.toNat (IntKind.wrap .i64 (shrI .u64 (IntKind.wrap .u64 (IntKind.wrap .i64 (i+j))) (1:Int))))]?) fun r1 =>
 obind (at? data a) fun r2 =>
 obind ((data)[(Int.toNat a)]?) fun r3 =>
 obind (cmp (r1,(r3,()))) fun r4 =>
 tif ((decide (r4<0))) (
 sl_symM_l3 n f (data,(a,(cmp,((IntKind.wrap .i64 ((IntKind.wrap .i64 (shrI .u64 (IntKind.wrap .u64 (IntKind.wrap .i64 (i+j))) (1:Int)))+1)),(j,())))))) (
 sl_symM_l3 n f (data,(a,(cmp,(i,((IntKind.wrap .i64 (shrI .u64 (IntKind.wrap .u64 (IntKind.wrap .i64 (i+j))) (1:Int))),()))))))) (
 some (.inl (data,(a,(i,()))))):=by kernel_rfl
theorem sl_symM_l9_eq (n f:Nat) (data:(List TSlot)) (i:Int) (k:Int):sl_symM_l9 n (f+1) (data,i,k,()) =
 tif ((decide (k<(IntKind.wrap .i64 (i-1))))) (
 obind (at? data (IntKind.wrap .i64 (k+1))) fun r0 =>
 obind ((data)[(Int.toNat (IntKind.wrap .i64 (k+1)))]?) fun r1 =>
 obind (at? data k) fun r2 =>
 obind ((data)[(Int.toNat k)]?) fun r3 =>
 obind (at? data k) fun r4 =>
 obind ((data)[(Int.toNat k)]?) fun r5 =>
 obind (at? (List.set data (Int.toNat k) r1) (IntKind.wrap .i64 (k+1))) fun r6 =>
 obind (((List.set data (Int.toNat k) r1))[(Int.toNat (IntKind.wrap .i64 (k+1)))]?) fun r7 =>
 sl_symM_l9 n f ((List.set (List.set data (Int.toNat k) r1) (Int.toNat (IntKind.wrap .i64 (k+1))) r3),(i,((IntKind.wrap .i64 (k+1)),())))) (
 some (.inl (data,()))):=by kernel_rfl
theorem sl_symM_l15_eq (n f:Nat) (data:(List TSlot)) (m:Int) (cmp:((TSlot×(TSlot×Unit))→Option Int)) (i_:Int) (j_:Int):sl_symM_l15 n (f+1) (data,m,cmp,i_,j_,()) =
 tif ((decide (i_<j_))) (
 obind (at? data m) fun r0 =>
 obind ((data)[(Int.toNat m)]?) fun r1 =>
 obind (at? data (IntKind.wrap .i64 (shrI .u64 (IntKind.wrap .u64 (IntKind.wrap .i64 (i_+j_))) (1:Int)))) fun r2 =>
 obind ((data)[(Int.toNat (IntKind.wrap .i64 (shrI .u64 (IntKind.wrap .u64 (IntKind.wrap .i64 (i_+j_))) (1:Int))))]?) fun r3 =>
 obind (cmp (r1,(r3,()))) fun r4 =>
 tif ((!(decide (r4<0)))) (
 sl_symM_l15 n f (data,(m,(cmp,((IntKind.wrap .i64 ((IntKind.wrap .i64 (shrI .u64 (IntKind.wrap .u64 (IntKind.wrap .i64 (i_+j_))) (1:Int)))+1)),(j_,())))))) (
 sl_symM_l15 n f (data,(m,(cmp,(i_,((IntKind.wrap .i64 (shrI .u64 (IntKind.wrap .u64 (IntKind.wrap .i64 (i_+j_))) (1:Int))),()))))))) (
 some (.inl (data,(m,(i_,()))))):=by kernel_rfl
theorem sl_symM_l21_eq (n f:Nat) (data:(List TSlot)) (i_:Int) (k_:Int):sl_symM_l21 n (f+1) (data,i_,k_,()) =
 tif ((decide (i_<k_))) (
 obind (at? data (IntKind.wrap .i64 (k_-1))) fun r0 =>
 obind ((data)[(Int.toNat (IntKind.wrap .i64 (k_-1)))]?) fun r1 =>
 obind (at? data k_) fun r2 =>
 obind ((data)[(Int.toNat k_)]?) fun r3 =>
 obind (at? data k_) fun r4 =>
 obind ((data)[(Int.toNat k_)]?) fun r5 =>
 obind (at? (List.set data (Int.toNat k_) r1) (IntKind.wrap .i64 (k_-1))) fun r6 =>
 obind (((List.set data (Int.toNat k_) r1))[(Int.toNat (IntKind.wrap .i64 (k_-1)))]?) fun r7 =>
 sl_symM_l21 n f ((List.set (List.set data (Int.toNat k_) r1) (Int.toNat (IntKind.wrap .i64 (k_-1))) r3),(i_,((IntKind.wrap .i64 (k_-1)),())))) (
 some (.inl (data,()))):=by kernel_rfl
theorem sl_symM_l33_eq (n f:Nat) (data:(List TSlot)) (a:Int) (m:Int) (b:Int) (cmp:((TSlot×(TSlot×Unit))→Option Int)) (mid:Int) (n_:Int) (start:Int) (r:Int) (p:Int):sl_symM_l33 n (f+1) (data,a,m,b,cmp,mid,n_,start,r,p,()) =
 tif ((decide (start<r))) (
 obind (at? data (IntKind.wrap .i64 (p-(IntKind.wrap .i64 (shrI .u64 (IntKind.wrap .u64 (IntKind.wrap .i64 (start+r))) (1:Int)))))) fun r0 =>
 obind ((data)[(Int.toNat (IntKind.wrap .i64 (p-(IntKind.wrap .i64 (shrI .u64 (IntKind.wrap .u64 (IntKind.wrap .i64 (start+r))) (1:Int))))))]?) fun r1 =>
 obind (at? data (IntKind.wrap .i64 (shrI .u64 (IntKind.wrap .u64 (IntKind.wrap .i64 (start+r))) (1:Int)))) fun r2 =>
 obind ((data)[(Int.toNat (IntKind.wrap .i64 (shrI .u64 (IntKind.wrap .u64 (IntKind.wrap .i64 (start+r))) (1:Int))))]?) fun r3 =>
 obind (cmp (r1,(r3,()))) fun r4 =>
 tif ((!(decide (r4<0)))) (
 sl_symM_l33 n f (data,(a,(m,(b,(cmp,(mid,(n_,((IntKind.wrap .i64 ((IntKind.wrap .i64 (shrI .u64 (IntKind.wrap .u64 (IntKind.wrap .i64 (start+r))) (1:Int)))+1)),(r,(p,()))))))))))) (
 sl_symM_l33 n f (data,(a,(m,(b,(cmp,(mid,(n_,(start,((IntKind.wrap .i64 (shrI .u64 (IntKind.wrap .u64 (IntKind.wrap .i64 (start+r))) (1:Int))),(p,())))))))))))) (
 some (.inl (data,(a,(m,(b,(cmp,(mid,(n_,(start,())))))))))):=by kernel_rfl
end Go.Proofs.YtjeabebacegikaaGreatDoor
