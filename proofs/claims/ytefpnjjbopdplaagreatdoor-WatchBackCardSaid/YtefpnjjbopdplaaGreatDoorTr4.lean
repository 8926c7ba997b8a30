/- Trees, printed by program. -/
import Derived.Test.YtefpnjjbopdplaaGreatDoorTr0
import Derived.KernelRfl
set_option linter.unusedVariables false
namespace Go.Proofs.YtefpnjjbopdplaaGreatDoor
open Go.Flat
theorem ratio_Check_eq (n:Nat) (f_:TFraction):ratio_Check (n+1) f_ =
 obind (ratio_none n f_.2) fun r0 =>
 tif (r0) (
 some (2:Int)) (
 obind (ratio_Gcd n f_.1 f_.2) fun r1 =>
 obind (wide_Of n (1:Int)) fun r2 =>
 tif ((!((decide (r1.1=r2.1))&&(decide (r1.2=r2.2))))) (
 some (2:Int)) (
 some (0:Int))):=by kernel_rfl
theorem watch_watches_may_eq (n:Nat) (l:(List TWatch)) (all:(List TState)):watch_watches_may (n+1) l all =
 tif ((decide ((256:Int)<(((List.length l):Nat):Int)))) (
 some (6:Int)) (
 obind (watch_watches_may_l4 n loopFuel (all,((((List.length all):Nat):Int),((0:Int),())))) fun r0 =>
 selim (fun y1 =>
 some (0:Int)) (fun z2 =>
 some z2) r0):=by kernel_rfl
theorem watch_watches_may_l4_eq (n f:Nat) (s11:(List TState)) (s12:Int) (s13:Int):watch_watches_may_l4 n (f+1) (s11,s12,s13,()) =
 tif ((decide (s13<s12))) (
 obind (at? s11 s13) fun r0 =>
 obind (stt_Check n r0) fun r1 =>
 tif ((!(decide (r1=0)))) (
 some (.inr r1)) (
 watch_watches_may_l4 n f (s11,(s12,((IntKind.wrap .i64 (s13+1)),()))))) (
 some (.inl ())):=by kernel_rfl
theorem watch_watches_places_eq (n:Nat) (l:(List TWatch)) (is:((TWatch×Unit)→Option Bool)):watch_watches_places (n+1) l is =
 obind (watch_watches_places_l3 n loopFuel (is,([],(l,((((List.length l):Nat):Int),((0:Int),())))))) fun r0 =>
 selim (fun y1 =>
 some y1.1) (fun z2 =>
 some z2) r0:=by kernel_rfl
theorem watch_watches_places_l3_eq (n f:Nat) (is:((TWatch×Unit)→Option Bool)) (out:(List Int)) (s8:(List TWatch)) (s9:Int) (s10:Int):watch_watches_places_l3 n (f+1) (is,out,s8,s9,s10,()) =
 tif ((decide (s10<s9))) (
 obind (at? s8 s10) fun r0 =>
 obind (is (r0,())) fun r1 =>
 tif (r1) (
 tif ((decide ((((List.length out)+1)*8)≤140737488355328))) (
 watch_watches_places_l3 n f (is,((out++(s10::[])),(s8,(s9,((IntKind.wrap .i64 (s10+1)),())))))) (
 none)) (
 watch_watches_places_l3 n f (is,(out,(s8,(s9,((IntKind.wrap .i64 (s10+1)),()))))))) (
 some (.inl (out,()))):=by kernel_rfl
theorem watch_in_eq (n:Nat) (s:TState):watch_in (n+1) s =
 some (fun y0=>watch_in_1 n y0.1 s):=by kernel_rfl
theorem watch_Turned_1_eq (n:Nat) (w:TWatch) (p1:((TWatch×Unit)→Option Bool)) (p2:((TWatch×Unit)→Option Bool)):watch_Turned_1 (n+1) w p1 p2 =
 obind (p1 (w,())) fun r0 =>
 tif (r0) (
 obind (p2 (w,())) fun r1 =>
 some (!r1)) (
 some false):=by kernel_rfl
theorem watch_Turned_2_eq (n:Nat) (w:TWatch) (p1:((TWatch×Unit)→Option Bool)) (p2:((TWatch×Unit)→Option Bool)):watch_Turned_2 (n+1) w p1 p2 =
 obind (p1 (w,())) fun r0 =>
 tif (r0) (
 obind (p2 (w,())) fun r1 =>
 some (!r1)) (
 some false):=by kernel_rfl
theorem stt_open_eq (n:Nat) (s:TState):stt_open (n+1) s =
 obind (conf_Check n s.1) fun r0 =>
 tif ((!(decide (r0=0)))) (
 some ((((0:Int),(((0:Int),((0:Int),(0:Int))),(((0:Int),((0:Int),(0:Int))),((0:Int),(0:Int))))),((0:Int),((0:Int),[]))),(2:Int))) (
 tif ((!(decide ((((List.length s.2.2.2):Nat):Int)=s.1.2.2.2.1)))) (
 some ((((0:Int),(((0:Int),((0:Int),(0:Int))),(((0:Int),((0:Int),(0:Int))),((0:Int),(0:Int))))),((0:Int),((0:Int),[]))),(2:Int))) (
 some (s,(0:Int)))):=by kernel_rfl
theorem stt_view_clock_eq (n:Nat) (v:TState):stt_view_clock (n+1) v =
 obind (stt_time n v.2.1) fun r0 =>
 tif (r0) (
 tif ((decide (v.2.2.1=((-1):Int)))) (
 some (decide (v.2.2.1≤v.2.1))) (
 obind (stt_time n v.2.2.1) fun r1 =>
 tif (r1) (
 some (decide (v.2.2.1≤v.2.1))) (
 some false))) (
 some false):=by kernel_rfl
theorem stt_view_place_eq (n:Nat) (v:TState) (is:((Int×Unit)→Option Bool)):stt_view_place (n+1) v is =
 obind (stt_view_place_l2 n loopFuel (is,((((List.length v.2.2.2):Nat):Int),((0:Int),())))) fun r0 =>
 selim (fun y1 =>
 some ((-1):Int)) (fun z2 =>
 some z2) r0:=by kernel_rfl
theorem stt_view_place_l2_eq (n f:Nat) (is:((Int×Unit)→Option Bool)) (s9:Int) (s10:Int):stt_view_place_l2 n (f+1) (is,s9,s10,()) =
 tif ((decide (s10<s9))) (
 obind (is (s10,())) fun r0 =>
 tif (r0) (
 some (.inr s10)) (
 stt_view_place_l2 n f (is,(s9,((IntKind.wrap .i64 (s10+1)),()))))) (
 some (.inl ())):=by kernel_rfl
theorem stt_Check_1_eq (n:Nat) (i:Int) (p1:TState):stt_Check_1 (n+1) i p1 =
 obind (stt_view_right n p1 i) fun r0 =>
 some (!r0):=by kernel_rfl
theorem stt_view_right_eq (n:Nat) (v:TState) (i:Int):stt_view_right (n+1) v i =
 obind (at? v.2.2.2 i) fun r0 =>
 obind (stt_empty n r0) fun r1 =>
 tif (r1) (
 some true) (
 obind (series_Check n v.1 r0) fun r2 =>
 tif ((decide (r2=0))) (
 tif ((decide ((0:Int)≤r0.2.1))) (
 obind (stt_view_mark n v) fun r3 =>
 tif ((decide (r0.2.1<(IntKind.wrap .i64 (r3+v.1.2.1.1))))) (
 obind (stt_view_twin n v i) fun r4 =>
 some (!r4)) (
 some false)) (
 some false)) (
 some false)):=by kernel_rfl
theorem ratio_times_eq (n:Nat) (a:(Int×Int)) (b:(Int×Int)):ratio_times (n+1) a b =
 tif ((!(decide (a.1=0)))) (
 tif ((!(decide (b.1=0)))) (
 some (((0:Int),(0:Int)),(1:Int))) (
 obind (wide_Times n a b.2) fun r0 =>
 some r0)) (
 tif ((!(decide (a.1=0)))) (
 some (((0:Int),(0:Int)),(1:Int))) (
 obind (wide_Times n b a.2) fun r1 =>
 some r1)):=by kernel_rfl
theorem query_may_eq (n:Nat) (s:TState) (l:(List (List UInt8×List UInt8))):query_may (n+1) s l =
 obind (stt_Check n s) fun r0 =>
 tif ((!(decide (r0=0)))) (
 some r0) (
 obind (label_Check n l) fun r1 =>
 some r1):=by kernel_rfl
theorem query_of_eq (n:Nat) (s:TState) (a:TAsk) (k:Int):query_of (n+1) s a k =
 obind (stt_Find n s a.1) fun r0 =>
 tif ((!(decide (r0.2=0)))) (
 some (((0:Int),(((0:Int),((0:Int),((0:Int),false))),(((0:Int),((0:Int),((0:Int),false))),(((0:Int),(0:Int)),((0:Int),((0:Int),(0:Int))))))),(0:Int))) (
 tif ((decide (k=0))) (
 obind (wi_Span n a.2.2.1 a.2.2.2 s.1.2.1.1) fun r1 =>
 tif ((!(decide (r1.2.2=0)))) (
 some (((0:Int),(((0:Int),((0:Int),((0:Int),false))),(((0:Int),((0:Int),((0:Int),false))),(((0:Int),(0:Int)),((0:Int),((0:Int),(0:Int))))))),r1.2.2)) (
 obind (at? s.2.2.2 r0.1) fun r2 =>
 obind (series_Range n s.1 r2 k r1.1 r1.2.1) fun r3 =>
 some r3)) (
 tif ((decide (k=1))) (
 obind (wi_Span n a.2.2.1 a.2.2.2 s.1.2.1.2.1) fun r4 =>
 tif ((!(decide (r4.2.2=0)))) (
 some (((0:Int),(((0:Int),((0:Int),((0:Int),false))),(((0:Int),((0:Int),((0:Int),false))),(((0:Int),(0:Int)),((0:Int),((0:Int),(0:Int))))))),r4.2.2)) (
 obind (at? s.2.2.2 r0.1) fun r5 =>
 obind (series_Range n s.1 r5 k r4.1 r4.2.1) fun r6 =>
 some r6)) (
 tif ((decide (k=2))) (
 obind (wi_Span n a.2.2.1 a.2.2.2 s.1.2.1.2.2) fun r7 =>
 tif ((!(decide (r7.2.2=0)))) (
 some (((0:Int),(((0:Int),((0:Int),((0:Int),false))),(((0:Int),((0:Int),((0:Int),false))),(((0:Int),(0:Int)),((0:Int),((0:Int),(0:Int))))))),r7.2.2)) (
 obind (at? s.2.2.2 r0.1) fun r8 =>
 obind (series_Range n s.1 r8 k r7.1 r7.2.1) fun r9 =>
 some r9)) (
 none)))):=by kernel_rfl
theorem query_Rate_eq (n:Nat) (c:TCell):query_Rate (n+1) c =
 tif ((decide (c.2.2.2.2.2.2<1))) (
 some ((((0:Int),(0:Int)),((0:Int),(0:Int))),(12:Int))) (
 obind (ratio_Rate n c.2.2.2.1 (IntKind.wrap .u64 c.2.2.2.2.2.2)) fun r0 =>
 some r0):=by kernel_rfl
theorem wide_Of_eq (n:Nat) (n_:Int):wide_Of (n+1) n_ =
 some ((0:Int),n_):=by kernel_rfl
theorem query_whichever_eq (n:Nat) (s:TState) (from_:Int) (to:Int):query_whichever (n+1) s from_ to =
 obind (query_whichever_l3 n loopFuel (from_,(to,(s,((10:Int),((1:Int),())))))) fun r0 =>
 selim (fun y1 =>
 some ((0:Int),y1.1)) (fun z2 =>
 some z2) r0:=by kernel_rfl
theorem query_whichever_l3_eq (n f:Nat) (from_:Int) (to:Int) (s_:TState) (why:Int) (tier:Int):query_whichever_l3 n (f+1) (from_,to,s_,why,tier,()) =
 tif ((decide (tier≤3))) (
 obind (query_one n s_ tier from_ to) fun r0 =>
 tif ((decide (r0=0))) (
 some (.inr (tier,(0:Int)))) (
 tif ((decide (r0=10))) (
 query_whichever_l3 n f (from_,(to,(s_,(why,((IntKind.wrap .i64 (tier+1)),())))))) (
 tif ((decide (r0=11))) (
 query_whichever_l3 n f (from_,(to,(s_,(r0,((IntKind.wrap .i64 (tier+1)),())))))) (
 some (.inr ((0:Int),r0)))))) (
 some (.inl (why,()))):=by kernel_rfl
theorem query_one_eq (n:Nat) (s:TState) (tier:Int) (from_:Int) (to:Int):query_one (n+1) s tier from_ to =
 tif ((decide ((IntKind.wrap .i64 (tier-1))=0))) (
 obind (wi_Span n from_ to s.1.2.1.1) fun r0 =>
 tif ((!(decide (r0.2.2=0)))) (
 some r0.2.2) (
 obind (csc_Kept n s (IntKind.wrap .i64 (tier-1))) fun r1 =>
 tif ((decide (r1.2.2=0))) (
 tif ((decide (r0.1<r1.1))) (
 some (11:Int)) (
 some r1.2.2)) (
 some r1.2.2))) (
 tif ((decide ((IntKind.wrap .i64 (tier-1))=1))) (
 obind (wi_Span n from_ to s.1.2.1.2.1) fun r2 =>
 tif ((!(decide (r2.2.2=0)))) (
 some r2.2.2) (
 obind (csc_Kept n s (IntKind.wrap .i64 (tier-1))) fun r3 =>
 tif ((decide (r3.2.2=0))) (
 tif ((decide (r2.1<r3.1))) (
 some (11:Int)) (
 some r3.2.2)) (
 some r3.2.2))) (
 tif ((decide ((IntKind.wrap .i64 (tier-1))=2))) (
 obind (wi_Span n from_ to s.1.2.1.2.2) fun r4 =>
 tif ((!(decide (r4.2.2=0)))) (
 some r4.2.2) (
 obind (csc_Kept n s (IntKind.wrap .i64 (tier-1))) fun r5 =>
 tif ((decide (r5.2.2=0))) (
 tif ((decide (r4.1<r5.1))) (
 some (11:Int)) (
 some r5.2.2)) (
 some r5.2.2))) (
 none))):=by kernel_rfl
theorem wi_Span_eq (n:Nat) (a:Int) (b:Int) (w:Int):wi_Span (n+1) a b w =
 obind (wi_width n w) fun r0 =>
 tif ((!r0)) (
 some ((0:Int),((0:Int),(1:Int)))) (
 tif ((decide (a<0))) (
 some ((0:Int),((0:Int),(1:Int)))) (
 tif ((decide ((35184372088832:Int)<b))) (
 some ((0:Int),((0:Int),(1:Int)))) (
 tif ((decide (b≤a))) (
 some ((0:Int),((0:Int),(1:Int)))) (
 tif ((decide (w=0))) (
 none) (
 tif ((!(decide ((Int.tmod a w)=0)))) (
 some ((0:Int),((0:Int),(10:Int)))) (
 tif ((decide (w=0))) (
 none) (
 tif ((!(decide ((Int.tmod b w)=0)))) (
 some ((0:Int),((0:Int),(10:Int)))) (
 tif ((decide (w=0))) (
 none) (
 tif ((decide (w=0))) (
 none) (
 some ((IntKind.wrap .i64 (Int.tdiv a w)),((IntKind.wrap .i64 (Int.tdiv b w)),(0:Int))))))))))))):=by kernel_rfl
theorem stt_Find_eq (n:Nat) (s:TState) (l:(List (List UInt8×List UInt8))):stt_Find (n+1) s l =
 obind (stt_open n s) fun r0 =>
 tif ((!(decide (r0.2=0)))) (
 some ((0:Int),r0.2)) (
 obind (stt_view_place n r0.1 (fun y1=>stt_Find_1 n y1.1 s l r0.1)) fun r2 =>
 tif ((decide (r2<0))) (
 some ((0:Int),(3:Int))) (
 some (r2,(0:Int)))):=by kernel_rfl
theorem r15_Cell_eq (n:Nat) (c:TConfig) (s:TSeries) (k:Int) (i:Int):r15_Cell (n+1) c s k i =
 obind (r15_Check n c s) fun r0 =>
 tif ((!(decide (r0=0)))) (
 some (((0:Int),(((0:Int),((0:Int),((0:Int),false))),(((0:Int),((0:Int),((0:Int),false))),(((0:Int),(0:Int)),((0:Int),((0:Int),(0:Int))))))),(2:Int))) (
 tif ((decide (k<0))) (
 some (((0:Int),(((0:Int),((0:Int),((0:Int),false))),(((0:Int),((0:Int),((0:Int),false))),(((0:Int),(0:Int)),((0:Int),((0:Int),(0:Int))))))),(1:Int))) (
 tif ((decide ((2:Int)<k))) (
 some (((0:Int),(((0:Int),((0:Int),((0:Int),false))),(((0:Int),((0:Int),((0:Int),false))),(((0:Int),(0:Int)),((0:Int),((0:Int),(0:Int))))))),(1:Int))) (
 tif ((decide (i<0))) (
 some (((0:Int),(((0:Int),((0:Int),((0:Int),false))),(((0:Int),((0:Int),((0:Int),false))),(((0:Int),(0:Int)),((0:Int),((0:Int),(0:Int))))))),(1:Int))) (
 obind (r15_one n c s k i) fun r1 =>
 some r1)))):=by kernel_rfl
theorem event_Between_eq (n:Nat) (p:TEvent) (c:TEvent):event_Between (n+1) p c =
 obind (event_right n (p::(c::[]))) fun r0 =>
 tif ((!r0)) (
 some (((0:Int),(((0:Int),((0:Int),((0:Int),false))),(((0:Int),((0:Int),((0:Int),false))),(((0:Int),(0:Int)),((0:Int),((0:Int),(0:Int))))))),(2:Int))) (
 tif ((decide (c.1≤p.1))) (
 some (((0:Int),(((0:Int),((0:Int),((0:Int),false))),(((0:Int),((0:Int),((0:Int),false))),(((0:Int),(0:Int)),((0:Int),((0:Int),(0:Int))))))),(9:Int))) (
 tif (c.2.2.2) (
 some (((0:Int),(((0:Int),((0:Int),((0:Int),false))),(((0:Int),((0:Int),((0:Int),false))),(((0:Int),(0:Int)),((0:Int),((0:Int),(0:Int))))))),(0:Int))) (
 tif ((decide (p.1<c.2.2.1))) (
 obind (event_anew n c (IntKind.wrap .i64 (c.1-c.2.2.1))) fun r1 =>
 some (r1,(0:Int))) (
 tif (p.2.2.2) (
 some (((0:Int),(((0:Int),((0:Int),((0:Int),false))),(((0:Int),((0:Int),((0:Int),false))),(((0:Int),(0:Int)),((0:Int),((1:Int),(0:Int))))))),(0:Int))) (
 tif ((decide (c.2.1<p.2.1))) (
 obind (event_anew n c (IntKind.wrap .i64 (c.1-p.1))) fun r2 =>
 some (r2,(0:Int))) (
 obind (wide_Of n (IntKind.wrap .u64 (c.2.1-p.2.1))) fun r3 =>
 some (((0:Int),(((0:Int),((0:Int),((0:Int),false))),(((0:Int),((0:Int),((0:Int),false))),(r3,((0:Int),((0:Int),(IntKind.wrap .i64 (c.1-p.1)))))))),(0:Int)))))))):=by kernel_rfl
theorem wide_Add_eq (n:Nat) (a:(Int×Int)) (b:(Int×Int)):wide_Add (n+1) a b =
 tif (((decide ((0:Int)≤a.2))&&((decide ((0:Int)≤b.2))&&true))) (
 tif (((decide ((0:Int)≤a.1))&&((decide ((0:Int)≤b.1))&&((decide ((0:Int)≤(((a.2+b.2)+0) / (18446744073709551616:Int))))&&(decide ((((a.2+b.2)+0) / (18446744073709551616:Int))≤1)))))) (
 obind (wide_sure n ((((a.1+b.1)+(((a.2+b.2)+0) / (18446744073709551616:Int))) % (18446744073709551616:Int)),(((a.2+b.2)+0) % (18446744073709551616:Int))) (((a.1+b.1)+(((a.2+b.2)+0) / (18446744073709551616:Int))) / (18446744073709551616:Int))) fun r0 =>
 some r0) (
 none)) (
 none):=by kernel_rfl
theorem r08_All_eq (n:Nat) (l:(List TCell)):r08_All (n+1) l =
 obind (r08_All_l3 n loopFuel (((0:Int),(((0:Int),((0:Int),((0:Int),false))),(((0:Int),((0:Int),((0:Int),false))),(((0:Int),(0:Int)),((0:Int),((0:Int),(0:Int))))))),(((0:Int),(((0:Int),((0:Int),((0:Int),false))),(((0:Int),((0:Int),((0:Int),false))),(((0:Int),(0:Int)),((0:Int),((0:Int),(0:Int))))))),(l,((((List.length l):Nat):Int),((0:Int),())))))) fun r0 =>
 selim (fun y1 =>
 some (y1.2.1,(0:Int))) (fun z2 =>
 some z2) r0:=by kernel_rfl
theorem r08_All_l3_eq (n f:Nat) (s2:TCell) (c:TCell) (s9:(List TCell)) (s10:Int) (s11:Int):r08_All_l3 n (f+1) (s2,c,s9,s10,s11,()) =
 tif ((decide (s11<s10))) (
 obind (at? s9 s11) fun r0 =>
 obind (r08_Merge n c r0) fun r1 =>
 tif ((!(decide (r1.2=0)))) (
 some (.inr (((0:Int),(((0:Int),((0:Int),((0:Int),false))),(((0:Int),((0:Int),((0:Int),false))),(((0:Int),(0:Int)),((0:Int),((0:Int),(0:Int))))))),r1.2))) (
 r08_All_l3 n f (s2,(r1.1,(s9,(s10,((IntKind.wrap .i64 (s11+1)),()))))))) (
 some (.inl (s2,(c,())))):=by kernel_rfl
theorem r01_Sub_eq (n:Nat) (a:(Int×Int)) (b:(Int×Int)):r01_Sub (n+1) a b =
 obind (r01_Less n a b) fun r0 =>
 tif (r0) (
 some (((0:Int),(0:Int)),(1:Int))) (
 obind (r01_Bytes n a) fun r1 =>
 obind (r01_Bytes n b) fun r2 =>
 tif ((decide (16=((((((((((((((((1+1)+1)+1)+1)+1)+1)+1)+1)+1)+1)+1)+1)+1)+1)+1) / 1)))) (
 tif ((decide (16=((((((((((((((((1+1)+1)+1)+1)+1)+1)+1)+1)+1)+1)+1)+1)+1)+1)+1) / 1)))) (
 obind (r01_Sub_l6 n loopFuel (((0:Int),(0:Int)),((r1.1::(r1.2.1::(r1.2.2.1::(r1.2.2.2.1::(r1.2.2.2.2.1::(r1.2.2.2.2.2.1::(r1.2.2.2.2.2.2.1::(r1.2.2.2.2.2.2.2.1::(r1.2.2.2.2.2.2.2.2.1::(r1.2.2.2.2.2.2.2.2.2.1::(r1.2.2.2.2.2.2.2.2.2.2.1::(r1.2.2.2.2.2.2.2.2.2.2.2.1::(r1.2.2.2.2.2.2.2.2.2.2.2.2.1::(r1.2.2.2.2.2.2.2.2.2.2.2.2.2.1::(r1.2.2.2.2.2.2.2.2.2.2.2.2.2.2.1::(r1.2.2.2.2.2.2.2.2.2.2.2.2.2.2.2::[])))))))))))))))),((r2.1::(r2.2.1::(r2.2.2.1::(r2.2.2.2.1::(r2.2.2.2.2.1::(r2.2.2.2.2.2.1::(r2.2.2.2.2.2.2.1::(r2.2.2.2.2.2.2.2.1::(r2.2.2.2.2.2.2.2.2.1::(r2.2.2.2.2.2.2.2.2.2.1::(r2.2.2.2.2.2.2.2.2.2.2.1::(r2.2.2.2.2.2.2.2.2.2.2.2.1::(r2.2.2.2.2.2.2.2.2.2.2.2.2.1::(r2.2.2.2.2.2.2.2.2.2.2.2.2.2.1::(r2.2.2.2.2.2.2.2.2.2.2.2.2.2.2.1::(r2.2.2.2.2.2.2.2.2.2.2.2.2.2.2.2::[])))))))))))))))),((0:Int),((0:Int),())))))) fun r3 =>
 selim (fun y4 =>
 obind ((y4.2.1)[0]?) fun r5 =>
 obind ((y4.2.1)[1]?) fun r6 =>
 obind ((y4.2.1)[2]?) fun r7 =>
 obind ((y4.2.1)[3]?) fun r8 =>
 obind ((y4.2.1)[4]?) fun r9 =>
 obind ((y4.2.1)[5]?) fun r10 =>
 obind ((y4.2.1)[6]?) fun r11 =>
 obind ((y4.2.1)[7]?) fun r12 =>
 obind ((y4.2.1)[8]?) fun r13 =>
 obind ((y4.2.1)[9]?) fun r14 =>
 obind ((y4.2.1)[10]?) fun r15 =>
 obind ((y4.2.1)[11]?) fun r16 =>
 obind ((y4.2.1)[12]?) fun r17 =>
 obind ((y4.2.1)[13]?) fun r18 =>
 obind ((y4.2.1)[14]?) fun r19 =>
 obind ((y4.2.1)[15]?) fun r20 =>
 obind (r01_Of n (r5,(r6,(r7,(r8,(r9,(r10,(r11,(r12,(r13,(r14,(r15,(r16,(r17,(r18,(r19,r20)))))))))))))))) fun r21 =>
 some (r21,(0:Int))) (fun z22 =>
 some z22) r3) (
 none)) (
 none)):=by kernel_rfl
theorem r01_Sub_l6_eq (n f:Nat) (s4:(Int×Int)) (x:(List Int)) (y:(List Int)) (owed:Int) (s19:Int):r01_Sub_l6 n (f+1) (s4,x,y,owed,s19,()) =
 tif ((decide (s19<16))) (
 tif (((decide ((0:Int)≤s19))&&((decide (s19<16))&&(decide (s19<(((List.length x):Nat):Int)))))) (
 obind ((x)[(Int.toNat s19)]?) fun r0 =>
 tif (((decide ((0:Int)≤s19))&&((decide (s19<16))&&(decide (s19<(((List.length y):Nat):Int)))))) (
 obind ((y)[(Int.toNat s19)]?) fun r1 =>
 tif ((decide ((IntKind.wrap .i64 ((IntKind.wrap .i64 (r0-r1))-owed))<0))) (
 tif (((decide ((0:Int)≤s19))&&((decide (s19<16))&&(decide (s19<(((List.length x):Nat):Int)))))) (
 obind ((x)[(Int.toNat s19)]?) fun r2 =>
 r01_Sub_l6 n f (s4,((List.set x (Int.toNat s19) (IntKind.wrap .i64 ((IntKind.wrap .i64 ((IntKind.wrap .i64 (r0-r1))-owed))+256))),(y,((1:Int),((IntKind.wrap .i64 (s19+1)),())))))) (
 none)) (
 tif (((decide ((0:Int)≤s19))&&((decide (s19<16))&&(decide (s19<(((List.length x):Nat):Int)))))) (
 obind ((x)[(Int.toNat s19)]?) fun r3 =>
 r01_Sub_l6 n f (s4,((List.set x (Int.toNat s19) (IntKind.wrap .i64 ((IntKind.wrap .i64 (r0-r1))-owed))),(y,((0:Int),((IntKind.wrap .i64 (s19+1)),())))))) (
 none))) (
 none)) (
 none)) (
 some (.inl (s4,(x,())))):=by kernel_rfl
theorem r01_Less_eq (n:Nat) (a:(Int×Int)) (b:(Int×Int)):r01_Less (n+1) a b =
 obind (r01_Bytes n a) fun r0 =>
 obind (r01_Bytes n b) fun r1 =>
 tif ((!(decide (r0.2.2.2.2.2.2.2.2.2.2.2.2.2.2.2=r1.2.2.2.2.2.2.2.2.2.2.2.2.2.2.2)))) (
 some (decide (r0.2.2.2.2.2.2.2.2.2.2.2.2.2.2.2<r1.2.2.2.2.2.2.2.2.2.2.2.2.2.2.2))) (
 tif ((!(decide (r0.2.2.2.2.2.2.2.2.2.2.2.2.2.2.1=r1.2.2.2.2.2.2.2.2.2.2.2.2.2.2.1)))) (
 some (decide (r0.2.2.2.2.2.2.2.2.2.2.2.2.2.2.1<r1.2.2.2.2.2.2.2.2.2.2.2.2.2.2.1))) (
 tif ((!(decide (r0.2.2.2.2.2.2.2.2.2.2.2.2.2.1=r1.2.2.2.2.2.2.2.2.2.2.2.2.2.1)))) (
 some (decide (r0.2.2.2.2.2.2.2.2.2.2.2.2.2.1<r1.2.2.2.2.2.2.2.2.2.2.2.2.2.1))) (
 tif ((!(decide (r0.2.2.2.2.2.2.2.2.2.2.2.2.1=r1.2.2.2.2.2.2.2.2.2.2.2.2.1)))) (
 some (decide (r0.2.2.2.2.2.2.2.2.2.2.2.2.1<r1.2.2.2.2.2.2.2.2.2.2.2.2.1))) (
 tif ((!(decide (r0.2.2.2.2.2.2.2.2.2.2.2.1=r1.2.2.2.2.2.2.2.2.2.2.2.1)))) (
 some (decide (r0.2.2.2.2.2.2.2.2.2.2.2.1<r1.2.2.2.2.2.2.2.2.2.2.2.1))) (
 tif ((!(decide (r0.2.2.2.2.2.2.2.2.2.2.1=r1.2.2.2.2.2.2.2.2.2.2.1)))) (
 some (decide (r0.2.2.2.2.2.2.2.2.2.2.1<r1.2.2.2.2.2.2.2.2.2.2.1))) (
 tif ((!(decide (r0.2.2.2.2.2.2.2.2.2.1=r1.2.2.2.2.2.2.2.2.2.1)))) (
 some (decide (r0.2.2.2.2.2.2.2.2.2.1<r1.2.2.2.2.2.2.2.2.2.1))) (
 tif ((!(decide (r0.2.2.2.2.2.2.2.2.1=r1.2.2.2.2.2.2.2.2.1)))) (
 some (decide (r0.2.2.2.2.2.2.2.2.1<r1.2.2.2.2.2.2.2.2.1))) (
 tif ((!(decide (r0.2.2.2.2.2.2.2.1=r1.2.2.2.2.2.2.2.1)))) (
 some (decide (r0.2.2.2.2.2.2.2.1<r1.2.2.2.2.2.2.2.1))) (
 tif ((!(decide (r0.2.2.2.2.2.2.1=r1.2.2.2.2.2.2.1)))) (
 some (decide (r0.2.2.2.2.2.2.1<r1.2.2.2.2.2.2.1))) (
 tif ((!(decide (r0.2.2.2.2.2.1=r1.2.2.2.2.2.1)))) (
 some (decide (r0.2.2.2.2.2.1<r1.2.2.2.2.2.1))) (
 tif ((!(decide (r0.2.2.2.2.1=r1.2.2.2.2.1)))) (
 some (decide (r0.2.2.2.2.1<r1.2.2.2.2.1))) (
 tif ((!(decide (r0.2.2.2.1=r1.2.2.2.1)))) (
 some (decide (r0.2.2.2.1<r1.2.2.2.1))) (
 tif ((!(decide (r0.2.2.1=r1.2.2.1)))) (
 some (decide (r0.2.2.1<r1.2.2.1))) (
 tif ((!(decide (r0.2.1=r1.2.1)))) (
 some (decide (r0.2.1<r1.2.1))) (
 tif ((!(decide (r0.1=r1.1)))) (
 some (decide (r0.1<r1.1))) (
 some false)))))))))))))))):=by kernel_rfl
theorem r01_Times_eq (n:Nat) (a:(Int×Int)) (n_:Int):r01_Times (n+1) a n_ =
 obind (r01_Times_l4 n loopFuel (n_,(a,(((0:Int),(0:Int)),(((0:Int),(0:Int)),(false,())))))) fun r0 =>
 selim (fun y1 =>
 some (y1.2.1,(0:Int))) (fun z2 =>
 some z2) r0:=by kernel_rfl
theorem r01_Times_l4_eq (n f:Nat) (n_:Int) (a_:(Int×Int)) (s4:(Int×Int)) (out:(Int×Int)) (over:Bool):r01_Times_l4 n (f+1) (n_,a_,s4,out,over,()) =
 tif ((decide ((0:Int)<n_))) (
 tif ((decide ((Int.tmod n_ (2:Int))=1))) (
 tif (over) (
 some (.inr (((0:Int),(0:Int)),(1:Int)))) (
 obind (r01_Add n out a_) fun r0 =>
 tif ((!(decide (r0.2=0)))) (
 some (.inr (((0:Int),(0:Int)),r0.2))) (
 obind (r01_Add n a_ a_) fun r1 =>
 tif (over) (
 r01_Times_l4 n f ((IntKind.wrap .u64 (Int.tdiv n_ (2:Int))),(r1.1,(s4,(r0.1,(true,())))))) (
 r01_Times_l4 n f ((IntKind.wrap .u64 (Int.tdiv n_ (2:Int))),(r1.1,(s4,(r0.1,((!(decide (r1.2=0))),()))))))))) (
 obind (r01_Add n a_ a_) fun r2 =>
 tif (over) (
 r01_Times_l4 n f ((IntKind.wrap .u64 (Int.tdiv n_ (2:Int))),(r2.1,(s4,(out,(true,())))))) (
 r01_Times_l4 n f ((IntKind.wrap .u64 (Int.tdiv n_ (2:Int))),(r2.1,(s4,(out,((!(decide (r2.2=0))),())))))))) (
 some (.inl (s4,(out,())))):=by kernel_rfl
theorem cell_Merge_eq (n:Nat) (a:TCell) (b:TCell):cell_Merge (n+1) a b =
 obind (cell_Check n a) fun r0 =>
 tif ((!(decide (r0=0)))) (
 some (((0:Int),(((0:Int),((0:Int),((0:Int),false))),(((0:Int),((0:Int),((0:Int),false))),(((0:Int),(0:Int)),((0:Int),((0:Int),(0:Int))))))),(2:Int))) (
 obind (cell_Check n b) fun r1 =>
 tif ((!(decide (r1=0)))) (
 some (((0:Int),(((0:Int),((0:Int),((0:Int),false))),(((0:Int),((0:Int),((0:Int),false))),(((0:Int),(0:Int)),((0:Int),((0:Int),(0:Int))))))),(2:Int))) (
 obind (cell_none n a) fun r2 =>
 tif (r2) (
 some (b,(0:Int))) (
 obind (cell_none n b) fun r3 =>
 tif (r3) (
 some (a,(0:Int))) (
 obind (cell_join n a b) fun r4 =>
 some r4)))):=by kernel_rfl
theorem math_bits_Mul64_eq (n:Nat) (x:Int) (y:Int):math_bits_Mul64 (n+1) x y =
 some ((IntKind.wrap .u64 ((IntKind.wrap .u64 ((IntKind.wrap .u64 ((shrI .u64 x (32:Int))*(shrI .u64 y (32:Int))))+(shrI .u64 (IntKind.wrap .u64 ((IntKind.wrap .u64 ((shrI .u64 x (32:Int))*(andI .u64 y (4294967295:Int))))+(shrI .u64 (IntKind.wrap .u64 ((andI .u64 x (4294967295:Int))*(andI .u64 y (4294967295:Int)))) (32:Int)))) (32:Int))))+(shrI .u64 (IntKind.wrap .u64 ((andI .u64 (IntKind.wrap .u64 ((IntKind.wrap .u64 ((shrI .u64 x (32:Int))*(andI .u64 y (4294967295:Int))))+(shrI .u64 (IntKind.wrap .u64 ((andI .u64 x (4294967295:Int))*(andI .u64 y (4294967295:Int)))) (32:Int)))) (4294967295:Int))+(IntKind.wrap .u64 ((andI .u64 x (4294967295:Int))*(shrI .u64 y (32:Int)))))) (32:Int)))),(IntKind.wrap .u64 (x*y))):=by kernel_rfl
theorem wide_sure_eq (n:Nat) (a:(Int×Int)) (over:Int):wide_sure (n+1) a over =
 tif ((!(decide (over=0)))) (
 some (((0:Int),(0:Int)),(1:Int))) (
 some (a,(0:Int))):=by kernel_rfl
theorem sl_Equal_Label_eq (n:Nat) (s1:(List (List UInt8×List UInt8))) (s2:(List (List UInt8×List UInt8))):sl_Equal_Label (n+1) s1 s2 =
 tif ((!(decide ((((List.length s1):Nat):Int)=(((List.length s2):Nat):Int))))) (
 some false) (
 obind (sl_Equal_Label_l4 n loopFuel (s1,(s2,((((List.length s1):Nat):Int),((0:Int),()))))) fun r0 =>
 selim (fun y1 =>
 some true) (fun z2 =>
 some z2) r0):=by kernel_rfl
theorem sl_Equal_Label_l4_eq (n f:Nat) (s1:(List (List UInt8×List UInt8))) (s2:(List (List UInt8×List UInt8))) (s12:Int) (s13:Int):sl_Equal_Label_l4 n (f+1) (s1,s2,s12,s13,()) =
 tif ((decide (s13<s12))) (
 obind (at? s1 s13) fun r0 =>
 obind (at? s2 s13) fun r1 =>
 tif ((!((r0.1==r1.1)&&(r0.2==r1.2)))) (
 some (.inr false)) (
 sl_Equal_Label_l4 n f (s1,(s2,(s12,((IntKind.wrap .i64 (s13+1)),())))))) (
 some (.inl ())):=by kernel_rfl
theorem r01_Add_eq (n:Nat) (a:(Int×Int)) (b:(Int×Int)):r01_Add (n+1) a b =
 obind (r01_Bytes n a) fun r0 =>
 obind (r01_Bytes n b) fun r1 =>
 tif ((decide ((0:Int)<(IntKind.wrap .i64 (Int.tdiv (IntKind.wrap .i64 ((IntKind.wrap .i64 (r0.2.2.2.2.2.2.2.2.2.2.2.2.2.2.2+r1.2.2.2.2.2.2.2.2.2.2.2.2.2.2.2))+(IntKind.wrap .i64 (Int.tdiv (IntKind.wrap .i64 ((IntKind.wrap .i64 (r0.2.2.2.2.2.2.2.2.2.2.2.2.2.2.1+r1.2.2.2.2.2.2.2.2.2.2.2.2.2.2.1))+(IntKind.wrap .i64 (Int.tdiv (IntKind.wrap .i64 ((IntKind.wrap .i64 (r0.2.2.2.2.2.2.2.2.2.2.2.2.2.1+r1.2.2.2.2.2.2.2.2.2.2.2.2.2.1))+(IntKind.wrap .i64 (Int.tdiv (IntKind.wrap .i64 ((IntKind.wrap .i64 (r0.2.2.2.2.2.2.2.2.2.2.2.2.1+r1.2.2.2.2.2.2.2.2.2.2.2.2.1))+(IntKind.wrap .i64 (Int.tdiv (IntKind.wrap .i64 ((IntKind.wrap .i64 (r0.2.2.2.2.2.2.2.2.2.2.2.1+r1.2.2.2.2.2.2.2.2.2.2.2.1))+(IntKind.wrap .i64 (Int.tdiv (IntKind.wrap .i64 ((IntKind.wrap .i64 (r0.2.2.2.2.2.2.2.2.2.2.1+r1.2.2.2.2.2.2.2.2.2.2.1))+(IntKind.wrap .i64 (Int.tdiv (IntKind.wrap .i64 ((IntKind.wrap .i64 (r0.2.2.2.2.2.2.2.2.2.1+r1.2.2.2.2.2.2.2.2.2.1))+(IntKind.wrap .i64 (Int.tdiv (IntKind.wrap .i64 ((IntKind.wrap .i64 (r0.2.2.2.2.2.2.2.2.1+r1.2.2.2.2.2.2.2.2.1))+(IntKind.wrap .i64 (Int.tdiv (IntKind.wrap .i64 ((IntKind.wrap .i64 (r0.2.2.2.2.2.2.2.1+r1.2.2.2.2.2.2.2.1))+(IntKind.wrap .i64 (Int.tdiv (IntKind.wrap .i64 ((IntKind.wrap .i64 (r0.2.2.2.2.2.2.1+r1.2.2.2.2.2.2.1))+(IntKind.wrap .i64 (Int.tdiv (IntKind.wrap .i64 ((IntKind.wrap .i64 (r0.2.2.2.2.2.1+r1.2.2.2.2.2.1))+(IntKind.wrap .i64 (Int.tdiv (IntKind.wrap .i64 ((IntKind.wrap .i64 (r0.2.2.2.2.1+r1.2.2.2.2.1))+(IntKind.wrap .i64 (Int.tdiv (IntKind.wrap .i64 ((IntKind.wrap .i64 (r0.2.2.2.1+r1.2.2.2.1))+(IntKind.wrap .i64 (Int.tdiv (IntKind.wrap .i64 ((IntKind.wrap .i64 (r0.2.2.1+r1.2.2.1))+(IntKind.wrap .i64 (Int.tdiv (IntKind.wrap .i64 ((IntKind.wrap .i64 (r0.2.1+r1.2.1))+(IntKind.wrap .i64 (Int.tdiv (IntKind.wrap .i64 ((IntKind.wrap .i64 (r0.1+r1.1))+0)) (256:Int))))) (256:Int))))) (256:Int))))) (256:Int))))) (256:Int))))) (256:Int))))) (256:Int))))) (256:Int))))) (256:Int))))) (256:Int))))) (256:Int))))) (256:Int))))) (256:Int))))) (256:Int))))) (256:Int))))) (256:Int)))))) (
 some (((0:Int),(0:Int)),(1:Int))) (
 obind (r01_Of n ((Int.tmod (IntKind.wrap .i64 ((IntKind.wrap .i64 (r0.1+r1.1))+0)) (256:Int)),((Int.tmod (IntKind.wrap .i64 ((IntKind.wrap .i64 (r0.2.1+r1.2.1))+(IntKind.wrap .i64 (Int.tdiv (IntKind.wrap .i64 ((IntKind.wrap .i64 (r0.1+r1.1))+0)) (256:Int))))) (256:Int)),((Int.tmod (IntKind.wrap .i64 ((IntKind.wrap .i64 (r0.2.2.1+r1.2.2.1))+(IntKind.wrap .i64 (Int.tdiv (IntKind.wrap .i64 ((IntKind.wrap .i64 (r0.2.1+r1.2.1))+(IntKind.wrap .i64 (Int.tdiv (IntKind.wrap .i64 ((IntKind.wrap .i64 (r0.1+r1.1))+0)) (256:Int))))) (256:Int))))) (256:Int)),((Int.tmod (IntKind.wrap .i64 ((IntKind.wrap .i64 (r0.2.2.2.1+r1.2.2.2.1))+(IntKind.wrap .i64 (Int.tdiv (IntKind.wrap .i64 ((IntKind.wrap .i64 (r0.2.2.1+r1.2.2.1))+(IntKind.wrap .i64 (Int.tdiv (IntKind.wrap .i64 ((IntKind.wrap .i64 (r0.2.1+r1.2.1))+(IntKind.wrap .i64 (Int.tdiv (IntKind.wrap .i64 ((IntKind.wrap .i64 (r0.1+r1.1))+0)) (256:Int))))) (256:Int))))) (256:Int))))) (256:Int)),((Int.tmod (IntKind.wrap .i64 ((IntKind.wrap .i64 (r0.2.2.2.2.1+r1.2.2.2.2.1))+(IntKind.wrap .i64 (Int.tdiv (IntKind.wrap .i64 ((IntKind.wrap .i64 (r0.2.2.2.1+r1.2.2.2.1))+(IntKind.wrap .i64 (Int.tdiv (IntKind.wrap .i64 ((IntKind.wrap .i64 (r0.2.2.1+r1.2.2.1))+(IntKind.wrap .i64 (Int.tdiv (IntKind.wrap .i64 ((IntKind.wrap .i64 (r0.2.1+r1.2.1))+(IntKind.wrap .i64 (Int.tdiv (IntKind.wrap .i64 ((IntKind.wrap .i64 (r0.1+r1.1))+0)) (256:Int))))) (256:Int))))) (256:Int))))) (256:Int))))) (256:Int)),((Int.tmod (IntKind.wrap .i64 ((IntKind.wrap .i64 (r0.2.2.2.2.2.1+r1.2.2.2.2.2.1))+(IntKind.wrap .i64 (Int.tdiv (IntKind.wrap .i64 ((IntKind.wrap .i64 (r0.2.2.2.2.1+r1.2.2.2.2.1))+(IntKind.wrap .i64 (Int.tdiv (IntKind.wrap .i64 ((IntKind.wrap .i64 (r0.2.2.2.1+r1.2.2.2.1))+(IntKind.wrap .i64 (Int.tdiv (IntKind.wrap .i64 ((IntKind.wrap .i64 (r0.2.2.1+r1.2.2.1))+(IntKind.wrap .i64 (Int.tdiv (IntKind.wrap .i64 ((IntKind.wrap .i64 (r0.2.1+r1.2.1))+(IntKind.wrap .i64 (Int.tdiv (IntKind.wrap .i64 ((IntKind.wrap .i64 (r0.1+r1.1))+0)) (256:Int))))) (256:Int))))) (256:Int))))) (256:Int))))) (256:Int))))) (256:Int)),((Int.tmod (IntKind.wrap .i64 ((IntKind.wrap .i64 (r0.2.2.2.2.2.2.1+r1.2.2.2.2.2.2.1))+(IntKind.wrap .i64 (Int.tdiv (IntKind.wrap .i64 ((IntKind.wrap .i64 (r0.2.2.2.2.2.1+r1.2.2.2.2.2.1))+(IntKind.wrap .i64 (Int.tdiv (IntKind.wrap .i64 ((IntKind.wrap .i64 (r0.2.2.2.2.1+r1.2.2.2.2.1))+(IntKind.wrap .i64 (Int.tdiv (IntKind.wrap .i64 ((IntKind.wrap .i64 (r0.2.2.2.1+r1.2.2.2.1))+(IntKind.wrap .i64 (Int.tdiv (IntKind.wrap .i64 ((IntKind.wrap .i64 (r0.2.2.1+r1.2.2.1))+(IntKind.wrap .i64 (Int.tdiv (IntKind.wrap .i64 ((IntKind.wrap .i64 (r0.2.1+r1.2.1))+(IntKind.wrap .i64 (Int.tdiv (IntKind.wrap .i64 ((IntKind.wrap .i64 (r0.1+r1.1))+0)) (256:Int))))) (256:Int))))) (256:Int))))) (256:Int))))) (256:Int))))) (256:Int))))) (256:Int)),((Int.tmod (IntKind.wrap .i64 ((IntKind.wrap .i64 (r0.2.2.2.2.2.2.2.1+r1.2.2.2.2.2.2.2.1))+(IntKind.wrap .i64 (Int.tdiv (IntKind.wrap .i64 ((IntKind.wrap .i64 (r0.2.2.2.2.2.2.1+r1.2.2.2.2.2.2.1))+(IntKind.wrap .i64 (Int.tdiv (IntKind.wrap .i64 ((IntKind.wrap .i64 (r0.2.2.2.2.2.1+r1.2.2.2.2.2.1))+(IntKind.wrap .i64 (Int.tdiv (IntKind.wrap .i64 ((IntKind.wrap .i64 (r0.2.2.2.2.1+r1.2.2.2.2.1))+(IntKind.wrap .i64 (Int.tdiv (IntKind.wrap .i64 ((IntKind.wrap .i64 (r0.2.2.2.1+r1.2.2.2.1))+(IntKind.wrap .i64 (Int.tdiv (IntKind.wrap .i64 ((IntKind.wrap .i64 (r0.2.2.1+r1.2.2.1))+(IntKind.wrap .i64 (Int.tdiv (IntKind.wrap .i64 ((IntKind.wrap .i64 (r0.2.1+r1.2.1))+(IntKind.wrap .i64 (Int.tdiv (IntKind.wrap .i64 ((IntKind.wrap .i64 (r0.1+r1.1))+0)) (256:Int))))) (256:Int))))) (256:Int))))) (256:Int))))) (256:Int))))) (256:Int))))) (256:Int))))) (256:Int)),((Int.tmod (IntKind.wrap .i64 ((IntKind.wrap .i64 (r0.2.2.2.2.2.2.2.2.1+r1.2.2.2.2.2.2.2.2.1))+(IntKind.wrap .i64 (Int.tdiv (IntKind.wrap .i64 ((IntKind.wrap .i64 (r0.2.2.2.2.2.2.2.1+r1.2.2.2.2.2.2.2.1))+(IntKind.wrap .i64 (Int.tdiv (IntKind.wrap .i64 ((IntKind.wrap .i64 (r0.2.2.2.2.2.2.1+r1.2.2.2.2.2.2.1))+(IntKind.wrap .i64 (Int.tdiv (IntKind.wrap .i64 ((IntKind.wrap .i64 (r0.2.2.2.2.2.1+r1.2.2.2.2.2.1))+(IntKind.wrap .i64 (Int.tdiv (IntKind.wrap .i64 ((IntKind.wrap .i64 (r0.2.2.2.2.1+r1.2.2.2.2.1))+(IntKind.wrap .i64 (Int.tdiv (IntKind.wrap .i64 ((IntKind.wrap .i64 (r0.2.2.2.1+r1.2.2.2.1))+(IntKind.wrap .i64 (Int.tdiv (IntKind.wrap .i64 ((IntKind.wrap .i64 (r0.2.2.1+r1.2.2.1))+(IntKind.wrap .i64 (Int.tdiv (IntKind.wrap .i64 ((IntKind.wrap .i64 (r0.2.1+r1.2.1))+(IntKind.wrap .i64 (Int.tdiv (IntKind.wrap .i64 ((IntKind.wrap .i64 (r0.1+r1.1))+0)) (256:Int))))) (256:Int))))) (256:Int))))) (256:Int))))) (256:Int))))) (256:Int))))) (256:Int))))) (256:Int))))) (256:Int)),((Int.tmod (IntKind.wrap .i64 ((IntKind.wrap .i64 (r0.2.2.2.2.2.2.2.2.2.1+r1.2.2.2.2.2.2.2.2.2.1))+(IntKind.wrap .i64 (Int.tdiv (IntKind.wrap .i64 ((IntKind.wrap .i64 (r0.2.2.2.2.2.2.2.2.1+r1.2.2.2.2.2.2.2.2.1))+(IntKind.wrap .i64 (Int.tdiv (IntKind.wrap .i64 ((IntKind.wrap .i64 (r0.2.2.2.2.2.2.2.1+r1.2.2.2.2.2.2.2.1))+(IntKind.wrap .i64 (Int.tdiv (IntKind.wrap .i64 ((IntKind.wrap .i64 (r0.2.2.2.2.2.2.1+r1.2.2.2.2.2.2.1))+(IntKind.wrap .i64 (Int.tdiv (IntKind.wrap .i64 ((IntKind.wrap .i64 (r0.2.2.2.2.2.1+r1.2.2.2.2.2.1))+(IntKind.wrap .i64 (Int.tdiv (IntKind.wrap .i64 ((IntKind.wrap .i64 (r0.2.2.2.2.1+r1.2.2.2.2.1))+(IntKind.wrap .i64 (Int.tdiv (IntKind.wrap .i64 ((IntKind.wrap .i64 (r0.2.2.2.1+r1.2.2.2.1))+(IntKind.wrap .i64 (Int.tdiv (IntKind.wrap .i64 ((IntKind.wrap .i64 (r0.2.2.1+r1.2.2.1))+(IntKind.wrap .i64 (Int.tdiv (IntKind.wrap .i64 ((IntKind.wrap .i64 (r0.2.1+r1.2.1))+(IntKind.wrap .i64 (Int.tdiv (IntKind.wrap .i64 ((IntKind.wrap .i64 (r0.1+r1.1))+0)) (256:Int))))) (256:Int))))) (256:Int))))) (256:Int))))) (256:Int))))) (256:Int))))) (256:Int))))) (256:Int))))) (256:Int))))) (256:Int)),((Int.tmod (IntKind.wrap .i64 ((IntKind.wrap .i64 (r0.2.2.2.2.2.2.2.2.2.2.1+r1.2.2.2.2.2.2.2.2.2.2.1))+(IntKind.wrap .i64 (Int.tdiv (IntKind.wrap .i64 ((IntKind.wrap .i64 (r0.2.2.2.2.2.2.2.2.2.1+r1.2.2.2.2.2.2.2.2.2.1))+(IntKind.wrap .i64 (Int.tdiv (IntKind.wrap .i64 ((IntKind.wrap .i64 (r0.2.2.2.2.2.2.2.2.1+r1.2.2.2.2.2.2.2.2.1))+(IntKind.wrap .i64 (Int.tdiv (IntKind.wrap .i64 ((IntKind.wrap .i64 (r0.2.2.2.2.2.2.2.1+r1.2.2.2.2.2.2.2.1))+(IntKind.wrap .i64 (Int.tdiv (IntKind.wrap .i64 ((IntKind.wrap .i64 (r0.2.2.2.2.2.2.1+r1.2.2.2.2.2.2.1))+(IntKind.wrap .i64 (Int.tdiv (IntKind.wrap .i64 ((IntKind.wrap .i64 (r0.2.2.2.2.2.1+r1.2.2.2.2.2.1))+(IntKind.wrap .i64 (Int.tdiv (IntKind.wrap .i64 ((IntKind.wrap .i64 (r0.2.2.2.2.1+r1.2.2.2.2.1))+(IntKind.wrap .i64 (Int.tdiv (IntKind.wrap .i64 ((IntKind.wrap .i64 (r0.2.2.2.1+r1.2.2.2.1))+(IntKind.wrap .i64 (Int.tdiv (IntKind.wrap .i64 ((IntKind.wrap .i64 (r0.2.2.1+r1.2.2.1))+(IntKind.wrap .i64 (Int.tdiv (IntKind.wrap .i64 ((IntKind.wrap .i64 (r0.2.1+r1.2.1))+(IntKind.wrap .i64 (Int.tdiv (IntKind.wrap .i64 ((IntKind.wrap .i64 (r0.1+r1.1))+0)) (256:Int))))) (256:Int))))) (256:Int))))) (256:Int))))) (256:Int))))) (256:Int))))) (256:Int))))) (256:Int))))) (256:Int))))) (256:Int))))) (256:Int)),((Int.tmod (IntKind.wrap .i64 ((IntKind.wrap .i64 (r0.2.2.2.2.2.2.2.2.2.2.2.1+r1.2.2.2.2.2.2.2.2.2.2.2.1))+(IntKind.wrap .i64 (Int.tdiv (IntKind.wrap .i64 ((IntKind.wrap .i64 (r0.2.2.2.2.2.2.2.2.2.2.1+r1.2.2.2.2.2.2.2.2.2.2.1))+(IntKind.wrap .i64 (Int.tdiv (IntKind.wrap .i64 ((IntKind.wrap .i64 (r0.2.2.2.2.2.2.2.2.2.1+r1.2.2.2.2.2.2.2.2.2.1))+(IntKind.wrap .i64 (Int.tdiv (IntKind.wrap .i64 ((IntKind.wrap .i64 (r0.2.2.2.2.2.2.2.2.1+r1.2.2.2.2.2.2.2.2.1))+(IntKind.wrap .i64 (Int.tdiv (IntKind.wrap .i64 ((IntKind.wrap .i64 (r0.2.2.2.2.2.2.2.1+r1.2.2.2.2.2.2.2.1))+(IntKind.wrap .i64 (Int.tdiv (IntKind.wrap .i64 ((IntKind.wrap .i64 (r0.2.2.2.2.2.2.1+r1.2.2.2.2.2.2.1))+(IntKind.wrap .i64 (Int.tdiv (IntKind.wrap .i64 ((IntKind.wrap .i64 (r0.2.2.2.2.2.1+r1.2.2.2.2.2.1))+(IntKind.wrap .i64 (Int.tdiv (IntKind.wrap .i64 ((IntKind.wrap .i64 (r0.2.2.2.2.1+r1.2.2.2.2.1))+(IntKind.wrap .i64 (Int.tdiv (IntKind.wrap .i64 ((IntKind.wrap .i64 (r0.2.2.2.1+r1.2.2.2.1))+(IntKind.wrap .i64 (Int.tdiv (IntKind.wrap .i64 ((IntKind.wrap .i64 (r0.2.2.1+r1.2.2.1))+(IntKind.wrap .i64 (Int.tdiv (IntKind.wrap .i64 ((IntKind.wrap .i64 (r0.2.1+r1.2.1))+(IntKind.wrap .i64 (Int.tdiv (IntKind.wrap .i64 ((IntKind.wrap .i64 (r0.1+r1.1))+0)) (256:Int))))) (256:Int))))) (256:Int))))) (256:Int))))) (256:Int))))) (256:Int))))) (256:Int))))) (256:Int))))) (256:Int))))) (256:Int))))) (256:Int))))) (256:Int)),((Int.tmod (IntKind.wrap .i64 ((IntKind.wrap .i64 (r0.2.2.2.2.2.2.2.2.2.2.2.2.1+r1.2.2.2.2.2.2.2.2.2.2.2.2.1))+(IntKind.wrap .i64 (Int.tdiv (IntKind.wrap .i64 ((IntKind.wrap .i64 (r0.2.2.2.2.2.2.2.2.2.2.2.1+r1.2.2.2.2.2.2.2.2.2.2.2.1))+(IntKind.wrap .i64 (Int.tdiv (IntKind.wrap .i64 ((IntKind.wrap .i64 (r0.2.2.2.2.2.2.2.2.2.2.1+r1.2.2.2.2.2.2.2.2.2.2.1))+(IntKind.wrap .i64 (Int.tdiv (IntKind.wrap .i64 ((IntKind.wrap .i64 (r0.2.2.2.2.2.2.2.2.2.1+r1.2.2.2.2.2.2.2.2.2.1))+(IntKind.wrap .i64 (Int.tdiv (IntKind.wrap .i64 ((IntKind.wrap .i64 (r0.2.2.2.2.2.2.2.2.1+r1.2.2.2.2.2.2.2.2.1))+(IntKind.wrap .i64 (Int.tdiv (IntKind.wrap .i64 ((IntKind.wrap .i64 (r0.2.2.2.2.2.2.2.1+r1.2.2.2.2.2.2.2.1))+(IntKind.wrap .i64 (Int.tdiv (IntKind.wrap .i64 ((IntKind.wrap .i64 (r0.2.2.2.2.2.2.1+r1.2.2.2.2.2.2.1))+(IntKind.wrap .i64 (Int.tdiv (IntKind.wrap .i64 ((IntKind.wrap .i64 (r0.2.2.2.2.2.1+r1.2.2.2.2.2.1))+(IntKind.wrap .i64 (Int.tdiv (IntKind.wrap .i64 ((IntKind.wrap .i64 (r0.2.2.2.2.1+r1.2.2.2.2.1))+(IntKind.wrap .i64 (Int.tdiv (IntKind.wrap .i64 ((IntKind.wrap .i64 (r0.2.2.2.1+r1.2.2.2.1))+(IntKind.wrap .i64 (Int.tdiv (IntKind.wrap .i64 ((IntKind.wrap .i64 (r0.2.2.1+r1.2.2.1))+(IntKind.wrap .i64 (Int.tdiv (IntKind.wrap .i64 ((IntKind.wrap .i64 (r0.2.1+r1.2.1))+(IntKind.wrap .i64 (Int.tdiv (IntKind.wrap .i64 ((IntKind.wrap .i64 (r0.1+r1.1))+0)) (256:Int))))) (256:Int))))) (256:Int))))) (256:Int))))) (256:Int))))) (256:Int))))) (256:Int))))) (256:Int))))) (256:Int))))) (256:Int))))) (256:Int))))) (256:Int))))) (256:Int)),((Int.tmod (IntKind.wrap .i64 ((IntKind.wrap .i64 (r0.2.2.2.2.2.2.2.2.2.2.2.2.2.1+r1.2.2.2.2.2.2.2.2.2.2.2.2.2.1))+(IntKind.wrap .i64 (Int.tdiv (IntKind.wrap .i64 ((IntKind.wrap .i64 (r0.2.2.2.2.2.2.2.2.2.2.2.2.1+r1.2.2.2.2.2.2.2.2.2.2.2.2.1))+(IntKind.wrap .i64 (Int.tdiv (IntKind.wrap .i64 ((IntKind.wrap .i64 (r0.2.2.2.2.2.2.2.2.2.2.2.1+r1.2.2.2.2.2.2.2.2.2.2.2.1))+(IntKind.wrap .i64 (Int.tdiv (IntKind.wrap .i64 ((IntKind.wrap .i64 (r0.2.2.2.2.2.2.2.2.2.2.1+r1.2.2.2.2.2.2.2.2.2.2.1))+(IntKind.wrap .i64 (Int.tdiv (IntKind.wrap .i64 ((IntKind.wrap .i64 (r0.2.2.2.2.2.2.2.2.2.1+r1.2.2.2.2.2.2.2.2.2.1))+(IntKind.wrap .i64 (Int.tdiv (IntKind.wrap .i64 ((IntKind.wrap .i64 (r0.2.2.2.2.2.2.2.2.1+r1.2.2.2.2.2.2.2.2.1))+(IntKind.wrap .i64 (Int.tdiv (IntKind.wrap .i64 ((IntKind.wrap .i64 (r0.2.2.2.2.2.2.2.1+r1.2.2.2.2.2.2.2.1))+(IntKind.wrap .i64 (Int.tdiv (IntKind.wrap .i64 ((IntKind.wrap .i64 (r0.2.2.2.2.2.2.1+r1.2.2.2.2.2.2.1))+(IntKind.wrap .i64 (Int.tdiv (IntKind.wrap .i64 ((IntKind.wrap .i64 (r0.2.2.2.2.2.1+r1.2.2.2.2.2.1))+(IntKind.wrap .i64 (Int.tdiv (IntKind.wrap .i64 ((IntKind.wrap .i64 (r0.2.2.2.2.1+r1.2.2.2.2.1))+(IntKind.wrap .i64 (Int.tdiv (IntKind.wrap .i64 ((IntKind.wrap .i64 (r0.2.2.2.1+r1.2.2.2.1))+(IntKind.wrap .i64 (Int.tdiv (IntKind.wrap .i64 ((IntKind.wrap .i64 (r0.2.2.1+r1.2.2.1))+(IntKind.wrap .i64 (Int.tdiv (IntKind.wrap .i64 ((IntKind.wrap .i64 (r0.2.1+r1.2.1))+(IntKind.wrap .i64 (Int.tdiv (IntKind.wrap .i64 ((IntKind.wrap .i64 (r0.1+r1.1))+0)) (256:Int))))) (256:Int))))) (256:Int))))) (256:Int))))) (256:Int))))) (256:Int))))) (256:Int))))) (256:Int))))) (256:Int))))) (256:Int))))) (256:Int))))) (256:Int))))) (256:Int))))) (256:Int)),((Int.tmod (IntKind.wrap .i64 ((IntKind.wrap .i64 (r0.2.2.2.2.2.2.2.2.2.2.2.2.2.2.1+r1.2.2.2.2.2.2.2.2.2.2.2.2.2.2.1))+(IntKind.wrap .i64 (Int.tdiv (IntKind.wrap .i64 ((IntKind.wrap .i64 (r0.2.2.2.2.2.2.2.2.2.2.2.2.2.1+r1.2.2.2.2.2.2.2.2.2.2.2.2.2.1))+(IntKind.wrap .i64 (Int.tdiv (IntKind.wrap .i64 ((IntKind.wrap .i64 (r0.2.2.2.2.2.2.2.2.2.2.2.2.1+r1.2.2.2.2.2.2.2.2.2.2.2.2.1))+(IntKind.wrap .i64 (Int.tdiv (IntKind.wrap .i64 ((IntKind.wrap .i64 (r0.2.2.2.2.2.2.2.2.2.2.2.1+r1.2.2.2.2.2.2.2.2.2.2.2.1))+(IntKind.wrap .i64 (Int.tdiv (IntKind.wrap .i64 ((IntKind.wrap .i64 (r0.2.2.2.2.2.2.2.2.2.2.1+r1.2.2.2.2.2.2.2.2.2.2.1))+(IntKind.wrap .i64 (Int.tdiv (IntKind.wrap .i64 ((IntKind.wrap .i64 (r0.2.2.2.2.2.2.2.2.2.1+r1.2.2.2.2.2.2.2.2.2.1))+(IntKind.wrap .i64 (Int.tdiv (IntKind.wrap .i64 ((IntKind.wrap .i64 (r0.2.2.2.2.2.2.2.2.1+r1.2.2.2.2.2.2.2.2.1))+(IntKind.wrap .i64 (Int.tdiv (IntKind.wrap .i64 ((IntKind.wrap .i64 (r0.2.2.2.2.2.2.2.1+r1.2.2.2.2.2.2.2.1))+(IntKind.wrap .i64 (Int.tdiv (IntKind.wrap .i64 ((IntKind.wrap .i64 (r0.2.2.2.2.2.2.1+r1.2.2.2.2.2.2.1))+(IntKind.wrap .i64 (Int.tdiv (IntKind.wrap .i64 ((IntKind.wrap .i64 (r0.2.2.2.2.2.1+r1.2.2.2.2.2.1))+(IntKind.wrap .i64 (Int.tdiv (IntKind.wrap .i64 ((IntKind.wrap .i64 (r0.2.2.2.2.1+r1.2.2.2.2.1))+(IntKind.wrap .i64 (Int.tdiv (IntKind.wrap .i64 ((IntKind.wrap .i64 (r0.2.2.2.1+r1.2.2.2.1))+(IntKind.wrap .i64 (Int.tdiv (IntKind.wrap .i64 ((IntKind.wrap .i64 (r0.2.2.1+r1.2.2.1))+(IntKind.wrap .i64 (Int.tdiv (IntKind.wrap .i64 ((IntKind.wrap .i64 (r0.2.1+r1.2.1))+(IntKind.wrap .i64 (Int.tdiv (IntKind.wrap .i64 ((IntKind.wrap .i64 (r0.1+r1.1))+0)) (256:Int))))) (256:Int))))) (256:Int))))) (256:Int))))) (256:Int))))) (256:Int))))) (256:Int))))) (256:Int))))) (256:Int))))) (256:Int))))) (256:Int))))) (256:Int))))) (256:Int))))) (256:Int))))) (256:Int)),(Int.tmod (IntKind.wrap .i64 ((IntKind.wrap .i64 (r0.2.2.2.2.2.2.2.2.2.2.2.2.2.2.2+r1.2.2.2.2.2.2.2.2.2.2.2.2.2.2.2))+(IntKind.wrap .i64 (Int.tdiv (IntKind.wrap .i64 ((IntKind.wrap .i64 (r0.2.2.2.2.2.2.2.2.2.2.2.2.2.2.1+r1.2.2.2.2.2.2.2.2.2.2.2.2.2.2.1))+(IntKind.wrap .i64 (Int.tdiv (IntKind.wrap .i64 ((IntKind.wrap .i64 (r0.2.2.2.2.2.2.2.2.2.2.2.2.2.1+r1.2.2.2.2.2.2.2.2.2.2.2.2.2.1))+(IntKind.wrap .i64 (Int.tdiv (IntKind.wrap .i64 ((IntKind.wrap .i64 (r0.2.2.2.2.2.2.2.2.2.2.2.2.1+r1.2.2.2.2.2.2.2.2.2.2.2.2.1))+(IntKind.wrap .i64 (Int.tdiv (IntKind.wrap .i64 ((IntKind.wrap .i64 (r0.2.2.2.2.2.2.2.2.2.2.2.1+r1.2.2.2.2.2.2.2.2.2.2.2.1))+(IntKind.wrap .i64 (Int.tdiv (IntKind.wrap .i64 ((IntKind.wrap .i64 (r0.2.2.2.2.2.2.2.2.2.2.1+r1.2.2.2.2.2.2.2.2.2.2.1))+(IntKind.wrap .i64 (Int.tdiv (IntKind.wrap .i64 ((IntKind.wrap .i64 (r0.2.2.2.2.2.2.2.2.2.1+r1.2.2.2.2.2.2.2.2.2.1))+(IntKind.wrap .i64 (Int.tdiv (IntKind.wrap .i64 ((IntKind.wrap .i64 (r0.2.2.2.2.2.2.2.2.1+r1.2.2.2.2.2.2.2.2.1))+(IntKind.wrap .i64 (Int.tdiv (IntKind.wrap .i64 ((IntKind.wrap .i64 (r0.2.2.2.2.2.2.2.1+r1.2.2.2.2.2.2.2.1))+(IntKind.wrap .i64 (Int.tdiv (IntKind.wrap .i64 ((IntKind.wrap .i64 (r0.2.2.2.2.2.2.1+r1.2.2.2.2.2.2.1))+(IntKind.wrap .i64 (Int.tdiv (IntKind.wrap .i64 ((IntKind.wrap .i64 (r0.2.2.2.2.2.1+r1.2.2.2.2.2.1))+(IntKind.wrap .i64 (Int.tdiv (IntKind.wrap .i64 ((IntKind.wrap .i64 (r0.2.2.2.2.1+r1.2.2.2.2.1))+(IntKind.wrap .i64 (Int.tdiv (IntKind.wrap .i64 ((IntKind.wrap .i64 (r0.2.2.2.1+r1.2.2.2.1))+(IntKind.wrap .i64 (Int.tdiv (IntKind.wrap .i64 ((IntKind.wrap .i64 (r0.2.2.1+r1.2.2.1))+(IntKind.wrap .i64 (Int.tdiv (IntKind.wrap .i64 ((IntKind.wrap .i64 (r0.2.1+r1.2.1))+(IntKind.wrap .i64 (Int.tdiv (IntKind.wrap .i64 ((IntKind.wrap .i64 (r0.1+r1.1))+0)) (256:Int))))) (256:Int))))) (256:Int))))) (256:Int))))) (256:Int))))) (256:Int))))) (256:Int))))) (256:Int))))) (256:Int))))) (256:Int))))) (256:Int))))) (256:Int))))) (256:Int))))) (256:Int))))) (256:Int))))) (256:Int)))))))))))))))))) fun r2 =>
 some (r2,(0:Int))):=by kernel_rfl
theorem l14_Small_eq (n:Nat) (s:((List TSlot)×((List TSlot)×(List TSlot)))):l14_Small (n+1) s =
 obind (l14_Small_l2 n loopFuel (s,((0:Int),()))) fun r0 =>
 selim (fun y1 =>
 some (1:Int)) (fun z2 =>
 some z2) r0:=by kernel_rfl
theorem l14_Small_l2_eq (n f:Nat) (s_:((List TSlot)×((List TSlot)×(List TSlot)))) (s4:Int):l14_Small_l2 n (f+1) (s_,s4,()) =
 tif ((decide (s4<3))) (
 tif ((decide (s4=0))) (
 tif ((decide ((40:Int)<(((List.length s_.1):Nat):Int)))) (
 some (.inr (0:Int))) (
 l14_Small_l2 n f (s_,((IntKind.wrap .i64 (s4+1)),())))) (
 tif ((decide (s4=1))) (
 tif ((decide ((40:Int)<(((List.length s_.2.1):Nat):Int)))) (
 some (.inr (0:Int))) (
 l14_Small_l2 n f (s_,((IntKind.wrap .i64 (s4+1)),())))) (
 tif ((decide (s4=2))) (
 tif ((decide ((40:Int)<(((List.length s_.2.2):Nat):Int)))) (
 some (.inr (0:Int))) (
 l14_Small_l2 n f (s_,((IntKind.wrap .i64 (s4+1)),())))) (
 none)))) (
 some (.inl ())):=by kernel_rfl
theorem ratio_none_eq (n:Nat) (a:(Int×Int)):ratio_none (n+1) a =
 some ((decide (a.1=0))&&(decide (a.2=0))):=by kernel_rfl
theorem ratio_Gcd_eq (n:Nat) (a:(Int×Int)) (b:(Int×Int)):ratio_Gcd (n+1) a b =
 obind (ratio_none n a) fun r0 =>
 tif (r0) (
 some ((orI .u64 a.1 b.1),(orI .u64 a.2 b.2))) (
 obind (ratio_none n b) fun r1 =>
 tif (r1) (
 some ((orI .u64 a.1 b.1),(orI .u64 a.2 b.2))) (
 obind (ratio_noughts n a) fun r2 =>
 obind (ratio_noughts n b) fun r3 =>
 obind (ratio_noughts n a) fun r4 =>
 obind (ratio_down n a r4) fun r5 =>
 obind (ratio_Gcd_l5 n loopFuel (r5,(b,(((0:Int),(0:Int)),((if r3<r2 then r3 else r2),()))))) fun r6 =>
 selim (fun y7 =>
 obind (ratio_up n y7.1 y7.2.2.1) fun r8 =>
 some r8) (fun z9 =>
 some z9) r6)):=by kernel_rfl
theorem ratio_Gcd_l5_eq (n f:Nat) (a_:(Int×Int)) (b_:(Int×Int)) (s4:(Int×Int)) (twos:Int):ratio_Gcd_l5 n (f+1) (a_,b_,s4,twos,()) =
 obind (ratio_none n b_) fun r0 =>
 tif ((!r0)) (
 obind (ratio_noughts n b_) fun r1 =>
 obind (ratio_down n b_ r1) fun r2 =>
 obind (wide_Less n r2 a_) fun r3 =>
 tif (r3) (
 obind (ratio_less n a_ r2) fun r4 =>
 ratio_Gcd_l5 n f (r2,(r4,(s4,(twos,()))))) (
 obind (ratio_less n r2 a_) fun r5 =>
 ratio_Gcd_l5 n f (a_,(r5,(s4,(twos,())))))) (
 some (.inl (a_,(s4,(twos,()))))):=by kernel_rfl
theorem r15_Check_eq (n:Nat) (c:TConfig) (s:TSeries):r15_Check (n+1) c s =
 obind (r10_Check n c) fun r0 =>
 tif ((!(decide (r0=0)))) (
 some (2:Int)) (
 obind (r05_Check n s.1) fun r1 =>
 tif ((!(decide (r1=0)))) (
 some (2:Int)) (
 obind (r12_Check n s.2.2.1 c.1) fun r2 =>
 tif ((!(decide (r2=0)))) (
 some (2:Int)) (
 obind (r14_Check n c s.2.2.2.1) fun r3 =>
 tif ((!(decide (r3=0)))) (
 some (2:Int)) (
 tif ((decide (s.2.1=((-1):Int)))) (
 tif ((decide ((0:Int)<(((List.length s.2.2.1.2.2):Nat):Int)))) (
 some (2:Int)) (
 tif ((!((decide (s.2.2.2.2.1=0))&&((decide (s.2.2.2.2.2.1=0))&&((decide (s.2.2.2.2.2.2.1.1=0))&&((decide (s.2.2.2.2.2.2.1.2.1=0))&&((decide (s.2.2.2.2.2.2.1.2.2.1=0))&&((s.2.2.2.2.2.2.1.2.2.2==false)&&((decide (s.2.2.2.2.2.2.2.1.1=0))&&((decide (s.2.2.2.2.2.2.2.1.2.1=0))&&((decide (s.2.2.2.2.2.2.2.1.2.2.1=0))&&((s.2.2.2.2.2.2.2.1.2.2.2==false)&&((decide (s.2.2.2.2.2.2.2.2.1.1=0))&&((decide (s.2.2.2.2.2.2.2.2.1.2=0))&&((decide (s.2.2.2.2.2.2.2.2.2.1=0))&&((decide (s.2.2.2.2.2.2.2.2.2.2.1=0))&&(decide (s.2.2.2.2.2.2.2.2.2.2.2=0)))))))))))))))))) (
 some (2:Int)) (
 obind (r15_Check_l7 n loopFuel (s,((0:Int),()))) fun r4 =>
 selim (fun y5 =>
 some (0:Int)) (fun z6 =>
 some z6) r4))) (
 obind (r12_Last n s.2.2.1) fun r7 =>
 tif ((!(decide (r7.2=0)))) (
 some (2:Int)) (
 tif ((!(decide (r7.1.1=s.2.1)))) (
 some (2:Int)) (
 obind (r13_Fits n s.2.2.2.2.2 c.2.1.1 s.2.2.2.2.1) fun r8 =>
 tif ((!r8)) (
 some (2:Int)) (
 tif ((!(decide (s.2.2.2.2.2.2.2.1.1=s.2.1)))) (
 some (2:Int)) (
 obind (r15_Check_l16 n loopFuel (c,(s,((0:Int),())))) fun r9 =>
 selim (fun y10 =>
 some (0:Int)) (fun z11 =>
 some z11) r9))))))))):=by kernel_rfl
theorem r15_Check_l7_eq (n f:Nat) (s_:TSeries) (k:Int):r15_Check_l7 n (f+1) (s_,k,()) =
 tif ((decide (k<3))) (
 tif ((decide (k=0))) (
 obind (r13_All n s_.2.2.2.1.1) fun r0 =>
 tif ((decide ((0:Int)<(((List.length r0):Nat):Int)))) (
 some (.inr (2:Int))) (
 r15_Check_l7 n f (s_,((IntKind.wrap .i64 (k+1)),())))) (
 tif ((decide (k=1))) (
 obind (r13_All n s_.2.2.2.1.2.1) fun r1 =>
 tif ((decide ((0:Int)<(((List.length r1):Nat):Int)))) (
 some (.inr (2:Int))) (
 r15_Check_l7 n f (s_,((IntKind.wrap .i64 (k+1)),())))) (
 tif ((decide (k=2))) (
 obind (r13_All n s_.2.2.2.1.2.2) fun r2 =>
 tif ((decide ((0:Int)<(((List.length r2):Nat):Int)))) (
 some (.inr (2:Int))) (
 r15_Check_l7 n f (s_,((IntKind.wrap .i64 (k+1)),())))) (
 none)))) (
 some (.inl ())):=by kernel_rfl
theorem r15_Check_l16_eq (n f:Nat) (c_:TConfig) (s_:TSeries) (k_:Int):r15_Check_l16 n (f+1) (c_,s_,k_,()) =
 tif ((decide (k_<3))) (
 tif ((decide (k_=0))) (
 obind (r13_All n s_.2.2.2.1.1) fun r0 =>
 obind (r15_Check_l19 n loopFuel (c_,(s_,(k_,(r0,((((List.length r0):Nat):Int),((0:Int),()))))))) fun r1 =>
 selim (fun y2 =>
 r15_Check_l16 n f (y2.1,(y2.2.1,((IntKind.wrap .i64 (y2.2.2.1+1)),())))) (fun z3 =>
 some (.inr z3)) r1) (
 tif ((decide (k_=1))) (
 obind (r13_All n s_.2.2.2.1.2.1) fun r4 =>
 obind (r15_Check_l19 n loopFuel (c_,(s_,(k_,(r4,((((List.length r4):Nat):Int),((0:Int),()))))))) fun r5 =>
 selim (fun y6 =>
 r15_Check_l16 n f (y6.1,(y6.2.1,((IntKind.wrap .i64 (y6.2.2.1+1)),())))) (fun z7 =>
 some (.inr z7)) r5) (
 tif ((decide (k_=2))) (
 obind (r13_All n s_.2.2.2.1.2.2) fun r8 =>
 obind (r15_Check_l19 n loopFuel (c_,(s_,(k_,(r8,((((List.length r8):Nat):Int),((0:Int),()))))))) fun r9 =>
 selim (fun y10 =>
 r15_Check_l16 n f (y10.1,(y10.2.1,((IntKind.wrap .i64 (y10.2.2.1+1)),())))) (fun z11 =>
 some (.inr z11)) r9) (
 none)))) (
 some (.inl ())):=by kernel_rfl
theorem r15_Check_l19_eq (n f:Nat) (c_:TConfig) (s_:TSeries) (k_:Int) (s106:(List TSlot)) (s107:Int) (s108:Int):r15_Check_l19 n (f+1) (c_,s_,k_,s106,s107,s108,()) =
 tif ((decide (s108<s107))) (
 obind (at? s106 s108) fun r0 =>
 tif ((decide (k_=0))) (
 tif ((decide (c_.2.1.1=0))) (
 none) (
 tif ((decide ((IntKind.wrap .i64 (Int.tdiv s_.2.1 c_.2.1.1))≤r0.1))) (
 some (.inr (2:Int))) (
 r15_Check_l19 n f (c_,(s_,(k_,(s106,(s107,((IntKind.wrap .i64 (s108+1)),()))))))))) (
 tif ((decide (k_=1))) (
 tif ((decide (c_.2.1.2.1=0))) (
 none) (
 tif ((decide ((IntKind.wrap .i64 (Int.tdiv s_.2.1 c_.2.1.2.1))≤r0.1))) (
 some (.inr (2:Int))) (
 r15_Check_l19 n f (c_,(s_,(k_,(s106,(s107,((IntKind.wrap .i64 (s108+1)),()))))))))) (
 tif ((decide (k_=2))) (
 tif ((decide (c_.2.1.2.2=0))) (
 none) (
 tif ((decide ((IntKind.wrap .i64 (Int.tdiv s_.2.1 c_.2.1.2.2))≤r0.1))) (
 some (.inr (2:Int))) (
 r15_Check_l19 n f (c_,(s_,(k_,(s106,(s107,((IntKind.wrap .i64 (s108+1)),()))))))))) (
 none)))) (
 some (.inl (c_,(s_,(k_,()))))):=by kernel_rfl
theorem r05_Same_l4_eq (n f:Nat) (a:(List (List UInt8×List UInt8))) (b:(List (List UInt8×List UInt8))) (s12:Int) (s13:Int):r05_Same_l4 n (f+1) (a,b,s12,s13,()) =
 tif ((decide (s13<s12))) (
 obind (at? a s13) fun r0 =>
 obind (at? b s13) fun r1 =>
 tif ((!((r0.1==r1.1)&&(r0.2==r1.2)))) (
 some (.inr false)) (
 r05_Same_l4 n f (a,(b,(s12,((IntKind.wrap .i64 (s13+1)),())))))) (
 some (.inl ())):=by kernel_rfl
theorem r05_Check_eq (n:Nat) (l:(List (List UInt8×List UInt8))):r05_Check (n+1) l =
 tif ((decide ((((List.length l):Nat):Int)<1))) (
 some (8:Int)) (
 tif ((decide ((16:Int)<(((List.length l):Nat):Int)))) (
 some (8:Int)) (
 obind (r05_Check_l5 n loopFuel (l,((0:Int),(l,((((List.length l):Nat):Int),((0:Int),())))))) fun r0 =>
 selim (fun y1 =>
 tif ((decide ((256:Int)<y1.1))) (
 some (8:Int)) (
 some (0:Int))) (fun z2 =>
 some z2) r0)):=by kernel_rfl
theorem r05_Check_l5_eq (n f:Nat) (l:(List (List UInt8×List UInt8))) (all:Int) (s14:(List (List UInt8×List UInt8))) (s15:Int) (s16:Int):r05_Check_l5 n (f+1) (l,all,s14,s15,s16,()) =
 tif ((decide (s16<s15))) (
 obind (at? s14 s16) fun r0 =>
 obind (r05_name n r0.1) fun r1 =>
 tif ((!r1)) (
 some (.inr (8:Int))) (
 tif ((decide ((128:Int)<(((List.length r0.2):Nat):Int)))) (
 some (.inr (8:Int))) (
 tif ((decide ((0:Int)<s16))) (
 obind (at? l (IntKind.wrap .i64 (s16-1))) fun r2 =>
 tif ((!(Go.Op.bytesLess r2.1 r0.1))) (
 some (.inr (8:Int))) (
 r05_Check_l5 n f (l,((IntKind.wrap .i64 (all+(IntKind.wrap .i64 ((((List.length r0.1):Nat):Int)+(((List.length r0.2):Nat):Int))))),(s14,(s15,((IntKind.wrap .i64 (s16+1)),()))))))) (
 r05_Check_l5 n f (l,((IntKind.wrap .i64 (all+(IntKind.wrap .i64 ((((List.length r0.1):Nat):Int)+(((List.length r0.2):Nat):Int))))),(s14,(s15,((IntKind.wrap .i64 (s16+1)),()))))))))) (
 some (.inl (all,()))):=by kernel_rfl
end Go.Proofs.YtefpnjjbopdplaaGreatDoor
