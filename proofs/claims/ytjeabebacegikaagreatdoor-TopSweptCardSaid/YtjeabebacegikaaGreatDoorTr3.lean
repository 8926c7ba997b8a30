/- Trees, printed by program. -/
import Derived.Test.YtjeabebacegikaaGreatDoorTr0
import Derived.KernelRfl
set_option linter.unusedVariables false
namespace Go.Proofs.YtjeabebacegikaaGreatDoor
open Go.Flat
theorem stt_Check_eq (n:Nat) (s:TState):stt_Check (n+1) s =
 obind (stt_open n s) fun r0 =>
 tif ((!(decide (r0.2=0)))) (
 some (2:Int)) (
 obind (stt_view_clock n r0.1) fun r1 =>
 tif ((!r1)) (
 some (2:Int)) (
 obind (stt_view_place n r0.1 (fun y2=>stt_Check_1 n y2.1 r0.1)) fun r3 =>
 tif ((decide ((0:Int)≤r3))) (
 some (2:Int)) (
 some (0:Int)))):=by kernel_rfl
theorem sweep_Do_eq (n:Nat) (s:TState):sweep_Do (n+1) s =
 obind (stt_Check n s) fun r0 =>
 tif ((!(decide (r0=0)))) (
 some ((((0:Int),(((0:Int),((0:Int),(0:Int))),(((0:Int),((0:Int),(0:Int))),((0:Int),(0:Int))))),((0:Int),((0:Int),[]))),((0:Int),r0))) (
 obind (sweep_Due n s) fun r1 =>
 some ((s.1,(s.2.1,(s.2.1,s.2.2.2))),((((List.length r1):Nat):Int),(0:Int)))):=by kernel_rfl
theorem sweep_Clean_eq (n:Nat) (s:TState):sweep_Clean (n+1) s =
 obind (stt_Check n s) fun r0 =>
 tif ((!(decide (r0=0)))) (
 some ((((0:Int),(((0:Int),((0:Int),(0:Int))),(((0:Int),((0:Int),(0:Int))),((0:Int),(0:Int))))),((0:Int),((0:Int),[]))),r0)) (
 tif (((decide ((0:Int)≤(((List.length s.2.2.2):Nat):Int)))&&((decide ((((List.length s.2.2.2):Nat):Int)≤(((List.length s.2.2.2):Nat):Int)))&&(decide (((((List.length s.2.2.2):Nat):Int)*264)≤140737488355328))))) (
 obind (stt_Live n s) fun r1 =>
 obind (sweep_Clean_l6 n loopFuel (s,((((0:Int),(((0:Int),((0:Int),(0:Int))),(((0:Int),((0:Int),(0:Int))),((0:Int),(0:Int))))),((0:Int),((0:Int),[]))),((List.replicate (Int.toNat (((List.length s.2.2.2):Nat):Int)) ([],((0:Int),(((0:Int),((0:Int),[])),(([],([],[])),((0:Int),((0:Int),(((0:Int),((0:Int),((0:Int),false))),(((0:Int),((0:Int),((0:Int),false))),(((0:Int),(0:Int)),((0:Int),((0:Int),(0:Int))))))))))))),(r1,((((List.length r1):Nat):Int),((0:Int),()))))))) fun r2 =>
 selim (fun y3 =>
 some ((y3.1.1,(y3.1.2.1,(y3.1.2.2.1,y3.2.2.1))),(0:Int))) (fun z4 =>
 some z4) r2) (
 none)):=by kernel_rfl
theorem sweep_Clean_l6_eq (n f:Nat) (s_:TState) (s2:TState) (out:(List TSeries)) (s24:(List Int)) (s25:Int) (s26:Int):sweep_Clean_l6 n (f+1) (s_,s2,out,s24,s25,s26,()) =
 tif ((decide (s26<s25))) (
 obind (at? s24 s26) fun r0 =>
 obind ((s24)[(Int.toNat s26)]?) fun r1 =>
 obind (at? s_.2.2.2 r1) fun r2 =>
 obind (sweep_Clean_l10 n loopFuel (s_,(s2,(out,(r1,(r2,(s24,(s25,(s26,(s_.1.2.1,((0:Int),()))))))))))) fun r3 =>
 selim (fun y4 =>
 obind (at? y4.2.2.1 y4.2.2.2.1) fun r5 =>
 obind ((y4.2.2.1)[(Int.toNat y4.2.2.2.1)]?) fun r6 =>
 sweep_Clean_l6 n f (y4.1,(y4.2.1,((List.set y4.2.2.1 (Int.toNat y4.2.2.2.1) y4.2.2.2.2.1),(y4.2.2.2.2.2.1,(y4.2.2.2.2.2.2.1,((IntKind.wrap .i64 (y4.2.2.2.2.2.2.2.1+1)),()))))))) (fun z7 =>
 some (.inr z7)) r3) (
 some (.inl (s_,(s2,(out,()))))):=by kernel_rfl
theorem sweep_Clean_l10_eq_0 (n f:Nat) (s_:TState) (s2:TState) (out:(List TSeries)) (i:Int) (x:TSeries) (s24:(List Int)) (s25:Int) (s26:Int) (s37:(Int×(Int×Int))):sweep_Clean_l10 n (f+1) (s_,s2,out,i,x,s24,s25,s26,s37,(0:Int),()) =
 obind (wi_Oldest n s_.2.1 s37.1 s_.1.2.2.1.1) fun r0 =>
 tif ((!(decide (r0.2=0)))) (
 some (.inr ((((0:Int),(((0:Int),((0:Int),(0:Int))),(((0:Int),((0:Int),(0:Int))),((0:Int),(0:Int))))),((0:Int),((0:Int),[]))),r0.2))) (
 obind (sweep_fade n s_.1 x (0:Int) r0.1) fun r1 =>
 sweep_Clean_l10 n f (s_,(s2,(out,(i,((x.1,(x.2.1,(x.2.2.1,((r1,x.2.2.2.1.2),x.2.2.2.2)))),(s24,(s25,(s26,(s37,((1:Int),()))))))))))):=by kernel_rfl
theorem sweep_Clean_l10_eq_1 (n f:Nat) (s_:TState) (s2:TState) (out:(List TSeries)) (i:Int) (x:TSeries) (s24:(List Int)) (s25:Int) (s26:Int) (s37:(Int×(Int×Int))):sweep_Clean_l10 n (f+1) (s_,s2,out,i,x,s24,s25,s26,s37,(1:Int),()) =
 obind (wi_Oldest n s_.2.1 s37.2.1 s_.1.2.2.1.2.1) fun r0 =>
 tif ((!(decide (r0.2=0)))) (
 some (.inr ((((0:Int),(((0:Int),((0:Int),(0:Int))),(((0:Int),((0:Int),(0:Int))),((0:Int),(0:Int))))),((0:Int),((0:Int),[]))),r0.2))) (
 obind (sweep_fade n s_.1 x (1:Int) r0.1) fun r1 =>
 sweep_Clean_l10 n f (s_,(s2,(out,(i,((x.1,(x.2.1,(x.2.2.1,((x.2.2.2.1.1,(r1,x.2.2.2.1.2.2)),x.2.2.2.2)))),(s24,(s25,(s26,(s37,((2:Int),()))))))))))):=by kernel_rfl
theorem sweep_Clean_l10_eq_2 (n f:Nat) (s_:TState) (s2:TState) (out:(List TSeries)) (i:Int) (x:TSeries) (s24:(List Int)) (s25:Int) (s26:Int) (s37:(Int×(Int×Int))):sweep_Clean_l10 n (f+1) (s_,s2,out,i,x,s24,s25,s26,s37,(2:Int),()) =
 obind (wi_Oldest n s_.2.1 s37.2.2 s_.1.2.2.1.2.2) fun r0 =>
 tif ((!(decide (r0.2=0)))) (
 some (.inr ((((0:Int),(((0:Int),((0:Int),(0:Int))),(((0:Int),((0:Int),(0:Int))),((0:Int),(0:Int))))),((0:Int),((0:Int),[]))),r0.2))) (
 obind (sweep_fade n s_.1 x (2:Int) r0.1) fun r1 =>
 sweep_Clean_l10 n f (s_,(s2,(out,(i,((x.1,(x.2.1,(x.2.2.1,((x.2.2.2.1.1,(x.2.2.2.1.2.1,r1)),x.2.2.2.2)))),(s24,(s25,(s26,(s37,((3:Int),()))))))))))):=by kernel_rfl
theorem sweep_Clean_l10_eq_3 (n f:Nat) (s_:TState) (s2:TState) (out:(List TSeries)) (i:Int) (x:TSeries) (s24:(List Int)) (s25:Int) (s26:Int) (s37:(Int×(Int×Int))):sweep_Clean_l10 n (f+1) (s_,s2,out,i,x,s24,s25,s26,s37,(3:Int),()) =
 some (.inl (s_,(s2,(out,(i,(x,(s24,(s25,(s26,()))))))))):=by kernel_rfl
theorem l05_Small_eq (n:Nat) (l:(List (List UInt8×List UInt8))):l05_Small (n+1) l =
 obind (l05_Small_l2 n loopFuel (l,((((List.length l):Nat):Int),((0:Int),())))) fun r0 =>
 selim (fun y1 =>
 some (1:Int)) (fun z2 =>
 some z2) r0:=by kernel_rfl
theorem l05_Small_l2_eq (n f:Nat) (s5:(List (List UInt8×List UInt8))) (s6:Int) (s7:Int):l05_Small_l2 n (f+1) (s5,s6,s7,()) =
 tif ((decide (s7<s6))) (
 obind (at? s5 s7) fun r0 =>
 tif ((decide (s7=40))) (
 some (.inr (0:Int))) (
 tif ((decide ((1000:Int)<(((List.length r0.1):Nat):Int)))) (
 some (.inr (0:Int))) (
 tif ((decide ((1000:Int)<(((List.length r0.2):Nat):Int)))) (
 some (.inr (0:Int))) (
 l05_Small_l2 n f (s5,(s6,((IntKind.wrap .i64 (s7+1)),()))))))) (
 some (.inl ())):=by kernel_rfl
theorem query_Do_eq (n:Nat) (s:TState) (a:TAsk):query_Do (n+1) s a =
 obind (query_may n s a.1) fun r0 =>
 tif ((!(decide (r0=0)))) (
 some (((0:Int),(((0:Int),(((0:Int),((0:Int),((0:Int),false))),(((0:Int),((0:Int),((0:Int),false))),(((0:Int),(0:Int)),((0:Int),((0:Int),(0:Int))))))),((((0:Int),(0:Int)),((0:Int),(0:Int))),(0:Int)))),r0)) (
 obind (query_Tier n s a.2.1 a.2.2.1 a.2.2.2) fun r1 =>
 tif ((!(decide (r1.2=0)))) (
 some (((0:Int),(((0:Int),(((0:Int),((0:Int),((0:Int),false))),(((0:Int),((0:Int),((0:Int),false))),(((0:Int),(0:Int)),((0:Int),((0:Int),(0:Int))))))),((((0:Int),(0:Int)),((0:Int),(0:Int))),(0:Int)))),r1.2)) (
 obind (query_of n s a (IntKind.wrap .i64 (r1.1-1))) fun r2 =>
 tif ((!(decide (r2.2=0)))) (
 some (((0:Int),(((0:Int),(((0:Int),((0:Int),((0:Int),false))),(((0:Int),((0:Int),((0:Int),false))),(((0:Int),(0:Int)),((0:Int),((0:Int),(0:Int))))))),((((0:Int),(0:Int)),((0:Int),(0:Int))),(0:Int)))),r2.2)) (
 obind (query_Rate n r2.1) fun r3 =>
 some ((r1.1,(r2.1,r3)),(0:Int))))):=by kernel_rfl
theorem query_Tier_eq (n:Nat) (s:TState) (tier:Int) (from_:Int) (to:Int):query_Tier (n+1) s tier from_ to =
 obind (stt_Check n s) fun r0 =>
 tif ((!(decide (r0=0)))) (
 some ((0:Int),r0)) (
 tif ((decide (tier<0))) (
 some ((0:Int),(1:Int))) (
 tif ((decide ((3:Int)<tier))) (
 some ((0:Int),(1:Int))) (
 tif ((decide (tier=0))) (
 obind (query_whichever n s from_ to) fun r1 =>
 some r1) (
 obind (query_one n s tier from_ to) fun r2 =>
 tif ((!(decide (r2=0)))) (
 some ((0:Int),r2)) (
 some (tier,(0:Int))))))):=by kernel_rfl
theorem query_Rate_eq (n:Nat) (c:TCell):query_Rate (n+1) c =
 tif ((decide (c.2.2.2.2.2.2<1))) (
 some ((((0:Int),(0:Int)),((0:Int),(0:Int))),(12:Int))) (
 obind (ratio_Rate n c.2.2.2.1 (IntKind.wrap .u64 c.2.2.2.2.2.2)) fun r0 =>
 some r0):=by kernel_rfl
theorem r12_SameList_eq (n:Nat) (a:(List TEvent)) (b:(List TEvent)):r12_SameList (n+1) a b =
 tif ((!(decide ((((List.length a):Nat):Int)=(((List.length b):Nat):Int))))) (
 some false) (
 obind (r12_SameList_l4 n loopFuel (a,(b,((((List.length a):Nat):Int),((0:Int),()))))) fun r0 =>
 selim (fun y1 =>
 some true) (fun z2 =>
 some z2) r0):=by kernel_rfl
theorem r12_SameList_l4_eq (n f:Nat) (a:(List TEvent)) (b:(List TEvent)) (s12:Int) (s13:Int):r12_SameList_l4 n (f+1) (a,b,s12,s13,()) =
 tif ((decide (s13<s12))) (
 obind (at? a s13) fun r0 =>
 obind (at? b s13) fun r1 =>
 tif ((!((decide (r0.1=r1.1))&&((decide (r0.2.1=r1.2.1))&&((decide (r0.2.2.1=r1.2.2.1))&&(r0.2.2.2==r1.2.2.2)))))) (
 some (.inr false)) (
 r12_SameList_l4 n f (a,(b,(s12,((IntKind.wrap .i64 (s13+1)),())))))) (
 some (.inl ())):=by kernel_rfl
theorem cell_Check_eq (n:Nat) (c:TCell):cell_Check (n+1) c =
 obind (cell_none n c) fun r0 =>
 tif (r0) (
 some (0:Int)) (
 obind (cell_spans n c) fun r1 =>
 tif ((!r1)) (
 some (2:Int)) (
 obind (wide_Of n (18446744073709551615:Int)) fun r2 =>
 obind (wide_Times n r2 (IntKind.wrap .u64 (IntKind.wrap .i64 (c.1-1)))) fun r3 =>
 tif ((!(decide (r3.2=0)))) (
 some (2:Int)) (
 obind (wide_Less n r3.1 c.2.2.2.1) fun r4 =>
 tif (r4) (
 some (2:Int)) (
 obind (cell_in n c.2.2.2.2.2.1 (IntKind.wrap .i64 (c.1-1))) fun r5 =>
 tif ((!r5)) (
 some (2:Int)) (
 obind (cell_in n c.2.2.2.2.1 (IntKind.wrap .i64 ((IntKind.wrap .i64 (c.1-1))-c.2.2.2.2.2.1))) fun r6 =>
 tif ((!r6)) (
 some (2:Int)) (
 obind (cell_in n c.2.2.2.2.2.2 (IntKind.wrap .i64 (c.2.2.1.1-c.2.1.1))) fun r7 =>
 tif ((!r7)) (
 some (2:Int)) (
 some (0:Int)))))))):=by kernel_rfl
theorem ratio_Rate_eq (n:Nat) (inc:(Int×Int)) (ms:Int):ratio_Rate (n+1) inc ms =
 tif ((decide (ms=0))) (
 some ((((0:Int),(0:Int)),((0:Int),(0:Int))),(12:Int))) (
 obind (wide_Times n inc (1000:Int)) fun r0 =>
 tif ((!(decide (r0.2=0)))) (
 some ((((0:Int),(0:Int)),((0:Int),(0:Int))),r0.2)) (
 obind (wide_Of n ms) fun r1 =>
 obind (ratio_Reduce n r0.1 r1) fun r2 =>
 some r2)):=by kernel_rfl
theorem stt_New_eq (n:Nat) (c:TConfig):stt_New (n+1) c =
 obind (conf_Size n c) fun r0 =>
 tif ((!(decide (r0.2=0)))) (
 some ((((0:Int),(((0:Int),((0:Int),(0:Int))),(((0:Int),((0:Int),(0:Int))),((0:Int),(0:Int))))),((0:Int),((0:Int),[]))),r0.2)) (
 tif (((decide ((0:Int)≤c.2.2.2.1))&&((decide (c.2.2.2.1≤c.2.2.2.1))&&(decide ((c.2.2.2.1*264)≤140737488355328))))) (
 some ((c,((0:Int),(((-1):Int),(List.replicate (Int.toNat c.2.2.2.1) ([],((0:Int),(((0:Int),((0:Int),[])),(([],([],[])),((0:Int),((0:Int),(((0:Int),((0:Int),((0:Int),false))),(((0:Int),((0:Int),((0:Int),false))),(((0:Int),(0:Int)),((0:Int),((0:Int),(0:Int)))))))))))))))),(0:Int))) (
 none)):=by kernel_rfl
theorem cell_Merge_eq (n:Nat) (a:TCell) (b:TCell):cell_Merge (n+1) a b =
 obind (cell_Check n a) fun r0 =>
 tif ((!(decide (r0=0)))) (
 some (((0:Int),(((0:Int),((0:Int),((0:Int),false))),(((0:Int),((0:Int),((0:Int),false))),(((0:Int),(0:Int)),((0:Int),((0:Int),(0:Int))))))),(2:Int))) (
 obind (cell_Check n b) fun r1 =>
 tif ((!(decide (r1=0)))) (
 some (((0:Int),(((0:Int),((0:Int),((0:Int),false))),(((0:Int),((0:Int),((0:Int),false))),(((0:Int),(0:Int)),((0:Int),((0:Int),(0:Int))))))),(2:Int))) (
 obind (cell_none n a) fun r2 =>
 tif (r2) (
 some (b,(0:Int))) (
 obind (cell_none n b) fun r3 =>
 tif (r3) (
 some (a,(0:Int))) (
 obind (cell_join n a b) fun r4 =>
 some r4)))):=by kernel_rfl
theorem top_fits11_eq (n:Nat) (c:TConfig):top_fits11 (n+1) c =
 obind (stt_New n c) fun r0 =>
 tif ((decide (r0.2=0))) (
 tif ((decide ((((List.length r0.1.2.2.2):Nat):Int)≤8))) (
 tif ((decide (c.1≤60))) (
 tif ((decide (c.2.2.1.1≤40))) (
 tif ((decide (c.2.2.1.2.1≤40))) (
 some (decide (c.2.2.1.2.2≤40))) (
 some false)) (
 some false)) (
 some false)) (
 some false)) (
 some false):=by kernel_rfl
theorem top_smallActs_eq (n:Nat) (l:(List Tplimsolltop_Act)):top_smallActs (n+1) l =
 tif ((decide ((40:Int)<(((List.length l):Nat):Int)))) (
 some false) (
 obind (top_smallActs_l4 n loopFuel (l,((((List.length l):Nat):Int),((0:Int),())))) fun r0 =>
 selim (fun y1 =>
 some true) (fun z2 =>
 some z2) r0):=by kernel_rfl
theorem top_smallActs_l4_eq (n f:Nat) (s8:(List Tplimsolltop_Act)) (s9:Int) (s10:Int):top_smallActs_l4 n (f+1) (s8,s9,s10,()) =
 tif ((decide (s10<s9))) (
 obind (at? s8 s10) fun r0 =>
 obind (l05_Small n r0.2.1.1) fun r1 =>
 tif ((decide (r1=0))) (
 some (.inr false)) (
 top_smallActs_l4 n f (s8,(s9,((IntKind.wrap .i64 (s10+1)),()))))) (
 some (.inl ())):=by kernel_rfl
theorem top_Act_Do_eq (n:Nat) (a:Tplimsolltop_Act) (s:TState):top_Act_Do (n+1) a s =
 tif ((decide (a.1=0))) (
 obind (write_One n s a.2.1.1 a.2.1.2) fun r0 =>
 tif ((decide (r0.2=0))) (
 some r0) (
 some (s,r0.2))) (
 tif ((decide (a.1=1))) (
 obind (csc_Tick n s a.2.2) fun r1 =>
 some (r1.1,(0:Int))) (
 tif ((decide (a.1=2))) (
 obind (sweep_Do n s) fun r2 =>
 tif ((decide (r2.2.2=0))) (
 some (r2.1,(0:Int))) (
 some (s,(0:Int)))) (
 tif ((decide (a.1=3))) (
 obind (sweep_Clean n s) fun r3 =>
 tif ((decide (r3.2=0))) (
 some (r3.1,(0:Int))) (
 some (s,(0:Int)))) (
 some (s,(0:Int)))))):=by kernel_rfl
theorem write_One_eq (n:Nat) (s:TState) (l:(List (List UInt8×List UInt8))) (e:TEvent):write_One (n+1) s l e =
 obind (rules_Where n s l e) fun r0 =>
 tif ((!(decide (r0.2.2=0)))) (
 some ((((0:Int),(((0:Int),((0:Int),(0:Int))),(((0:Int),((0:Int),(0:Int))),((0:Int),(0:Int))))),((0:Int),((0:Int),[]))),r0.2.2)) (
 obind (write_place n s r0.1 r0.2.1 l) fun r1 =>
 tif ((!(decide (r1.2=0)))) (
 some ((((0:Int),(((0:Int),((0:Int),(0:Int))),(((0:Int),((0:Int),(0:Int))),((0:Int),(0:Int))))),((0:Int),((0:Int),[]))),r1.2)) (
 obind (series_Put n s.1 r1.1 e) fun r2 =>
 tif ((!(decide (r2.2=0)))) (
 some ((((0:Int),(((0:Int),((0:Int),(0:Int))),(((0:Int),((0:Int),(0:Int))),((0:Int),(0:Int))))),((0:Int),((0:Int),[]))),r2.2)) (
 obind (sl_Clone_Series n s.2.2.2) fun r3 =>
 obind (at? r3 r0.1) fun r4 =>
 obind ((r3)[(Int.toNat r0.1)]?) fun r5 =>
 some ((s.1,(s.2.1,(s.2.2.1,(List.set r3 (Int.toNat r0.1) r2.1)))),(0:Int))))):=by kernel_rfl
theorem r17_Empty_eq (n:Nat) (s:TSeries):r17_Empty (n+1) s =
 obind (r15_Same n s ([],((0:Int),(((0:Int),((0:Int),[])),(([],([],[])),((0:Int),((0:Int),(((0:Int),((0:Int),((0:Int),false))),(((0:Int),((0:Int),((0:Int),false))),(((0:Int),(0:Int)),((0:Int),((0:Int),(0:Int))))))))))))) fun r0 =>
 some r0:=by kernel_rfl
theorem r17_whole_eq (n:Nat) (s:TState):r17_whole (n+1) s =
 obind (r10_Check n s.1) fun r0 =>
 tif ((decide (r0=0))) (
 some (decide ((((List.length s.2.2.2):Nat):Int)=s.1.2.2.2.1))) (
 some false):=by kernel_rfl
theorem r17_lives_eq (n:Nat) (s:TState) (i:Int):r17_lives (n+1) s i =
 obind (at? s.2.2.2 i) fun r0 =>
 obind (r17_Empty n r0) fun r1 =>
 tif ((!r1)) (
 tif ((decide (s.2.2.1=((-1):Int)))) (
 some true) (
 obind (at? s.2.2.2 i) fun r2 =>
 obind (r15_Dead n s.1 r2.2.1 s.2.2.1) fun r3 =>
 some (!r3))) (
 some false):=by kernel_rfl
theorem stt_Room_eq (n:Nat) (s:TState):stt_Room (n+1) s =
 obind (stt_open n s) fun r0 =>
 tif ((!(decide (r0.2=0)))) (
 some ((0:Int),r0.2)) (
 obind (stt_view_place n r0.1 (fun y1=>stt_Room_1 n y1.1 r0.1)) fun r2 =>
 tif ((decide (r2<0))) (
 some ((0:Int),(7:Int))) (
 some (r2,(0:Int)))):=by kernel_rfl
theorem r05_Same_eq (n:Nat) (a:(List (List UInt8×List UInt8))) (b:(List (List UInt8×List UInt8))):r05_Same (n+1) a b =
 tif ((!(decide ((((List.length a):Nat):Int)=(((List.length b):Nat):Int))))) (
 some false) (
 obind (r05_Same_l4 n loopFuel (a,(b,((((List.length a):Nat):Int),((0:Int),()))))) fun r0 =>
 selim (fun y1 =>
 some true) (fun z2 =>
 some z2) r0):=by kernel_rfl
theorem r05_Same_l4_eq (n f:Nat) (a:(List (List UInt8×List UInt8))) (b:(List (List UInt8×List UInt8))) (s12:Int) (s13:Int):r05_Same_l4 n (f+1) (a,b,s12,s13,()) =
 tif ((decide (s13<s12))) (
 obind (at? a s13) fun r0 =>
 obind (at? b s13) fun r1 =>
 tif ((!((r0.1==r1.1)&&(r0.2==r1.2)))) (
 some (.inr false)) (
 r05_Same_l4 n f (a,(b,(s12,((IntKind.wrap .i64 (s13+1)),())))))) (
 some (.inl ())):=by kernel_rfl
theorem stt_open_eq (n:Nat) (s:TState):stt_open (n+1) s =
 obind (conf_Check n s.1) fun r0 =>
 tif ((!(decide (r0=0)))) (
 some ((((0:Int),(((0:Int),((0:Int),(0:Int))),(((0:Int),((0:Int),(0:Int))),((0:Int),(0:Int))))),((0:Int),((0:Int),[]))),(2:Int))) (
 tif ((!(decide ((((List.length s.2.2.2):Nat):Int)=s.1.2.2.2.1)))) (
 some ((((0:Int),(((0:Int),((0:Int),(0:Int))),(((0:Int),((0:Int),(0:Int))),((0:Int),(0:Int))))),((0:Int),((0:Int),[]))),(2:Int))) (
 some (s,(0:Int)))):=by kernel_rfl
theorem stt_view_clock_eq (n:Nat) (v:TState):stt_view_clock (n+1) v =
 obind (stt_time n v.2.1) fun r0 =>
 tif (r0) (
 tif ((decide (v.2.2.1=((-1):Int)))) (
 some (decide (v.2.2.1≤v.2.1))) (
 obind (stt_time n v.2.2.1) fun r1 =>
 tif (r1) (
 some (decide (v.2.2.1≤v.2.1))) (
 some false))) (
 some false):=by kernel_rfl
theorem stt_view_place_eq (n:Nat) (v:TState) (is:((Int×Unit)→Option Bool)):stt_view_place (n+1) v is =
 obind (stt_view_place_l2 n loopFuel (is,((((List.length v.2.2.2):Nat):Int),((0:Int),())))) fun r0 =>
 selim (fun y1 =>
 some ((-1):Int)) (fun z2 =>
 some z2) r0:=by kernel_rfl
theorem stt_view_place_l2_eq (n f:Nat) (is:((Int×Unit)→Option Bool)) (s9:Int) (s10:Int):stt_view_place_l2 n (f+1) (is,s9,s10,()) =
 tif ((decide (s10<s9))) (
 obind (is (s10,())) fun r0 =>
 tif (r0) (
 some (.inr s10)) (
 stt_view_place_l2 n f (is,(s9,((IntKind.wrap .i64 (s10+1)),()))))) (
 some (.inl ())):=by kernel_rfl
theorem stt_Check_1_eq (n:Nat) (i:Int) (p1:TState):stt_Check_1 (n+1) i p1 =
 obind (stt_view_right n p1 i) fun r0 =>
 some (!r0):=by kernel_rfl
theorem stt_view_right_eq (n:Nat) (v:TState) (i:Int):stt_view_right (n+1) v i =
 obind (at? v.2.2.2 i) fun r0 =>
 obind (stt_empty n r0) fun r1 =>
 tif (r1) (
 some true) (
 obind (series_Check n v.1 r0) fun r2 =>
 tif ((decide (r2=0))) (
 tif ((decide ((0:Int)≤r0.2.1))) (
 obind (stt_view_mark n v) fun r3 =>
 tif ((decide (r0.2.1<(IntKind.wrap .i64 (r3+v.1.2.1.1))))) (
 obind (stt_view_twin n v i) fun r4 =>
 some (!r4)) (
 some false)) (
 some false)) (
 some false)):=by kernel_rfl
theorem sweep_Due_eq (n:Nat) (s:TState):sweep_Due (n+1) s =
 obind (stt_Check n s) fun r0 =>
 tif ((!(decide (r0=0)))) (
 some []) (
 obind (stt_Live n s) fun r1 =>
 obind (sl_DeleteFunc_int n r1 (fun y2=>sweep_Due_1 n y2.1 s)) fun r3 =>
 some r3):=by kernel_rfl
theorem stt_Live_eq (n:Nat) (s:TState):stt_Live (n+1) s =
 obind (stt_open n s) fun r0 =>
 tif ((!(decide (r0.2=0)))) (
 some []) (
 obind (stt_Live_l6 n loopFuel (r0.1,([],((((List.length r0.1.2.2.2):Nat):Int),((0:Int),()))))) fun r1 =>
 selim (fun y2 =>
 some y2.1) (fun z3 =>
 some z3) r1):=by kernel_rfl
theorem stt_Live_l6_eq (n f:Nat) (v:TState) (out:(List Int)) (s17:Int) (s18:Int):stt_Live_l6 n (f+1) (v,out,s17,s18,()) =
 tif ((decide (s18<s17))) (
 obind (stt_view_lives n v s18) fun r0 =>
 tif (r0) (
 tif ((decide ((((List.length out)+1)*8)≤140737488355328))) (
 stt_Live_l6 n f (v,((out++(s18::[])),(s17,((IntKind.wrap .i64 (s18+1)),()))))) (
 none)) (
 stt_Live_l6 n f (v,(out,(s17,((IntKind.wrap .i64 (s18+1)),())))))) (
 some (.inl (out,()))):=by kernel_rfl
theorem wi_Oldest_eq (n:Nat) (now:Int) (w:Int) (n_:Int):wi_Oldest (n+1) now w n_ =
 obind (wi_Of n now w) fun r0 =>
 tif ((!(decide (r0.2=0)))) (
 some ((0:Int),(1:Int))) (
 obind (wi_in_int n n_ (1:Int) (4096:Int)) fun r1 =>
 tif ((!r1)) (
 some ((0:Int),(1:Int))) (
 some ((if (0:Int)<(IntKind.wrap .i64 ((IntKind.wrap .i64 (r0.1+1))-n_)) then (IntKind.wrap .i64 ((IntKind.wrap .i64 (r0.1+1))-n_)) else (0:Int)),(0:Int)))):=by kernel_rfl
theorem sweep_fade_eq_0 (n:Nat) (c:TConfig) (x:TSeries) (oldest:Int):sweep_fade (n+1) c x (0:Int) oldest =
 obind (sweep_needed n c x.2.1 (0:Int)) fun r0 =>
 obind (sl_Clone_Slot n x.2.2.2.1.1) fun r1 =>
 obind (sweep_fade_l4 n loopFuel (oldest,(r0.1,(r0.2,(r1,((((List.length r1):Nat):Int),((0:Int),()))))))) fun r2 =>
 selim (fun y3 =>
 some y3.1) (fun z4 =>
 some z4) r2:=by kernel_rfl
theorem sweep_fade_eq_1 (n:Nat) (c:TConfig) (x:TSeries) (oldest:Int):sweep_fade (n+1) c x (1:Int) oldest =
 obind (sweep_needed n c x.2.1 (1:Int)) fun r0 =>
 obind (sl_Clone_Slot n x.2.2.2.1.2.1) fun r1 =>
 obind (sweep_fade_l4 n loopFuel (oldest,(r0.1,(r0.2,(r1,((((List.length r1):Nat):Int),((0:Int),()))))))) fun r2 =>
 selim (fun y3 =>
 some y3.1) (fun z4 =>
 some z4) r2:=by kernel_rfl
theorem sweep_fade_eq_2 (n:Nat) (c:TConfig) (x:TSeries) (oldest:Int):sweep_fade (n+1) c x (2:Int) oldest =
 obind (sweep_needed n c x.2.1 (2:Int)) fun r0 =>
 obind (sl_Clone_Slot n x.2.2.2.1.2.2) fun r1 =>
 obind (sweep_fade_l4 n loopFuel (oldest,(r0.1,(r0.2,(r1,((((List.length r1):Nat):Int),((0:Int),()))))))) fun r2 =>
 selim (fun y3 =>
 some y3.1) (fun z4 =>
 some z4) r2:=by kernel_rfl
theorem sweep_fade_l4_eq (n f:Nat) (oldest:Int) (from_:Int) (to:Int) (out:(List TSlot)) (s28:Int) (s29:Int):sweep_fade_l4 n (f+1) (oldest,from_,to,out,s28,s29,()) =
 tif ((decide (s29<s28))) (
 obind (at? out s29) fun r0 =>
 obind ((out)[(Int.toNat s29)]?) fun r1 =>
 tif ((decide (r1.1<oldest))) (
 tif ((decide (r1.1<from_))) (
 obind (at? out s29) fun r2 =>
 obind ((out)[(Int.toNat s29)]?) fun r3 =>
 sweep_fade_l4 n f (oldest,(from_,(to,((List.set out (Int.toNat s29) ((0:Int),((0:Int),(((0:Int),((0:Int),((0:Int),false))),(((0:Int),((0:Int),((0:Int),false))),(((0:Int),(0:Int)),((0:Int),((0:Int),(0:Int))))))))),(s28,((IntKind.wrap .i64 (s29+1)),()))))))) (
 tif ((decide (to≤r1.1))) (
 obind (at? out s29) fun r4 =>
 obind ((out)[(Int.toNat s29)]?) fun r5 =>
 sweep_fade_l4 n f (oldest,(from_,(to,((List.set out (Int.toNat s29) ((0:Int),((0:Int),(((0:Int),((0:Int),((0:Int),false))),(((0:Int),((0:Int),((0:Int),false))),(((0:Int),(0:Int)),((0:Int),((0:Int),(0:Int))))))))),(s28,((IntKind.wrap .i64 (s29+1)),()))))))) (
 sweep_fade_l4 n f (oldest,(from_,(to,(out,(s28,((IntKind.wrap .i64 (s29+1)),()))))))))) (
 sweep_fade_l4 n f (oldest,(from_,(to,(out,(s28,((IntKind.wrap .i64 (s29+1)),())))))))) (
 some (.inl (out,()))):=by kernel_rfl
theorem query_may_eq (n:Nat) (s:TState) (l:(List (List UInt8×List UInt8))):query_may (n+1) s l =
 obind (stt_Check n s) fun r0 =>
 tif ((!(decide (r0=0)))) (
 some r0) (
 obind (label_Check n l) fun r1 =>
 some r1):=by kernel_rfl
theorem query_of_eq (n:Nat) (s:TState) (a:TAsk) (k:Int):query_of (n+1) s a k =
 obind (stt_Find n s a.1) fun r0 =>
 tif ((!(decide (r0.2=0)))) (
 some (((0:Int),(((0:Int),((0:Int),((0:Int),false))),(((0:Int),((0:Int),((0:Int),false))),(((0:Int),(0:Int)),((0:Int),((0:Int),(0:Int))))))),(0:Int))) (
 tif ((decide (k=0))) (
 obind (wi_Span n a.2.2.1 a.2.2.2 s.1.2.1.1) fun r1 =>
 tif ((!(decide (r1.2.2=0)))) (
 some (((0:Int),(((0:Int),((0:Int),((0:Int),false))),(((0:Int),((0:Int),((0:Int),false))),(((0:Int),(0:Int)),((0:Int),((0:Int),(0:Int))))))),r1.2.2)) (
 obind (at? s.2.2.2 r0.1) fun r2 =>
 obind (series_Range n s.1 r2 k r1.1 r1.2.1) fun r3 =>
 some r3)) (
 tif ((decide (k=1))) (
 obind (wi_Span n a.2.2.1 a.2.2.2 s.1.2.1.2.1) fun r4 =>
 tif ((!(decide (r4.2.2=0)))) (
 some (((0:Int),(((0:Int),((0:Int),((0:Int),false))),(((0:Int),((0:Int),((0:Int),false))),(((0:Int),(0:Int)),((0:Int),((0:Int),(0:Int))))))),r4.2.2)) (
 obind (at? s.2.2.2 r0.1) fun r5 =>
 obind (series_Range n s.1 r5 k r4.1 r4.2.1) fun r6 =>
 some r6)) (
 tif ((decide (k=2))) (
 obind (wi_Span n a.2.2.1 a.2.2.2 s.1.2.1.2.2) fun r7 =>
 tif ((!(decide (r7.2.2=0)))) (
 some (((0:Int),(((0:Int),((0:Int),((0:Int),false))),(((0:Int),((0:Int),((0:Int),false))),(((0:Int),(0:Int)),((0:Int),((0:Int),(0:Int))))))),r7.2.2)) (
 obind (at? s.2.2.2 r0.1) fun r8 =>
 obind (series_Range n s.1 r8 k r7.1 r7.2.1) fun r9 =>
 some r9)) (
 none)))):=by kernel_rfl
theorem r17_Find_eq (n:Nat) (s:TState) (l:(List (List UInt8×List UInt8))):r17_Find (n+1) s l =
 obind (r17_whole n s) fun r0 =>
 tif ((!r0)) (
 some ((0:Int),(2:Int))) (
 obind (r17_Find_l4 n loopFuel (l,(s,(s.2.2.2,((((List.length s.2.2.2):Nat):Int),((0:Int),())))))) fun r1 =>
 selim (fun y2 =>
 some ((0:Int),(3:Int))) (fun z3 =>
 some z3) r1):=by kernel_rfl
theorem r17_Find_l4_eq (n f:Nat) (l:(List (List UInt8×List UInt8))) (s_:TState) (s12:(List TSeries)) (s13:Int) (s14:Int):r17_Find_l4 n (f+1) (l,s_,s12,s13,s14,()) =
 tif ((decide (s14<s13))) (
 obind (at? s12 s14) fun r0 =>
 obind (r17_lives n s_ s14) fun r1 =>
 tif (r1) (
 obind (r05_Same n r0.1 l) fun r2 =>
 tif (r2) (
 some (.inr (s14,(0:Int)))) (
 r17_Find_l4 n f (l,(s_,(s12,(s13,((IntKind.wrap .i64 (s14+1)),()))))))) (
 r17_Find_l4 n f (l,(s_,(s12,(s13,((IntKind.wrap .i64 (s14+1)),()))))))) (
 some (.inl ())):=by kernel_rfl
end Go.Proofs.YtjeabebacegikaaGreatDoor
