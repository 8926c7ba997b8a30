/- Trees, printed by program. -/
import Derived.Test.YtjeabebacegikaaGreatDoorTr0
import Derived.KernelRfl
set_option linter.unusedVariables false
namespace Go.Proofs.YtjeabebacegikaaGreatDoor
open Go.Flat
theorem l33_StatAll_eq (n:Nat) (s:TState):l33_StatAll (n+1) s =
 obind (l33_lives n ) fun r0 =>
 tif ((!r0)) (
 some false) (
 obind (l17_Small n s) fun r1 =>
 tif ((decide (r1=0))) (
 some true) (
 obind (stt_Check n s) fun r2 =>
 tif ((!(decide (r2=0)))) (
 some true) (
 obind (stat_Of n s) fun r3 =>
 obind (sweep_Do n s) fun r4 =>
 obind (stat_Of n r4.1) fun r5 =>
 obind (sweep_Clean n r4.1) fun r6 =>
 obind (stat_Of n r6.1) fun r7 =>
 tif ((!(decide (r3.2=0)))) (
 some false) (
 tif ((!(decide (r4.2.2=0)))) (
 some false) (
 tif ((!(decide (r5.2=0)))) (
 some false) (
 tif ((!(decide (r6.2=0)))) (
 some false) (
 tif ((!(decide (r7.2=0)))) (
 some false) (
 tif ((decide ((IntKind.wrap .i64 ((IntKind.wrap .i64 (r3.1.1+r3.1.2.1))+r3.1.2.2.1))=s.1.2.2.2.1))) (
 tif ((decide (r3.1.2.2.2.2.2.2=r4.2.1))) (
 tif ((decide (r5.1.1=(IntKind.wrap .i64 (r3.1.1-r4.2.1))))) (
 tif ((decide (r5.1.2.1=(IntKind.wrap .i64 (r3.1.2.1+r4.2.1))))) (
 tif ((decide (r5.1.2.2.2.2.2.2=0))) (
 tif ((decide (r7.1.2.1=0))) (
 tif ((decide (r7.1.1=r5.1.1))) (
 tif ((decide (r7.1.2.2.2.1=r5.1.2.2.2.1))) (
 obind (stat_Full n s) fun r8 =>
 some (r8==(decide (r3.1.1=s.1.2.2.2.1)))) (
 some false)) (
 some false)) (
 some false)) (
 some false)) (
 some false)) (
 some false)) (
 some false)) (
 some false))))))))):=by kernel_rfl
theorem l17_Small_eq (n:Nat) (s:TState):l17_Small (n+1) s =
 tif ((decide ((8:Int)<(((List.length s.2.2.2):Nat):Int)))) (
 some (0:Int)) (
 obind (l17_Small_l4 n loopFuel (s.2.2.2,((((List.length s.2.2.2):Nat):Int),((0:Int),())))) fun r0 =>
 selim (fun y1 =>
 some (1:Int)) (fun z2 =>
 some z2) r0):=by kernel_rfl
theorem l17_Small_l4_eq (n f:Nat) (s10:(List TSeries)) (s11:Int) (s12:Int):l17_Small_l4 n (f+1) (s10,s11,s12,()) =
 tif ((decide (s12<s11))) (
 obind (at? s10 s12) fun r0 =>
 obind (l15_Small n r0) fun r1 =>
 tif ((decide (r1=0))) (
 some (.inr (0:Int))) (
 l17_Small_l4 n f (s10,(s11,((IntKind.wrap .i64 (s12+1)),()))))) (
 some (.inl ())):=by kernel_rfl
theorem stat_Of_eq (n:Nat) (s:TState):stat_Of (n+1) s =
 obind (stt_Check n s) fun r0 =>
 tif ((!(decide (r0=0)))) (
 some (((0:Int),((0:Int),((0:Int),((0:Int),((0:Int),(((0:Int),((0:Int),(0:Int))),(0:Int))))))),r0)) (
 obind (stat_Of_l6 n loopFuel (s,(((0:Int),((0:Int),((0:Int),((0:Int),((0:Int),(((0:Int),((0:Int),(0:Int))),(0:Int))))))),(((0:Int),((0:Int),((0:Int),((0:Int),((0:Int),(((0:Int),((0:Int),(0:Int))),(0:Int))))))),(s.2.2.2,((((List.length s.2.2.2):Nat):Int),((0:Int),()))))))) fun r1 =>
 selim (fun y2 =>
 some (y2.2.1,(0:Int))) (fun z3 =>
 some z3) r1):=by kernel_rfl
theorem stat_Of_l6_eq (n f:Nat) (s_:TState) (s2:TStats) (t:TStats) (s15:(List TSeries)) (s16:Int) (s17:Int):stat_Of_l6 n (f+1) (s_,s2,t,s15,s16,s17,()) =
 tif ((decide (s17<s16))) (
 obind (at? s15 s17) fun r0 =>
 tif ((decide ((((List.length r0.1):Nat):Int)=0))) (
 stat_Of_l6 n f (s_,(s2,((t.1,(t.2.1,((IntKind.wrap .i64 (t.2.2.1+1)),t.2.2.2))),(s15,(s16,((IntKind.wrap .i64 (s17+1)),()))))))) (
 obind (stt_Lives n s_ s17) fun r1 =>
 tif (r1) (
 obind (stat_one n t s_ r0) fun r2 =>
 stat_Of_l6 n f (s_,(s2,(r2,(s15,(s16,((IntKind.wrap .i64 (s17+1)),()))))))) (
 stat_Of_l6 n f (s_,(s2,((t.1,((IntKind.wrap .i64 (t.2.1+1)),t.2.2)),(s15,(s16,((IntKind.wrap .i64 (s17+1)),()))))))))) (
 some (.inl (s2,(t,())))):=by kernel_rfl
theorem stat_Full_eq (n:Nat) (s:TState):stat_Full (n+1) s =
 obind (stt_Room n s) fun r0 =>
 obind (stt_Check n s) fun r1 =>
 tif ((decide (r1=0))) (
 some (decide (r0.2=7))) (
 some false):=by kernel_rfl
theorem stt_Check_eq (n:Nat) (s:TState):stt_Check (n+1) s =
 obind (stt_open n s) fun r0 =>
 tif ((!(decide (r0.2=0)))) (
 some (2:Int)) (
 obind (stt_view_clock n r0.1) fun r1 =>
 tif ((!r1)) (
 some (2:Int)) (
 obind (stt_view_place n r0.1 (fun y2=>stt_Check_1 n y2.1 r0.1)) fun r3 =>
 tif ((decide ((0:Int)≤r3))) (
 some (2:Int)) (
 some (0:Int)))):=by kernel_rfl
theorem sweep_Do_eq (n:Nat) (s:TState):sweep_Do (n+1) s =
 obind (stt_Check n s) fun r0 =>
 tif ((!(decide (r0=0)))) (
 some ((((0:Int),(((0:Int),((0:Int),(0:Int))),(((0:Int),((0:Int),(0:Int))),((0:Int),(0:Int))))),((0:Int),((0:Int),[]))),((0:Int),r0))) (
 obind (sweep_Due n s) fun r1 =>
 some ((s.1,(s.2.1,(s.2.1,s.2.2.2))),((((List.length r1):Nat):Int),(0:Int)))):=by kernel_rfl
theorem sweep_Clean_eq (n:Nat) (s:TState):sweep_Clean (n+1) s =
 obind (stt_Check n s) fun r0 =>
 tif ((!(decide (r0=0)))) (
 some ((((0:Int),(((0:Int),((0:Int),(0:Int))),(((0:Int),((0:Int),(0:Int))),((0:Int),(0:Int))))),((0:Int),((0:Int),[]))),r0)) (
 tif (((decide ((0:Int)≤(((List.length s.2.2.2):Nat):Int)))&&((decide ((((List.length s.2.2.2):Nat):Int)≤(((List.length s.2.2.2):Nat):Int)))&&(decide (((((List.length s.2.2.2):Nat):Int)*264)≤140737488355328))))) (
 obind (stt_Live n s) fun r1 =>
 obind (sweep_Clean_l6 n loopFuel (s,((((0:Int),(((0:Int),((0:Int),(0:Int))),(((0:Int),((0:Int),(0:Int))),((0:Int),(0:Int))))),((0:Int),((0:Int),[]))),((List.replicate (Int.toNat (((List.length s.2.2.2):Nat):Int)) ([],((0:Int),(((0:Int),((0:Int),[])),(([],([],[])),((0:Int),((0:Int),(((0:Int),((0:Int),((0:Int),false))),(((0:Int),((0:Int),((0:Int),false))),(((0:Int),(0:Int)),((0:Int),((0:Int),(0:Int))))))))))))),(r1,((((List.length r1):Nat):Int),((0:Int),()))))))) fun r2 =>
 selim (fun y3 =>
 some ((y3.1.1,(y3.1.2.1,(y3.1.2.2.1,y3.2.2.1))),(0:Int))) (fun z4 =>
 some z4) r2) (
 none)):=by kernel_rfl
theorem sweep_Clean_l6_eq (n f:Nat) (s_:TState) (s2:TState) (out:(List TSeries)) (s24:(List Int)) (s25:Int) (s26:Int):sweep_Clean_l6 n (f+1) (s_,s2,out,s24,s25,s26,()) =
 tif ((decide (s26<s25))) (
 obind (at? s24 s26) fun r0 =>
 obind ((s24)[(Int.toNat s26)]?) fun r1 =>
 obind (at? s_.2.2.2 r1) fun r2 =>
 obind (sweep_Clean_l10 n loopFuel (s_,(s2,(out,(r1,(r2,(s24,(s25,(s26,(s_.1.2.1,((0:Int),()))))))))))) fun r3 =>
 selim (fun y4 =>
 obind (at? y4.2.2.1 y4.2.2.2.1) fun r5 =>
 obind ((y4.2.2.1)[(Int.toNat y4.2.2.2.1)]?) fun r6 =>
 sweep_Clean_l6 n f (y4.1,(y4.2.1,((List.set y4.2.2.1 (Int.toNat y4.2.2.2.1) y4.2.2.2.2.1),(y4.2.2.2.2.2.1,(y4.2.2.2.2.2.2.1,((IntKind.wrap .i64 (y4.2.2.2.2.2.2.2.1+1)),()))))))) (fun z7 =>
 some (.inr z7)) r3) (
 some (.inl (s_,(s2,(out,()))))):=by kernel_rfl
theorem sweep_Clean_l10_eq_0 (n f:Nat) (s_:TState) (s2:TState) (out:(List TSeries)) (i:Int) (x:TSeries) (s24:(List Int)) (s25:Int) (s26:Int) (s37:(Int×(Int×Int))):sweep_Clean_l10 n (f+1) (s_,s2,out,i,x,s24,s25,s26,s37,(0:Int),()) =
 obind (wi_Oldest n s_.2.1 s37.1 s_.1.2.2.1.1) fun r0 =>
 tif ((!(decide (r0.2=0)))) (
 some (.inr ((((0:Int),(((0:Int),((0:Int),(0:Int))),(((0:Int),((0:Int),(0:Int))),((0:Int),(0:Int))))),((0:Int),((0:Int),[]))),r0.2))) (
 obind (sweep_fade n s_.1 x (0:Int) r0.1) fun r1 =>
 sweep_Clean_l10 n f (s_,(s2,(out,(i,((x.1,(x.2.1,(x.2.2.1,((r1,x.2.2.2.1.2),x.2.2.2.2)))),(s24,(s25,(s26,(s37,((1:Int),()))))))))))):=by kernel_rfl
theorem sweep_Clean_l10_eq_1 (n f:Nat) (s_:TState) (s2:TState) (out:(List TSeries)) (i:Int) (x:TSeries) (s24:(List Int)) (s25:Int) (s26:Int) (s37:(Int×(Int×Int))):sweep_Clean_l10 n (f+1) (s_,s2,out,i,x,s24,s25,s26,s37,(1:Int),()) =
 obind (wi_Oldest n s_.2.1 s37.2.1 s_.1.2.2.1.2.1) fun r0 =>
 tif ((!(decide (r0.2=0)))) (
 some (.inr ((((0:Int),(((0:Int),((0:Int),(0:Int))),(((0:Int),((0:Int),(0:Int))),((0:Int),(0:Int))))),((0:Int),((0:Int),[]))),r0.2))) (
 obind (sweep_fade n s_.1 x (1:Int) r0.1) fun r1 =>
 sweep_Clean_l10 n f (s_,(s2,(out,(i,((x.1,(x.2.1,(x.2.2.1,((x.2.2.2.1.1,(r1,x.2.2.2.1.2.2)),x.2.2.2.2)))),(s24,(s25,(s26,(s37,((2:Int),()))))))))))):=by kernel_rfl
theorem sweep_Clean_l10_eq_2 (n f:Nat) (s_:TState) (s2:TState) (out:(List TSeries)) (i:Int) (x:TSeries) (s24:(List Int)) (s25:Int) (s26:Int) (s37:(Int×(Int×Int))):sweep_Clean_l10 n (f+1) (s_,s2,out,i,x,s24,s25,s26,s37,(2:Int),()) =
 obind (wi_Oldest n s_.2.1 s37.2.2 s_.1.2.2.1.2.2) fun r0 =>
 tif ((!(decide (r0.2=0)))) (
 some (.inr ((((0:Int),(((0:Int),((0:Int),(0:Int))),(((0:Int),((0:Int),(0:Int))),((0:Int),(0:Int))))),((0:Int),((0:Int),[]))),r0.2))) (
 obind (sweep_fade n s_.1 x (2:Int) r0.1) fun r1 =>
 sweep_Clean_l10 n f (s_,(s2,(out,(i,((x.1,(x.2.1,(x.2.2.1,((x.2.2.2.1.1,(x.2.2.2.1.2.1,r1)),x.2.2.2.2)))),(s24,(s25,(s26,(s37,((3:Int),()))))))))))):=by kernel_rfl
theorem sweep_Clean_l10_eq_3 (n f:Nat) (s_:TState) (s2:TState) (out:(List TSeries)) (i:Int) (x:TSeries) (s24:(List Int)) (s25:Int) (s26:Int) (s37:(Int×(Int×Int))):sweep_Clean_l10 n (f+1) (s_,s2,out,i,x,s24,s25,s26,s37,(3:Int),()) =
 some (.inl (s_,(s2,(out,(i,(x,(s24,(s25,(s26,()))))))))):=by kernel_rfl
theorem l05_Small_eq (n:Nat) (l:(List (List UInt8×List UInt8))):l05_Small (n+1) l =
 obind (l05_Small_l2 n loopFuel (l,((((List.length l):Nat):Int),((0:Int),())))) fun r0 =>
 selim (fun y1 =>
 some (1:Int)) (fun z2 =>
 some z2) r0:=by kernel_rfl
theorem l05_Small_l2_eq (n f:Nat) (s5:(List (List UInt8×List UInt8))) (s6:Int) (s7:Int):l05_Small_l2 n (f+1) (s5,s6,s7,()) =
 tif ((decide (s7<s6))) (
 obind (at? s5 s7) fun r0 =>
 tif ((decide (s7=40))) (
 some (.inr (0:Int))) (
 tif ((decide ((1000:Int)<(((List.length r0.1):Nat):Int)))) (
 some (.inr (0:Int))) (
 tif ((decide ((1000:Int)<(((List.length r0.2):Nat):Int)))) (
 some (.inr (0:Int))) (
 l05_Small_l2 n f (s5,(s6,((IntKind.wrap .i64 (s7+1)),()))))))) (
 some (.inl ())):=by kernel_rfl
theorem r12_SameList_eq (n:Nat) (a:(List TEvent)) (b:(List TEvent)):r12_SameList (n+1) a b =
 tif ((!(decide ((((List.length a):Nat):Int)=(((List.length b):Nat):Int))))) (
 some false) (
 obind (r12_SameList_l4 n loopFuel (a,(b,((((List.length a):Nat):Int),((0:Int),()))))) fun r0 =>
 selim (fun y1 =>
 some true) (fun z2 =>
 some z2) r0):=by kernel_rfl
theorem r12_SameList_l4_eq (n f:Nat) (a:(List TEvent)) (b:(List TEvent)) (s12:Int) (s13:Int):r12_SameList_l4 n (f+1) (a,b,s12,s13,()) =
 tif ((decide (s13<s12))) (
 obind (at? a s13) fun r0 =>
 obind (at? b s13) fun r1 =>
 tif ((!((decide (r0.1=r1.1))&&((decide (r0.2.1=r1.2.1))&&((decide (r0.2.2.1=r1.2.2.1))&&(r0.2.2.2==r1.2.2.2)))))) (
 some (.inr false)) (
 r12_SameList_l4 n f (a,(b,(s12,((IntKind.wrap .i64 (s13+1)),())))))) (
 some (.inl ())):=by kernel_rfl
theorem cell_Check_eq (n:Nat) (c:TCell):cell_Check (n+1) c =
 obind (cell_none n c) fun r0 =>
 tif (r0) (
 some (0:Int)) (
 obind (cell_spans n c) fun r1 =>
 tif ((!r1)) (
 some (2:Int)) (
 obind (wide_Of n (18446744073709551615:Int)) fun r2 =>
 obind (wide_Times n r2 (IntKind.wrap .u64 (IntKind.wrap .i64 (c.1-1)))) fun r3 =>
 tif ((!(decide (r3.2=0)))) (
 some (2:Int)) (
 obind (wide_Less n r3.1 c.2.2.2.1) fun r4 =>
 tif (r4) (
 some (2:Int)) (
 obind (cell_in n c.2.2.2.2.2.1 (IntKind.wrap .i64 (c.1-1))) fun r5 =>
 tif ((!r5)) (
 some (2:Int)) (
 obind (cell_in n c.2.2.2.2.1 (IntKind.wrap .i64 ((IntKind.wrap .i64 (c.1-1))-c.2.2.2.2.2.1))) fun r6 =>
 tif ((!r6)) (
 some (2:Int)) (
 obind (cell_in n c.2.2.2.2.2.2 (IntKind.wrap .i64 (c.2.2.1.1-c.2.1.1))) fun r7 =>
 tif ((!r7)) (
 some (2:Int)) (
 some (0:Int)))))))):=by kernel_rfl
theorem l15_Small_eq (n:Nat) (s:TSeries):l15_Small (n+1) s =
 obind (l05_Small n s.1) fun r0 =>
 tif ((decide (r0=0))) (
 some (0:Int)) (
 tif ((decide ((60:Int)<(((List.length s.2.2.1.2.2):Nat):Int)))) (
 some (0:Int)) (
 obind (l14_Small n s.2.2.2.1) fun r1 =>
 some r1)):=by kernel_rfl
theorem stt_Lives_eq (n:Nat) (s:TState) (i:Int):stt_Lives (n+1) s i =
 obind (stt_open n s) fun r0 =>
 tif ((decide (r0.2=0))) (
 tif ((decide ((0:Int)≤i))) (
 tif ((decide (i<(((List.length s.2.2.2):Nat):Int)))) (
 obind (stt_view_lives n r0.1 i) fun r1 =>
 some r1) (
 some false)) (
 some false)) (
 some false):=by kernel_rfl
theorem stat_one_eq (n:Nat) (t:TStats) (s:TState) (x:TSeries):stat_one (n+1) t s x =
 obind (tier_All n x.2.2.2.1.1) fun r0 =>
 obind (tier_All n x.2.2.2.1.2.1) fun r1 =>
 obind (tier_All n x.2.2.2.1.2.2) fun r2 =>
 obind (series_Dead n s.1 x.2.1 s.2.1) fun r3 =>
 tif (r3) (
 some ((IntKind.wrap .i64 (t.1+1)),(t.2.1,(t.2.2.1,((IntKind.wrap .i64 (t.2.2.2.1+(((List.length x.2.2.1.2.2):Nat):Int))),((IntKind.wrap .i64 (t.2.2.2.2.1+x.2.2.1.1)),(((IntKind.wrap .i64 (t.2.2.2.2.2.1.1+(((List.length r0):Nat):Int))),((IntKind.wrap .i64 (t.2.2.2.2.2.1.2.1+(((List.length r1):Nat):Int))),(IntKind.wrap .i64 (t.2.2.2.2.2.1.2.2+(((List.length r2):Nat):Int))))),(IntKind.wrap .i64 (t.2.2.2.2.2.2+1))))))))) (
 some ((IntKind.wrap .i64 (t.1+1)),(t.2.1,(t.2.2.1,((IntKind.wrap .i64 (t.2.2.2.1+(((List.length x.2.2.1.2.2):Nat):Int))),((IntKind.wrap .i64 (t.2.2.2.2.1+x.2.2.1.1)),(((IntKind.wrap .i64 (t.2.2.2.2.2.1.1+(((List.length r0):Nat):Int))),((IntKind.wrap .i64 (t.2.2.2.2.2.1.2.1+(((List.length r1):Nat):Int))),(IntKind.wrap .i64 (t.2.2.2.2.2.1.2.2+(((List.length r2):Nat):Int))))),t.2.2.2.2.2.2))))))):=by kernel_rfl
theorem r17_Empty_eq (n:Nat) (s:TSeries):r17_Empty (n+1) s =
 obind (r15_Same n s ([],((0:Int),(((0:Int),((0:Int),[])),(([],([],[])),((0:Int),((0:Int),(((0:Int),((0:Int),((0:Int),false))),(((0:Int),((0:Int),((0:Int),false))),(((0:Int),(0:Int)),((0:Int),((0:Int),(0:Int))))))))))))) fun r0 =>
 some r0:=by kernel_rfl
theorem r17_whole_eq (n:Nat) (s:TState):r17_whole (n+1) s =
 obind (r10_Check n s.1) fun r0 =>
 tif ((decide (r0=0))) (
 some (decide ((((List.length s.2.2.2):Nat):Int)=s.1.2.2.2.1))) (
 some false):=by kernel_rfl
theorem r17_lives_eq (n:Nat) (s:TState) (i:Int):r17_lives (n+1) s i =
 obind (at? s.2.2.2 i) fun r0 =>
 obind (r17_Empty n r0) fun r1 =>
 tif ((!r1)) (
 tif ((decide (s.2.2.1=((-1):Int)))) (
 some true) (
 obind (at? s.2.2.2 i) fun r2 =>
 obind (r15_Dead n s.1 r2.2.1 s.2.2.1) fun r3 =>
 some (!r3))) (
 some false):=by kernel_rfl
theorem stt_Room_eq (n:Nat) (s:TState):stt_Room (n+1) s =
 obind (stt_open n s) fun r0 =>
 tif ((!(decide (r0.2=0)))) (
 some ((0:Int),r0.2)) (
 obind (stt_view_place n r0.1 (fun y1=>stt_Room_1 n y1.1 r0.1)) fun r2 =>
 tif ((decide (r2<0))) (
 some ((0:Int),(7:Int))) (
 some (r2,(0:Int)))):=by kernel_rfl
theorem r05_Same_eq (n:Nat) (a:(List (List UInt8×List UInt8))) (b:(List (List UInt8×List UInt8))):r05_Same (n+1) a b =
 tif ((!(decide ((((List.length a):Nat):Int)=(((List.length b):Nat):Int))))) (
 some false) (
 obind (r05_Same_l4 n loopFuel (a,(b,((((List.length a):Nat):Int),((0:Int),()))))) fun r0 =>
 selim (fun y1 =>
 some true) (fun z2 =>
 some z2) r0):=by kernel_rfl
theorem r05_Same_l4_eq (n f:Nat) (a:(List (List UInt8×List UInt8))) (b:(List (List UInt8×List UInt8))) (s12:Int) (s13:Int):r05_Same_l4 n (f+1) (a,b,s12,s13,()) =
 tif ((decide (s13<s12))) (
 obind (at? a s13) fun r0 =>
 obind (at? b s13) fun r1 =>
 tif ((!((r0.1==r1.1)&&(r0.2==r1.2)))) (
 some (.inr false)) (
 r05_Same_l4 n f (a,(b,(s12,((IntKind.wrap .i64 (s13+1)),())))))) (
 some (.inl ())):=by kernel_rfl
theorem stt_open_eq (n:Nat) (s:TState):stt_open (n+1) s =
 obind (conf_Check n s.1) fun r0 =>
 tif ((!(decide (r0=0)))) (
 some ((((0:Int),(((0:Int),((0:Int),(0:Int))),(((0:Int),((0:Int),(0:Int))),((0:Int),(0:Int))))),((0:Int),((0:Int),[]))),(2:Int))) (
 tif ((!(decide ((((List.length s.2.2.2):Nat):Int)=s.1.2.2.2.1)))) (
 some ((((0:Int),(((0:Int),((0:Int),(0:Int))),(((0:Int),((0:Int),(0:Int))),((0:Int),(0:Int))))),((0:Int),((0:Int),[]))),(2:Int))) (
 some (s,(0:Int)))):=by kernel_rfl
theorem stt_view_clock_eq (n:Nat) (v:TState):stt_view_clock (n+1) v =
 obind (stt_time n v.2.1) fun r0 =>
 tif (r0) (
 tif ((decide (v.2.2.1=((-1):Int)))) (
 some (decide (v.2.2.1≤v.2.1))) (
 obind (stt_time n v.2.2.1) fun r1 =>
 tif (r1) (
 some (decide (v.2.2.1≤v.2.1))) (
 some false))) (
 some false):=by kernel_rfl
theorem stt_view_place_eq (n:Nat) (v:TState) (is:((Int×Unit)→Option Bool)):stt_view_place (n+1) v is =
 obind (stt_view_place_l2 n loopFuel (is,((((List.length v.2.2.2):Nat):Int),((0:Int),())))) fun r0 =>
 selim (fun y1 =>
 some ((-1):Int)) (fun z2 =>
 some z2) r0:=by kernel_rfl
theorem stt_view_place_l2_eq (n f:Nat) (is:((Int×Unit)→Option Bool)) (s9:Int) (s10:Int):stt_view_place_l2 n (f+1) (is,s9,s10,()) =
 tif ((decide (s10<s9))) (
 obind (is (s10,())) fun r0 =>
 tif (r0) (
 some (.inr s10)) (
 stt_view_place_l2 n f (is,(s9,((IntKind.wrap .i64 (s10+1)),()))))) (
 some (.inl ())):=by kernel_rfl
theorem stt_Check_1_eq (n:Nat) (i:Int) (p1:TState):stt_Check_1 (n+1) i p1 =
 obind (stt_view_right n p1 i) fun r0 =>
 some (!r0):=by kernel_rfl
theorem stt_view_right_eq (n:Nat) (v:TState) (i:Int):stt_view_right (n+1) v i =
 obind (at? v.2.2.2 i) fun r0 =>
 obind (stt_empty n r0) fun r1 =>
 tif (r1) (
 some true) (
 obind (series_Check n v.1 r0) fun r2 =>
 tif ((decide (r2=0))) (
 tif ((decide ((0:Int)≤r0.2.1))) (
 obind (stt_view_mark n v) fun r3 =>
 tif ((decide (r0.2.1<(IntKind.wrap .i64 (r3+v.1.2.1.1))))) (
 obind (stt_view_twin n v i) fun r4 =>
 some (!r4)) (
 some false)) (
 some false)) (
 some false)):=by kernel_rfl
theorem sweep_Due_eq (n:Nat) (s:TState):sweep_Due (n+1) s =
 obind (stt_Check n s) fun r0 =>
 tif ((!(decide (r0=0)))) (
 some []) (
 obind (stt_Live n s) fun r1 =>
 obind (sl_DeleteFunc_int n r1 (fun y2=>sweep_Due_1 n y2.1 s)) fun r3 =>
 some r3):=by kernel_rfl
theorem stt_Live_eq (n:Nat) (s:TState):stt_Live (n+1) s =
 obind (stt_open n s) fun r0 =>
 tif ((!(decide (r0.2=0)))) (
 some []) (
 obind (stt_Live_l6 n loopFuel (r0.1,([],((((List.length r0.1.2.2.2):Nat):Int),((0:Int),()))))) fun r1 =>
 selim (fun y2 =>
 some y2.1) (fun z3 =>
 some z3) r1):=by kernel_rfl
theorem stt_Live_l6_eq (n f:Nat) (v:TState) (out:(List Int)) (s17:Int) (s18:Int):stt_Live_l6 n (f+1) (v,out,s17,s18,()) =
 tif ((decide (s18<s17))) (
 obind (stt_view_lives n v s18) fun r0 =>
 tif (r0) (
 tif ((decide ((((List.length out)+1)*8)≤140737488355328))) (
 stt_Live_l6 n f (v,((out++(s18::[])),(s17,((IntKind.wrap .i64 (s18+1)),()))))) (
 none)) (
 stt_Live_l6 n f (v,(out,(s17,((IntKind.wrap .i64 (s18+1)),())))))) (
 some (.inl (out,()))):=by kernel_rfl
theorem wi_Oldest_eq (n:Nat) (now:Int) (w:Int) (n_:Int):wi_Oldest (n+1) now w n_ =
 obind (wi_Of n now w) fun r0 =>
 tif ((!(decide (r0.2=0)))) (
 some ((0:Int),(1:Int))) (
 obind (wi_in_int n n_ (1:Int) (4096:Int)) fun r1 =>
 tif ((!r1)) (
 some ((0:Int),(1:Int))) (
 some ((if (0:Int)<(IntKind.wrap .i64 ((IntKind.wrap .i64 (r0.1+1))-n_)) then (IntKind.wrap .i64 ((IntKind.wrap .i64 (r0.1+1))-n_)) else (0:Int)),(0:Int)))):=by kernel_rfl
theorem sweep_fade_eq_0 (n:Nat) (c:TConfig) (x:TSeries) (oldest:Int):sweep_fade (n+1) c x (0:Int) oldest =
 obind (sweep_needed n c x.2.1 (0:Int)) fun r0 =>
 obind (sl_Clone_Slot n x.2.2.2.1.1) fun r1 =>
 obind (sweep_fade_l4 n loopFuel (oldest,(r0.1,(r0.2,(r1,((((List.length r1):Nat):Int),((0:Int),()))))))) fun r2 =>
 selim (fun y3 =>
 some y3.1) (fun z4 =>
 some z4) r2:=by kernel_rfl
theorem sweep_fade_eq_1 (n:Nat) (c:TConfig) (x:TSeries) (oldest:Int):sweep_fade (n+1) c x (1:Int) oldest =
 obind (sweep_needed n c x.2.1 (1:Int)) fun r0 =>
 obind (sl_Clone_Slot n x.2.2.2.1.2.1) fun r1 =>
 obind (sweep_fade_l4 n loopFuel (oldest,(r0.1,(r0.2,(r1,((((List.length r1):Nat):Int),((0:Int),()))))))) fun r2 =>
 selim (fun y3 =>
 some y3.1) (fun z4 =>
 some z4) r2:=by kernel_rfl
theorem sweep_fade_eq_2 (n:Nat) (c:TConfig) (x:TSeries) (oldest:Int):sweep_fade (n+1) c x (2:Int) oldest =
 obind (sweep_needed n c x.2.1 (2:Int)) fun r0 =>
 obind (sl_Clone_Slot n x.2.2.2.1.2.2) fun r1 =>
 obind (sweep_fade_l4 n loopFuel (oldest,(r0.1,(r0.2,(r1,((((List.length r1):Nat):Int),((0:Int),()))))))) fun r2 =>
 selim (fun y3 =>
 some y3.1) (fun z4 =>
 some z4) r2:=by kernel_rfl
theorem sweep_fade_l4_eq (n f:Nat) (oldest:Int) (from_:Int) (to:Int) (out:(List TSlot)) (s28:Int) (s29:Int):sweep_fade_l4 n (f+1) (oldest,from_,to,out,s28,s29,()) =
 tif ((decide (s29<s28))) (
 obind (at? out s29) fun r0 =>
 obind ((out)[(Int.toNat s29)]?) fun r1 =>
 tif ((decide (r1.1<oldest))) (
 tif ((decide (r1.1<from_))) (
 obind (at? out s29) fun r2 =>
 obind ((out)[(Int.toNat s29)]?) fun r3 =>
 sweep_fade_l4 n f (oldest,(from_,(to,((List.set out (Int.toNat s29) ((0:Int),((0:Int),(((0:Int),((0:Int),((0:Int),false))),(((0:Int),((0:Int),((0:Int),false))),(((0:Int),(0:Int)),((0:Int),((0:Int),(0:Int))))))))),(s28,((IntKind.wrap .i64 (s29+1)),()))))))) (
 tif ((decide (to≤r1.1))) (
 obind (at? out s29) fun r4 =>
 obind ((out)[(Int.toNat s29)]?) fun r5 =>
 sweep_fade_l4 n f (oldest,(from_,(to,((List.set out (Int.toNat s29) ((0:Int),((0:Int),(((0:Int),((0:Int),((0:Int),false))),(((0:Int),((0:Int),((0:Int),false))),(((0:Int),(0:Int)),((0:Int),((0:Int),(0:Int))))))))),(s28,((IntKind.wrap .i64 (s29+1)),()))))))) (
 sweep_fade_l4 n f (oldest,(from_,(to,(out,(s28,((IntKind.wrap .i64 (s29+1)),()))))))))) (
 sweep_fade_l4 n f (oldest,(from_,(to,(out,(s28,((IntKind.wrap .i64 (s29+1)),())))))))) (
 some (.inl (out,()))):=by kernel_rfl
theorem r17_Find_eq (n:Nat) (s:TState) (l:(List (List UInt8×List UInt8))):r17_Find (n+1) s l =
 obind (r17_whole n s) fun r0 =>
 tif ((!r0)) (
 some ((0:Int),(2:Int))) (
 obind (r17_Find_l4 n loopFuel (l,(s,(s.2.2.2,((((List.length s.2.2.2):Nat):Int),((0:Int),())))))) fun r1 =>
 selim (fun y2 =>
 some ((0:Int),(3:Int))) (fun z3 =>
 some z3) r1):=by kernel_rfl
theorem r17_Find_l4_eq (n f:Nat) (l:(List (List UInt8×List UInt8))) (s_:TState) (s12:(List TSeries)) (s13:Int) (s14:Int):r17_Find_l4 n (f+1) (l,s_,s12,s13,s14,()) =
 tif ((decide (s14<s13))) (
 obind (at? s12 s14) fun r0 =>
 obind (r17_lives n s_ s14) fun r1 =>
 tif (r1) (
 obind (r05_Same n r0.1 l) fun r2 =>
 tif (r2) (
 some (.inr (s14,(0:Int)))) (
 r17_Find_l4 n f (l,(s_,(s12,(s13,((IntKind.wrap .i64 (s14+1)),()))))))) (
 r17_Find_l4 n f (l,(s_,(s12,(s13,((IntKind.wrap .i64 (s14+1)),()))))))) (
 some (.inl ())):=by kernel_rfl
theorem series_Dead_eq (n:Nat) (c:TConfig) (last:Int) (now:Int):series_Dead (n+1) c last now =
 obind (conf_Check n c) fun r0 =>
 tif ((decide (r0=0))) (
 obind (wi_Gone n last now c.2.1.1 c.2.2.1.1) fun r1 =>
 tif (r1) (
 obind (wi_Gone n last now c.2.1.2.1 c.2.2.1.2.1) fun r2 =>
 tif (r2) (
 obind (wi_Gone n last now c.2.1.2.2 c.2.2.1.2.2) fun r3 =>
 tif (r3) (
 some r3) (
 some r3)) (
 some r2)) (
 some r1)) (
 some (decide (r0=0))):=by kernel_rfl
theorem stt_Find_eq (n:Nat) (s:TState) (l:(List (List UInt8×List UInt8))):stt_Find (n+1) s l =
 obind (stt_open n s) fun r0 =>
 tif ((!(decide (r0.2=0)))) (
 some ((0:Int),r0.2)) (
 obind (stt_view_place n r0.1 (fun y1=>stt_Find_1 n y1.1 s l r0.1)) fun r2 =>
 tif ((decide (r2<0))) (
 some ((0:Int),(3:Int))) (
 some (r2,(0:Int)))):=by kernel_rfl
theorem r15_Dead_eq (n:Nat) (c:TConfig) (last:Int) (now:Int):r15_Dead (n+1) c last now =
 obind (r10_Check n c) fun r0 =>
 tif ((!(decide (r0=0)))) (
 some false) (
 obind (r09_Gone n last now c.2.1.1 c.2.2.1.1) fun r1 =>
 tif ((!r1)) (
 some false) (
 obind (r09_Gone n last now c.2.1.2.1 c.2.2.1.2.1) fun r2 =>
 tif ((!r2)) (
 some false) (
 obind (r09_Gone n last now c.2.1.2.2 c.2.2.1.2.2) fun r3 =>
 tif ((!r3)) (
 some false) (
 some true)))):=by kernel_rfl
theorem cell_none_eq (n:Nat) (c:TCell):cell_none (n+1) c =
 some ((decide (c.1=0))&&((decide (c.2.1.1=0))&&((decide (c.2.1.2.1=0))&&((decide (c.2.1.2.2.1=0))&&((c.2.1.2.2.2==false)&&((decide (c.2.2.1.1=0))&&((decide (c.2.2.1.2.1=0))&&((decide (c.2.2.1.2.2.1=0))&&((c.2.2.1.2.2.2==false)&&((decide (c.2.2.2.1.1=0))&&((decide (c.2.2.2.1.2=0))&&((decide (c.2.2.2.2.1=0))&&((decide (c.2.2.2.2.2.1=0))&&(decide (c.2.2.2.2.2.2=0))))))))))))))):=by kernel_rfl
theorem cell_spans_eq (n:Nat) (c:TCell):cell_spans (n+1) c =
 tif ((decide (c.1=1))) (
 tif (((decide (c.2.1.1=c.2.2.1.1))&&((decide (c.2.1.2.1=c.2.2.1.2.1))&&((decide (c.2.1.2.2.1=c.2.2.1.2.2.1))&&(c.2.1.2.2.2==c.2.2.1.2.2.2))))) (
 obind (event_Check n c.2.1) fun r0 =>
 some (decide (r0=0))) (
 some false)) (
 tif ((decide ((1:Int)<c.1))) (
 obind (event_Follow n c.2.1 c.2.2.1) fun r1 =>
 tif (r1) (
 some (decide ((IntKind.wrap .i64 (c.1-1))≤(IntKind.wrap .i64 (c.2.2.1.1-c.2.1.1))))) (
 some false)) (
 some false)):=by kernel_rfl
theorem wide_Times_eq (n:Nat) (a:(Int×Int)) (n_:Int):wide_Times (n+1) a n_ =
 obind (math_bits_Mul64 n a.2 n_) fun r0 =>
 obind (math_bits_Mul64 n a.1 n_) fun r1 =>
 tif (((decide ((0:Int)≤r1.2))&&((decide ((0:Int)≤r0.1))&&true))) (
 obind (wide_sure n ((((r1.2+r0.1)+0) % (18446744073709551616:Int)),r0.2) (orI .u64 r1.1 (((r1.2+r0.1)+0) / (18446744073709551616:Int)))) fun r2 =>
 some r2) (
 none):=by kernel_rfl
theorem wide_Of_eq (n:Nat) (n_:Int):wide_Of (n+1) n_ =
 some ((0:Int),n_):=by kernel_rfl
theorem wide_Less_eq (n:Nat) (a:(Int×Int)) (b:(Int×Int)):wide_Less (n+1) a b =
 tif ((decide (a.1<b.1))) (
 some true) (
 tif ((decide (a.1=b.1))) (
 some (decide (a.2<b.2))) (
 some false)):=by kernel_rfl
theorem cell_in_eq (n:Nat) (n_:Int) (most:Int):cell_in (n+1) n_ most =
 tif ((decide ((0:Int)≤n_))) (
 some (decide (n_≤most))) (
 some false):=by kernel_rfl
theorem event_Check_eq (n:Nat) (e:TEvent):event_Check (n+1) e =
 tif ((decide (e.1<0))) (
 some (2:Int)) (
 tif ((decide ((35184372088832:Int)≤e.1))) (
 some (2:Int)) (
 tif ((decide (e.2.2.1<0))) (
 some (2:Int)) (
 tif ((decide (e.1<e.2.2.1))) (
 some (2:Int)) (
 tif (e.2.2.2) (
 tif ((!((decide (e.1=e.1))&&((decide (e.2.1=0))&&((decide (e.2.2.1=0))&&(e.2.2.2==true)))))) (
 some (2:Int)) (
 some (0:Int))) (
 some (0:Int)))))):=by kernel_rfl
theorem l14_Small_eq (n:Nat) (s:((List TSlot)×((List TSlot)×(List TSlot)))):l14_Small (n+1) s =
 obind (l14_Small_l2 n loopFuel (s,((0:Int),()))) fun r0 =>
 selim (fun y1 =>
 some (1:Int)) (fun z2 =>
 some z2) r0:=by kernel_rfl
theorem l14_Small_l2_eq (n f:Nat) (s_:((List TSlot)×((List TSlot)×(List TSlot)))) (s4:Int):l14_Small_l2 n (f+1) (s_,s4,()) =
 tif ((decide (s4<3))) (
 tif ((decide (s4=0))) (
 tif ((decide ((40:Int)<(((List.length s_.1):Nat):Int)))) (
 some (.inr (0:Int))) (
 l14_Small_l2 n f (s_,((IntKind.wrap .i64 (s4+1)),())))) (
 tif ((decide (s4=1))) (
 tif ((decide ((40:Int)<(((List.length s_.2.1):Nat):Int)))) (
 some (.inr (0:Int))) (
 l14_Small_l2 n f (s_,((IntKind.wrap .i64 (s4+1)),())))) (
 tif ((decide (s4=2))) (
 tif ((decide ((40:Int)<(((List.length s_.2.2):Nat):Int)))) (
 some (.inr (0:Int))) (
 l14_Small_l2 n f (s_,((IntKind.wrap .i64 (s4+1)),())))) (
 none)))) (
 some (.inl ())):=by kernel_rfl
end Go.Proofs.YtjeabebacegikaaGreatDoor
