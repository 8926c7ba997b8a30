/- Trees, printed by program. -/
import Derived.Test.YtjeabebacegikaaGreatDoorTr0
import Derived.KernelRfl
set_option linter.unusedVariables false
namespace Go.Proofs.YtjeabebacegikaaGreatDoor
open Go.Flat
theorem query_may_eq (n:Nat) (s:TState) (l:(List (List UInt8×List UInt8))):query_may (n+1) s l =
 obind (stt_Check n s) fun r0 =>
 tif ((!(decide (r0=0)))) (
 some r0) (
 obind (label_Check n l) fun r1 =>
 some r1):=by kernel_rfl
theorem query_of_eq (n:Nat) (s:TState) (a:TAsk) (k:Int):query_of (n+1) s a k =
 obind (stt_Find n s a.1) fun r0 =>
 tif ((!(decide (r0.2=0)))) (
 some (((0:Int),(((0:Int),((0:Int),((0:Int),false))),(((0:Int),((0:Int),((0:Int),false))),(((0:Int),(0:Int)),((0:Int),((0:Int),(0:Int))))))),(0:Int))) (
 tif ((decide (k=0))) (
 obind (wi_Span n a.2.2.1 a.2.2.2 s.1.2.1.1) fun r1 =>
 tif ((!(decide (r1.2.2=0)))) (
 some (((0:Int),(((0:Int),((0:Int),((0:Int),false))),(((0:Int),((0:Int),((0:Int),false))),(((0:Int),(0:Int)),((0:Int),((0:Int),(0:Int))))))),r1.2.2)) (
 obind (at? s.2.2.2 r0.1) fun r2 =>
 obind (series_Range n s.1 r2 k r1.1 r1.2.1) fun r3 =>
 some r3)) (
 tif ((decide (k=1))) (
 obind (wi_Span n a.2.2.1 a.2.2.2 s.1.2.1.2.1) fun r4 =>
 tif ((!(decide (r4.2.2=0)))) (
 some (((0:Int),(((0:Int),((0:Int),((0:Int),false))),(((0:Int),((0:Int),((0:Int),false))),(((0:Int),(0:Int)),((0:Int),((0:Int),(0:Int))))))),r4.2.2)) (
 obind (at? s.2.2.2 r0.1) fun r5 =>
 obind (series_Range n s.1 r5 k r4.1 r4.2.1) fun r6 =>
 some r6)) (
 tif ((decide (k=2))) (
 obind (wi_Span n a.2.2.1 a.2.2.2 s.1.2.1.2.2) fun r7 =>
 tif ((!(decide (r7.2.2=0)))) (
 some (((0:Int),(((0:Int),((0:Int),((0:Int),false))),(((0:Int),((0:Int),((0:Int),false))),(((0:Int),(0:Int)),((0:Int),((0:Int),(0:Int))))))),r7.2.2)) (
 obind (at? s.2.2.2 r0.1) fun r8 =>
 obind (series_Range n s.1 r8 k r7.1 r7.2.1) fun r9 =>
 some r9)) (
 none)))):=by kernel_rfl
theorem query_whichever_eq (n:Nat) (s:TState) (from_:Int) (to:Int):query_whichever (n+1) s from_ to =
 obind (query_whichever_l3 n loopFuel (from_,(to,(s,((10:Int),((1:Int),())))))) fun r0 =>
 selim (fun y1 =>
 some ((0:Int),y1.1)) (fun z2 =>
 some z2) r0:=by kernel_rfl
theorem query_whichever_l3_eq (n f:Nat) (from_:Int) (to:Int) (s_:TState) (why:Int) (tier:Int):query_whichever_l3 n (f+1) (from_,to,s_,why,tier,()) =
 tif ((decide (tier≤3))) (
 obind (query_one n s_ tier from_ to) fun r0 =>
 tif ((decide (r0=0))) (
 some (.inr (tier,(0:Int)))) (
 tif ((decide (r0=10))) (
 query_whichever_l3 n f (from_,(to,(s_,(why,((IntKind.wrap .i64 (tier+1)),())))))) (
 tif ((decide (r0=11))) (
 query_whichever_l3 n f (from_,(to,(s_,(r0,((IntKind.wrap .i64 (tier+1)),())))))) (
 some (.inr ((0:Int),r0)))))) (
 some (.inl (why,()))):=by kernel_rfl
theorem query_one_eq (n:Nat) (s:TState) (tier:Int) (from_:Int) (to:Int):query_one (n+1) s tier from_ to =
 tif ((decide ((IntKind.wrap .i64 (tier-1))=0))) (
 obind (wi_Span n from_ to s.1.2.1.1) fun r0 =>
 tif ((!(decide (r0.2.2=0)))) (
 some r0.2.2) (
 obind (csc_Kept n s (IntKind.wrap .i64 (tier-1))) fun r1 =>
 tif ((decide (r1.2.2=0))) (
 tif ((decide (r0.1<r1.1))) (
 some (11:Int)) (
 some r1.2.2)) (
 some r1.2.2))) (
 tif ((decide ((IntKind.wrap .i64 (tier-1))=1))) (
 obind (wi_Span n from_ to s.1.2.1.2.1) fun r2 =>
 tif ((!(decide (r2.2.2=0)))) (
 some r2.2.2) (
 obind (csc_Kept n s (IntKind.wrap .i64 (tier-1))) fun r3 =>
 tif ((decide (r3.2.2=0))) (
 tif ((decide (r2.1<r3.1))) (
 some (11:Int)) (
 some r3.2.2)) (
 some r3.2.2))) (
 tif ((decide ((IntKind.wrap .i64 (tier-1))=2))) (
 obind (wi_Span n from_ to s.1.2.1.2.2) fun r4 =>
 tif ((!(decide (r4.2.2=0)))) (
 some r4.2.2) (
 obind (csc_Kept n s (IntKind.wrap .i64 (tier-1))) fun r5 =>
 tif ((decide (r5.2.2=0))) (
 tif ((decide (r4.1<r5.1))) (
 some (11:Int)) (
 some r5.2.2)) (
 some r5.2.2))) (
 none))):=by kernel_rfl
theorem series_Dead_eq (n:Nat) (c:TConfig) (last:Int) (now:Int):series_Dead (n+1) c last now =
 obind (conf_Check n c) fun r0 =>
 tif ((decide (r0=0))) (
 obind (wi_Gone n last now c.2.1.1 c.2.2.1.1) fun r1 =>
 tif (r1) (
 obind (wi_Gone n last now c.2.1.2.1 c.2.2.1.2.1) fun r2 =>
 tif (r2) (
 obind (wi_Gone n last now c.2.1.2.2 c.2.2.1.2.2) fun r3 =>
 tif (r3) (
 some r3) (
 some r3)) (
 some r2)) (
 some r1)) (
 some (decide (r0=0))):=by kernel_rfl
theorem stt_Find_eq (n:Nat) (s:TState) (l:(List (List UInt8×List UInt8))):stt_Find (n+1) s l =
 obind (stt_open n s) fun r0 =>
 tif ((!(decide (r0.2=0)))) (
 some ((0:Int),r0.2)) (
 obind (stt_view_place n r0.1 (fun y1=>stt_Find_1 n y1.1 s l r0.1)) fun r2 =>
 tif ((decide (r2<0))) (
 some ((0:Int),(3:Int))) (
 some (r2,(0:Int)))):=by kernel_rfl
theorem cell_none_eq (n:Nat) (c:TCell):cell_none (n+1) c =
 some ((decide (c.1=0))&&((decide (c.2.1.1=0))&&((decide (c.2.1.2.1=0))&&((decide (c.2.1.2.2.1=0))&&((c.2.1.2.2.2==false)&&((decide (c.2.2.1.1=0))&&((decide (c.2.2.1.2.1=0))&&((decide (c.2.2.1.2.2.1=0))&&((c.2.2.1.2.2.2==false)&&((decide (c.2.2.2.1.1=0))&&((decide (c.2.2.2.1.2=0))&&((decide (c.2.2.2.2.1=0))&&((decide (c.2.2.2.2.2.1=0))&&(decide (c.2.2.2.2.2.2=0))))))))))))))):=by kernel_rfl
theorem cell_spans_eq (n:Nat) (c:TCell):cell_spans (n+1) c =
 tif ((decide (c.1=1))) (
 tif (((decide (c.2.1.1=c.2.2.1.1))&&((decide (c.2.1.2.1=c.2.2.1.2.1))&&((decide (c.2.1.2.2.1=c.2.2.1.2.2.1))&&(c.2.1.2.2.2==c.2.2.1.2.2.2))))) (
 obind (event_Check n c.2.1) fun r0 =>
 some (decide (r0=0))) (
 some false)) (
 tif ((decide ((1:Int)<c.1))) (
 obind (event_Follow n c.2.1 c.2.2.1) fun r1 =>
 tif (r1) (
 some (decide ((IntKind.wrap .i64 (c.1-1))≤(IntKind.wrap .i64 (c.2.2.1.1-c.2.1.1))))) (
 some false)) (
 some false)):=by kernel_rfl
theorem wide_Times_eq (n:Nat) (a:(Int×Int)) (n_:Int):wide_Times (n+1) a n_ =
 obind (math_bits_Mul64 n a.2 n_) fun r0 =>
 obind (math_bits_Mul64 n a.1 n_) fun r1 =>
 tif (((decide ((0:Int)≤r1.2))&&((decide ((0:Int)≤r0.1))&&true))) (
 obind (wide_sure n ((((r1.2+r0.1)+0) % (18446744073709551616:Int)),r0.2) (orI .u64 r1.1 (((r1.2+r0.1)+0) / (18446744073709551616:Int)))) fun r2 =>
 some r2) (
 none):=by kernel_rfl
theorem wide_Of_eq (n:Nat) (n_:Int):wide_Of (n+1) n_ =
 some ((0:Int),n_):=by kernel_rfl
theorem wide_Less_eq (n:Nat) (a:(Int×Int)) (b:(Int×Int)):wide_Less (n+1) a b =
 tif ((decide (a.1<b.1))) (
 some true) (
 tif ((decide (a.1=b.1))) (
 some (decide (a.2<b.2))) (
 some false)):=by kernel_rfl
theorem cell_in_eq (n:Nat) (n_:Int) (most:Int):cell_in (n+1) n_ most =
 tif ((decide ((0:Int)≤n_))) (
 some (decide (n_≤most))) (
 some false):=by kernel_rfl
theorem ratio_Reduce_eq (n:Nat) (num:(Int×Int)) (den:(Int×Int)):ratio_Reduce (n+1) num den =
 obind (ratio_none n den) fun r0 =>
 tif (r0) (
 some ((((0:Int),(0:Int)),((0:Int),(0:Int))),(1:Int))) (
 obind (ratio_Gcd n num den) fun r1 =>
 obind (ratio_whole n num r1) fun r2 =>
 obind (ratio_whole n den r1) fun r3 =>
 some ((r2,r3),(0:Int))):=by kernel_rfl
theorem cell_join_eq (n:Nat) (a:TCell) (b:TCell):cell_join (n+1) a b =
 obind (event_Between n a.2.2.1 b.2.1) fun r0 =>
 tif ((!(decide (r0.2=0)))) (
 some (((0:Int),(((0:Int),((0:Int),((0:Int),false))),(((0:Int),((0:Int),((0:Int),false))),(((0:Int),(0:Int)),((0:Int),((0:Int),(0:Int))))))),r0.2)) (
 obind (wide_Sum n (a.2.2.2.1::(r0.1.2.2.2.1::(b.2.2.2.1::[])))) fun r1 =>
 some (((IntKind.wrap .i64 (a.1+b.1)),(a.2.1,(b.2.2.1,(r1.1,((IntKind.wrap .i64 (r0.1.2.2.2.2.1+(IntKind.wrap .i64 (a.2.2.2.2.1+b.2.2.2.2.1)))),((IntKind.wrap .i64 (r0.1.2.2.2.2.2.1+(IntKind.wrap .i64 (a.2.2.2.2.2.1+b.2.2.2.2.2.1)))),(IntKind.wrap .i64 (r0.1.2.2.2.2.2.2+(IntKind.wrap .i64 (a.2.2.2.2.2.2+b.2.2.2.2.2.2)))))))))),r1.2)):=by kernel_rfl
theorem event_Check_eq (n:Nat) (e:TEvent):event_Check (n+1) e =
 tif ((decide (e.1<0))) (
 some (2:Int)) (
 tif ((decide ((35184372088832:Int)≤e.1))) (
 some (2:Int)) (
 tif ((decide (e.2.2.1<0))) (
 some (2:Int)) (
 tif ((decide (e.1<e.2.2.1))) (
 some (2:Int)) (
 tif (e.2.2.2) (
 tif ((!((decide (e.1=e.1))&&((decide (e.2.1=0))&&((decide (e.2.2.1=0))&&(e.2.2.2==true)))))) (
 some (2:Int)) (
 some (0:Int))) (
 some (0:Int)))))):=by kernel_rfl
theorem l14_Small_eq (n:Nat) (s:((List TSlot)×((List TSlot)×(List TSlot)))):l14_Small (n+1) s =
 obind (l14_Small_l2 n loopFuel (s,((0:Int),()))) fun r0 =>
 selim (fun y1 =>
 some (1:Int)) (fun z2 =>
 some z2) r0:=by kernel_rfl
theorem l14_Small_l2_eq (n f:Nat) (s_:((List TSlot)×((List TSlot)×(List TSlot)))) (s4:Int):l14_Small_l2 n (f+1) (s_,s4,()) =
 tif ((decide (s4<3))) (
 tif ((decide (s4=0))) (
 tif ((decide ((40:Int)<(((List.length s_.1):Nat):Int)))) (
 some (.inr (0:Int))) (
 l14_Small_l2 n f (s_,((IntKind.wrap .i64 (s4+1)),())))) (
 tif ((decide (s4=1))) (
 tif ((decide ((40:Int)<(((List.length s_.2.1):Nat):Int)))) (
 some (.inr (0:Int))) (
 l14_Small_l2 n f (s_,((IntKind.wrap .i64 (s4+1)),())))) (
 tif ((decide (s4=2))) (
 tif ((decide ((40:Int)<(((List.length s_.2.2):Nat):Int)))) (
 some (.inr (0:Int))) (
 l14_Small_l2 n f (s_,((IntKind.wrap .i64 (s4+1)),())))) (
 none)))) (
 some (.inl ())):=by kernel_rfl
theorem stt_view_lives_eq (n:Nat) (v:TState) (i:Int):stt_view_lives (n+1) v i =
 obind (at? v.2.2.2 i) fun r0 =>
 obind (stt_empty n r0) fun r1 =>
 tif ((!r1)) (
 tif ((decide (v.2.2.1=((-1):Int)))) (
 some true) (
 obind (series_Dead n v.1 r0.2.1 v.2.2.1) fun r2 =>
 some (!r2))) (
 some false):=by kernel_rfl
theorem tier_All_eq (n:Nat) (l:(List TSlot)):tier_All (n+1) l =
 obind (sl_Clone_Slot n l) fun r0 =>
 obind (sl_DeleteFunc_Slot n r0 (fun y1=>tier_none n y1.1)) fun r2 =>
 obind (sl_SortStableFunc_Slot n r2 (fun y3=>tier_All_1 n y3.1 y3.2.1)) fun r4 =>
 some r4:=by kernel_rfl
theorem conf_Check_eq (n:Nat) (c:TConfig):conf_Check (n+1) c =
 obind (conf_in_int n c.1 (1:Int) (4096:Int)) fun r0 =>
 tif (r0) (
 obind (conf_in_int n c.2.2.2.1 (1:Int) (65536:Int)) fun r1 =>
 tif (r1) (
 obind (conf_in_int n c.2.2.2.2 (1:Int) (8192:Int)) fun r2 =>
 tif (r2) (
 obind (conf_in_int64 n c.2.1.1 (1:Int) (1099511627776:Int)) fun r3 =>
 tif (r3) (
 obind (conf_in_int n c.2.2.1.1 (1:Int) (4096:Int)) fun r4 =>
 tif (r4) (
 obind (conf_in_int64 n c.2.1.2.1 (1:Int) (1099511627776:Int)) fun r5 =>
 tif (r5) (
 obind (conf_in_int n c.2.2.1.2.1 (1:Int) (4096:Int)) fun r6 =>
 tif (r6) (
 obind (conf_in_int64 n c.2.1.2.2 (1:Int) (1099511627776:Int)) fun r7 =>
 tif (r7) (
 obind (conf_in_int n c.2.2.1.2.2 (1:Int) (4096:Int)) fun r8 =>
 tif (r8) (
 tif ((decide (c.2.1.1=0))) (
 none) (
 tif ((decide ((Int.tmod c.2.1.2.1 c.2.1.1)=0))) (
 tif ((decide (c.2.1.1=0))) (
 none) (
 tif ((decide ((IntKind.wrap .i64 (Int.tdiv c.2.1.2.1 c.2.1.1))≤c.2.2.1.1))) (
 tif ((decide (c.2.1.2.1=0))) (
 none) (
 tif ((decide ((Int.tmod c.2.1.2.2 c.2.1.2.1)=0))) (
 tif ((decide (c.2.1.2.1=0))) (
 none) (
 tif ((decide ((IntKind.wrap .i64 (Int.tdiv c.2.1.2.2 c.2.1.2.1))≤c.2.2.1.2.1))) (
 tif ((!(decide ((IntKind.wrap .i64 (Int.tdiv c.2.1.2.2 c.2.1.2.1))≤c.2.2.1.2.1)))) (
 some (2:Int)) (
 obind (conf_place n c) fun r9 =>
 tif ((decide (c.2.2.2.2≤r9))) (
 some (2:Int)) (
 some (0:Int)))) (
 tif ((!(decide ((IntKind.wrap .i64 (Int.tdiv c.2.1.2.2 c.2.1.2.1))≤c.2.2.1.2.1)))) (
 some (2:Int)) (
 obind (conf_place n c) fun r10 =>
 tif ((decide (c.2.2.2.2≤r10))) (
 some (2:Int)) (
 some (0:Int)))))) (
 some (2:Int)))) (
 tif ((!(decide ((IntKind.wrap .i64 (Int.tdiv c.2.1.2.1 c.2.1.1))≤c.2.2.1.1)))) (
 some (2:Int)) (
 obind (conf_place n c) fun r11 =>
 tif ((decide (c.2.2.2.2≤r11))) (
 some (2:Int)) (
 some (0:Int)))))) (
 some (2:Int)))) (
 tif ((!r8)) (
 some (2:Int)) (
 obind (conf_place n c) fun r12 =>
 tif ((decide (c.2.2.2.2≤r12))) (
 some (2:Int)) (
 some (0:Int))))) (
 some (2:Int))) (
 some (2:Int))) (
 some (2:Int))) (
 some (2:Int))) (
 some (2:Int))) (
 some (2:Int))) (
 some (2:Int))) (
 some (2:Int)):=by kernel_rfl
theorem stt_time_eq (n:Nat) (t:Int):stt_time (n+1) t =
 tif ((decide ((0:Int)≤t))) (
 some (decide (t<35184372088832))) (
 some false):=by kernel_rfl
theorem stt_empty_eq (n:Nat) (s:TSeries):stt_empty (n+1) s =
 obind (series_Same n s ([],((0:Int),(((0:Int),((0:Int),[])),(([],([],[])),((0:Int),((0:Int),(((0:Int),((0:Int),((0:Int),false))),(((0:Int),((0:Int),((0:Int),false))),(((0:Int),(0:Int)),((0:Int),((0:Int),(0:Int))))))))))))) fun r0 =>
 some r0:=by kernel_rfl
theorem series_Check_eq (n:Nat) (c:TConfig) (s:TSeries):series_Check (n+1) c s =
 obind (series_open n c s) fun r0 =>
 oelim (r0.1) (
 some r0.2) fun r1 =>
 some r0.2:=by kernel_rfl
theorem stt_view_mark_eq (n:Nat) (v:TState):stt_view_mark (n+1) v =
 tif ((decide (v.1.2.1.1=0))) (
 none) (
 some (IntKind.wrap .i64 (v.2.1-(Int.tmod v.2.1 v.1.2.1.1)))):=by kernel_rfl
theorem stt_view_twin_eq (n:Nat) (v:TState) (i:Int):stt_view_twin (n+1) v i =
 obind (stt_view_place n v (fun y0=>stt_view_twin_1 n y0.1 i v)) fun r1 =>
 tif ((decide (r1<i))) (
 obind (stt_view_lives n v i) fun r2 =>
 some r2) (
 some false):=by kernel_rfl
theorem wi_Of_eq (n:Nat) (t:Int) (w:Int):wi_Of (n+1) t w =
 obind (wi_in_int64 n t (0:Int) (35184372088831:Int)) fun r0 =>
 tif ((!r0)) (
 some ((0:Int),(1:Int))) (
 obind (wi_width n w) fun r1 =>
 tif ((!r1)) (
 some ((0:Int),(1:Int))) (
 tif ((decide (w=0))) (
 none) (
 some ((IntKind.wrap .i64 (Int.tdiv t w)),(0:Int))))):=by kernel_rfl
theorem wi_in_int_eq (n:Nat) (n_:Int) (low:Int) (high:Int):wi_in_int (n+1) n_ low high =
 tif ((decide (low≤n_))) (
 some (decide (n_≤high))) (
 some false):=by kernel_rfl
theorem sl_Clone_Slot_eq (n:Nat) (s:(List TSlot)):sl_Clone_Slot (n+1) s =
 tif ((decide ((List.length s)=0))) (
 both (
 some []) (
 tif ((decide (((0+(List.length s))*120)≤140737488355328))) (
 some ([]++s)) (
 none))) (
 tif ((decide (((0+(List.length s))*120)≤140737488355328))) (
 some ([]++s)) (
 none)):=by kernel_rfl
theorem label_Check_eq (n:Nat) (l:(List (List UInt8×List UInt8))):label_Check (n+1) l =
 tif ((decide ((((List.length l):Nat):Int)=0))) (
 some (8:Int)) (
 tif ((decide ((16:Int)<(((List.length l):Nat):Int)))) (
 some (8:Int)) (
 obind (label_Check_l5 n loopFuel (l,((256:Int),(l,((((List.length l):Nat):Int),((0:Int),())))))) fun r0 =>
 selim (fun y1 =>
 some (0:Int)) (fun z2 =>
 some z2) r0)):=by kernel_rfl
theorem label_Check_l5_eq (n f:Nat) (l:(List (List UInt8×List UInt8))) (left:Int) (s14:(List (List UInt8×List UInt8))) (s15:Int) (s16:Int):label_Check_l5 n (f+1) (l,left,s14,s15,s16,()) =
 tif ((decide (s16<s15))) (
 obind (at? s14 s16) fun r0 =>
 obind (label_name n r0.1) fun r1 =>
 tif ((!r1)) (
 some (.inr (8:Int))) (
 tif ((decide ((128:Int)<(((List.length r0.2):Nat):Int)))) (
 some (.inr (8:Int))) (
 tif ((decide ((IntKind.wrap .i64 (left-(IntKind.wrap .i64 ((((List.length r0.1):Nat):Int)+(((List.length r0.2):Nat):Int)))))<0))) (
 some (.inr (8:Int))) (
 tif ((decide ((0:Int)<s16))) (
 obind (at? l (IntKind.wrap .i64 (s16-1))) fun r2 =>
 tif ((!(Go.Op.bytesLess r2.1 r0.1))) (
 some (.inr (8:Int))) (
 label_Check_l5 n f (l,((IntKind.wrap .i64 (left-(IntKind.wrap .i64 ((((List.length r0.1):Nat):Int)+(((List.length r0.2):Nat):Int))))),(s14,(s15,((IntKind.wrap .i64 (s16+1)),()))))))) (
 label_Check_l5 n f (l,((IntKind.wrap .i64 (left-(IntKind.wrap .i64 ((((List.length r0.1):Nat):Int)+(((List.length r0.2):Nat):Int))))),(s14,(s15,((IntKind.wrap .i64 (s16+1)),())))))))))) (
 some (.inl ())):=by kernel_rfl
theorem wi_Span_eq (n:Nat) (a:Int) (b:Int) (w:Int):wi_Span (n+1) a b w =
 obind (wi_width n w) fun r0 =>
 tif ((!r0)) (
 some ((0:Int),((0:Int),(1:Int)))) (
 tif ((decide (a<0))) (
 some ((0:Int),((0:Int),(1:Int)))) (
 tif ((decide ((35184372088832:Int)<b))) (
 some ((0:Int),((0:Int),(1:Int)))) (
 tif ((decide (b≤a))) (
 some ((0:Int),((0:Int),(1:Int)))) (
 tif ((decide (w=0))) (
 none) (
 tif ((!(decide ((Int.tmod a w)=0)))) (
 some ((0:Int),((0:Int),(10:Int)))) (
 tif ((decide (w=0))) (
 none) (
 tif ((!(decide ((Int.tmod b w)=0)))) (
 some ((0:Int),((0:Int),(10:Int)))) (
 tif ((decide (w=0))) (
 none) (
 tif ((decide (w=0))) (
 none) (
 some ((IntKind.wrap .i64 (Int.tdiv a w)),((IntKind.wrap .i64 (Int.tdiv b w)),(0:Int))))))))))))):=by kernel_rfl
theorem series_Range_eq (n:Nat) (c:TConfig) (s:TSeries) (k:Int) (i:Int) (j:Int):series_Range (n+1) c s k i j =
 obind (series_open n c s) fun r0 =>
 oelim (r0.1) (
 tif ((!(decide (r0.2=0)))) (
 some (((0:Int),(((0:Int),((0:Int),((0:Int),false))),(((0:Int),((0:Int),((0:Int),false))),(((0:Int),(0:Int)),((0:Int),((0:Int),(0:Int))))))),r0.2)) (
 tif ((decide (k<0))) (
 some (((0:Int),(((0:Int),((0:Int),((0:Int),false))),(((0:Int),((0:Int),((0:Int),false))),(((0:Int),(0:Int)),((0:Int),((0:Int),(0:Int))))))),(1:Int))) (
 tif ((decide ((3:Int)≤k))) (
 some (((0:Int),(((0:Int),((0:Int),((0:Int),false))),(((0:Int),((0:Int),((0:Int),false))),(((0:Int),(0:Int)),((0:Int),((0:Int),(0:Int))))))),(1:Int))) (
 tif ((decide (i<0))) (
 some (((0:Int),(((0:Int),((0:Int),((0:Int),false))),(((0:Int),((0:Int),((0:Int),false))),(((0:Int),(0:Int)),((0:Int),((0:Int),(0:Int))))))),(1:Int))) (
 tif ((decide (j<i))) (
 some (((0:Int),(((0:Int),((0:Int),((0:Int),false))),(((0:Int),((0:Int),((0:Int),false))),(((0:Int),(0:Int)),((0:Int),((0:Int),(0:Int))))))),(1:Int))) (
 none)))))) fun r1 =>
 tif ((!(decide (r0.2=0)))) (
 some (((0:Int),(((0:Int),((0:Int),((0:Int),false))),(((0:Int),((0:Int),((0:Int),false))),(((0:Int),(0:Int)),((0:Int),((0:Int),(0:Int))))))),r0.2)) (
 tif ((decide (k<0))) (
 some (((0:Int),(((0:Int),((0:Int),((0:Int),false))),(((0:Int),((0:Int),((0:Int),false))),(((0:Int),(0:Int)),((0:Int),((0:Int),(0:Int))))))),(1:Int))) (
 tif ((decide ((3:Int)≤k))) (
 some (((0:Int),(((0:Int),((0:Int),((0:Int),false))),(((0:Int),((0:Int),((0:Int),false))),(((0:Int),(0:Int)),((0:Int),((0:Int),(0:Int))))))),(1:Int))) (
 tif ((decide (i<0))) (
 some (((0:Int),(((0:Int),((0:Int),((0:Int),false))),(((0:Int),((0:Int),((0:Int),false))),(((0:Int),(0:Int)),((0:Int),((0:Int),(0:Int))))))),(1:Int))) (
 tif ((decide (j<i))) (
 some (((0:Int),(((0:Int),((0:Int),((0:Int),false))),(((0:Int),((0:Int),((0:Int),false))),(((0:Int),(0:Int)),((0:Int),((0:Int),(0:Int))))))),(1:Int))) (
 obind (srk_span n r1 k i j) fun r2 =>
 some r2))))):=by kernel_rfl
theorem csc_Kept_eq (n:Nat) (s:TState) (k:Int):csc_Kept (n+1) s k =
 obind (csc_tiers n s k) fun r0 =>
 tif ((!(decide (r0=0)))) (
 some ((0:Int),((0:Int),r0))) (
 tif ((decide (k=0))) (
 tif ((decide (k=0))) (
 obind (wi_Oldest n s.2.1 s.1.2.1.1 s.1.2.2.1.1) fun r1 =>
 tif ((decide (s.1.2.1.1=0))) (
 none) (
 some (r1.1,((IntKind.wrap .i64 (Int.tdiv s.2.1 s.1.2.1.1)),r1.2)))) (
 tif ((decide (k=1))) (
 obind (wi_Oldest n s.2.1 s.1.2.1.1 s.1.2.2.1.2.1) fun r2 =>
 tif ((decide (s.1.2.1.1=0))) (
 none) (
 some (r2.1,((IntKind.wrap .i64 (Int.tdiv s.2.1 s.1.2.1.1)),r2.2)))) (
 tif ((decide (k=2))) (
 obind (wi_Oldest n s.2.1 s.1.2.1.1 s.1.2.2.1.2.2) fun r3 =>
 tif ((decide (s.1.2.1.1=0))) (
 none) (
 some (r3.1,((IntKind.wrap .i64 (Int.tdiv s.2.1 s.1.2.1.1)),r3.2)))) (
 none)))) (
 tif ((decide (k=1))) (
 tif ((decide (k=0))) (
 obind (wi_Oldest n s.2.1 s.1.2.1.2.1 s.1.2.2.1.1) fun r4 =>
 tif ((decide (s.1.2.1.2.1=0))) (
 none) (
 some (r4.1,((IntKind.wrap .i64 (Int.tdiv s.2.1 s.1.2.1.2.1)),r4.2)))) (
 tif ((decide (k=1))) (
 obind (wi_Oldest n s.2.1 s.1.2.1.2.1 s.1.2.2.1.2.1) fun r5 =>
 tif ((decide (s.1.2.1.2.1=0))) (
 none) (
 some (r5.1,((IntKind.wrap .i64 (Int.tdiv s.2.1 s.1.2.1.2.1)),r5.2)))) (
 tif ((decide (k=2))) (
 obind (wi_Oldest n s.2.1 s.1.2.1.2.1 s.1.2.2.1.2.2) fun r6 =>
 tif ((decide (s.1.2.1.2.1=0))) (
 none) (
 some (r6.1,((IntKind.wrap .i64 (Int.tdiv s.2.1 s.1.2.1.2.1)),r6.2)))) (
 none)))) (
 tif ((decide (k=2))) (
 tif ((decide (k=0))) (
 obind (wi_Oldest n s.2.1 s.1.2.1.2.2 s.1.2.2.1.1) fun r7 =>
 tif ((decide (s.1.2.1.2.2=0))) (
 none) (
 some (r7.1,((IntKind.wrap .i64 (Int.tdiv s.2.1 s.1.2.1.2.2)),r7.2)))) (
 tif ((decide (k=1))) (
 obind (wi_Oldest n s.2.1 s.1.2.1.2.2 s.1.2.2.1.2.1) fun r8 =>
 tif ((decide (s.1.2.1.2.2=0))) (
 none) (
 some (r8.1,((IntKind.wrap .i64 (Int.tdiv s.2.1 s.1.2.1.2.2)),r8.2)))) (
 tif ((decide (k=2))) (
 obind (wi_Oldest n s.2.1 s.1.2.1.2.2 s.1.2.2.1.2.2) fun r9 =>
 tif ((decide (s.1.2.1.2.2=0))) (
 none) (
 some (r9.1,((IntKind.wrap .i64 (Int.tdiv s.2.1 s.1.2.1.2.2)),r9.2)))) (
 none)))) (
 none)))):=by kernel_rfl
theorem wi_Gone_eq (n:Nat) (t:Int) (now:Int) (w:Int) (n_:Int):wi_Gone (n+1) t now w n_ =
 obind (wi_Of n t w) fun r0 =>
 obind (wi_Oldest n now w n_) fun r1 =>
 tif ((decide (r0.2=0))) (
 tif ((decide (r1.2=0))) (
 some (decide (r0.1<r1.1))) (
 some false)) (
 some false):=by kernel_rfl
theorem stt_Find_1_eq (n:Nat) (i:Int) (p1:TState) (p2:(List (List UInt8×List UInt8))) (p3:TState):stt_Find_1 (n+1) i p1 p2 p3 =
 obind (at? p1.2.2.2 i) fun r0 =>
 obind (label_Same n r0.1 p2) fun r1 =>
 tif (r1) (
 obind (stt_view_lives n p3 i) fun r2 =>
 some r2) (
 some false):=by kernel_rfl
theorem label_Same_eq (n:Nat) (a:(List (List UInt8×List UInt8))) (b:(List (List UInt8×List UInt8))):label_Same (n+1) a b =
 obind (sl_Equal_Label n a b) fun r0 =>
 some r0:=by kernel_rfl
theorem event_Follow_eq (n:Nat) (p:TEvent) (c:TEvent):event_Follow (n+1) p c =
 obind (event_right n (p::(c::[]))) fun r0 =>
 tif (r0) (
 some (decide (p.1<c.1))) (
 some false):=by kernel_rfl
theorem math_bits_Mul64_eq (n:Nat) (x:Int) (y:Int):math_bits_Mul64 (n+1) x y =
 some ((IntKind.wrap .u64 ((IntKind.wrap .u64 ((IntKind.wrap .u64 ((shrI .u64 x (32:Int))*(shrI .u64 y (32:Int))))+(shrI .u64 (IntKind.wrap .u64 ((IntKind.wrap .u64 ((shrI .u64 x (32:Int))*(andI .u64 y (4294967295:Int))))+(shrI .u64 (IntKind.wrap .u64 ((andI .u64 x (4294967295:Int))*(andI .u64 y (4294967295:Int)))) (32:Int)))) (32:Int))))+(shrI .u64 (IntKind.wrap .u64 ((andI .u64 (IntKind.wrap .u64 ((IntKind.wrap .u64 ((shrI .u64 x (32:Int))*(andI .u64 y (4294967295:Int))))+(shrI .u64 (IntKind.wrap .u64 ((andI .u64 x (4294967295:Int))*(andI .u64 y (4294967295:Int)))) (32:Int)))) (4294967295:Int))+(IntKind.wrap .u64 ((andI .u64 x (4294967295:Int))*(shrI .u64 y (32:Int)))))) (32:Int)))),(IntKind.wrap .u64 (x*y))):=by kernel_rfl
theorem wide_sure_eq (n:Nat) (a:(Int×Int)) (over:Int):wide_sure (n+1) a over =
 tif ((!(decide (over=0)))) (
 some (((0:Int),(0:Int)),(1:Int))) (
 some (a,(0:Int))):=by kernel_rfl
theorem ratio_none_eq (n:Nat) (a:(Int×Int)):ratio_none (n+1) a =
 some ((decide (a.1=0))&&(decide (a.2=0))):=by kernel_rfl
theorem ratio_Gcd_eq (n:Nat) (a:(Int×Int)) (b:(Int×Int)):ratio_Gcd (n+1) a b =
 obind (ratio_none n a) fun r0 =>
 tif (r0) (
 some ((orI .u64 a.1 b.1),(orI .u64 a.2 b.2))) (
 obind (ratio_none n b) fun r1 =>
 tif (r1) (
 some ((orI .u64 a.1 b.1),(orI .u64 a.2 b.2))) (
 obind (ratio_noughts n a) fun r2 =>
 obind (ratio_noughts n b) fun r3 =>
 obind (ratio_noughts n a) fun r4 =>
 obind (ratio_down n a r4) fun r5 =>
 obind (ratio_Gcd_l5 n loopFuel (r5,(b,(((0:Int),(0:Int)),((if r3<r2 then r3 else r2),()))))) fun r6 =>
 selim (fun y7 =>
 obind (ratio_up n y7.1 y7.2.2.1) fun r8 =>
 some r8) (fun z9 =>
 some z9) r6)):=by kernel_rfl
theorem ratio_Gcd_l5_eq (n f:Nat) (a_:(Int×Int)) (b_:(Int×Int)) (s4:(Int×Int)) (twos:Int):ratio_Gcd_l5 n (f+1) (a_,b_,s4,twos,()) =
 obind (ratio_none n b_) fun r0 =>
 tif ((!r0)) (
 obind (ratio_noughts n b_) fun r1 =>
 obind (ratio_down n b_ r1) fun r2 =>
 obind (wide_Less n r2 a_) fun r3 =>
 tif (r3) (
 obind (ratio_less n a_ r2) fun r4 =>
 ratio_Gcd_l5 n f (r2,(r4,(s4,(twos,()))))) (
 obind (ratio_less n r2 a_) fun r5 =>
 ratio_Gcd_l5 n f (a_,(r5,(s4,(twos,())))))) (
 some (.inl (a_,(s4,(twos,()))))):=by kernel_rfl
theorem ratio_whole_eq (n:Nat) (a:(Int×Int)) (d:(Int×Int)):ratio_whole (n+1) a d =
 obind (ratio_long n a) fun r0 =>
 obind (ratio_long n d) fun r1 =>
 obind (ratio_whole_l3 n loopFuel (a,(d,(((0:Int),(0:Int)),(((0:Int),(0:Int)),((IntKind.wrap .i64 (r0-r1)),())))))) fun r2 =>
 selim (fun y3 =>
 some y3.2.1) (fun z4 =>
 some z4) r2:=by kernel_rfl
theorem ratio_whole_l3_eq (n f:Nat) (a_:(Int×Int)) (d_:(Int×Int)) (s4:(Int×Int)) (q:(Int×Int)) (by_:Int):ratio_whole_l3 n (f+1) (a_,d_,s4,q,by_,()) =
 tif ((decide ((0:Int)≤by_))) (
 obind (ratio_up n d_ by_) fun r0 =>
 obind (wide_Less n a_ r0) fun r1 =>
 tif (r1) (
 ratio_whole_l3 n f (a_,(d_,(s4,(q,((IntKind.wrap .i64 (by_-1)),())))))) (
 obind (ratio_less n a_ r0) fun r2 =>
 obind (wide_Of n (1:Int)) fun r3 =>
 obind (ratio_up n r3 by_) fun r4 =>
 ratio_whole_l3 n f (r2,(d_,(s4,(((orI .u64 q.1 r4.1),(orI .u64 q.2 r4.2)),((IntKind.wrap .i64 (by_-1)),()))))))) (
 some (.inl (s4,(q,())))):=by kernel_rfl
theorem event_Between_eq (n:Nat) (p:TEvent) (c:TEvent):event_Between (n+1) p c =
 obind (event_right n (p::(c::[]))) fun r0 =>
 tif ((!r0)) (
 some (((0:Int),(((0:Int),((0:Int),((0:Int),false))),(((0:Int),((0:Int),((0:Int),false))),(((0:Int),(0:Int)),((0:Int),((0:Int),(0:Int))))))),(2:Int))) (
 tif ((decide (c.1≤p.1))) (
 some (((0:Int),(((0:Int),((0:Int),((0:Int),false))),(((0:Int),((0:Int),((0:Int),false))),(((0:Int),(0:Int)),((0:Int),((0:Int),(0:Int))))))),(9:Int))) (
 tif (c.2.2.2) (
 some (((0:Int),(((0:Int),((0:Int),((0:Int),false))),(((0:Int),((0:Int),((0:Int),false))),(((0:Int),(0:Int)),((0:Int),((0:Int),(0:Int))))))),(0:Int))) (
 tif ((decide (p.1<c.2.2.1))) (
 obind (event_anew n c (IntKind.wrap .i64 (c.1-c.2.2.1))) fun r1 =>
 some (r1,(0:Int))) (
 tif (p.2.2.2) (
 some (((0:Int),(((0:Int),((0:Int),((0:Int),false))),(((0:Int),((0:Int),((0:Int),false))),(((0:Int),(0:Int)),((0:Int),((1:Int),(0:Int))))))),(0:Int))) (
 tif ((decide (c.2.1<p.2.1))) (
 obind (event_anew n c (IntKind.wrap .i64 (c.1-p.1))) fun r2 =>
 some (r2,(0:Int))) (
 obind (wide_Of n (IntKind.wrap .u64 (c.2.1-p.2.1))) fun r3 =>
 some (((0:Int),(((0:Int),((0:Int),((0:Int),false))),(((0:Int),((0:Int),((0:Int),false))),(r3,((0:Int),((0:Int),(IntKind.wrap .i64 (c.1-p.1)))))))),(0:Int)))))))):=by kernel_rfl
theorem wide_Sum_eq (n:Nat) (l:(List (Int×Int))):wide_Sum (n+1) l =
 obind (wide_Sum_l3 n loopFuel (((0:Int),(0:Int)),(((0:Int),(0:Int)),(l,((((List.length l):Nat):Int),((0:Int),())))))) fun r0 =>
 selim (fun y1 =>
 some (y1.2.1,(0:Int))) (fun z2 =>
 some z2) r0:=by kernel_rfl
theorem wide_Sum_l3_eq (n f:Nat) (s2:(Int×Int)) (a:(Int×Int)) (s9:(List (Int×Int))) (s10:Int) (s11:Int):wide_Sum_l3 n (f+1) (s2,a,s9,s10,s11,()) =
 tif ((decide (s11<s10))) (
 obind (at? s9 s11) fun r0 =>
 obind (wide_Add n a r0) fun r1 =>
 tif ((!(decide (r1.2=0)))) (
 some (.inr (((0:Int),(0:Int)),r1.2))) (
 wide_Sum_l3 n f (s2,(r1.1,(s9,(s10,((IntKind.wrap .i64 (s11+1)),()))))))) (
 some (.inl (s2,(a,())))):=by kernel_rfl
theorem series_open_eq (n:Nat) (c:TConfig) (s:TSeries):series_open (n+1) c s =
 obind (fold_Check n c s.2.2.2.1) fun r0 =>
 tif ((!(decide (r0=0)))) (
 some (none,(2:Int))) (
 obind (label_Check n s.1) fun r1 =>
 tif ((!(decide (r1=0)))) (
 some (none,(2:Int))) (
 obind (raw_Check n s.2.2.1 c.1) fun r2 =>
 tif ((!(decide (r2=0)))) (
 some (none,(2:Int))) (
 tif ((decide (s.2.1=((-1):Int)))) (
 obind (srk_fresh n (c,s)) fun r3 =>
 tif (r3) (
 some ((some (c,s)),(0:Int))) (
 tif ((!(decide (s.2.1=((-1):Int))))) (
 obind (srk_ends n (c,s)) fun r4 =>
 tif (r4) (
 some ((some (c,s)),(0:Int))) (
 some (none,(2:Int)))) (
 some (none,(2:Int))))) (
 tif ((!(decide (s.2.1=((-1):Int))))) (
 obind (srk_ends n (c,s)) fun r5 =>
 tif (r5) (
 some ((some (c,s)),(0:Int))) (
 some (none,(2:Int)))) (
 some (none,(2:Int))))))):=by kernel_rfl
theorem sl_DeleteFunc_Slot_eq (n:Nat) (s:(List TSlot)) (del:((TSlot×Unit)→Option Bool)):sl_DeleteFunc_Slot (n+1) s del =
 obind (sl_IndexFunc_Slot n s del) fun r0 =>
 tif ((decide (r0=((-1):Int)))) (
 some s) (
 obind (sl_DeleteFunc_Slot_l5 n loopFuel (s,(del,(r0,((IntKind.wrap .i64 (r0+1)),()))))) fun r1 =>
 selim (fun y2 =>
 tif ((decide ((0:Int)≤y2.2.1))) (
 tif ((decide ((Int.toNat y2.2.1)≤(List.length y2.1)))) (
 tif ((decide (((Int.toNat y2.2.1)+((List.length y2.1)-(Int.toNat y2.2.1)))≤(List.length y2.1)))) (
 tif (((decide ((0:Int)≤y2.2.1))&&(decide (y2.2.1≤(((List.length (Go.Flat.putRow y2.1 (Int.toNat y2.2.1) (List.replicate ((List.length y2.1)-(Int.toNat y2.2.1)) ((0:Int),((0:Int),(((0:Int),((0:Int),((0:Int),false))),(((0:Int),((0:Int),((0:Int),false))),(((0:Int),(0:Int)),((0:Int),((0:Int),(0:Int))))))))))):Nat):Int))))) (
 some (List.take ((Int.toNat y2.2.1)-0) (Go.Flat.putRow y2.1 (Int.toNat y2.2.1) (List.replicate ((List.length y2.1)-(Int.toNat y2.2.1)) ((0:Int),((0:Int),(((0:Int),((0:Int),((0:Int),false))),(((0:Int),((0:Int),((0:Int),false))),(((0:Int),(0:Int)),((0:Int),((0:Int),(0:Int)))))))))))) (
 none)) (
 none)) (
 none)) (
 none)) (fun z3 =>
 some z3) r1):=by kernel_rfl
theorem sl_DeleteFunc_Slot_l5_eq (n f:Nat) (s:(List TSlot)) (del:((TSlot×Unit)→Option Bool)) (i:Int) (j:Int):sl_DeleteFunc_Slot_l5 n (f+1) (s,del,i,j,()) =
 tif ((decide (j<(((List.length s):Nat):Int)))) (
 obind (at? s j) fun r0 =>
 obind ((s)[(Int.toNat j)]?) fun r1 =>
 obind (del (r1,())) fun r2 =>
 tif ((!r2)) (
 obind (at? s i) fun r3 =>
 obind ((s)[(Int.toNat i)]?) fun r4 =>
 sl_DeleteFunc_Slot_l5 n f ((List.set s (Int.toNat i) r1),(del,((IntKind.wrap .i64 (i+1)),((IntKind.wrap .i64 (j+1)),()))))) (
 sl_DeleteFunc_Slot_l5 n f (s,(del,(i,((IntKind.wrap .i64 (j+1)),())))))) (
 some (.inl (s,(i,())))):=by kernel_rfl
theorem tier_none_eq (n:Nat) (s:TSlot):tier_none (n+1) s =
 some ((decide (s.1=0))&&((decide (s.2.1=0))&&((decide (s.2.2.1.1=0))&&((decide (s.2.2.1.2.1=0))&&((decide (s.2.2.1.2.2.1=0))&&((s.2.2.1.2.2.2==false)&&((decide (s.2.2.2.1.1=0))&&((decide (s.2.2.2.1.2.1=0))&&((decide (s.2.2.2.1.2.2.1=0))&&((s.2.2.2.1.2.2.2==false)&&((decide (s.2.2.2.2.1.1=0))&&((decide (s.2.2.2.2.1.2=0))&&((decide (s.2.2.2.2.2.1=0))&&((decide (s.2.2.2.2.2.2.1=0))&&(decide (s.2.2.2.2.2.2.2=0)))))))))))))))):=by kernel_rfl
theorem sl_SortStableFunc_Slot_eq (n:Nat) (x:(List TSlot)) (cmp:((TSlot×(TSlot×Unit))→Option Int)):sl_SortStableFunc_Slot (n+1) x cmp =
 obind (sl_stab n x (((List.length x):Nat):Int) cmp) fun r0 =>
 some r0:=by kernel_rfl
theorem tier_All_1_eq (n:Nat) (a:TSlot) (b:TSlot):tier_All_1 (n+1) a b =
 obind (cmp_Compare_int64 n a.1 b.1) fun r0 =>
 some r0:=by kernel_rfl
theorem cmp_Compare_int64_eq (n:Nat) (x:Int) (y:Int):cmp_Compare_int64 (n+1) x y =
 obind (cmp_isNaN_int64 n x) fun r0 =>
 obind (cmp_isNaN_int64 n y) fun r1 =>
 tif (r0) (
 tif (r1) (
 some (0:Int)) (
 some ((-1):Int))) (
 tif (r1) (
 some (1:Int)) (
 tif ((decide (x<y))) (
 some ((-1):Int)) (
 tif ((decide (y<x))) (
 some (1:Int)) (
 some (0:Int))))):=by kernel_rfl
theorem conf_in_int_eq (n:Nat) (n_:Int) (low:Int) (high:Int):conf_in_int (n+1) n_ low high =
 tif ((decide (low≤n_))) (
 some (decide (n_≤high))) (
 some false):=by kernel_rfl
theorem conf_in_int64_eq (n:Nat) (n_:Int) (low:Int) (high:Int):conf_in_int64 (n+1) n_ low high =
 tif ((decide (low≤n_))) (
 some (decide (n_≤high))) (
 some false):=by kernel_rfl
theorem conf_place_eq (n:Nat) (c:TConfig):conf_place (n+1) c =
 obind (conf_parts n c.1 (16:Int)) fun r0 =>
 obind (conf_parts n c.2.2.1.1 (4:Int)) fun r1 =>
 obind (conf_parts n c.2.2.1.2.1 (4:Int)) fun r2 =>
 obind (conf_parts n c.2.2.1.2.2 (4:Int)) fun r3 =>
 some (IntKind.wrap .i64 ((IntKind.wrap .i64 ((IntKind.wrap .i64 ((IntKind.wrap .i64 ((1:Int)+r0))+r1))+r2))+r3)):=by kernel_rfl
theorem series_Same_eq (n:Nat) (a:TSeries) (b:TSeries):series_Same (n+1) a b =
 obind (label_Same n a.1 b.1) fun r0 =>
 tif (r0) (
 tif ((decide (a.2.1=b.2.1))) (
 obind (raw_Same n a.2.2.1 b.2.2.1) fun r1 =>
 tif (r1) (
 tif (((decide (a.2.2.2.2.1=b.2.2.2.2.1))&&((decide (a.2.2.2.2.2.1=b.2.2.2.2.2.1))&&((decide (a.2.2.2.2.2.2.1.1=b.2.2.2.2.2.2.1.1))&&((decide (a.2.2.2.2.2.2.1.2.1=b.2.2.2.2.2.2.1.2.1))&&((decide (a.2.2.2.2.2.2.1.2.2.1=b.2.2.2.2.2.2.1.2.2.1))&&((a.2.2.2.2.2.2.1.2.2.2==b.2.2.2.2.2.2.1.2.2.2)&&((decide (a.2.2.2.2.2.2.2.1.1=b.2.2.2.2.2.2.2.1.1))&&((decide (a.2.2.2.2.2.2.2.1.2.1=b.2.2.2.2.2.2.2.1.2.1))&&((decide (a.2.2.2.2.2.2.2.1.2.2.1=b.2.2.2.2.2.2.2.1.2.2.1))&&((a.2.2.2.2.2.2.2.1.2.2.2==b.2.2.2.2.2.2.2.1.2.2.2)&&((decide (a.2.2.2.2.2.2.2.2.1.1=b.2.2.2.2.2.2.2.2.1.1))&&((decide (a.2.2.2.2.2.2.2.2.1.2=b.2.2.2.2.2.2.2.2.1.2))&&((decide (a.2.2.2.2.2.2.2.2.2.1=b.2.2.2.2.2.2.2.2.2.1))&&((decide (a.2.2.2.2.2.2.2.2.2.2.1=b.2.2.2.2.2.2.2.2.2.2.1))&&(decide (a.2.2.2.2.2.2.2.2.2.2.2=b.2.2.2.2.2.2.2.2.2.2.2))))))))))))))))) (
 obind (sl_Equal_Slot n a.2.2.2.1.1 b.2.2.2.1.1) fun r2 =>
 tif (r2) (
 obind (sl_Equal_Slot n a.2.2.2.1.2.1 b.2.2.2.1.2.1) fun r3 =>
 tif (r3) (
 obind (sl_Equal_Slot n a.2.2.2.1.2.2 b.2.2.2.1.2.2) fun r4 =>
 some r4) (
 some false)) (
 some false)) (
 some false)) (
 some false)) (
 some false)) (
 some false):=by kernel_rfl
theorem stt_view_twin_1_eq (n:Nat) (k:Int) (p1:Int) (p2:TState):stt_view_twin_1 (n+1) k p1 p2 =
 tif ((decide (k=p1))) (
 some true) (
 obind (stt_view_lives n p2 k) fun r0 =>
 tif (r0) (
 obind (at? p2.2.2.2 k) fun r1 =>
 obind (at? p2.2.2.2 p1) fun r2 =>
 obind (label_Same n r1.1 r2.1) fun r3 =>
 some r3) (
 some false)):=by kernel_rfl
end Go.Proofs.YtjeabebacegikaaGreatDoor
