/- Trees, printed by program. -/
import Derived.Test.YtjeabebacegikaaGreatDoorTr0
import Derived.KernelRfl
set_option linter.unusedVariables false
namespace Go.Proofs.YtjeabebacegikaaGreatDoor
open Go.Flat
theorem stt_view_lives_eq (n:Nat) (v:TState) (i:Int):stt_view_lives (n+1) v i =
 obind (at? v.2.2.2 i) fun r0 =>
 obind (stt_empty n r0) fun r1 =>
 tif ((!r1)) (
 tif ((decide (v.2.2.1=((-1):Int)))) (
 some true) (
 obind (series_Dead n v.1 r0.2.1 v.2.2.1) fun r2 =>
 some (!r2))) (
 some false):=by kernel_rfl
theorem tier_All_eq (n:Nat) (l:(List TSlot)):tier_All (n+1) l =
 obind (sl_Clone_Slot n l) fun r0 =>
 obind (sl_DeleteFunc_Slot n r0 (fun y1=>tier_none n y1.1)) fun r2 =>
 obind (sl_SortStableFunc_Slot n r2 (fun y3=>tier_All_1 n y3.1 y3.2.1)) fun r4 =>
 some r4:=by kernel_rfl
theorem r17_Live_eq (n:Nat) (s:TState):r17_Live (n+1) s =
 obind (r17_whole n s) fun r0 =>
 tif ((!r0)) (
 some []) (
 obind (r17_Live_l5 n loopFuel (s,([],((((List.length s.2.2.2):Nat):Int),((0:Int),()))))) fun r1 =>
 selim (fun y2 =>
 some y2.1) (fun z3 =>
 some z3) r1):=by kernel_rfl
theorem r17_Live_l5_eq (n f:Nat) (s_:TState) (out:(List Int)) (s10:Int) (s11:Int):r17_Live_l5 n (f+1) (s_,out,s10,s11,()) =
 tif ((decide (s11<s10))) (
 obind (r17_lives n s_ s11) fun r0 =>
 tif (r0) (
 tif ((decide ((((List.length out)+1)*8)≤140737488355328))) (
 r17_Live_l5 n f (s_,((out++(s11::[])),(s10,((IntKind.wrap .i64 (s11+1)),()))))) (
 none)) (
 r17_Live_l5 n f (s_,(out,(s10,((IntKind.wrap .i64 (s11+1)),())))))) (
 some (.inl (out,()))):=by kernel_rfl
theorem r15_Same_eq (n:Nat) (a:TSeries) (b:TSeries):r15_Same (n+1) a b =
 obind (r05_Same n a.1 b.1) fun r0 =>
 tif (r0) (
 tif ((decide (a.2.1=b.2.1))) (
 obind (r12_Same n a.2.2.1 b.2.2.1) fun r1 =>
 tif (r1) (
 obind (r14_Same n a.2.2.2.1 b.2.2.2.1) fun r2 =>
 tif (r2) (
 some ((decide (a.2.2.2.2.1=b.2.2.2.2.1))&&((decide (a.2.2.2.2.2.1=b.2.2.2.2.2.1))&&((decide (a.2.2.2.2.2.2.1.1=b.2.2.2.2.2.2.1.1))&&((decide (a.2.2.2.2.2.2.1.2.1=b.2.2.2.2.2.2.1.2.1))&&((decide (a.2.2.2.2.2.2.1.2.2.1=b.2.2.2.2.2.2.1.2.2.1))&&((a.2.2.2.2.2.2.1.2.2.2==b.2.2.2.2.2.2.1.2.2.2)&&((decide (a.2.2.2.2.2.2.2.1.1=b.2.2.2.2.2.2.2.1.1))&&((decide (a.2.2.2.2.2.2.2.1.2.1=b.2.2.2.2.2.2.2.1.2.1))&&((decide (a.2.2.2.2.2.2.2.1.2.2.1=b.2.2.2.2.2.2.2.1.2.2.1))&&((a.2.2.2.2.2.2.2.1.2.2.2==b.2.2.2.2.2.2.2.1.2.2.2)&&((decide (a.2.2.2.2.2.2.2.2.1.1=b.2.2.2.2.2.2.2.2.1.1))&&((decide (a.2.2.2.2.2.2.2.2.1.2=b.2.2.2.2.2.2.2.2.1.2))&&((decide (a.2.2.2.2.2.2.2.2.2.1=b.2.2.2.2.2.2.2.2.2.1))&&((decide (a.2.2.2.2.2.2.2.2.2.2.1=b.2.2.2.2.2.2.2.2.2.2.1))&&(decide (a.2.2.2.2.2.2.2.2.2.2.2=b.2.2.2.2.2.2.2.2.2.2.2))))))))))))))))) (
 some false)) (
 some false)) (
 some false)) (
 some false):=by kernel_rfl
theorem r10_Check_eq (n:Nat) (c:TConfig):r10_Check (n+1) c =
 tif ((decide (c.1<1))) (
 some (2:Int)) (
 tif ((decide ((4096:Int)<c.1))) (
 some (2:Int)) (
 tif ((decide (c.2.2.2.1<1))) (
 some (2:Int)) (
 tif ((decide ((65536:Int)<c.2.2.2.1))) (
 some (2:Int)) (
 tif ((decide (c.2.2.2.2<1))) (
 some (2:Int)) (
 tif ((decide ((8192:Int)<c.2.2.2.2))) (
 some (2:Int)) (
 tif ((decide (c.2.1.1<1))) (
 some (2:Int)) (
 tif ((decide ((1099511627776:Int)<c.2.1.1))) (
 some (2:Int)) (
 tif ((decide (c.2.2.1.1<1))) (
 some (2:Int)) (
 tif ((decide ((4096:Int)<c.2.2.1.1))) (
 some (2:Int)) (
 tif ((decide (c.2.1.2.1<1))) (
 some (2:Int)) (
 tif ((decide ((1099511627776:Int)<c.2.1.2.1))) (
 some (2:Int)) (
 tif ((decide (c.2.2.1.2.1<1))) (
 some (2:Int)) (
 tif ((decide ((4096:Int)<c.2.2.1.2.1))) (
 some (2:Int)) (
 tif ((decide (c.2.1.1=0))) (
 none) (
 tif ((!(decide ((Int.tmod c.2.1.2.1 c.2.1.1)=0)))) (
 some (2:Int)) (
 tif ((decide (c.2.1.1=0))) (
 none) (
 tif ((decide (c.2.2.1.1<(IntKind.wrap .i64 (Int.tdiv c.2.1.2.1 c.2.1.1))))) (
 some (2:Int)) (
 tif ((decide (c.2.1.2.2<1))) (
 some (2:Int)) (
 tif ((decide ((1099511627776:Int)<c.2.1.2.2))) (
 some (2:Int)) (
 tif ((decide (c.2.2.1.2.2<1))) (
 some (2:Int)) (
 tif ((decide ((4096:Int)<c.2.2.1.2.2))) (
 some (2:Int)) (
 tif ((decide (c.2.1.2.1=0))) (
 none) (
 tif ((!(decide ((Int.tmod c.2.1.2.2 c.2.1.2.1)=0)))) (
 some (2:Int)) (
 tif ((decide (c.2.1.2.1=0))) (
 none) (
 tif ((decide (c.2.2.1.2.1<(IntKind.wrap .i64 (Int.tdiv c.2.1.2.2 c.2.1.2.1))))) (
 some (2:Int)) (
 obind (r10_place n c) fun r0 =>
 tif ((decide (c.2.2.2.2≤r0))) (
 some (2:Int)) (
 some (0:Int)))))))))))))))))))))))))))):=by kernel_rfl
theorem strconv_AppendInt_eq (n:Nat) (dst:(List Int)) (i:Int) (base:Int):strconv_AppendInt (n+1) dst i base =
 obind (strconv_AppendInt_ n dst i base) fun r0 =>
 some r0:=by kernel_rfl
theorem r01_Text_eq (n:Nat) (a:(Int×Int)):r01_Text (n+1) a =
 obind (r01_Div n a (10:Int)) fun r0 =>
 tif (((decide (r0.1.1=0))&&(decide (r0.1.2=0)))) (
 some ((UInt8.ofNat (Int.toNat (IntKind.wrap .u8 (IntKind.wrap .u64 ((48:Int)+r0.2.1)))))::[])) (
 obind (r01_Text n r0.1) fun r1 =>
 tif ((decide (((List.length r1)+1)≤9223372036854775807))) (
 some (r1++((UInt8.ofNat (Int.toNat (IntKind.wrap .u8 (IntKind.wrap .u64 ((48:Int)+r0.2.1)))))::[]))) (
 none)):=by kernel_rfl
theorem stt_Room_1_eq (n:Nat) (i:Int) (p1:TState):stt_Room_1 (n+1) i p1 =
 obind (stt_view_lives n p1 i) fun r0 =>
 some (!r0):=by kernel_rfl
theorem r12_Check_eq (n:Nat) (r:(Int×(Int×(List TEvent)))) (room:Int):r12_Check (n+1) r room =
 tif ((decide (room<1))) (
 some (2:Int)) (
 tif ((decide ((4096:Int)<room))) (
 some (2:Int)) (
 tif ((decide (room<(((List.length r.2.2):Nat):Int)))) (
 some (2:Int)) (
 tif ((decide (r.1<0))) (
 some (2:Int)) (
 tif ((decide ((70368744177664:Int)<r.1))) (
 some (2:Int)) (
 obind (r12_Check_l4 n loopFuel (room,(r,(r.2.2,((((List.length r.2.2):Nat):Int),((0:Int),())))))) fun r0 =>
 selim (fun y1 =>
 tif ((decide (y1.2.1.1=0))) (
 tif ((!(decide (y1.2.1.2.1=0)))) (
 some (2:Int)) (
 some (0:Int))) (
 tif ((decide (y1.2.1.2.1<0))) (
 some (2:Int)) (
 tif ((decide ((35184372088832:Int)≤y1.2.1.2.1))) (
 some (2:Int)) (
 tif ((!(decide ((((List.length y1.2.1.2.2):Nat):Int)=y1.1)))) (
 some (2:Int)) (
 obind (at? y1.2.1.2.2 (0:Int)) fun r2 =>
 tif ((decide (r2.1≤y1.2.1.2.1))) (
 some (2:Int)) (
 some (0:Int))))))) (fun z3 =>
 some z3) r0))))):=by kernel_rfl
theorem r12_Check_l4_eq (n f:Nat) (room:Int) (r_:(Int×(Int×(List TEvent)))) (s31:(List TEvent)) (s32:Int) (s33:Int):r12_Check_l4 n (f+1) (room,r_,s31,s32,s33,()) =
 tif ((decide (s33<s32))) (
 obind (at? s31 s33) fun r0 =>
 obind (r07_Check n r0) fun r1 =>
 tif ((!(decide (r1=0)))) (
 some (.inr (2:Int))) (
 tif ((decide ((0:Int)<s33))) (
 obind (at? r_.2.2 (IntKind.wrap .i64 (s33-1))) fun r2 =>
 tif ((decide (r0.1≤r2.1))) (
 some (.inr (2:Int))) (
 r12_Check_l4 n f (room,(r_,(s31,(s32,((IntKind.wrap .i64 (s33+1)),()))))))) (
 r12_Check_l4 n f (room,(r_,(s31,(s32,((IntKind.wrap .i64 (s33+1)),())))))))) (
 some (.inl (room,(r_,())))):=by kernel_rfl
theorem r14_Check_eq (n:Nat) (c:TConfig) (s:((List TSlot)×((List TSlot)×(List TSlot)))):r14_Check (n+1) c s =
 obind (r10_Check n c) fun r0 =>
 tif ((!(decide (r0=0)))) (
 some (2:Int)) (
 tif ((!(decide ((((List.length s.1):Nat):Int)=c.2.2.1.1)))) (
 some (2:Int)) (
 obind (r13_Check n s.1 c.2.1.1) fun r1 =>
 tif ((!(decide (r1=0)))) (
 some (2:Int)) (
 tif ((!(decide ((((List.length s.2.1):Nat):Int)=c.2.2.1.2.1)))) (
 some (2:Int)) (
 obind (r13_Check n s.2.1 c.2.1.2.1) fun r2 =>
 tif ((!(decide (r2=0)))) (
 some (2:Int)) (
 tif ((!(decide ((((List.length s.2.2):Nat):Int)=c.2.2.1.2.2)))) (
 some (2:Int)) (
 obind (r13_Check n s.2.2 c.2.1.2.2) fun r3 =>
 tif ((!(decide (r3=0)))) (
 some (2:Int)) (
 some (0:Int)))))))):=by kernel_rfl
theorem r12_Last_eq (n:Nat) (r:(Int×(Int×(List TEvent)))):r12_Last (n+1) r =
 tif ((decide ((((List.length r.2.2):Nat):Int)=0))) (
 some (((0:Int),((0:Int),((0:Int),false))),(3:Int))) (
 obind (at? r.2.2 (IntKind.wrap .i64 ((((List.length r.2.2):Nat):Int)-1))) fun r0 =>
 some (r0,(0:Int))):=by kernel_rfl
theorem r13_Fits_eq (n:Nat) (c:TCell) (w:Int) (i:Int):r13_Fits (n+1) c w i =
 obind (r08_Check n c) fun r0 =>
 tif ((!(decide (r0=0)))) (
 some false) (
 tif ((decide (c.1=0))) (
 some false) (
 obind (r09_Of n c.2.1.1 w) fun r1 =>
 obind (r09_Of n c.2.2.1.1 w) fun r2 =>
 tif ((decide (r1.2=0))) (
 tif ((decide (r2.2=0))) (
 tif ((decide (r1.1=i))) (
 some (decide (r2.1=i))) (
 some false)) (
 some false)) (
 some false))):=by kernel_rfl
theorem conf_Check_eq (n:Nat) (c:TConfig):conf_Check (n+1) c =
 obind (conf_in_int n c.1 (1:Int) (4096:Int)) fun r0 =>
 tif (r0) (
 obind (conf_in_int n c.2.2.2.1 (1:Int) (65536:Int)) fun r1 =>
 tif (r1) (
 obind (conf_in_int n c.2.2.2.2 (1:Int) (8192:Int)) fun r2 =>
 tif (r2) (
 obind (conf_in_int64 n c.2.1.1 (1:Int) (1099511627776:Int)) fun r3 =>
 tif (r3) (
 obind (conf_in_int n c.2.2.1.1 (1:Int) (4096:Int)) fun r4 =>
 tif (r4) (
 obind (conf_in_int64 n c.2.1.2.1 (1:Int) (1099511627776:Int)) fun r5 =>
 tif (r5) (
 obind (conf_in_int n c.2.2.1.2.1 (1:Int) (4096:Int)) fun r6 =>
 tif (r6) (
 obind (conf_in_int64 n c.2.1.2.2 (1:Int) (1099511627776:Int)) fun r7 =>
 tif (r7) (
 obind (conf_in_int n c.2.2.1.2.2 (1:Int) (4096:Int)) fun r8 =>
 tif (r8) (
 tif ((decide (c.2.1.1=0))) (
 none) (
 tif ((decide ((Int.tmod c.2.1.2.1 c.2.1.1)=0))) (
 tif ((decide (c.2.1.1=0))) (
 none) (
 tif ((decide ((IntKind.wrap .i64 (Int.tdiv c.2.1.2.1 c.2.1.1))≤c.2.2.1.1))) (
 tif ((decide (c.2.1.2.1=0))) (
 none) (
 tif ((decide ((Int.tmod c.2.1.2.2 c.2.1.2.1)=0))) (
 tif ((decide (c.2.1.2.1=0))) (
 none) (
 tif ((decide ((IntKind.wrap .i64 (Int.tdiv c.2.1.2.2 c.2.1.2.1))≤c.2.2.1.2.1))) (
 tif ((!(decide ((IntKind.wrap .i64 (Int.tdiv c.2.1.2.2 c.2.1.2.1))≤c.2.2.1.2.1)))) (
 some (2:Int)) (
 obind (conf_place n c) fun r9 =>
 tif ((decide (c.2.2.2.2≤r9))) (
 some (2:Int)) (
 some (0:Int)))) (
 tif ((!(decide ((IntKind.wrap .i64 (Int.tdiv c.2.1.2.2 c.2.1.2.1))≤c.2.2.1.2.1)))) (
 some (2:Int)) (
 obind (conf_place n c) fun r10 =>
 tif ((decide (c.2.2.2.2≤r10))) (
 some (2:Int)) (
 some (0:Int)))))) (
 some (2:Int)))) (
 tif ((!(decide ((IntKind.wrap .i64 (Int.tdiv c.2.1.2.1 c.2.1.1))≤c.2.2.1.1)))) (
 some (2:Int)) (
 obind (conf_place n c) fun r11 =>
 tif ((decide (c.2.2.2.2≤r11))) (
 some (2:Int)) (
 some (0:Int)))))) (
 some (2:Int)))) (
 tif ((!r8)) (
 some (2:Int)) (
 obind (conf_place n c) fun r12 =>
 tif ((decide (c.2.2.2.2≤r12))) (
 some (2:Int)) (
 some (0:Int))))) (
 some (2:Int))) (
 some (2:Int))) (
 some (2:Int))) (
 some (2:Int))) (
 some (2:Int))) (
 some (2:Int))) (
 some (2:Int))) (
 some (2:Int)):=by kernel_rfl
theorem stt_time_eq (n:Nat) (t:Int):stt_time (n+1) t =
 tif ((decide ((0:Int)≤t))) (
 some (decide (t<35184372088832))) (
 some false):=by kernel_rfl
theorem stt_empty_eq (n:Nat) (s:TSeries):stt_empty (n+1) s =
 obind (series_Same n s ([],((0:Int),(((0:Int),((0:Int),[])),(([],([],[])),((0:Int),((0:Int),(((0:Int),((0:Int),((0:Int),false))),(((0:Int),((0:Int),((0:Int),false))),(((0:Int),(0:Int)),((0:Int),((0:Int),(0:Int))))))))))))) fun r0 =>
 some r0:=by kernel_rfl
theorem series_Check_eq (n:Nat) (c:TConfig) (s:TSeries):series_Check (n+1) c s =
 obind (series_open n c s) fun r0 =>
 oelim (r0.1) (
 some r0.2) fun r1 =>
 some r0.2:=by kernel_rfl
theorem stt_view_mark_eq (n:Nat) (v:TState):stt_view_mark (n+1) v =
 tif ((decide (v.1.2.1.1=0))) (
 none) (
 some (IntKind.wrap .i64 (v.2.1-(Int.tmod v.2.1 v.1.2.1.1)))):=by kernel_rfl
theorem stt_view_twin_eq (n:Nat) (v:TState) (i:Int):stt_view_twin (n+1) v i =
 obind (stt_view_place n v (fun y0=>stt_view_twin_1 n y0.1 i v)) fun r1 =>
 tif ((decide (r1<i))) (
 obind (stt_view_lives n v i) fun r2 =>
 some r2) (
 some false):=by kernel_rfl
theorem sl_DeleteFunc_int_eq (n:Nat) (s:(List Int)) (del:((Int×Unit)→Option Bool)):sl_DeleteFunc_int (n+1) s del =
 obind (sl_IndexFunc_int n s del) fun r0 =>
 tif ((decide (r0=((-1):Int)))) (
 some s) (
 obind (sl_DeleteFunc_int_l5 n loopFuel (s,(del,(r0,((IntKind.wrap .i64 (r0+1)),()))))) fun r1 =>
 selim (fun y2 =>
 tif ((decide ((0:Int)≤y2.2.1))) (
 tif ((decide ((Int.toNat y2.2.1)≤(List.length y2.1)))) (
 tif ((decide (((Int.toNat y2.2.1)+((List.length y2.1)-(Int.toNat y2.2.1)))≤(List.length y2.1)))) (
 tif (((decide ((0:Int)≤y2.2.1))&&(decide (y2.2.1≤(((List.length (Go.Flat.putRow y2.1 (Int.toNat y2.2.1) (List.replicate ((List.length y2.1)-(Int.toNat y2.2.1)) (0:Int)))):Nat):Int))))) (
 some (List.take ((Int.toNat y2.2.1)-0) (Go.Flat.putRow y2.1 (Int.toNat y2.2.1) (List.replicate ((List.length y2.1)-(Int.toNat y2.2.1)) (0:Int))))) (
 none)) (
 none)) (
 none)) (
 none)) (fun z3 =>
 some z3) r1):=by kernel_rfl
theorem sl_DeleteFunc_int_l5_eq (n f:Nat) (s:(List Int)) (del:((Int×Unit)→Option Bool)) (i:Int) (j:Int):sl_DeleteFunc_int_l5 n (f+1) (s,del,i,j,()) =
 tif ((decide (j<(((List.length s):Nat):Int)))) (
 obind (at? s j) fun r0 =>
 obind ((s)[(Int.toNat j)]?) fun r1 =>
 obind (del (r1,())) fun r2 =>
 tif ((!r2)) (
 obind (at? s i) fun r3 =>
 obind ((s)[(Int.toNat i)]?) fun r4 =>
 sl_DeleteFunc_int_l5 n f ((List.set s (Int.toNat i) r1),(del,((IntKind.wrap .i64 (i+1)),((IntKind.wrap .i64 (j+1)),()))))) (
 sl_DeleteFunc_int_l5 n f (s,(del,(i,((IntKind.wrap .i64 (j+1)),())))))) (
 some (.inl (s,(i,())))):=by kernel_rfl
theorem sweep_Due_1_eq (n:Nat) (i:Int) (p1:TState):sweep_Due_1 (n+1) i p1 =
 obind (at? p1.2.2.2 i) fun r0 =>
 obind (series_Dead n p1.1 r0.2.1 p1.2.1) fun r1 =>
 some (!r1):=by kernel_rfl
theorem wi_Of_eq (n:Nat) (t:Int) (w:Int):wi_Of (n+1) t w =
 obind (wi_in_int64 n t (0:Int) (35184372088831:Int)) fun r0 =>
 tif ((!r0)) (
 some ((0:Int),(1:Int))) (
 obind (wi_width n w) fun r1 =>
 tif ((!r1)) (
 some ((0:Int),(1:Int))) (
 tif ((decide (w=0))) (
 none) (
 some ((IntKind.wrap .i64 (Int.tdiv t w)),(0:Int))))):=by kernel_rfl
theorem wi_in_int_eq (n:Nat) (n_:Int) (low:Int) (high:Int):wi_in_int (n+1) n_ low high =
 tif ((decide (low≤n_))) (
 some (decide (n_≤high))) (
 some false):=by kernel_rfl
theorem sl_Clone_Slot_eq (n:Nat) (s:(List TSlot)):sl_Clone_Slot (n+1) s =
 tif ((decide ((List.length s)=0))) (
 both (
 some []) (
 tif ((decide (((0+(List.length s))*120)≤140737488355328))) (
 some ([]++s)) (
 none))) (
 tif ((decide (((0+(List.length s))*120)≤140737488355328))) (
 some ([]++s)) (
 none)):=by kernel_rfl
theorem label_Check_eq (n:Nat) (l:(List (List UInt8×List UInt8))):label_Check (n+1) l =
 tif ((decide ((((List.length l):Nat):Int)=0))) (
 some (8:Int)) (
 tif ((decide ((16:Int)<(((List.length l):Nat):Int)))) (
 some (8:Int)) (
 obind (label_Check_l5 n loopFuel (l,((256:Int),(l,((((List.length l):Nat):Int),((0:Int),())))))) fun r0 =>
 selim (fun y1 =>
 some (0:Int)) (fun z2 =>
 some z2) r0)):=by kernel_rfl
theorem label_Check_l5_eq (n f:Nat) (l:(List (List UInt8×List UInt8))) (left:Int) (s14:(List (List UInt8×List UInt8))) (s15:Int) (s16:Int):label_Check_l5 n (f+1) (l,left,s14,s15,s16,()) =
 tif ((decide (s16<s15))) (
 obind (at? s14 s16) fun r0 =>
 obind (label_name n r0.1) fun r1 =>
 tif ((!r1)) (
 some (.inr (8:Int))) (
 tif ((decide ((128:Int)<(((List.length r0.2):Nat):Int)))) (
 some (.inr (8:Int))) (
 tif ((decide ((IntKind.wrap .i64 (left-(IntKind.wrap .i64 ((((List.length r0.1):Nat):Int)+(((List.length r0.2):Nat):Int)))))<0))) (
 some (.inr (8:Int))) (
 tif ((decide ((0:Int)<s16))) (
 obind (at? l (IntKind.wrap .i64 (s16-1))) fun r2 =>
 tif ((!(Go.Op.bytesLess r2.1 r0.1))) (
 some (.inr (8:Int))) (
 label_Check_l5 n f (l,((IntKind.wrap .i64 (left-(IntKind.wrap .i64 ((((List.length r0.1):Nat):Int)+(((List.length r0.2):Nat):Int))))),(s14,(s15,((IntKind.wrap .i64 (s16+1)),()))))))) (
 label_Check_l5 n f (l,((IntKind.wrap .i64 (left-(IntKind.wrap .i64 ((((List.length r0.1):Nat):Int)+(((List.length r0.2):Nat):Int))))),(s14,(s15,((IntKind.wrap .i64 (s16+1)),())))))))))) (
 some (.inl ())):=by kernel_rfl
theorem r05_name_eq (n:Nat) (s:List UInt8):r05_name (n+1) s =
 tif ((decide ((((List.length s):Nat):Int)<1))) (
 some false) (
 tif ((decide ((64:Int)<(((List.length s):Nat):Int)))) (
 some false) (
 obind (at? s (0:Int)) fun r0 =>
 tif ((decide ((48:Int)≤(((UInt8.toNat r0):Nat):Int)))) (
 obind (at? s (0:Int)) fun r1 =>
 tif ((decide ((((UInt8.toNat r1):Nat):Int)≤57))) (
 some false) (
 obind (r05_name_l4 n loopFuel (s,((0:Int),()))) fun r2 =>
 selim (fun y3 =>
 some true) (fun z4 =>
 some z4) r2)) (
 obind (r05_name_l4 n loopFuel (s,((0:Int),()))) fun r5 =>
 selim (fun y6 =>
 some true) (fun z7 =>
 some z7) r5))):=by kernel_rfl
theorem r05_name_l4_eq (n f:Nat) (s:List UInt8) (i:Int):r05_name_l4 n (f+1) (s,i,()) =
 tif ((decide (i<(((List.length s):Nat):Int)))) (
 obind (at? s i) fun r0 =>
 tif ((decide ((97:Int)≤(((UInt8.toNat r0):Nat):Int)))) (
 tif ((decide ((((UInt8.toNat r0):Nat):Int)≤122))) (
 r05_name_l4 n f (s,((IntKind.wrap .i64 (i+1)),()))) (
 tif ((decide ((65:Int)≤(((UInt8.toNat r0):Nat):Int)))) (
 tif ((decide ((((UInt8.toNat r0):Nat):Int)≤90))) (
 r05_name_l4 n f (s,((IntKind.wrap .i64 (i+1)),()))) (
 tif ((decide ((48:Int)≤(((UInt8.toNat r0):Nat):Int)))) (
 tif ((decide ((((UInt8.toNat r0):Nat):Int)≤57))) (
 r05_name_l4 n f (s,((IntKind.wrap .i64 (i+1)),()))) (
 tif ((!(decide ((((UInt8.toNat r0):Nat):Int)=95)))) (
 some (.inr false)) (
 r05_name_l4 n f (s,((IntKind.wrap .i64 (i+1)),()))))) (
 tif ((!(decide ((((UInt8.toNat r0):Nat):Int)=95)))) (
 some (.inr false)) (
 r05_name_l4 n f (s,((IntKind.wrap .i64 (i+1)),())))))) (
 tif ((decide ((48:Int)≤(((UInt8.toNat r0):Nat):Int)))) (
 tif ((decide ((((UInt8.toNat r0):Nat):Int)≤57))) (
 r05_name_l4 n f (s,((IntKind.wrap .i64 (i+1)),()))) (
 tif ((!(decide ((((UInt8.toNat r0):Nat):Int)=95)))) (
 some (.inr false)) (
 r05_name_l4 n f (s,((IntKind.wrap .i64 (i+1)),()))))) (
 tif ((!(decide ((((UInt8.toNat r0):Nat):Int)=95)))) (
 some (.inr false)) (
 r05_name_l4 n f (s,((IntKind.wrap .i64 (i+1)),()))))))) (
 tif ((decide ((65:Int)≤(((UInt8.toNat r0):Nat):Int)))) (
 tif ((decide ((((UInt8.toNat r0):Nat):Int)≤90))) (
 r05_name_l4 n f (s,((IntKind.wrap .i64 (i+1)),()))) (
 tif ((decide ((48:Int)≤(((UInt8.toNat r0):Nat):Int)))) (
 tif ((decide ((((UInt8.toNat r0):Nat):Int)≤57))) (
 r05_name_l4 n f (s,((IntKind.wrap .i64 (i+1)),()))) (
 tif ((!(decide ((((UInt8.toNat r0):Nat):Int)=95)))) (
 some (.inr false)) (
 r05_name_l4 n f (s,((IntKind.wrap .i64 (i+1)),()))))) (
 tif ((!(decide ((((UInt8.toNat r0):Nat):Int)=95)))) (
 some (.inr false)) (
 r05_name_l4 n f (s,((IntKind.wrap .i64 (i+1)),())))))) (
 tif ((decide ((48:Int)≤(((UInt8.toNat r0):Nat):Int)))) (
 tif ((decide ((((UInt8.toNat r0):Nat):Int)≤57))) (
 r05_name_l4 n f (s,((IntKind.wrap .i64 (i+1)),()))) (
 tif ((!(decide ((((UInt8.toNat r0):Nat):Int)=95)))) (
 some (.inr false)) (
 r05_name_l4 n f (s,((IntKind.wrap .i64 (i+1)),()))))) (
 tif ((!(decide ((((UInt8.toNat r0):Nat):Int)=95)))) (
 some (.inr false)) (
 r05_name_l4 n f (s,((IntKind.wrap .i64 (i+1)),()))))))) (
 some (.inl ())):=by kernel_rfl
theorem r09_width_eq (n:Nat) (w:Int):r09_width (n+1) w =
 tif ((decide ((1:Int)≤w))) (
 some (decide (w≤1099511627776))) (
 some false):=by kernel_rfl
theorem wi_Gone_eq (n:Nat) (t:Int) (now:Int) (w:Int) (n_:Int):wi_Gone (n+1) t now w n_ =
 obind (wi_Of n t w) fun r0 =>
 obind (wi_Oldest n now w n_) fun r1 =>
 tif ((decide (r0.2=0))) (
 tif ((decide (r1.2=0))) (
 some (decide (r0.1<r1.1))) (
 some false)) (
 some false):=by kernel_rfl
theorem stt_Find_1_eq (n:Nat) (i:Int) (p1:TState) (p2:(List (List UInt8×List UInt8))) (p3:TState):stt_Find_1 (n+1) i p1 p2 p3 =
 obind (at? p1.2.2.2 i) fun r0 =>
 obind (label_Same n r0.1 p2) fun r1 =>
 tif (r1) (
 obind (stt_view_lives n p3 i) fun r2 =>
 some r2) (
 some false):=by kernel_rfl
theorem label_Same_eq (n:Nat) (a:(List (List UInt8×List UInt8))) (b:(List (List UInt8×List UInt8))):label_Same (n+1) a b =
 obind (sl_Equal_Label n a b) fun r0 =>
 some r0:=by kernel_rfl
theorem r09_Gone_eq (n:Nat) (t:Int) (now:Int) (w:Int) (n_:Int):r09_Gone (n+1) t now w n_ =
 obind (r09_Of n t w) fun r0 =>
 obind (r09_Oldest n now w n_) fun r1 =>
 tif ((decide (r0.2=0))) (
 tif ((decide (r1.2=0))) (
 some (decide (r0.1<r1.1))) (
 some false)) (
 some false):=by kernel_rfl
theorem r01_Times_eq (n:Nat) (a:(Int×Int)) (n_:Int):r01_Times (n+1) a n_ =
 obind (r01_Times_l4 n loopFuel (n_,(a,(((0:Int),(0:Int)),(((0:Int),(0:Int)),(false,())))))) fun r0 =>
 selim (fun y1 =>
 some (y1.2.1,(0:Int))) (fun z2 =>
 some z2) r0:=by kernel_rfl
theorem r01_Times_l4_eq (n f:Nat) (n_:Int) (a_:(Int×Int)) (s4:(Int×Int)) (out:(Int×Int)) (over:Bool):r01_Times_l4 n (f+1) (n_,a_,s4,out,over,()) =
 tif ((decide ((0:Int)<n_))) (
 tif ((decide ((Int.tmod n_ (2:Int))=1))) (
 tif (over) (
 some (.inr (((0:Int),(0:Int)),(1:Int)))) (
 obind (r01_Add n out a_) fun r0 =>
 tif ((!(decide (r0.2=0)))) (
 some (.inr (((0:Int),(0:Int)),r0.2))) (
 obind (r01_Add n a_ a_) fun r1 =>
 tif (over) (
 r01_Times_l4 n f ((IntKind.wrap .u64 (Int.tdiv n_ (2:Int))),(r1.1,(s4,(r0.1,(true,())))))) (
 r01_Times_l4 n f ((IntKind.wrap .u64 (Int.tdiv n_ (2:Int))),(r1.1,(s4,(r0.1,((!(decide (r1.2=0))),()))))))))) (
 obind (r01_Add n a_ a_) fun r2 =>
 tif (over) (
 r01_Times_l4 n f ((IntKind.wrap .u64 (Int.tdiv n_ (2:Int))),(r2.1,(s4,(out,(true,())))))) (
 r01_Times_l4 n f ((IntKind.wrap .u64 (Int.tdiv n_ (2:Int))),(r2.1,(s4,(out,((!(decide (r2.2=0))),())))))))) (
 some (.inl (s4,(out,())))):=by kernel_rfl
theorem event_Follow_eq (n:Nat) (p:TEvent) (c:TEvent):event_Follow (n+1) p c =
 obind (event_right n (p::(c::[]))) fun r0 =>
 tif (r0) (
 some (decide (p.1<c.1))) (
 some false):=by kernel_rfl
theorem math_bits_Mul64_eq (n:Nat) (x:Int) (y:Int):math_bits_Mul64 (n+1) x y =
 some ((IntKind.wrap .u64 ((IntKind.wrap .u64 ((IntKind.wrap .u64 ((shrI .u64 x (32:Int))*(shrI .u64 y (32:Int))))+(shrI .u64 (IntKind.wrap .u64 ((IntKind.wrap .u64 ((shrI .u64 x (32:Int))*(andI .u64 y (4294967295:Int))))+(shrI .u64 (IntKind.wrap .u64 ((andI .u64 x (4294967295:Int))*(andI .u64 y (4294967295:Int)))) (32:Int)))) (32:Int))))+(shrI .u64 (IntKind.wrap .u64 ((andI .u64 (IntKind.wrap .u64 ((IntKind.wrap .u64 ((shrI .u64 x (32:Int))*(andI .u64 y (4294967295:Int))))+(shrI .u64 (IntKind.wrap .u64 ((andI .u64 x (4294967295:Int))*(andI .u64 y (4294967295:Int)))) (32:Int)))) (4294967295:Int))+(IntKind.wrap .u64 ((andI .u64 x (4294967295:Int))*(shrI .u64 y (32:Int)))))) (32:Int)))),(IntKind.wrap .u64 (x*y))):=by kernel_rfl
theorem wide_sure_eq (n:Nat) (a:(Int×Int)) (over:Int):wide_sure (n+1) a over =
 tif ((!(decide (over=0)))) (
 some (((0:Int),(0:Int)),(1:Int))) (
 some (a,(0:Int))):=by kernel_rfl
theorem series_open_eq (n:Nat) (c:TConfig) (s:TSeries):series_open (n+1) c s =
 obind (fold_Check n c s.2.2.2.1) fun r0 =>
 tif ((!(decide (r0=0)))) (
 some (none,(2:Int))) (
 obind (label_Check n s.1) fun r1 =>
 tif ((!(decide (r1=0)))) (
 some (none,(2:Int))) (
 obind (raw_Check n s.2.2.1 c.1) fun r2 =>
 tif ((!(decide (r2=0)))) (
 some (none,(2:Int))) (
 tif ((decide (s.2.1=((-1):Int)))) (
 obind (srk_fresh n (c,s)) fun r3 =>
 tif (r3) (
 some ((some (c,s)),(0:Int))) (
 tif ((!(decide (s.2.1=((-1):Int))))) (
 obind (srk_ends n (c,s)) fun r4 =>
 tif (r4) (
 some ((some (c,s)),(0:Int))) (
 some (none,(2:Int)))) (
 some (none,(2:Int))))) (
 tif ((!(decide (s.2.1=((-1):Int))))) (
 obind (srk_ends n (c,s)) fun r5 =>
 tif (r5) (
 some ((some (c,s)),(0:Int))) (
 some (none,(2:Int)))) (
 some (none,(2:Int))))))):=by kernel_rfl
theorem sl_DeleteFunc_Slot_eq (n:Nat) (s:(List TSlot)) (del:((TSlot×Unit)→Option Bool)):sl_DeleteFunc_Slot (n+1) s del =
 obind (sl_IndexFunc_Slot n s del) fun r0 =>
 tif ((decide (r0=((-1):Int)))) (
 some s) (
 obind (sl_DeleteFunc_Slot_l5 n loopFuel (s,(del,(r0,((IntKind.wrap .i64 (r0+1)),()))))) fun r1 =>
 selim (fun y2 =>
 tif ((decide ((0:Int)≤y2.2.1))) (
 tif ((decide ((Int.toNat y2.2.1)≤(List.length y2.1)))) (
 tif ((decide (((Int.toNat y2.2.1)+((List.length y2.1)-(Int.toNat y2.2.1)))≤(List.length y2.1)))) (
 tif (((decide ((0:Int)≤y2.2.1))&&(decide (y2.2.1≤(((List.length (Go.Flat.putRow y2.1 (Int.toNat y2.2.1) (List.replicate ((List.length y2.1)-(Int.toNat y2.2.1)) ((0:Int),((0:Int),(((0:Int),((0:Int),((0:Int),false))),(((0:Int),((0:Int),((0:Int),false))),(((0:Int),(0:Int)),((0:Int),((0:Int),(0:Int))))))))))):Nat):Int))))) (
 some (List.take ((Int.toNat y2.2.1)-0) (Go.Flat.putRow y2.1 (Int.toNat y2.2.1) (List.replicate ((List.length y2.1)-(Int.toNat y2.2.1)) ((0:Int),((0:Int),(((0:Int),((0:Int),((0:Int),false))),(((0:Int),((0:Int),((0:Int),false))),(((0:Int),(0:Int)),((0:Int),((0:Int),(0:Int)))))))))))) (
 none)) (
 none)) (
 none)) (
 none)) (fun z3 =>
 some z3) r1):=by kernel_rfl
theorem sl_DeleteFunc_Slot_l5_eq (n f:Nat) (s:(List TSlot)) (del:((TSlot×Unit)→Option Bool)) (i:Int) (j:Int):sl_DeleteFunc_Slot_l5 n (f+1) (s,del,i,j,()) =
 tif ((decide (j<(((List.length s):Nat):Int)))) (
 obind (at? s j) fun r0 =>
 obind ((s)[(Int.toNat j)]?) fun r1 =>
 obind (del (r1,())) fun r2 =>
 tif ((!r2)) (
 obind (at? s i) fun r3 =>
 obind ((s)[(Int.toNat i)]?) fun r4 =>
 sl_DeleteFunc_Slot_l5 n f ((List.set s (Int.toNat i) r1),(del,((IntKind.wrap .i64 (i+1)),((IntKind.wrap .i64 (j+1)),()))))) (
 sl_DeleteFunc_Slot_l5 n f (s,(del,(i,((IntKind.wrap .i64 (j+1)),())))))) (
 some (.inl (s,(i,())))):=by kernel_rfl
theorem tier_none_eq (n:Nat) (s:TSlot):tier_none (n+1) s =
 some ((decide (s.1=0))&&((decide (s.2.1=0))&&((decide (s.2.2.1.1=0))&&((decide (s.2.2.1.2.1=0))&&((decide (s.2.2.1.2.2.1=0))&&((s.2.2.1.2.2.2==false)&&((decide (s.2.2.2.1.1=0))&&((decide (s.2.2.2.1.2.1=0))&&((decide (s.2.2.2.1.2.2.1=0))&&((s.2.2.2.1.2.2.2==false)&&((decide (s.2.2.2.2.1.1=0))&&((decide (s.2.2.2.2.1.2=0))&&((decide (s.2.2.2.2.2.1=0))&&((decide (s.2.2.2.2.2.2.1=0))&&(decide (s.2.2.2.2.2.2.2=0)))))))))))))))):=by kernel_rfl
theorem sl_SortStableFunc_Slot_eq (n:Nat) (x:(List TSlot)) (cmp:((TSlot×(TSlot×Unit))→Option Int)):sl_SortStableFunc_Slot (n+1) x cmp =
 obind (sl_stab n x (((List.length x):Nat):Int) cmp) fun r0 =>
 some r0:=by kernel_rfl
theorem tier_All_1_eq (n:Nat) (a:TSlot) (b:TSlot):tier_All_1 (n+1) a b =
 obind (cmp_Compare_int64 n a.1 b.1) fun r0 =>
 some r0:=by kernel_rfl
theorem cmp_Compare_int64_eq (n:Nat) (x:Int) (y:Int):cmp_Compare_int64 (n+1) x y =
 obind (cmp_isNaN_int64 n x) fun r0 =>
 obind (cmp_isNaN_int64 n y) fun r1 =>
 tif (r0) (
 tif (r1) (
 some (0:Int)) (
 some ((-1):Int))) (
 tif (r1) (
 some (1:Int)) (
 tif ((decide (x<y))) (
 some ((-1):Int)) (
 tif ((decide (y<x))) (
 some (1:Int)) (
 some (0:Int))))):=by kernel_rfl
theorem r12_Same_eq (n:Nat) (a:(Int×(Int×(List TEvent)))) (b:(Int×(Int×(List TEvent)))):r12_Same (n+1) a b =
 tif ((decide (a.1=b.1))) (
 tif ((decide (a.2.1=b.2.1))) (
 obind (r12_SameList n a.2.2 b.2.2) fun r0 =>
 some r0) (
 some false)) (
 some false):=by kernel_rfl
theorem r14_Same_eq (n:Nat) (a:((List TSlot)×((List TSlot)×(List TSlot)))) (b:((List TSlot)×((List TSlot)×(List TSlot)))):r14_Same (n+1) a b =
 obind (r13_Same n a.1 b.1) fun r0 =>
 tif ((!r0)) (
 some false) (
 obind (r13_Same n a.2.1 b.2.1) fun r1 =>
 tif ((!r1)) (
 some false) (
 obind (r13_Same n a.2.2 b.2.2) fun r2 =>
 tif ((!r2)) (
 some false) (
 some true))):=by kernel_rfl
theorem r10_place_eq (n:Nat) (c:TConfig):r10_place (n+1) c =
 obind (r10_parts n c.1 (16:Int)) fun r0 =>
 obind (r10_parts n c.2.2.1.1 (4:Int)) fun r1 =>
 obind (r10_parts n c.2.2.1.2.1 (4:Int)) fun r2 =>
 obind (r10_parts n c.2.2.1.2.2 (4:Int)) fun r3 =>
 some (IntKind.wrap .i64 ((IntKind.wrap .i64 ((IntKind.wrap .i64 ((IntKind.wrap .i64 ((1:Int)+r0))+r1))+r2))+r3)):=by kernel_rfl
theorem strconv_AppendInt__eq (n:Nat) (dst:(List Int)) (i:Int) (base:Int):strconv_AppendInt_ (n+1) dst i base =
 tif ((decide (i<0))) (
 tif ((decide ((((List.length dst)+1)*1)≤140737488355328))) (
 obind (strconv_AppendUint_ n (dst++((45:Int)::[])) (IntKind.wrap .u64 ((0:Int)-(IntKind.wrap .u64 i))) base) fun r0 =>
 some r0) (
 none)) (
 obind (strconv_AppendUint_ n dst (IntKind.wrap .u64 i) base) fun r1 =>
 some r1):=by kernel_rfl
theorem r01_Div_eq (n:Nat) (a:(Int×Int)) (n_:Int):r01_Div (n+1) a n_ =
 tif ((decide (n_=0))) (
 some (((0:Int),(0:Int)),((0:Int),(1:Int)))) (
 obind (r01_Bytes n a) fun r0 =>
 tif ((decide (16=((((((((((((((((1+1)+1)+1)+1)+1)+1)+1)+1)+1)+1)+1)+1)+1)+1)+1) / 1)))) (
 obind (r01_Div_l8 n loopFuel (((0:Int),(0:Int)),((List.replicate 16 (0:Int)),(((0:Int),(0:Int)),((r0.1::(r0.2.1::(r0.2.2.1::(r0.2.2.2.1::(r0.2.2.2.2.1::(r0.2.2.2.2.2.1::(r0.2.2.2.2.2.2.1::(r0.2.2.2.2.2.2.2.1::(r0.2.2.2.2.2.2.2.2.1::(r0.2.2.2.2.2.2.2.2.2.1::(r0.2.2.2.2.2.2.2.2.2.2.1::(r0.2.2.2.2.2.2.2.2.2.2.2.1::(r0.2.2.2.2.2.2.2.2.2.2.2.2.1::(r0.2.2.2.2.2.2.2.2.2.2.2.2.2.1::(r0.2.2.2.2.2.2.2.2.2.2.2.2.2.2.1::(r0.2.2.2.2.2.2.2.2.2.2.2.2.2.2.2::[])))))))))))))))),(((0:Int),n_),((127:Int),()))))))) fun r1 =>
 selim (fun y2 =>
 obind ((y2.2.1)[0]?) fun r3 =>
 obind ((y2.2.1)[1]?) fun r4 =>
 obind ((y2.2.1)[2]?) fun r5 =>
 obind ((y2.2.1)[3]?) fun r6 =>
 obind ((y2.2.1)[4]?) fun r7 =>
 obind ((y2.2.1)[5]?) fun r8 =>
 obind ((y2.2.1)[6]?) fun r9 =>
 obind ((y2.2.1)[7]?) fun r10 =>
 obind ((y2.2.1)[8]?) fun r11 =>
 obind ((y2.2.1)[9]?) fun r12 =>
 obind ((y2.2.1)[10]?) fun r13 =>
 obind ((y2.2.1)[11]?) fun r14 =>
 obind ((y2.2.1)[12]?) fun r15 =>
 obind ((y2.2.1)[13]?) fun r16 =>
 obind ((y2.2.1)[14]?) fun r17 =>
 obind ((y2.2.1)[15]?) fun r18 =>
 obind (r01_Of n (r3,(r4,(r5,(r6,(r7,(r8,(r9,(r10,(r11,(r12,(r13,(r14,(r15,(r16,(r17,r18)))))))))))))))) fun r19 =>
 some (r19,(y2.2.2.1.2,(0:Int)))) (fun z20 =>
 some z20) r1) (
 none)):=by kernel_rfl
theorem r01_Div_l8_eq (n f:Nat) (s4:(Int×Int)) (out:(List Int)) (left:(Int×Int)) (x:(List Int)) (d:(Int×Int)) (i:Int):r01_Div_l8 n (f+1) (s4,out,left,x,d,i,()) =
 tif ((decide ((0:Int)≤i))) (
 obind (r01_Add n left left) fun r0 =>
 tif (((decide ((0:Int)≤(IntKind.wrap .i64 (Int.tdiv i (8:Int)))))&&((decide ((IntKind.wrap .i64 (Int.tdiv i (8:Int)))<16))&&(decide ((IntKind.wrap .i64 (Int.tdiv i (8:Int)))<(((List.length x):Nat):Int)))))) (
 obind ((x)[(Int.toNat (IntKind.wrap .i64 (Int.tdiv i (8:Int))))]?) fun r1 =>
 tif ((decide ((Int.tmod i (8:Int))<0))) (
 none) (
 obind (r01_Add n r0.1 ((0:Int),(IntKind.wrap .u64 (andI .i64 (shrI .i64 r1 (Int.tmod i (8:Int))) (1:Int))))) fun r2 =>
 obind (r01_Less n r2.1 d) fun r3 =>
 tif ((!r3)) (
 obind (r01_Sub n r2.1 d) fun r4 =>
 tif (((decide ((0:Int)≤(IntKind.wrap .i64 (Int.tdiv i (8:Int)))))&&((decide ((IntKind.wrap .i64 (Int.tdiv i (8:Int)))<16))&&(decide ((IntKind.wrap .i64 (Int.tdiv i (8:Int)))<(((List.length out):Nat):Int)))))) (
 obind ((out)[(Int.toNat (IntKind.wrap .i64 (Int.tdiv i (8:Int))))]?) fun r5 =>
 tif ((decide ((Int.tmod i (8:Int))<0))) (
 none) (
 tif (((decide ((0:Int)≤(IntKind.wrap .i64 (Int.tdiv i (8:Int)))))&&((decide ((IntKind.wrap .i64 (Int.tdiv i (8:Int)))<16))&&(decide ((IntKind.wrap .i64 (Int.tdiv i (8:Int)))<(((List.length out):Nat):Int)))))) (
 obind ((out)[(Int.toNat (IntKind.wrap .i64 (Int.tdiv i (8:Int))))]?) fun r6 =>
 r01_Div_l8 n f (s4,((List.set out (Int.toNat (IntKind.wrap .i64 (Int.tdiv i (8:Int)))) (orI .i64 r5 (shlI .i64 (1:Int) (Int.tmod i (8:Int))))),(r4.1,(x,(d,((IntKind.wrap .i64 (i-1)),()))))))) (
 none))) (
 none)) (
 r01_Div_l8 n f (s4,(out,(r2.1,(x,(d,((IntKind.wrap .i64 (i-1)),()))))))))) (
 none)) (
 some (.inl (s4,(out,(left,()))))):=by kernel_rfl
theorem r07_Check_eq (n:Nat) (e:TEvent):r07_Check (n+1) e =
 tif ((decide (e.1<0))) (
 some (2:Int)) (
 tif ((decide ((35184372088832:Int)≤e.1))) (
 some (2:Int)) (
 tif ((decide (e.2.2.1<0))) (
 some (2:Int)) (
 tif ((decide (e.1<e.2.2.1))) (
 some (2:Int)) (
 tif (e.2.2.2) (
 tif ((!(decide (e.2.1=0)))) (
 some (2:Int)) (
 tif ((!(decide (e.2.2.1=0)))) (
 some (2:Int)) (
 some (0:Int)))) (
 some (0:Int)))))):=by kernel_rfl
theorem r13_Check_eq (n:Nat) (l:(List TSlot)) (w:Int):r13_Check (n+1) l w =
 tif ((decide ((((List.length l):Nat):Int)<1))) (
 some (2:Int)) (
 tif ((decide ((4096:Int)<(((List.length l):Nat):Int)))) (
 some (2:Int)) (
 tif ((decide (w<1))) (
 some (2:Int)) (
 tif ((decide ((1099511627776:Int)<w))) (
 some (2:Int)) (
 obind (r13_Check_l4 n loopFuel (l,(w,(l,((((List.length l):Nat):Int),((0:Int),())))))) fun r0 =>
 selim (fun y1 =>
 some (0:Int)) (fun z2 =>
 some z2) r0)))):=by kernel_rfl
theorem r13_Check_l4_eq (n f:Nat) (l:(List TSlot)) (w:Int) (s23:(List TSlot)) (s24:Int) (s25:Int):r13_Check_l4 n (f+1) (l,w,s23,s24,s25,()) =
 tif ((decide (s25<s24))) (
 obind (at? s23 s25) fun r0 =>
 tif (((decide (r0.1=0))&&((decide (r0.2.1=0))&&((decide (r0.2.2.1.1=0))&&((decide (r0.2.2.1.2.1=0))&&((decide (r0.2.2.1.2.2.1=0))&&((r0.2.2.1.2.2.2==false)&&((decide (r0.2.2.2.1.1=0))&&((decide (r0.2.2.2.1.2.1=0))&&((decide (r0.2.2.2.1.2.2.1=0))&&((r0.2.2.2.1.2.2.2==false)&&((decide (r0.2.2.2.2.1.1=0))&&((decide (r0.2.2.2.2.1.2=0))&&((decide (r0.2.2.2.2.2.1=0))&&((decide (r0.2.2.2.2.2.2.1=0))&&(decide (r0.2.2.2.2.2.2.2=0))))))))))))))))) (
 r13_Check_l4 n f (l,(w,(s23,(s24,((IntKind.wrap .i64 (s25+1)),())))))) (
 obind (r13_Fits n r0.2 w r0.1) fun r1 =>
 tif ((!r1)) (
 some (.inr (2:Int))) (
 obind (r09_Slot n r0.1 (((List.length l):Nat):Int)) fun r2 =>
 tif ((!(decide (r2=s25)))) (
 some (.inr (2:Int))) (
 r13_Check_l4 n f (l,(w,(s23,(s24,((IntKind.wrap .i64 (s25+1)),()))))))))) (
 some (.inl ())):=by kernel_rfl
theorem r08_Check_eq (n:Nat) (c:TCell):r08_Check (n+1) c =
 tif (((decide (c.1=0))&&((decide (c.2.1.1=0))&&((decide (c.2.1.2.1=0))&&((decide (c.2.1.2.2.1=0))&&((c.2.1.2.2.2==false)&&((decide (c.2.2.1.1=0))&&((decide (c.2.2.1.2.1=0))&&((decide (c.2.2.1.2.2.1=0))&&((c.2.2.1.2.2.2==false)&&((decide (c.2.2.2.1.1=0))&&((decide (c.2.2.2.1.2=0))&&((decide (c.2.2.2.2.1=0))&&((decide (c.2.2.2.2.2.1=0))&&(decide (c.2.2.2.2.2.2=0)))))))))))))))) (
 some (0:Int)) (
 tif ((decide (c.1<1))) (
 some (2:Int)) (
 obind (r07_Check n c.2.1) fun r0 =>
 tif ((!(decide (r0=0)))) (
 some (2:Int)) (
 obind (r07_Check n c.2.2.1) fun r1 =>
 tif ((!(decide (r1=0)))) (
 some (2:Int)) (
 tif ((decide (c.2.2.1.1<c.2.1.1))) (
 some (2:Int)) (
 tif ((decide ((IntKind.wrap .i64 ((IntKind.wrap .i64 (c.2.2.1.1-c.2.1.1))+1))<c.1))) (
 some (2:Int)) (
 tif ((decide (c.1=1))) (
 tif ((!((decide (c.2.1.1=c.2.2.1.1))&&((decide (c.2.1.2.1=c.2.2.1.2.1))&&((decide (c.2.1.2.2.1=c.2.2.1.2.2.1))&&(c.2.1.2.2.2==c.2.2.1.2.2.2)))))) (
 some (2:Int)) (
 tif ((decide ((1:Int)<c.1))) (
 tif ((decide (c.2.1.1=c.2.2.1.1))) (
 some (2:Int)) (
 tif ((decide (c.2.2.2.2.1<0))) (
 some (2:Int)) (
 tif ((decide (c.2.2.2.2.2.1<0))) (
 some (2:Int)) (
 tif ((decide (c.2.2.2.2.2.2<0))) (
 some (2:Int)) (
 tif ((decide (c.1≤c.2.2.2.2.1))) (
 some (2:Int)) (
 tif ((decide (c.1≤c.2.2.2.2.2.1))) (
 some (2:Int)) (
 tif ((decide (c.1≤(IntKind.wrap .i64 (c.2.2.2.2.1+c.2.2.2.2.2.1))))) (
 some (2:Int)) (
 tif ((decide ((IntKind.wrap .i64 (c.2.2.1.1-c.2.1.1))<c.2.2.2.2.2.2))) (
 some (2:Int)) (
 obind (r01_Times n ((0:Int),(18446744073709551615:Int)) (IntKind.wrap .u64 (IntKind.wrap .i64 (c.1-1)))) fun r2 =>
 obind (r01_Less n r2.1 c.2.2.2.1) fun r3 =>
 tif (r3) (
 some (2:Int)) (
 some (0:Int))))))))))) (
 tif ((decide (c.2.2.2.2.1<0))) (
 some (2:Int)) (
 tif ((decide (c.2.2.2.2.2.1<0))) (
 some (2:Int)) (
 tif ((decide (c.2.2.2.2.2.2<0))) (
 some (2:Int)) (
 tif ((decide (c.1≤c.2.2.2.2.1))) (
 some (2:Int)) (
 tif ((decide (c.1≤c.2.2.2.2.2.1))) (
 some (2:Int)) (
 tif ((decide (c.1≤(IntKind.wrap .i64 (c.2.2.2.2.1+c.2.2.2.2.2.1))))) (
 some (2:Int)) (
 tif ((decide ((IntKind.wrap .i64 (c.2.2.1.1-c.2.1.1))<c.2.2.2.2.2.2))) (
 some (2:Int)) (
 obind (r01_Times n ((0:Int),(18446744073709551615:Int)) (IntKind.wrap .u64 (IntKind.wrap .i64 (c.1-1)))) fun r4 =>
 obind (r01_Less n r4.1 c.2.2.2.1) fun r5 =>
 tif (r5) (
 some (2:Int)) (
 some (0:Int)))))))))))) (
 tif ((decide ((1:Int)<c.1))) (
 tif ((decide (c.2.1.1=c.2.2.1.1))) (
 some (2:Int)) (
 tif ((decide (c.2.2.2.2.1<0))) (
 some (2:Int)) (
 tif ((decide (c.2.2.2.2.2.1<0))) (
 some (2:Int)) (
 tif ((decide (c.2.2.2.2.2.2<0))) (
 some (2:Int)) (
 tif ((decide (c.1≤c.2.2.2.2.1))) (
 some (2:Int)) (
 tif ((decide (c.1≤c.2.2.2.2.2.1))) (
 some (2:Int)) (
 tif ((decide (c.1≤(IntKind.wrap .i64 (c.2.2.2.2.1+c.2.2.2.2.2.1))))) (
 some (2:Int)) (
 tif ((decide ((IntKind.wrap .i64 (c.2.2.1.1-c.2.1.1))<c.2.2.2.2.2.2))) (
 some (2:Int)) (
 obind (r01_Times n ((0:Int),(18446744073709551615:Int)) (IntKind.wrap .u64 (IntKind.wrap .i64 (c.1-1)))) fun r6 =>
 obind (r01_Less n r6.1 c.2.2.2.1) fun r7 =>
 tif (r7) (
 some (2:Int)) (
 some (0:Int))))))))))) (
 tif ((decide (c.2.2.2.2.1<0))) (
 some (2:Int)) (
 tif ((decide (c.2.2.2.2.2.1<0))) (
 some (2:Int)) (
 tif ((decide (c.2.2.2.2.2.2<0))) (
 some (2:Int)) (
 tif ((decide (c.1≤c.2.2.2.2.1))) (
 some (2:Int)) (
 tif ((decide (c.1≤c.2.2.2.2.2.1))) (
 some (2:Int)) (
 tif ((decide (c.1≤(IntKind.wrap .i64 (c.2.2.2.2.1+c.2.2.2.2.2.1))))) (
 some (2:Int)) (
 tif ((decide ((IntKind.wrap .i64 (c.2.2.1.1-c.2.1.1))<c.2.2.2.2.2.2))) (
 some (2:Int)) (
 obind (r01_Times n ((0:Int),(18446744073709551615:Int)) (IntKind.wrap .u64 (IntKind.wrap .i64 (c.1-1)))) fun r8 =>
 obind (r01_Less n r8.1 c.2.2.2.1) fun r9 =>
 tif (r9) (
 some (2:Int)) (
 some (0:Int))))))))))))))))):=by kernel_rfl
theorem r09_Of_eq (n:Nat) (t:Int) (w:Int):r09_Of (n+1) t w =
 tif ((decide (t<0))) (
 some ((0:Int),(1:Int))) (
 tif ((decide ((35184372088832:Int)≤t))) (
 some ((0:Int),(1:Int))) (
 obind (r09_width n w) fun r0 =>
 tif ((!r0)) (
 some ((0:Int),(1:Int))) (
 tif ((decide (w=0))) (
 none) (
 tif ((decide (w=0))) (
 none) (
 some ((IntKind.wrap .i64 (Int.tdiv (IntKind.wrap .i64 (t-(Int.tmod t w))) w)),(0:Int))))))):=by kernel_rfl
theorem conf_in_int_eq (n:Nat) (n_:Int) (low:Int) (high:Int):conf_in_int (n+1) n_ low high =
 tif ((decide (low≤n_))) (
 some (decide (n_≤high))) (
 some false):=by kernel_rfl
theorem conf_in_int64_eq (n:Nat) (n_:Int) (low:Int) (high:Int):conf_in_int64 (n+1) n_ low high =
 tif ((decide (low≤n_))) (
 some (decide (n_≤high))) (
 some false):=by kernel_rfl
theorem conf_place_eq (n:Nat) (c:TConfig):conf_place (n+1) c =
 obind (conf_parts n c.1 (16:Int)) fun r0 =>
 obind (conf_parts n c.2.2.1.1 (4:Int)) fun r1 =>
 obind (conf_parts n c.2.2.1.2.1 (4:Int)) fun r2 =>
 obind (conf_parts n c.2.2.1.2.2 (4:Int)) fun r3 =>
 some (IntKind.wrap .i64 ((IntKind.wrap .i64 ((IntKind.wrap .i64 ((IntKind.wrap .i64 ((1:Int)+r0))+r1))+r2))+r3)):=by kernel_rfl
theorem series_Same_eq (n:Nat) (a:TSeries) (b:TSeries):series_Same (n+1) a b =
 obind (label_Same n a.1 b.1) fun r0 =>
 tif (r0) (
 tif ((decide (a.2.1=b.2.1))) (
 obind (raw_Same n a.2.2.1 b.2.2.1) fun r1 =>
 tif (r1) (
 tif (((decide (a.2.2.2.2.1=b.2.2.2.2.1))&&((decide (a.2.2.2.2.2.1=b.2.2.2.2.2.1))&&((decide (a.2.2.2.2.2.2.1.1=b.2.2.2.2.2.2.1.1))&&((decide (a.2.2.2.2.2.2.1.2.1=b.2.2.2.2.2.2.1.2.1))&&((decide (a.2.2.2.2.2.2.1.2.2.1=b.2.2.2.2.2.2.1.2.2.1))&&((a.2.2.2.2.2.2.1.2.2.2==b.2.2.2.2.2.2.1.2.2.2)&&((decide (a.2.2.2.2.2.2.2.1.1=b.2.2.2.2.2.2.2.1.1))&&((decide (a.2.2.2.2.2.2.2.1.2.1=b.2.2.2.2.2.2.2.1.2.1))&&((decide (a.2.2.2.2.2.2.2.1.2.2.1=b.2.2.2.2.2.2.2.1.2.2.1))&&((a.2.2.2.2.2.2.2.1.2.2.2==b.2.2.2.2.2.2.2.1.2.2.2)&&((decide (a.2.2.2.2.2.2.2.2.1.1=b.2.2.2.2.2.2.2.2.1.1))&&((decide (a.2.2.2.2.2.2.2.2.1.2=b.2.2.2.2.2.2.2.2.1.2))&&((decide (a.2.2.2.2.2.2.2.2.2.1=b.2.2.2.2.2.2.2.2.2.1))&&((decide (a.2.2.2.2.2.2.2.2.2.2.1=b.2.2.2.2.2.2.2.2.2.2.1))&&(decide (a.2.2.2.2.2.2.2.2.2.2.2=b.2.2.2.2.2.2.2.2.2.2.2))))))))))))))))) (
 obind (sl_Equal_Slot n a.2.2.2.1.1 b.2.2.2.1.1) fun r2 =>
 tif (r2) (
 obind (sl_Equal_Slot n a.2.2.2.1.2.1 b.2.2.2.1.2.1) fun r3 =>
 tif (r3) (
 obind (sl_Equal_Slot n a.2.2.2.1.2.2 b.2.2.2.1.2.2) fun r4 =>
 some r4) (
 some false)) (
 some false)) (
 some false)) (
 some false)) (
 some false)) (
 some false):=by kernel_rfl
theorem stt_view_twin_1_eq (n:Nat) (k:Int) (p1:Int) (p2:TState):stt_view_twin_1 (n+1) k p1 p2 =
 tif ((decide (k=p1))) (
 some true) (
 obind (stt_view_lives n p2 k) fun r0 =>
 tif (r0) (
 obind (at? p2.2.2.2 k) fun r1 =>
 obind (at? p2.2.2.2 p1) fun r2 =>
 obind (label_Same n r1.1 r2.1) fun r3 =>
 some r3) (
 some false)):=by kernel_rfl
theorem sl_IndexFunc_int_eq (n:Nat) (s:(List Int)) (f_:((Int×Unit)→Option Bool)):sl_IndexFunc_int (n+1) s f_ =
 obind (sl_IndexFunc_int_l2 n loopFuel (s,(f_,((((List.length s):Nat):Int),((0:Int),()))))) fun r0 =>
 selim (fun y1 =>
 some ((-1):Int)) (fun z2 =>
 some z2) r0:=by kernel_rfl
theorem sl_IndexFunc_int_l2_eq (n f:Nat) (s:(List Int)) (f_:((Int×Unit)→Option Bool)) (s7:Int) (s8:Int):sl_IndexFunc_int_l2 n (f+1) (s,f_,s7,s8,()) =
 tif ((decide (s8<s7))) (
 obind (at? s s8) fun r0 =>
 obind (f_ (r0,())) fun r1 =>
 tif (r1) (
 some (.inr s8)) (
 sl_IndexFunc_int_l2 n f (s,(f_,(s7,((IntKind.wrap .i64 (s8+1)),())))))) (
 some (.inl ())):=by kernel_rfl
theorem wi_in_int64_eq (n:Nat) (n_:Int) (low:Int) (high:Int):wi_in_int64 (n+1) n_ low high =
 tif ((decide (low≤n_))) (
 some (decide (n_≤high))) (
 some false):=by kernel_rfl
theorem wi_width_eq (n:Nat) (w:Int):wi_width (n+1) w =
 obind (wi_in_int64 n w (1:Int) (1099511627776:Int)) fun r0 =>
 some r0:=by kernel_rfl
theorem label_name_eq (n:Nat) (s:List UInt8):label_name (n+1) s =
 tif ((s==[])) (
 some false) (
 tif ((decide ((64:Int)<(((List.length s):Nat):Int)))) (
 some false) (
 obind (at? s (0:Int)) fun r0 =>
 obind (label_digit n (((UInt8.toNat r0):Nat):Int)) fun r1 =>
 tif (r1) (
 some false) (
 obind (sl_ContainsFunc_byte n (List.map (fun y2=>(((UInt8.toNat y2):Nat):Int)) s) (fun y3=>label_name_1 n y3.1)) fun r4 =>
 some (!r4)))):=by kernel_rfl
theorem r09_Oldest_eq (n:Nat) (now:Int) (w:Int) (n_:Int):r09_Oldest (n+1) now w n_ =
 obind (r09_Of n now w) fun r0 =>
 tif ((!(decide (r0.2=0)))) (
 some ((0:Int),(1:Int))) (
 tif ((decide (n_<1))) (
 some ((0:Int),(1:Int))) (
 tif ((decide ((4096:Int)<n_))) (
 some ((0:Int),(1:Int))) (
 some ((if (IntKind.wrap .i64 ((IntKind.wrap .i64 (r0.1-n_))+1))<0 then (0:Int) else (IntKind.wrap .i64 ((IntKind.wrap .i64 (r0.1-n_))+1))),(0:Int))))):=by kernel_rfl
theorem sl_Equal_Label_eq (n:Nat) (s1:(List (List UInt8×List UInt8))) (s2:(List (List UInt8×List UInt8))):sl_Equal_Label (n+1) s1 s2 =
 tif ((!(decide ((((List.length s1):Nat):Int)=(((List.length s2):Nat):Int))))) (
 some false) (
 obind (sl_Equal_Label_l4 n loopFuel (s1,(s2,((((List.length s1):Nat):Int),((0:Int),()))))) fun r0 =>
 selim (fun y1 =>
 some true) (fun z2 =>
 some z2) r0):=by kernel_rfl
theorem sl_Equal_Label_l4_eq (n f:Nat) (s1:(List (List UInt8×List UInt8))) (s2:(List (List UInt8×List UInt8))) (s12:Int) (s13:Int):sl_Equal_Label_l4 n (f+1) (s1,s2,s12,s13,()) =
 tif ((decide (s13<s12))) (
 obind (at? s1 s13) fun r0 =>
 obind (at? s2 s13) fun r1 =>
 tif ((!((r0.1==r1.1)&&(r0.2==r1.2)))) (
 some (.inr false)) (
 sl_Equal_Label_l4 n f (s1,(s2,(s12,((IntKind.wrap .i64 (s13+1)),())))))) (
 some (.inl ())):=by kernel_rfl
theorem r01_Add_eq (n:Nat) (a:(Int×Int)) (b:(Int×Int)):r01_Add (n+1) a b =
 obind (r01_Bytes n a) fun r0 =>
 obind (r01_Bytes n b) fun r1 =>
 tif ((decide ((0:Int)<(IntKind.wrap .i64 (Int.tdiv (IntKind.wrap .i64 ((IntKind.wrap .i64 (r0.2.2.2.2.2.2.2.2.2.2.2.2.2.2.2+r1.2.2.2.2.2.2.2.2.2.2.2.2.2.2.2))+(IntKind.wrap .i64 (Int.tdiv (IntKind.wrap .i64 ((IntKind.wrap .i64 (r0.2.2.2.2.2.2.2.2.2.2.2.2.2.2.1+r1.2.2.2.2.2.2.2.2.2.2.2.2.2.2.1))+(IntKind.wrap .i64 (Int.tdiv (IntKind.wrap .i64 ((IntKind.wrap .i64 (r0.2.2.2.2.2.2.2.2.2.2.2.2.2.1+r1.2.2.2.2.2.2.2.2.2.2.2.2.2.1))+(IntKind.wrap .i64 (Int.tdiv (IntKind.wrap .i64 ((IntKind.wrap .i64 (r0.2.2.2.2.2.2.2.2.2.2.2.2.1+r1.2.2.2.2.2.2.2.2.2.2.2.2.1))+(IntKind.wrap .i64 (Int.tdiv (IntKind.wrap .i64 ((IntKind.wrap .i64 (r0.2.2.2.2.2.2.2.2.2.2.2.1+r1.2.2.2.2.2.2.2.2.2.2.2.1))+(IntKind.wrap .i64 (Int.tdiv (IntKind.wrap .i64 ((IntKind.wrap .i64 (r0.2.2.2.2.2.2.2.2.2.2.1+r1.2.2.2.2.2.2.2.2.2.2.1))+(IntKind.wrap .i64 (Int.tdiv (IntKind.wrap .i64 ((IntKind.wrap .i64 (r0.2.2.2.2.2.2.2.2.2.1+r1.2.2.2.2.2.2.2.2.2.1))+(IntKind.wrap .i64 (Int.tdiv (IntKind.wrap .i64 ((IntKind.wrap .i64 (r0.2.2.2.2.2.2.2.2.1+r1.2.2.2.2.2.2.2.2.1))+(IntKind.wrap .i64 (Int.tdiv (IntKind.wrap .i64 ((IntKind.wrap .i64 (r0.2.2.2.2.2.2.2.1+r1.2.2.2.2.2.2.2.1))+(IntKind.wrap .i64 (Int.tdiv (IntKind.wrap .i64 ((IntKind.wrap .i64 (r0.2.2.2.2.2.2.1+r1.2.2.2.2.2.2.1))+(IntKind.wrap .i64 (Int.tdiv (IntKind.wrap .i64 ((IntKind.wrap .i64 (r0.2.2.2.2.2.1+r1.2.2.2.2.2.1))+(IntKind.wrap .i64 (Int.tdiv (IntKind.wrap .i64 ((IntKind.wrap .i64 (r0.2.2.2.2.1+r1.2.2.2.2.1))+(IntKind.wrap .i64 (Int.tdiv (IntKind.wrap .i64 ((IntKind.wrap .i64 (r0.2.2.2.1+r1.2.2.2.1))+(IntKind.wrap .i64 (Int.tdiv (IntKind.wrap .i64 ((IntKind.wrap .i64 (r0.2.2.1+r1.2.2.1))+(IntKind.wrap .i64 (Int.tdiv (IntKind.wrap .i64 ((IntKind.wrap .i64 (r0.2.1+r1.2.1))+(IntKind.wrap .i64 (Int.tdiv (IntKind.wrap .i64 ((IntKind.wrap .i64 (r0.1+r1.1))+0)) (256:Int))))) (256:Int))))) (256:Int))))) (256:Int))))) (256:Int))))) (256:Int))))) (256:Int))))) (256:Int))))) (256:Int))))) (256:Int))))) (256:Int))))) (256:Int))))) (256:Int))))) (256:Int))))) (256:Int))))) (256:Int)))))) (
 some (((0:Int),(0:Int)),(1:Int))) (
 obind (r01_Of n ((Int.tmod (IntKind.wrap .i64 ((IntKind.wrap .i64 (r0.1+r1.1))+0)) (256:Int)),((Int.tmod (IntKind.wrap .i64 ((IntKind.wrap .i64 (r0.2.1+r1.2.1))+(IntKind.wrap .i64 (Int.tdiv (IntKind.wrap .i64 ((IntKind.wrap .i64 (r0.1+r1.1))+0)) (256:Int))))) (256:Int)),((Int.tmod (IntKind.wrap .i64 ((IntKind.wrap .i64 (r0.2.2.1+r1.2.2.1))+(IntKind.wrap .i64 (Int.tdiv (IntKind.wrap .i64 ((IntKind.wrap .i64 (r0.2.1+r1.2.1))+(IntKind.wrap .i64 (Int.tdiv (IntKind.wrap .i64 ((IntKind.wrap .i64 (r0.1+r1.1))+0)) (256:Int))))) (256:Int))))) (256:Int)),((Int.tmod (IntKind.wrap .i64 ((IntKind.wrap .i64 (r0.2.2.2.1+r1.2.2.2.1))+(IntKind.wrap .i64 (Int.tdiv (IntKind.wrap .i64 ((IntKind.wrap .i64 (r0.2.2.1+r1.2.2.1))+(IntKind.wrap .i64 (Int.tdiv (IntKind.wrap .i64 ((IntKind.wrap .i64 (r0.2.1+r1.2.1))+(IntKind.wrap .i64 (Int.tdiv (IntKind.wrap .i64 ((IntKind.wrap .i64 (r0.1+r1.1))+0)) (256:Int))))) (256:Int))))) (256:Int))))) (256:Int)),((Int.tmod (IntKind.wrap .i64 ((IntKind.wrap .i64 (r0.2.2.2.2.1+r1.2.2.2.2.1))+(IntKind.wrap .i64 (Int.tdiv (IntKind.wrap .i64 ((IntKind.wrap .i64 (r0.2.2.2.1+r1.2.2.2.1))+(IntKind.wrap .i64 (Int.tdiv (IntKind.wrap .i64 ((IntKind.wrap .i64 (r0.2.2.1+r1.2.2.1))+(IntKind.wrap .i64 (Int.tdiv (IntKind.wrap .i64 ((IntKind.wrap .i64 (r0.2.1+r1.2.1))+(IntKind.wrap .i64 (Int.tdiv (IntKind.wrap .i64 ((IntKind.wrap .i64 (r0.1+r1.1))+0)) (256:Int))))) (256:Int))))) (256:Int))))) (256:Int))))) (256:Int)),((Int.tmod (IntKind.wrap .i64 ((IntKind.wrap .i64 (r0.2.2.2.2.2.1+r1.2.2.2.2.2.1))+(IntKind.wrap .i64 (Int.tdiv (IntKind.wrap .i64 ((IntKind.wrap .i64 (r0.2.2.2.2.1+r1.2.2.2.2.1))+(IntKind.wrap .i64 (Int.tdiv (IntKind.wrap .i64 ((IntKind.wrap .i64 (r0.2.2.2.1+r1.2.2.2.1))+(IntKind.wrap .i64 (Int.tdiv (IntKind.wrap .i64 ((IntKind.wrap .i64 (r0.2.2.1+r1.2.2.1))+(IntKind.wrap .i64 (Int.tdiv (IntKind.wrap .i64 ((IntKind.wrap .i64 (r0.2.1+r1.2.1))+(IntKind.wrap .i64 (Int.tdiv (IntKind.wrap .i64 ((IntKind.wrap .i64 (r0.1+r1.1))+0)) (256:Int))))) (256:Int))))) (256:Int))))) (256:Int))))) (256:Int))))) (256:Int)),((Int.tmod (IntKind.wrap .i64 ((IntKind.wrap .i64 (r0.2.2.2.2.2.2.1+r1.2.2.2.2.2.2.1))+(IntKind.wrap .i64 (Int.tdiv (IntKind.wrap .i64 ((IntKind.wrap .i64 (r0.2.2.2.2.2.1+r1.2.2.2.2.2.1))+(IntKind.wrap .i64 (Int.tdiv (IntKind.wrap .i64 ((IntKind.wrap .i64 (r0.2.2.2.2.1+r1.2.2.2.2.1))+(IntKind.wrap .i64 (Int.tdiv (IntKind.wrap .i64 ((IntKind.wrap .i64 (r0.2.2.2.1+r1.2.2.2.1))+(IntKind.wrap .i64 (Int.tdiv (IntKind.wrap .i64 ((IntKind.wrap .i64 (r0.2.2.1+r1.2.2.1))+(IntKind.wrap .i64 (Int.tdiv (IntKind.wrap .i64 ((IntKind.wrap .i64 (r0.2.1+r1.2.1))+(IntKind.wrap .i64 (Int.tdiv (IntKind.wrap .i64 ((IntKind.wrap .i64 (r0.1+r1.1))+0)) (256:Int))))) (256:Int))))) (256:Int))))) (256:Int))))) (256:Int))))) (256:Int))))) (256:Int)),((Int.tmod (IntKind.wrap .i64 ((IntKind.wrap .i64 (r0.2.2.2.2.2.2.2.1+r1.2.2.2.2.2.2.2.1))+(IntKind.wrap .i64 (Int.tdiv (IntKind.wrap .i64 ((IntKind.wrap .i64 (r0.2.2.2.2.2.2.1+r1.2.2.2.2.2.2.1))+(IntKind.wrap .i64 (Int.tdiv (IntKind.wrap .i64 ((IntKind.wrap .i64 (r0.2.2.2.2.2.1+r1.2.2.2.2.2.1))+(IntKind.wrap .i64 (Int.tdiv (IntKind.wrap .i64 ((IntKind.wrap .i64 (r0.2.2.2.2.1+r1.2.2.2.2.1))+(IntKind.wrap .i64 (Int.tdiv (IntKind.wrap .i64 ((IntKind.wrap .i64 (r0.2.2.2.1+r1.2.2.2.1))+(IntKind.wrap .i64 (Int.tdiv (IntKind.wrap .i64 ((IntKind.wrap .i64 (r0.2.2.1+r1.2.2.1))+(IntKind.wrap .i64 (Int.tdiv (IntKind.wrap .i64 ((IntKind.wrap .i64 (r0.2.1+r1.2.1))+(IntKind.wrap .i64 (Int.tdiv (IntKind.wrap .i64 ((IntKind.wrap .i64 (r0.1+r1.1))+0)) (256:Int))))) (256:Int))))) (256:Int))))) (256:Int))))) (256:Int))))) (256:Int))))) (256:Int))))) (256:Int)),((Int.tmod (IntKind.wrap .i64 ((IntKind.wrap .i64 (r0.2.2.2.2.2.2.2.2.1+r1.2.2.2.2.2.2.2.2.1))+(IntKind.wrap .i64 (Int.tdiv (IntKind.wrap .i64 ((IntKind.wrap .i64 (r0.2.2.2.2.2.2.2.1+r1.2.2.2.2.2.2.2.1))+(IntKind.wrap .i64 (Int.tdiv (IntKind.wrap .i64 ((IntKind.wrap .i64 (r0.2.2.2.2.2.2.1+r1.2.2.2.2.2.2.1))+(IntKind.wrap .i64 (Int.tdiv (IntKind.wrap .i64 ((IntKind.wrap .i64 (r0.2.2.2.2.2.1+r1.2.2.2.2.2.1))+(IntKind.wrap .i64 (Int.tdiv (IntKind.wrap .i64 ((IntKind.wrap .i64 (r0.2.2.2.2.1+r1.2.2.2.2.1))+(IntKind.wrap .i64 (Int.tdiv (IntKind.wrap .i64 ((IntKind.wrap .i64 (r0.2.2.2.1+r1.2.2.2.1))+(IntKind.wrap .i64 (Int.tdiv (IntKind.wrap .i64 ((IntKind.wrap .i64 (r0.2.2.1+r1.2.2.1))+(IntKind.wrap .i64 (Int.tdiv (IntKind.wrap .i64 ((IntKind.wrap .i64 (r0.2.1+r1.2.1))+(IntKind.wrap .i64 (Int.tdiv (IntKind.wrap .i64 ((IntKind.wrap .i64 (r0.1+r1.1))+0)) (256:Int))))) (256:Int))))) (256:Int))))) (256:Int))))) (256:Int))))) (256:Int))))) (256:Int))))) (256:Int))))) (256:Int)),((Int.tmod (IntKind.wrap .i64 ((IntKind.wrap .i64 (r0.2.2.2.2.2.2.2.2.2.1+r1.2.2.2.2.2.2.2.2.2.1))+(IntKind.wrap .i64 (Int.tdiv (IntKind.wrap .i64 ((IntKind.wrap .i64 (r0.2.2.2.2.2.2.2.2.1+r1.2.2.2.2.2.2.2.2.1))+(IntKind.wrap .i64 (Int.tdiv (IntKind.wrap .i64 ((IntKind.wrap .i64 (r0.2.2.2.2.2.2.2.1+r1.2.2.2.2.2.2.2.1))+(IntKind.wrap .i64 (Int.tdiv (IntKind.wrap .i64 ((IntKind.wrap .i64 (r0.2.2.2.2.2.2.1+r1.2.2.2.2.2.2.1))+(IntKind.wrap .i64 (Int.tdiv (IntKind.wrap .i64 ((IntKind.wrap .i64 (r0.2.2.2.2.2.1+r1.2.2.2.2.2.1))+(IntKind.wrap .i64 (Int.tdiv (IntKind.wrap .i64 ((IntKind.wrap .i64 (r0.2.2.2.2.1+r1.2.2.2.2.1))+(IntKind.wrap .i64 (Int.tdiv (IntKind.wrap .i64 ((IntKind.wrap .i64 (r0.2.2.2.1+r1.2.2.2.1))+(IntKind.wrap .i64 (Int.tdiv (IntKind.wrap .i64 ((IntKind.wrap .i64 (r0.2.2.1+r1.2.2.1))+(IntKind.wrap .i64 (Int.tdiv (IntKind.wrap .i64 ((IntKind.wrap .i64 (r0.2.1+r1.2.1))+(IntKind.wrap .i64 (Int.tdiv (IntKind.wrap .i64 ((IntKind.wrap .i64 (r0.1+r1.1))+0)) (256:Int))))) (256:Int))))) (256:Int))))) (256:Int))))) (256:Int))))) (256:Int))))) (256:Int))))) (256:Int))))) (256:Int))))) (256:Int)),((Int.tmod (IntKind.wrap .i64 ((IntKind.wrap .i64 (r0.2.2.2.2.2.2.2.2.2.2.1+r1.2.2.2.2.2.2.2.2.2.2.1))+(IntKind.wrap .i64 (Int.tdiv (IntKind.wrap .i64 ((IntKind.wrap .i64 (r0.2.2.2.2.2.2.2.2.2.1+r1.2.2.2.2.2.2.2.2.2.1))+(IntKind.wrap .i64 (Int.tdiv (IntKind.wrap .i64 ((IntKind.wrap .i64 (r0.2.2.2.2.2.2.2.2.1+r1.2.2.2.2.2.2.2.2.1))+(IntKind.wrap .i64 (Int.tdiv (IntKind.wrap .i64 ((IntKind.wrap .i64 (r0.2.2.2.2.2.2.2.1+r1.2.2.2.2.2.2.2.1))+(IntKind.wrap .i64 (Int.tdiv (IntKind.wrap .i64 ((IntKind.wrap .i64 (r0.2.2.2.2.2.2.1+r1.2.2.2.2.2.2.1))+(IntKind.wrap .i64 (Int.tdiv (IntKind.wrap .i64 ((IntKind.wrap .i64 (r0.2.2.2.2.2.1+r1.2.2.2.2.2.1))+(IntKind.wrap .i64 (Int.tdiv (IntKind.wrap .i64 ((IntKind.wrap .i64 (r0.2.2.2.2.1+r1.2.2.2.2.1))+(IntKind.wrap .i64 (Int.tdiv (IntKind.wrap .i64 ((IntKind.wrap .i64 (r0.2.2.2.1+r1.2.2.2.1))+(IntKind.wrap .i64 (Int.tdiv (IntKind.wrap .i64 ((IntKind.wrap .i64 (r0.2.2.1+r1.2.2.1))+(IntKind.wrap .i64 (Int.tdiv (IntKind.wrap .i64 ((IntKind.wrap .i64 (r0.2.1+r1.2.1))+(IntKind.wrap .i64 (Int.tdiv (IntKind.wrap .i64 ((IntKind.wrap .i64 (r0.1+r1.1))+0)) (256:Int))))) (256:Int))))) (256:Int))))) (256:Int))))) (256:Int))))) (256:Int))))) (256:Int))))) (256:Int))))) (256:Int))))) (256:Int))))) (256:Int)),((Int.tmod (IntKind.wrap .i64 ((IntKind.wrap .i64 (r0.2.2.2.2.2.2.2.2.2.2.2.1+r1.2.2.2.2.2.2.2.2.2.2.2.1))+(IntKind.wrap .i64 (Int.tdiv (IntKind.wrap .i64 ((IntKind.wrap .i64 (r0.2.2.2.2.2.2.2.2.2.2.1+r1.2.2.2.2.2.2.2.2.2.2.1))+(IntKind.wrap .i64 (Int.tdiv (IntKind.wrap .i64 ((IntKind.wrap .i64 (r0.2.2.2.2.2.2.2.2.2.1+r1.2.2.2.2.2.2.2.2.2.1))+(IntKind.wrap .i64 (Int.tdiv (IntKind.wrap .i64 ((IntKind.wrap .i64 (r0.2.2.2.2.2.2.2.2.1+r1.2.2.2.2.2.2.2.2.1))+(IntKind.wrap .i64 (Int.tdiv (IntKind.wrap .i64 ((IntKind.wrap .i64 (r0.2.2.2.2.2.2.2.1+r1.2.2.2.2.2.2.2.1))+(IntKind.wrap .i64 (Int.tdiv (IntKind.wrap .i64 ((IntKind.wrap .i64 (r0.2.2.2.2.2.2.1+r1.2.2.2.2.2.2.1))+(IntKind.wrap .i64 (Int.tdiv (IntKind.wrap .i64 ((IntKind.wrap .i64 (r0.2.2.2.2.2.1+r1.2.2.2.2.2.1))+(IntKind.wrap .i64 (Int.tdiv (IntKind.wrap .i64 ((IntKind.wrap .i64 (r0.2.2.2.2.1+r1.2.2.2.2.1))+(IntKind.wrap .i64 (Int.tdiv (IntKind.wrap .i64 ((IntKind.wrap .i64 (r0.2.2.2.1+r1.2.2.2.1))+(IntKind.wrap .i64 (Int.tdiv (IntKind.wrap .i64 ((IntKind.wrap .i64 (r0.2.2.1+r1.2.2.1))+(IntKind.wrap .i64 (Int.tdiv (IntKind.wrap .i64 ((IntKind.wrap .i64 (r0.2.1+r1.2.1))+(IntKind.wrap .i64 (Int.tdiv (IntKind.wrap .i64 ((IntKind.wrap .i64 (r0.1+r1.1))+0)) (256:Int))))) (256:Int))))) (256:Int))))) (256:Int))))) (256:Int))))) (256:Int))))) (256:Int))))) (256:Int))))) (256:Int))))) (256:Int))))) (256:Int))))) (256:Int)),((Int.tmod (IntKind.wrap .i64 ((IntKind.wrap .i64 (r0.2.2.2.2.2.2.2.2.2.2.2.2.1+r1.2.2.2.2.2.2.2.2.2.2.2.2.1))+(IntKind.wrap .i64 (Int.tdiv (IntKind.wrap .i64 ((IntKind.wrap .i64 (r0.2.2.2.2.2.2.2.2.2.2.2.1+r1.2.2.2.2.2.2.2.2.2.2.2.1))+(IntKind.wrap .i64 (Int.tdiv (IntKind.wrap .i64 ((IntKind.wrap .i64 (r0.2.2.2.2.2.2.2.2.2.2.1+r1.2.2.2.2.2.2.2.2.2.2.1))+(IntKind.wrap .i64 (Int.tdiv (IntKind.wrap .i64 ((IntKind.wrap .i64 (r0.2.2.2.2.2.2.2.2.2.1+r1.2.2.2.2.2.2.2.2.2.1))+(IntKind.wrap .i64 (Int.tdiv (IntKind.wrap .i64 ((IntKind.wrap .i64 (r0.2.2.2.2.2.2.2.2.1+r1.2.2.2.2.2.2.2.2.1))+(IntKind.wrap .i64 (Int.tdiv (IntKind.wrap .i64 ((IntKind.wrap .i64 (r0.2.2.2.2.2.2.2.1+r1.2.2.2.2.2.2.2.1))+(IntKind.wrap .i64 (Int.tdiv (IntKind.wrap .i64 ((IntKind.wrap .i64 (r0.2.2.2.2.2.2.1+r1.2.2.2.2.2.2.1))+(IntKind.wrap .i64 (Int.tdiv (IntKind.wrap .i64 ((IntKind.wrap .i64 (r0.2.2.2.2.2.1+r1.2.2.2.2.2.1))+(IntKind.wrap .i64 (Int.tdiv (IntKind.wrap .i64 ((IntKind.wrap .i64 (r0.2.2.2.2.1+r1.2.2.2.2.1))+(IntKind.wrap .i64 (Int.tdiv (IntKind.wrap .i64 ((IntKind.wrap .i64 (r0.2.2.2.1+r1.2.2.2.1))+(IntKind.wrap .i64 (Int.tdiv (IntKind.wrap .i64 ((IntKind.wrap .i64 (r0.2.2.1+r1.2.2.1))+(IntKind.wrap .i64 (Int.tdiv (IntKind.wrap .i64 ((IntKind.wrap .i64 (r0.2.1+r1.2.1))+(IntKind.wrap .i64 (Int.tdiv (IntKind.wrap .i64 ((IntKind.wrap .i64 (r0.1+r1.1))+0)) (256:Int))))) (256:Int))))) (256:Int))))) (256:Int))))) (256:Int))))) (256:Int))))) (256:Int))))) (256:Int))))) (256:Int))))) (256:Int))))) (256:Int))))) (256:Int))))) (256:Int)),((Int.tmod (IntKind.wrap .i64 ((IntKind.wrap .i64 (r0.2.2.2.2.2.2.2.2.2.2.2.2.2.1+r1.2.2.2.2.2.2.2.2.2.2.2.2.2.1))+(IntKind.wrap .i64 (Int.tdiv (IntKind.wrap .i64 ((IntKind.wrap .i64 (r0.2.2.2.2.2.2.2.2.2.2.2.2.1+r1.2.2.2.2.2.2.2.2.2.2.2.2.1))+(IntKind.wrap .i64 (Int.tdiv (IntKind.wrap .i64 ((IntKind.wrap .i64 (r0.2.2.2.2.2.2.2.2.2.2.2.1+r1.2.2.2.2.2.2.2.2.2.2.2.1))+(IntKind.wrap .i64 (Int.tdiv (IntKind.wrap .i64 ((IntKind.wrap .i64 (r0.2.2.2.2.2.2.2.2.2.2.1+r1.2.2.2.2.2.2.2.2.2.2.1))+(IntKind.wrap .i64 (Int.tdiv (IntKind.wrap .i64 ((IntKind.wrap .i64 (r0.2.2.2.2.2.2.2.2.2.1+r1.2.2.2.2.2.2.2.2.2.1))+(IntKind.wrap .i64 (Int.tdiv (IntKind.wrap .i64 ((IntKind.wrap .i64 (r0.2.2.2.2.2.2.2.2.1+r1.2.2.2.2.2.2.2.2.1))+(IntKind.wrap .i64 (Int.tdiv (IntKind.wrap .i64 ((IntKind.wrap .i64 (r0.2.2.2.2.2.2.2.1+r1.2.2.2.2.2.2.2.1))+(IntKind.wrap .i64 (Int.tdiv (IntKind.wrap .i64 ((IntKind.wrap .i64 (r0.2.2.2.2.2.2.1+r1.2.2.2.2.2.2.1))+(IntKind.wrap .i64 (Int.tdiv (IntKind.wrap .i64 ((IntKind.wrap .i64 (r0.2.2.2.2.2.1+r1.2.2.2.2.2.1))+(IntKind.wrap .i64 (Int.tdiv (IntKind.wrap .i64 ((IntKind.wrap .i64 (r0.2.2.2.2.1+r1.2.2.2.2.1))+(IntKind.wrap .i64 (Int.tdiv (IntKind.wrap .i64 ((IntKind.wrap .i64 (r0.2.2.2.1+r1.2.2.2.1))+(IntKind.wrap .i64 (Int.tdiv (IntKind.wrap .i64 ((IntKind.wrap .i64 (r0.2.2.1+r1.2.2.1))+(IntKind.wrap .i64 (Int.tdiv (IntKind.wrap .i64 ((IntKind.wrap .i64 (r0.2.1+r1.2.1))+(IntKind.wrap .i64 (Int.tdiv (IntKind.wrap .i64 ((IntKind.wrap .i64 (r0.1+r1.1))+0)) (256:Int))))) (256:Int))))) (256:Int))))) (256:Int))))) (256:Int))))) (256:Int))))) (256:Int))))) (256:Int))))) (256:Int))))) (256:Int))))) (256:Int))))) (256:Int))))) (256:Int))))) (256:Int)),((Int.tmod (IntKind.wrap .i64 ((IntKind.wrap .i64 (r0.2.2.2.2.2.2.2.2.2.2.2.2.2.2.1+r1.2.2.2.2.2.2.2.2.2.2.2.2.2.2.1))+(IntKind.wrap .i64 (Int.tdiv (IntKind.wrap .i64 ((IntKind.wrap .i64 (r0.2.2.2.2.2.2.2.2.2.2.2.2.2.1+r1.2.2.2.2.2.2.2.2.2.2.2.2.2.1))+(IntKind.wrap .i64 (Int.tdiv (IntKind.wrap .i64 ((IntKind.wrap .i64 (r0.2.2.2.2.2.2.2.2.2.2.2.2.1+r1.2.2.2.2.2.2.2.2.2.2.2.2.1))+(IntKind.wrap .i64 (Int.tdiv (IntKind.wrap .i64 ((IntKind.wrap .i64 (r0.2.2.2.2.2.2.2.2.2.2.2.1+r1.2.2.2.2.2.2.2.2.2.2.2.1))+(IntKind.wrap .i64 (Int.tdiv (IntKind.wrap .i64 ((IntKind.wrap .i64 (r0.2.2.2.2.2.2.2.2.2.2.1+r1.2.2.2.2.2.2.2.2.2.2.1))+(IntKind.wrap .i64 (Int.tdiv (IntKind.wrap .i64 ((IntKind.wrap .i64 (r0.2.2.2.2.2.2.2.2.2.1+r1.2.2.2.2.2.2.2.2.2.1))+(IntKind.wrap .i64 (Int.tdiv (IntKind.wrap .i64 ((IntKind.wrap .i64 (r0.2.2.2.2.2.2.2.2.1+r1.2.2.2.2.2.2.2.2.1))+(IntKind.wrap .i64 (Int.tdiv (IntKind.wrap .i64 ((IntKind.wrap .i64 (r0.2.2.2.2.2.2.2.1+r1.2.2.2.2.2.2.2.1))+(IntKind.wrap .i64 (Int.tdiv (IntKind.wrap .i64 ((IntKind.wrap .i64 (r0.2.2.2.2.2.2.1+r1.2.2.2.2.2.2.1))+(IntKind.wrap .i64 (Int.tdiv (IntKind.wrap .i64 ((IntKind.wrap .i64 (r0.2.2.2.2.2.1+r1.2.2.2.2.2.1))+(IntKind.wrap .i64 (Int.tdiv (IntKind.wrap .i64 ((IntKind.wrap .i64 (r0.2.2.2.2.1+r1.2.2.2.2.1))+(IntKind.wrap .i64 (Int.tdiv (IntKind.wrap .i64 ((IntKind.wrap .i64 (r0.2.2.2.1+r1.2.2.2.1))+(IntKind.wrap .i64 (Int.tdiv (IntKind.wrap .i64 ((IntKind.wrap .i64 (r0.2.2.1+r1.2.2.1))+(IntKind.wrap .i64 (Int.tdiv (IntKind.wrap .i64 ((IntKind.wrap .i64 (r0.2.1+r1.2.1))+(IntKind.wrap .i64 (Int.tdiv (IntKind.wrap .i64 ((IntKind.wrap .i64 (r0.1+r1.1))+0)) (256:Int))))) (256:Int))))) (256:Int))))) (256:Int))))) (256:Int))))) (256:Int))))) (256:Int))))) (256:Int))))) (256:Int))))) (256:Int))))) (256:Int))))) (256:Int))))) (256:Int))))) (256:Int))))) (256:Int)),(Int.tmod (IntKind.wrap .i64 ((IntKind.wrap .i64 (r0.2.2.2.2.2.2.2.2.2.2.2.2.2.2.2+r1.2.2.2.2.2.2.2.2.2.2.2.2.2.2.2))+(IntKind.wrap .i64 (Int.tdiv (IntKind.wrap .i64 ((IntKind.wrap .i64 (r0.2.2.2.2.2.2.2.2.2.2.2.2.2.2.1+r1.2.2.2.2.2.2.2.2.2.2.2.2.2.2.1))+(IntKind.wrap .i64 (Int.tdiv (IntKind.wrap .i64 ((IntKind.wrap .i64 (r0.2.2.2.2.2.2.2.2.2.2.2.2.2.1+r1.2.2.2.2.2.2.2.2.2.2.2.2.2.1))+(IntKind.wrap .i64 (Int.tdiv (IntKind.wrap .i64 ((IntKind.wrap .i64 (r0.2.2.2.2.2.2.2.2.2.2.2.2.1+r1.2.2.2.2.2.2.2.2.2.2.2.2.1))+(IntKind.wrap .i64 (Int.tdiv (IntKind.wrap .i64 ((IntKind.wrap .i64 (r0.2.2.2.2.2.2.2.2.2.2.2.1+r1.2.2.2.2.2.2.2.2.2.2.2.1))+(IntKind.wrap .i64 (Int.tdiv (IntKind.wrap .i64 ((IntKind.wrap .i64 (r0.2.2.2.2.2.2.2.2.2.2.1+r1.2.2.2.2.2.2.2.2.2.2.1))+(IntKind.wrap .i64 (Int.tdiv (IntKind.wrap .i64 ((IntKind.wrap .i64 (r0.2.2.2.2.2.2.2.2.2.1+r1.2.2.2.2.2.2.2.2.2.1))+(IntKind.wrap .i64 (Int.tdiv (IntKind.wrap .i64 ((IntKind.wrap .i64 (r0.2.2.2.2.2.2.2.2.1+r1.2.2.2.2.2.2.2.2.1))+(IntKind.wrap .i64 (Int.tdiv (IntKind.wrap .i64 ((IntKind.wrap .i64 (r0.2.2.2.2.2.2.2.1+r1.2.2.2.2.2.2.2.1))+(IntKind.wrap .i64 (Int.tdiv (IntKind.wrap .i64 ((IntKind.wrap .i64 (r0.2.2.2.2.2.2.1+r1.2.2.2.2.2.2.1))+(IntKind.wrap .i64 (Int.tdiv (IntKind.wrap .i64 ((IntKind.wrap .i64 (r0.2.2.2.2.2.1+r1.2.2.2.2.2.1))+(IntKind.wrap .i64 (Int.tdiv (IntKind.wrap .i64 ((IntKind.wrap .i64 (r0.2.2.2.2.1+r1.2.2.2.2.1))+(IntKind.wrap .i64 (Int.tdiv (IntKind.wrap .i64 ((IntKind.wrap .i64 (r0.2.2.2.1+r1.2.2.2.1))+(IntKind.wrap .i64 (Int.tdiv (IntKind.wrap .i64 ((IntKind.wrap .i64 (r0.2.2.1+r1.2.2.1))+(IntKind.wrap .i64 (Int.tdiv (IntKind.wrap .i64 ((IntKind.wrap .i64 (r0.2.1+r1.2.1))+(IntKind.wrap .i64 (Int.tdiv (IntKind.wrap .i64 ((IntKind.wrap .i64 (r0.1+r1.1))+0)) (256:Int))))) (256:Int))))) (256:Int))))) (256:Int))))) (256:Int))))) (256:Int))))) (256:Int))))) (256:Int))))) (256:Int))))) (256:Int))))) (256:Int))))) (256:Int))))) (256:Int))))) (256:Int))))) (256:Int))))) (256:Int)))))))))))))))))) fun r2 =>
 some (r2,(0:Int))):=by kernel_rfl
theorem event_right_eq (n:Nat) (l:(List TEvent)):event_right (n+1) l =
 obind (event_right_l2 n loopFuel (l,((((List.length l):Nat):Int),((0:Int),())))) fun r0 =>
 selim (fun y1 =>
 some true) (fun z2 =>
 some z2) r0:=by kernel_rfl
theorem event_right_l2_eq (n f:Nat) (s5:(List TEvent)) (s6:Int) (s7:Int):event_right_l2 n (f+1) (s5,s6,s7,()) =
 tif ((decide (s7<s6))) (
 obind (at? s5 s7) fun r0 =>
 obind (event_Check n r0) fun r1 =>
 tif ((!(decide (r1=0)))) (
 some (.inr false)) (
 event_right_l2 n f (s5,(s6,((IntKind.wrap .i64 (s7+1)),()))))) (
 some (.inl ())):=by kernel_rfl
end Go.Proofs.YtjeabebacegikaaGreatDoor
