/- Trees, printed by program. -/
import Derived.Test.YtjeabebacegikaaGreatDoorTr0
import Derived.KernelRfl
set_option linter.unusedVariables false
namespace Go.Proofs.YtjeabebacegikaaGreatDoor
open Go.Flat
theorem l17_Small_eq (n:Nat) (s:TState):l17_Small (n+1) s =
 tif ((decide ((8:Int)<(((List.length s.2.2.2):Nat):Int)))) (
 some (0:Int)) (
 obind (l17_Small_l4 n loopFuel (s.2.2.2,((((List.length s.2.2.2):Nat):Int),((0:Int),())))) fun r0 =>
 selim (fun y1 =>
 some (1:Int)) (fun z2 =>
 some z2) r0):=by kernel_rfl
theorem l17_Small_l4_eq (n f:Nat) (s10:(List TSeries)) (s11:Int) (s12:Int):l17_Small_l4 n (f+1) (s10,s11,s12,()) =
 tif ((decide (s12<s11))) (
 obind (at? s10 s12) fun r0 =>
 obind (l15_Small n r0) fun r1 =>
 tif ((decide (r1=0))) (
 some (.inr (0:Int))) (
 l17_Small_l4 n f (s10,(s11,((IntKind.wrap .i64 (s12+1)),()))))) (
 some (.inl ())):=by kernel_rfl
theorem stt_Check_eq (n:Nat) (s:TState):stt_Check (n+1) s =
 obind (stt_open n s) fun r0 =>
 tif ((!(decide (r0.2=0)))) (
 some (2:Int)) (
 obind (stt_view_clock n r0.1) fun r1 =>
 tif ((!r1)) (
 some (2:Int)) (
 obind (stt_view_place n r0.1 (fun y2=>stt_Check_1 n y2.1 r0.1)) fun r3 =>
 tif ((decide ((0:Int)≤r3))) (
 some (2:Int)) (
 some (0:Int)))):=by kernel_rfl
theorem l05_Small_eq (n:Nat) (l:(List (List UInt8×List UInt8))):l05_Small (n+1) l =
 obind (l05_Small_l2 n loopFuel (l,((((List.length l):Nat):Int),((0:Int),())))) fun r0 =>
 selim (fun y1 =>
 some (1:Int)) (fun z2 =>
 some z2) r0:=by kernel_rfl
theorem l05_Small_l2_eq (n f:Nat) (s5:(List (List UInt8×List UInt8))) (s6:Int) (s7:Int):l05_Small_l2 n (f+1) (s5,s6,s7,()) =
 tif ((decide (s7<s6))) (
 obind (at? s5 s7) fun r0 =>
 tif ((decide (s7=40))) (
 some (.inr (0:Int))) (
 tif ((decide ((1000:Int)<(((List.length r0.1):Nat):Int)))) (
 some (.inr (0:Int))) (
 tif ((decide ((1000:Int)<(((List.length r0.2):Nat):Int)))) (
 some (.inr (0:Int))) (
 l05_Small_l2 n f (s5,(s6,((IntKind.wrap .i64 (s7+1)),()))))))) (
 some (.inl ())):=by kernel_rfl
theorem query_Do_eq (n:Nat) (s:TState) (a:TAsk):query_Do (n+1) s a =
 obind (query_may n s a.1) fun r0 =>
 tif ((!(decide (r0=0)))) (
 some (((0:Int),(((0:Int),(((0:Int),((0:Int),((0:Int),false))),(((0:Int),((0:Int),((0:Int),false))),(((0:Int),(0:Int)),((0:Int),((0:Int),(0:Int))))))),((((0:Int),(0:Int)),((0:Int),(0:Int))),(0:Int)))),r0)) (
 obind (query_Tier n s a.2.1 a.2.2.1 a.2.2.2) fun r1 =>
 tif ((!(decide (r1.2=0)))) (
 some (((0:Int),(((0:Int),(((0:Int),((0:Int),((0:Int),false))),(((0:Int),((0:Int),((0:Int),false))),(((0:Int),(0:Int)),((0:Int),((0:Int),(0:Int))))))),((((0:Int),(0:Int)),((0:Int),(0:Int))),(0:Int)))),r1.2)) (
 obind (query_of n s a (IntKind.wrap .i64 (r1.1-1))) fun r2 =>
 tif ((!(decide (r2.2=0)))) (
 some (((0:Int),(((0:Int),(((0:Int),((0:Int),((0:Int),false))),(((0:Int),((0:Int),((0:Int),false))),(((0:Int),(0:Int)),((0:Int),((0:Int),(0:Int))))))),((((0:Int),(0:Int)),((0:Int),(0:Int))),(0:Int)))),r2.2)) (
 obind (query_Rate n r2.1) fun r3 =>
 some ((r1.1,(r2.1,r3)),(0:Int))))):=by kernel_rfl
theorem query_Tier_eq (n:Nat) (s:TState) (tier:Int) (from_:Int) (to:Int):query_Tier (n+1) s tier from_ to =
 obind (stt_Check n s) fun r0 =>
 tif ((!(decide (r0=0)))) (
 some ((0:Int),r0)) (
 tif ((decide (tier<0))) (
 some ((0:Int),(1:Int))) (
 tif ((decide ((3:Int)<tier))) (
 some ((0:Int),(1:Int))) (
 tif ((decide (tier=0))) (
 obind (query_whichever n s from_ to) fun r1 =>
 some r1) (
 obind (query_one n s tier from_ to) fun r2 =>
 tif ((!(decide (r2=0)))) (
 some ((0:Int),r2)) (
 some (tier,(0:Int))))))):=by kernel_rfl
theorem query_Rate_eq (n:Nat) (c:TCell):query_Rate (n+1) c =
 tif ((decide (c.2.2.2.2.2.2<1))) (
 some ((((0:Int),(0:Int)),((0:Int),(0:Int))),(12:Int))) (
 obind (ratio_Rate n c.2.2.2.1 (IntKind.wrap .u64 c.2.2.2.2.2.2)) fun r0 =>
 some r0):=by kernel_rfl
theorem cell_Check_eq (n:Nat) (c:TCell):cell_Check (n+1) c =
 obind (cell_none n c) fun r0 =>
 tif (r0) (
 some (0:Int)) (
 obind (cell_spans n c) fun r1 =>
 tif ((!r1)) (
 some (2:Int)) (
 obind (wide_Of n (18446744073709551615:Int)) fun r2 =>
 obind (wide_Times n r2 (IntKind.wrap .u64 (IntKind.wrap .i64 (c.1-1)))) fun r3 =>
 tif ((!(decide (r3.2=0)))) (
 some (2:Int)) (
 obind (wide_Less n r3.1 c.2.2.2.1) fun r4 =>
 tif (r4) (
 some (2:Int)) (
 obind (cell_in n c.2.2.2.2.2.1 (IntKind.wrap .i64 (c.1-1))) fun r5 =>
 tif ((!r5)) (
 some (2:Int)) (
 obind (cell_in n c.2.2.2.2.1 (IntKind.wrap .i64 ((IntKind.wrap .i64 (c.1-1))-c.2.2.2.2.2.1))) fun r6 =>
 tif ((!r6)) (
 some (2:Int)) (
 obind (cell_in n c.2.2.2.2.2.2 (IntKind.wrap .i64 (c.2.2.1.1-c.2.1.1))) fun r7 =>
 tif ((!r7)) (
 some (2:Int)) (
 some (0:Int)))))))):=by kernel_rfl
theorem ratio_Rate_eq (n:Nat) (inc:(Int×Int)) (ms:Int):ratio_Rate (n+1) inc ms =
 tif ((decide (ms=0))) (
 some ((((0:Int),(0:Int)),((0:Int),(0:Int))),(12:Int))) (
 obind (wide_Times n inc (1000:Int)) fun r0 =>
 tif ((!(decide (r0.2=0)))) (
 some ((((0:Int),(0:Int)),((0:Int),(0:Int))),r0.2)) (
 obind (wide_Of n ms) fun r1 =>
 obind (ratio_Reduce n r0.1 r1) fun r2 =>
 some r2)):=by kernel_rfl
theorem cell_Merge_eq (n:Nat) (a:TCell) (b:TCell):cell_Merge (n+1) a b =
 obind (cell_Check n a) fun r0 =>
 tif ((!(decide (r0=0)))) (
 some (((0:Int),(((0:Int),((0:Int),((0:Int),false))),(((0:Int),((0:Int),((0:Int),false))),(((0:Int),(0:Int)),((0:Int),((0:Int),(0:Int))))))),(2:Int))) (
 obind (cell_Check n b) fun r1 =>
 tif ((!(decide (r1=0)))) (
 some (((0:Int),(((0:Int),((0:Int),((0:Int),false))),(((0:Int),((0:Int),((0:Int),false))),(((0:Int),(0:Int)),((0:Int),((0:Int),(0:Int))))))),(2:Int))) (
 obind (cell_none n a) fun r2 =>
 tif (r2) (
 some (b,(0:Int))) (
 obind (cell_none n b) fun r3 =>
 tif (r3) (
 some (a,(0:Int))) (
 obind (cell_join n a b) fun r4 =>
 some r4)))):=by kernel_rfl
theorem l15_Small_eq (n:Nat) (s:TSeries):l15_Small (n+1) s =
 obind (l05_Small n s.1) fun r0 =>
 tif ((decide (r0=0))) (
 some (0:Int)) (
 tif ((decide ((60:Int)<(((List.length s.2.2.1.2.2):Nat):Int)))) (
 some (0:Int)) (
 obind (l14_Small n s.2.2.2.1) fun r1 =>
 some r1)):=by kernel_rfl
theorem r05_Same_l4_eq (n f:Nat) (a:(List (List UInt8×List UInt8))) (b:(List (List UInt8×List UInt8))) (s12:Int) (s13:Int):r05_Same_l4 n (f+1) (a,b,s12,s13,()) =
 tif ((decide (s13<s12))) (
 obind (at? a s13) fun r0 =>
 obind (at? b s13) fun r1 =>
 tif ((!((r0.1==r1.1)&&(r0.2==r1.2)))) (
 some (.inr false)) (
 r05_Same_l4 n f (a,(b,(s12,((IntKind.wrap .i64 (s13+1)),())))))) (
 some (.inl ())):=by kernel_rfl
theorem stt_open_eq (n:Nat) (s:TState):stt_open (n+1) s =
 obind (conf_Check n s.1) fun r0 =>
 tif ((!(decide (r0=0)))) (
 some ((((0:Int),(((0:Int),((0:Int),(0:Int))),(((0:Int),((0:Int),(0:Int))),((0:Int),(0:Int))))),((0:Int),((0:Int),[]))),(2:Int))) (
 tif ((!(decide ((((List.length s.2.2.2):Nat):Int)=s.1.2.2.2.1)))) (
 some ((((0:Int),(((0:Int),((0:Int),(0:Int))),(((0:Int),((0:Int),(0:Int))),((0:Int),(0:Int))))),((0:Int),((0:Int),[]))),(2:Int))) (
 some (s,(0:Int)))):=by kernel_rfl
theorem stt_view_clock_eq (n:Nat) (v:TState):stt_view_clock (n+1) v =
 obind (stt_time n v.2.1) fun r0 =>
 tif (r0) (
 tif ((decide (v.2.2.1=((-1):Int)))) (
 some (decide (v.2.2.1≤v.2.1))) (
 obind (stt_time n v.2.2.1) fun r1 =>
 tif (r1) (
 some (decide (v.2.2.1≤v.2.1))) (
 some false))) (
 some false):=by kernel_rfl
theorem stt_view_place_eq (n:Nat) (v:TState) (is:((Int×Unit)→Option Bool)):stt_view_place (n+1) v is =
 obind (stt_view_place_l2 n loopFuel (is,((((List.length v.2.2.2):Nat):Int),((0:Int),())))) fun r0 =>
 selim (fun y1 =>
 some ((-1):Int)) (fun z2 =>
 some z2) r0:=by kernel_rfl
theorem stt_view_place_l2_eq (n f:Nat) (is:((Int×Unit)→Option Bool)) (s9:Int) (s10:Int):stt_view_place_l2 n (f+1) (is,s9,s10,()) =
 tif ((decide (s10<s9))) (
 obind (is (s10,())) fun r0 =>
 tif (r0) (
 some (.inr s10)) (
 stt_view_place_l2 n f (is,(s9,((IntKind.wrap .i64 (s10+1)),()))))) (
 some (.inl ())):=by kernel_rfl
theorem stt_Check_1_eq (n:Nat) (i:Int) (p1:TState):stt_Check_1 (n+1) i p1 =
 obind (stt_view_right n p1 i) fun r0 =>
 some (!r0):=by kernel_rfl
theorem stt_view_right_eq (n:Nat) (v:TState) (i:Int):stt_view_right (n+1) v i =
 obind (at? v.2.2.2 i) fun r0 =>
 obind (stt_empty n r0) fun r1 =>
 tif (r1) (
 some true) (
 obind (series_Check n v.1 r0) fun r2 =>
 tif ((decide (r2=0))) (
 tif ((decide ((0:Int)≤r0.2.1))) (
 obind (stt_view_mark n v) fun r3 =>
 tif ((decide (r0.2.1<(IntKind.wrap .i64 (r3+v.1.2.1.1))))) (
 obind (stt_view_twin n v i) fun r4 =>
 some (!r4)) (
 some false)) (
 some false)) (
 some false)):=by kernel_rfl
theorem wi_Oldest_eq (n:Nat) (now:Int) (w:Int) (n_:Int):wi_Oldest (n+1) now w n_ =
 obind (wi_Of n now w) fun r0 =>
 tif ((!(decide (r0.2=0)))) (
 some ((0:Int),(1:Int))) (
 obind (wi_in_int n n_ (1:Int) (4096:Int)) fun r1 =>
 tif ((!r1)) (
 some ((0:Int),(1:Int))) (
 some ((if (0:Int)<(IntKind.wrap .i64 ((IntKind.wrap .i64 (r0.1+1))-n_)) then (IntKind.wrap .i64 ((IntKind.wrap .i64 (r0.1+1))-n_)) else (0:Int)),(0:Int)))):=by kernel_rfl
end Go.Proofs.YtjeabebacegikaaGreatDoor
