/- Trees, printed by program. -/
import Derived.Test.YtefpnjjbopdplaaGreatDoorTr0
import Derived.KernelRfl
set_option linter.unusedVariables false
namespace Go.Proofs.YtefpnjjbopdplaaGreatDoor
open Go.Flat
theorem l17_Small_eq (n:Nat) (s:TState):l17_Small (n+1) s =
 tif ((decide ((8:Int)<(((List.length s.2.2.2):Nat):Int)))) (
 some (0:Int)) (
 obind (l17_Small_l4 n loopFuel (s.2.2.2,((((List.length s.2.2.2):Nat):Int),((0:Int),())))) fun r0 =>
 selim (fun y1 =>
 some (1:Int)) (fun z2 =>
 some z2) r0):=by kernel_rfl
theorem l17_Small_l4_eq (n f:Nat) (s10:(List TSeries)) (s11:Int) (s12:Int):l17_Small_l4 n (f+1) (s10,s11,s12,()) =
 tif ((decide (s12<s11))) (
 obind (at? s10 s12) fun r0 =>
 obind (l15_Small n r0) fun r1 =>
 tif ((decide (r1=0))) (
 some (.inr (0:Int))) (
 l17_Small_l4 n f (s10,(s11,((IntKind.wrap .i64 (s12+1)),()))))) (
 some (.inl ())):=by kernel_rfl
theorem l37_Small_eq (n:Nat) (ws:(List TWatch)):l37_Small (n+1) ws =
 tif ((decide ((12:Int)<(((List.length ws):Nat):Int)))) (
 tif ((decide ((((List.length ws):Nat):Int)≤256))) (
 some (0:Int)) (
 tif ((decide ((300:Int)<(((List.length ws):Nat):Int)))) (
 some (0:Int)) (
 obind (l37_Small_l4 n loopFuel (ws,((((List.length ws):Nat):Int),((0:Int),())))) fun r0 =>
 selim (fun y1 =>
 some (1:Int)) (fun z2 =>
 some z2) r0))) (
 tif ((decide ((300:Int)<(((List.length ws):Nat):Int)))) (
 some (0:Int)) (
 obind (l37_Small_l4 n loopFuel (ws,((((List.length ws):Nat):Int),((0:Int),())))) fun r3 =>
 selim (fun y4 =>
 some (1:Int)) (fun z5 =>
 some z5) r3)):=by kernel_rfl
theorem l37_Small_l4_eq (n f:Nat) (s18:(List TWatch)) (s19:Int) (s20:Int):l37_Small_l4 n (f+1) (s18,s19,s20,()) =
 tif ((decide (s20<s19))) (
 obind (at? s18 s20) fun r0 =>
 obind (l05_Small n r0.1.1) fun r1 =>
 tif ((decide (r1=0))) (
 some (.inr (0:Int))) (
 l37_Small_l4 n f (s18,(s19,((IntKind.wrap .i64 (s20+1)),()))))) (
 some (.inl ())):=by kernel_rfl
theorem watch_One_eq (n:Nat) (s:TState) (w:TWatch):watch_One (n+1) s w =
 obind (stt_Check n s) fun r0 =>
 tif ((!(decide (r0=0)))) (
 some (false,(2:Int))) (
 obind (ratio_Check n w.2) fun r1 =>
 tif ((!(decide (r1=0)))) (
 some (false,(2:Int))) (
 obind (query_Do n s w.1) fun r2 =>
 tif ((decide (r2.2=0))) (
 tif ((!(decide (r2.1.2.2.2=0)))) (
 some (false,r2.1.2.2.2)) (
 obind (ratio_Less n r2.1.2.2.1 w.2) fun r3 =>
 tif ((decide (r3.2=0))) (
 some ((!r3.1),r3.2)) (
 some (false,r3.2)))) (
 tif ((!(decide (r2.2=0)))) (
 some (false,r2.2)) (
 obind (ratio_Less n r2.1.2.2.1 w.2) fun r4 =>
 tif ((decide (r4.2=0))) (
 some ((!r4.1),r4.2)) (
 some (false,r4.2)))))):=by kernel_rfl
theorem watch_Rings_eq (n:Nat) (s:TState) (ws:(List TWatch)):watch_Rings (n+1) s ws =
 obind (watch_watches_may n ws (s::[])) fun r0 =>
 tif ((!(decide (r0=0)))) (
 some ([],r0)) (
 obind (watch_in n s) fun r1 =>
 obind (watch_watches_places n ws r1) fun r2 =>
 some (r2,(0:Int))):=by kernel_rfl
theorem watch_Turned_eq (n:Nat) (a:TState) (b:TState) (ws:(List TWatch)):watch_Turned (n+1) a b ws =
 obind (watch_watches_may n ws (a::(b::[]))) fun r0 =>
 tif ((!(decide (r0=0)))) (
 some ([],([],r0))) (
 obind (watch_in n a) fun r1 =>
 obind (watch_in n b) fun r2 =>
 obind (watch_watches_places n ws (fun y3=>watch_Turned_1 n y3.1 r2 r1)) fun r4 =>
 obind (watch_watches_places n ws (fun y5=>watch_Turned_2 n y5.1 r1 r2)) fun r6 =>
 some (r4,(r6,(0:Int)))):=by kernel_rfl
theorem r06_Same_eq (n:Nat) (a:(List Int)) (b:(List Int)):r06_Same (n+1) a b =
 tif ((!(decide ((((List.length a):Nat):Int)=(((List.length b):Nat):Int))))) (
 some false) (
 obind (r06_Same_l4 n loopFuel (a,(b,((((List.length a):Nat):Int),((0:Int),()))))) fun r0 =>
 selim (fun y1 =>
 some true) (fun z2 =>
 some z2) r0):=by kernel_rfl
theorem r06_Same_l4_eq (n f:Nat) (a:(List Int)) (b:(List Int)) (s12:Int) (s13:Int):r06_Same_l4 n (f+1) (a,b,s12,s13,()) =
 tif ((decide (s13<s12))) (
 obind (at? a s13) fun r0 =>
 obind (at? b s13) fun r1 =>
 tif ((!(decide (r0=r1)))) (
 some (.inr false)) (
 r06_Same_l4 n f (a,(b,(s12,((IntKind.wrap .i64 (s13+1)),())))))) (
 some (.inl ())):=by kernel_rfl
theorem l05_Small_eq (n:Nat) (l:(List (List UInt8×List UInt8))):l05_Small (n+1) l =
 obind (l05_Small_l2 n loopFuel (l,((((List.length l):Nat):Int),((0:Int),())))) fun r0 =>
 selim (fun y1 =>
 some (1:Int)) (fun z2 =>
 some z2) r0:=by kernel_rfl
theorem l05_Small_l2_eq (n f:Nat) (s5:(List (List UInt8×List UInt8))) (s6:Int) (s7:Int):l05_Small_l2 n (f+1) (s5,s6,s7,()) =
 tif ((decide (s7<s6))) (
 obind (at? s5 s7) fun r0 =>
 tif ((decide (s7=40))) (
 some (.inr (0:Int))) (
 tif ((decide ((1000:Int)<(((List.length r0.1):Nat):Int)))) (
 some (.inr (0:Int))) (
 tif ((decide ((1000:Int)<(((List.length r0.2):Nat):Int)))) (
 some (.inr (0:Int))) (
 l05_Small_l2 n f (s5,(s6,((IntKind.wrap .i64 (s7+1)),()))))))) (
 some (.inl ())):=by kernel_rfl
theorem stt_Check_eq (n:Nat) (s:TState):stt_Check (n+1) s =
 obind (stt_open n s) fun r0 =>
 tif ((!(decide (r0.2=0)))) (
 some (2:Int)) (
 obind (stt_view_clock n r0.1) fun r1 =>
 tif ((!r1)) (
 some (2:Int)) (
 obind (stt_view_place n r0.1 (fun y2=>stt_Check_1 n y2.1 r0.1)) fun r3 =>
 tif ((decide ((0:Int)≤r3))) (
 some (2:Int)) (
 some (0:Int)))):=by kernel_rfl
theorem ratio_Less_eq (n:Nat) (a:TFraction) (b:TFraction):ratio_Less (n+1) a b =
 obind (ratio_Check n a) fun r0 =>
 tif ((!(decide (r0=0)))) (
 some (false,(2:Int))) (
 obind (ratio_Check n b) fun r1 =>
 tif ((!(decide (r1=0)))) (
 some (false,(2:Int))) (
 obind (ratio_times n a.1 b.2) fun r2 =>
 obind (ratio_times n b.1 a.2) fun r3 =>
 tif ((!(decide (r2.2=0)))) (
 some (false,(1:Int))) (
 tif ((!(decide (r3.2=0)))) (
 some (false,(1:Int))) (
 obind (wide_Less n r2.1 r3.1) fun r4 =>
 some (r4,(0:Int)))))):=by kernel_rfl
theorem query_Do_eq (n:Nat) (s:TState) (a:TAsk):query_Do (n+1) s a =
 obind (query_may n s a.1) fun r0 =>
 tif ((!(decide (r0=0)))) (
 some (((0:Int),(((0:Int),(((0:Int),((0:Int),((0:Int),false))),(((0:Int),((0:Int),((0:Int),false))),(((0:Int),(0:Int)),((0:Int),((0:Int),(0:Int))))))),((((0:Int),(0:Int)),((0:Int),(0:Int))),(0:Int)))),r0)) (
 obind (query_Tier n s a.2.1 a.2.2.1 a.2.2.2) fun r1 =>
 tif ((!(decide (r1.2=0)))) (
 some (((0:Int),(((0:Int),(((0:Int),((0:Int),((0:Int),false))),(((0:Int),((0:Int),((0:Int),false))),(((0:Int),(0:Int)),((0:Int),((0:Int),(0:Int))))))),((((0:Int),(0:Int)),((0:Int),(0:Int))),(0:Int)))),r1.2)) (
 obind (query_of n s a (IntKind.wrap .i64 (r1.1-1))) fun r2 =>
 tif ((!(decide (r2.2=0)))) (
 some (((0:Int),(((0:Int),(((0:Int),((0:Int),((0:Int),false))),(((0:Int),((0:Int),((0:Int),false))),(((0:Int),(0:Int)),((0:Int),((0:Int),(0:Int))))))),((((0:Int),(0:Int)),((0:Int),(0:Int))),(0:Int)))),r2.2)) (
 obind (query_Rate n r2.1) fun r3 =>
 some ((r1.1,(r2.1,r3)),(0:Int))))):=by kernel_rfl
theorem l37_rate_eq (n:Nat) (n_:Int) (d:Int):l37_rate (n+1) n_ d =
 some (((0:Int),n_),((0:Int),d)):=by kernel_rfl
theorem l37_in_eq (n:Nat) (l:(List Int)) (n_:Int):l37_in (n+1) l n_ =
 obind (l37_in_l2 n loopFuel (n_,(l,((((List.length l):Nat):Int),((0:Int),()))))) fun r0 =>
 selim (fun y1 =>
 some false) (fun z2 =>
 some z2) r0:=by kernel_rfl
theorem l37_in_l2_eq (n f:Nat) (n_:Int) (s7:(List Int)) (s8:Int) (s9:Int):l37_in_l2 n (f+1) (n_,s7,s8,s9,()) =
 tif ((decide (s9<s8))) (
 obind (at? s7 s9) fun r0 =>
 tif ((decide (r0=n_))) (
 some (.inr true)) (
 l37_in_l2 n f (n_,(s7,(s8,((IntKind.wrap .i64 (s9+1)),())))))) (
 some (.inl ())):=by kernel_rfl
theorem query_Tier_eq (n:Nat) (s:TState) (tier:Int) (from_:Int) (to:Int):query_Tier (n+1) s tier from_ to =
 obind (stt_Check n s) fun r0 =>
 tif ((!(decide (r0=0)))) (
 some ((0:Int),r0)) (
 tif ((decide (tier<0))) (
 some ((0:Int),(1:Int))) (
 tif ((decide ((3:Int)<tier))) (
 some ((0:Int),(1:Int))) (
 tif ((decide (tier=0))) (
 obind (query_whichever n s from_ to) fun r1 =>
 some r1) (
 obind (query_one n s tier from_ to) fun r2 =>
 tif ((!(decide (r2=0)))) (
 some ((0:Int),r2)) (
 some (tier,(0:Int))))))):=by kernel_rfl
theorem cell_All_eq (n:Nat) (l:(List TCell)):cell_All (n+1) l =
 obind (cell_All_l3 n loopFuel (((0:Int),(((0:Int),((0:Int),((0:Int),false))),(((0:Int),((0:Int),((0:Int),false))),(((0:Int),(0:Int)),((0:Int),((0:Int),(0:Int))))))),(((0:Int),(((0:Int),((0:Int),((0:Int),false))),(((0:Int),((0:Int),((0:Int),false))),(((0:Int),(0:Int)),((0:Int),((0:Int),(0:Int))))))),(l,((((List.length l):Nat):Int),((0:Int),())))))) fun r0 =>
 selim (fun y1 =>
 some (y1.2.1,(0:Int))) (fun z2 =>
 some z2) r0:=by kernel_rfl
theorem cell_All_l3_eq (n f:Nat) (s2:TCell) (c:TCell) (s9:(List TCell)) (s10:Int) (s11:Int):cell_All_l3 n (f+1) (s2,c,s9,s10,s11,()) =
 tif ((decide (s11<s10))) (
 obind (at? s9 s11) fun r0 =>
 obind (cell_Merge n c r0) fun r1 =>
 tif ((!(decide (r1.2=0)))) (
 some (.inr (((0:Int),(((0:Int),((0:Int),((0:Int),false))),(((0:Int),((0:Int),((0:Int),false))),(((0:Int),(0:Int)),((0:Int),((0:Int),(0:Int))))))),r1.2))) (
 cell_All_l3 n f (s2,(r1.1,(s9,(s10,((IntKind.wrap .i64 (s11+1)),()))))))) (
 some (.inl (s2,(c,())))):=by kernel_rfl
theorem wide_Sum_eq (n:Nat) (l:(List (Int×Int))):wide_Sum (n+1) l =
 obind (wide_Sum_l3 n loopFuel (((0:Int),(0:Int)),(((0:Int),(0:Int)),(l,((((List.length l):Nat):Int),((0:Int),())))))) fun r0 =>
 selim (fun y1 =>
 some (y1.2.1,(0:Int))) (fun z2 =>
 some z2) r0:=by kernel_rfl
theorem wide_Sum_l3_eq (n f:Nat) (s2:(Int×Int)) (a:(Int×Int)) (s9:(List (Int×Int))) (s10:Int) (s11:Int):wide_Sum_l3 n (f+1) (s2,a,s9,s10,s11,()) =
 tif ((decide (s11<s10))) (
 obind (at? s9 s11) fun r0 =>
 obind (wide_Add n a r0) fun r1 =>
 tif ((!(decide (r1.2=0)))) (
 some (.inr (((0:Int),(0:Int)),r1.2))) (
 wide_Sum_l3 n f (s2,(r1.1,(s9,(s10,((IntKind.wrap .i64 (s11+1)),()))))))) (
 some (.inl (s2,(a,())))):=by kernel_rfl
theorem wide_Less_eq (n:Nat) (a:(Int×Int)) (b:(Int×Int)):wide_Less (n+1) a b =
 tif ((decide (a.1<b.1))) (
 some true) (
 tif ((decide (a.1=b.1))) (
 some (decide (a.2<b.2))) (
 some false)):=by kernel_rfl
theorem wide_Times_eq (n:Nat) (a:(Int×Int)) (n_:Int):wide_Times (n+1) a n_ =
 obind (math_bits_Mul64 n a.2 n_) fun r0 =>
 obind (math_bits_Mul64 n a.1 n_) fun r1 =>
 tif (((decide ((0:Int)≤r1.2))&&((decide ((0:Int)≤r0.1))&&true))) (
 obind (wide_sure n ((((r1.2+r0.1)+0) % (18446744073709551616:Int)),r0.2) (orI .u64 r1.1 (((r1.2+r0.1)+0) / (18446744073709551616:Int)))) fun r2 =>
 some r2) (
 none):=by kernel_rfl
theorem label_Same_eq (n:Nat) (a:(List (List UInt8×List UInt8))) (b:(List (List UInt8×List UInt8))):label_Same (n+1) a b =
 obind (sl_Equal_Label n a b) fun r0 =>
 some r0:=by kernel_rfl
theorem l15_Small_eq (n:Nat) (s:TSeries):l15_Small (n+1) s =
 obind (l05_Small n s.1) fun r0 =>
 tif ((decide (r0=0))) (
 some (0:Int)) (
 tif ((decide ((60:Int)<(((List.length s.2.2.1.2.2):Nat):Int)))) (
 some (0:Int)) (
 obind (l14_Small n s.2.2.2.1) fun r1 =>
 some r1)):=by kernel_rfl
end Go.Proofs.YtefpnjjbopdplaaGreatDoor
