/- Trees, printed by program. -/
import Derived.Test.YtefpnjjbopdplaaGreatDoorTr0
import Derived.KernelRfl
set_option linter.unusedVariables false
namespace Go.Proofs.YtefpnjjbopdplaaGreatDoor
open Go.Flat
theorem l38_HeatLevels_eq (n:Nat) (m:(List (Int×Int))):l38_HeatLevels (n+1) m =
 obind (l38_lives n ) fun r0 =>
 tif ((!r0)) (
 some false) (
 tif ((decide ((60:Int)<(((List.length m):Nat):Int)))) (
 some true) (
 obind (heat_Levels n m) fun r1 =>
 obind (heat_Peak n m) fun r2 =>
 tif ((!(r2.2==(decide ((0:Int)<(((List.length m):Nat):Int)))))) (
 some false) (
 tif ((decide (r2.1<0))) (
 some false) (
 tif (r2.2) (
 tif ((decide ((((List.length m):Nat):Int)≤r2.1))) (
 some false) (
 tif ((!(decide (r1.2=0)))) (
 tif ((!r2.2)) (
 some false) (
 obind (at? m r2.1) fun r3 =>
 obind (wide_Times n r3 (9:Int)) fun r4 =>
 tif ((decide (r1.2=1))) (
 tif ((decide (r4.2=1))) (
 some (decide ((((List.length r1.1):Nat):Int)=0))) (
 some false)) (
 some false))) (
 tif ((!(decide ((((List.length r1.1):Nat):Int)=(((List.length m):Nat):Int))))) (
 some false) (
 obind (l38_HeatLevels_l17 n loopFuel (m,(r1.1,(r2.1,((((List.length m):Nat):Int),((0:Int),())))))) fun r5 =>
 selim (fun y6 =>
 some true) (fun z7 =>
 some z7) r5)))) (
 tif ((!(decide (r1.2=0)))) (
 tif ((!r2.2)) (
 some false) (
 obind (at? m r2.1) fun r8 =>
 obind (wide_Times n r8 (9:Int)) fun r9 =>
 tif ((decide (r1.2=1))) (
 tif ((decide (r9.2=1))) (
 some (decide ((((List.length r1.1):Nat):Int)=0))) (
 some false)) (
 some false))) (
 tif ((!(decide ((((List.length r1.1):Nat):Int)=(((List.length m):Nat):Int))))) (
 some false) (
 obind (l38_HeatLevels_l17 n loopFuel (m,(r1.1,(r2.1,((((List.length m):Nat):Int),((0:Int),())))))) fun r10 =>
 selim (fun y11 =>
 some true) (fun z12 =>
 some z12) r10))))))):=by kernel_rfl
theorem l38_HeatLevels_l17_eq (n f:Nat) (m:(List (Int×Int))) (l:(List Int)) (at_:Int) (s73:Int) (s74:Int):l38_HeatLevels_l17 n (f+1) (m,l,at_,s73,s74,()) =
 tif ((decide (s74<s73))) (
 obind (at? l s74) fun r0 =>
 tif ((decide (r0<0))) (
 some (.inr false)) (
 obind (at? l s74) fun r1 =>
 tif ((decide ((9:Int)<r1))) (
 some (.inr false)) (
 obind (at? m at_) fun r2 =>
 obind (at? m s74) fun r3 =>
 obind (wide_Less n r2 r3) fun r4 =>
 tif (r4) (
 some (.inr false)) (
 tif ((decide (s74<at_))) (
 obind (at? m s74) fun r5 =>
 obind (at? m at_) fun r6 =>
 obind (wide_Less n r5 r6) fun r7 =>
 tif ((!r7)) (
 some (.inr false)) (
 obind (at? m s74) fun r8 =>
 obind (at? m at_) fun r9 =>
 tif (((decide (r8.1=r9.1))&&(decide (r8.2=r9.2)))) (
 obind (at? l s74) fun r10 =>
 obind (at? m at_) fun r11 =>
 tif ((!((decide (r10=9))==(!((decide (r11.1=0))&&(decide (r11.2=0))))))) (
 some (.inr false)) (
 obind (l38_HeatLevels_l22 n loopFuel (m,(l,(at_,(s74,(s73,(s74,((((List.length m):Nat):Int),((0:Int),()))))))))) fun r12 =>
 selim (fun y13 =>
 l38_HeatLevels_l17 n f (y13.1,(y13.2.1,(y13.2.2.1,(y13.2.2.2.1,((IntKind.wrap .i64 (y13.2.2.2.2.1+1)),())))))) (fun z14 =>
 some (.inr z14)) r12)) (
 obind (l38_HeatLevels_l22 n loopFuel (m,(l,(at_,(s74,(s73,(s74,((((List.length m):Nat):Int),((0:Int),()))))))))) fun r15 =>
 selim (fun y16 =>
 l38_HeatLevels_l17 n f (y16.1,(y16.2.1,(y16.2.2.1,(y16.2.2.2.1,((IntKind.wrap .i64 (y16.2.2.2.2.1+1)),())))))) (fun z17 =>
 some (.inr z17)) r15))) (
 obind (at? m s74) fun r18 =>
 obind (at? m at_) fun r19 =>
 tif (((decide (r18.1=r19.1))&&(decide (r18.2=r19.2)))) (
 obind (at? l s74) fun r20 =>
 obind (at? m at_) fun r21 =>
 tif ((!((decide (r20=9))==(!((decide (r21.1=0))&&(decide (r21.2=0))))))) (
 some (.inr false)) (
 obind (l38_HeatLevels_l22 n loopFuel (m,(l,(at_,(s74,(s73,(s74,((((List.length m):Nat):Int),((0:Int),()))))))))) fun r22 =>
 selim (fun y23 =>
 l38_HeatLevels_l17 n f (y23.1,(y23.2.1,(y23.2.2.1,(y23.2.2.2.1,((IntKind.wrap .i64 (y23.2.2.2.2.1+1)),())))))) (fun z24 =>
 some (.inr z24)) r22)) (
 obind (l38_HeatLevels_l22 n loopFuel (m,(l,(at_,(s74,(s73,(s74,((((List.length m):Nat):Int),((0:Int),()))))))))) fun r25 =>
 selim (fun y26 =>
 l38_HeatLevels_l17 n f (y26.1,(y26.2.1,(y26.2.2.1,(y26.2.2.2.1,((IntKind.wrap .i64 (y26.2.2.2.2.1+1)),())))))) (fun z27 =>
 some (.inr z27)) r25)))))) (
 some (.inl ())):=by kernel_rfl
theorem l38_HeatLevels_l22_eq (n f:Nat) (m:(List (Int×Int))) (l:(List Int)) (at_:Int) (i:Int) (s73:Int) (s74:Int) (s143:Int) (s144:Int):l38_HeatLevels_l22 n (f+1) (m,l,at_,i,s73,s74,s143,s144,()) =
 tif ((decide (s144<s143))) (
 obind (at? m i) fun r0 =>
 obind (at? m s144) fun r1 =>
 obind (wide_Less n r0 r1) fun r2 =>
 tif (r2) (
 obind (at? l i) fun r3 =>
 obind (at? l s144) fun r4 =>
 tif ((decide (r4<r3))) (
 some (.inr false)) (
 l38_HeatLevels_l22 n f (m,(l,(at_,(i,(s73,(s74,(s143,((IntKind.wrap .i64 (s144+1)),())))))))))) (
 l38_HeatLevels_l22 n f (m,(l,(at_,(i,(s73,(s74,(s143,((IntKind.wrap .i64 (s144+1)),())))))))))) (
 some (.inl (m,(l,(at_,(s73,(s74,()))))))):=by kernel_rfl
theorem heat_Cells_eq (n:Nat) (s:TState) (a:TAsk):heat_Cells (n+1) s a =
 obind (query_Do n s a) fun r0 =>
 tif ((!(decide (r0.2=0)))) (
 some ([],r0.2)) (
 tif ((decide ((IntKind.wrap .i64 (r0.1.1-1))=0))) (
 obind (wi_Span n a.2.2.1 a.2.2.2 s.1.2.1.1) fun r1 =>
 tif ((!(decide (r1.2.2=0)))) (
 some ([],r1.2.2)) (
 tif ((decide ((4096:Int)<(IntKind.wrap .i64 (r1.2.1-r1.1))))) (
 some ([],(6:Int))) (
 tif (((decide ((0:Int)≤(IntKind.wrap .i64 (r1.2.1-r1.1))))&&((decide ((IntKind.wrap .i64 (r1.2.1-r1.1))≤(IntKind.wrap .i64 (r1.2.1-r1.1))))&&(decide (((IntKind.wrap .i64 (r1.2.1-r1.1))*112)≤140737488355328))))) (
 obind (stt_Find n s a.1) fun r2 =>
 tif ((!(decide (r2.2=0)))) (
 some ((List.replicate (Int.toNat (IntKind.wrap .i64 (r1.2.1-r1.1))) ((0:Int),(((0:Int),((0:Int),((0:Int),false))),(((0:Int),((0:Int),((0:Int),false))),(((0:Int),(0:Int)),((0:Int),((0:Int),(0:Int)))))))),(0:Int))) (
 obind (heat_Cells_l14 n loopFuel (s,(r0.1,(r1.1,((List.replicate (Int.toNat (IntKind.wrap .i64 (r1.2.1-r1.1))) ((0:Int),(((0:Int),((0:Int),((0:Int),false))),(((0:Int),((0:Int),((0:Int),false))),(((0:Int),(0:Int)),((0:Int),((0:Int),(0:Int)))))))),(r2.1,((((List.length (List.replicate (Int.toNat (IntKind.wrap .i64 (r1.2.1-r1.1))) ((0:Int),(((0:Int),((0:Int),((0:Int),false))),(((0:Int),((0:Int),((0:Int),false))),(((0:Int),(0:Int)),((0:Int),((0:Int),(0:Int))))))))):Nat):Int),((0:Int),())))))))) fun r3 =>
 selim (fun y4 =>
 some (y4.1,(0:Int))) (fun z5 =>
 some z5) r3)) (
 none)))) (
 tif ((decide ((IntKind.wrap .i64 (r0.1.1-1))=1))) (
 obind (wi_Span n a.2.2.1 a.2.2.2 s.1.2.1.2.1) fun r6 =>
 tif ((!(decide (r6.2.2=0)))) (
 some ([],r6.2.2)) (
 tif ((decide ((4096:Int)<(IntKind.wrap .i64 (r6.2.1-r6.1))))) (
 some ([],(6:Int))) (
 tif (((decide ((0:Int)≤(IntKind.wrap .i64 (r6.2.1-r6.1))))&&((decide ((IntKind.wrap .i64 (r6.2.1-r6.1))≤(IntKind.wrap .i64 (r6.2.1-r6.1))))&&(decide (((IntKind.wrap .i64 (r6.2.1-r6.1))*112)≤140737488355328))))) (
 obind (stt_Find n s a.1) fun r7 =>
 tif ((!(decide (r7.2=0)))) (
 some ((List.replicate (Int.toNat (IntKind.wrap .i64 (r6.2.1-r6.1))) ((0:Int),(((0:Int),((0:Int),((0:Int),false))),(((0:Int),((0:Int),((0:Int),false))),(((0:Int),(0:Int)),((0:Int),((0:Int),(0:Int)))))))),(0:Int))) (
 obind (heat_Cells_l14 n loopFuel (s,(r0.1,(r6.1,((List.replicate (Int.toNat (IntKind.wrap .i64 (r6.2.1-r6.1))) ((0:Int),(((0:Int),((0:Int),((0:Int),false))),(((0:Int),((0:Int),((0:Int),false))),(((0:Int),(0:Int)),((0:Int),((0:Int),(0:Int)))))))),(r7.1,((((List.length (List.replicate (Int.toNat (IntKind.wrap .i64 (r6.2.1-r6.1))) ((0:Int),(((0:Int),((0:Int),((0:Int),false))),(((0:Int),((0:Int),((0:Int),false))),(((0:Int),(0:Int)),((0:Int),((0:Int),(0:Int))))))))):Nat):Int),((0:Int),())))))))) fun r8 =>
 selim (fun y9 =>
 some (y9.1,(0:Int))) (fun z10 =>
 some z10) r8)) (
 none)))) (
 tif ((decide ((IntKind.wrap .i64 (r0.1.1-1))=2))) (
 obind (wi_Span n a.2.2.1 a.2.2.2 s.1.2.1.2.2) fun r11 =>
 tif ((!(decide (r11.2.2=0)))) (
 some ([],r11.2.2)) (
 tif ((decide ((4096:Int)<(IntKind.wrap .i64 (r11.2.1-r11.1))))) (
 some ([],(6:Int))) (
 tif (((decide ((0:Int)≤(IntKind.wrap .i64 (r11.2.1-r11.1))))&&((decide ((IntKind.wrap .i64 (r11.2.1-r11.1))≤(IntKind.wrap .i64 (r11.2.1-r11.1))))&&(decide (((IntKind.wrap .i64 (r11.2.1-r11.1))*112)≤140737488355328))))) (
 obind (stt_Find n s a.1) fun r12 =>
 tif ((!(decide (r12.2=0)))) (
 some ((List.replicate (Int.toNat (IntKind.wrap .i64 (r11.2.1-r11.1))) ((0:Int),(((0:Int),((0:Int),((0:Int),false))),(((0:Int),((0:Int),((0:Int),false))),(((0:Int),(0:Int)),((0:Int),((0:Int),(0:Int)))))))),(0:Int))) (
 obind (heat_Cells_l14 n loopFuel (s,(r0.1,(r11.1,((List.replicate (Int.toNat (IntKind.wrap .i64 (r11.2.1-r11.1))) ((0:Int),(((0:Int),((0:Int),((0:Int),false))),(((0:Int),((0:Int),((0:Int),false))),(((0:Int),(0:Int)),((0:Int),((0:Int),(0:Int)))))))),(r12.1,((((List.length (List.replicate (Int.toNat (IntKind.wrap .i64 (r11.2.1-r11.1))) ((0:Int),(((0:Int),((0:Int),((0:Int),false))),(((0:Int),((0:Int),((0:Int),false))),(((0:Int),(0:Int)),((0:Int),((0:Int),(0:Int))))))))):Nat):Int),((0:Int),())))))))) fun r13 =>
 selim (fun y14 =>
 some (y14.1,(0:Int))) (fun z15 =>
 some z15) r13)) (
 none)))) (
 none)))):=by kernel_rfl
theorem heat_Cells_l14_eq (n f:Nat) (s_:TState) (r:TReply) (i:Int) (out:(List TCell)) (at_:Int) (s61:Int) (s62:Int):heat_Cells_l14 n (f+1) (s_,r,i,out,at_,s61,s62,()) =
 tif ((decide (s62<s61))) (
 obind (at? s_.2.2.2 at_) fun r0 =>
 obind (series_Cell n s_.1 r0 (IntKind.wrap .i64 (r.1-1)) (IntKind.wrap .i64 (i+s62))) fun r1 =>
 obind (at? out s62) fun r2 =>
 obind ((out)[(Int.toNat s62)]?) fun r3 =>
 tif ((!(decide (r1.2=0)))) (
 some (.inr ([],r1.2))) (
 heat_Cells_l14 n f (s_,(r,(i,((List.set out (Int.toNat s62) r1.1),(at_,(s61,((IntKind.wrap .i64 (s62+1)),()))))))))) (
 some (.inl (out,()))):=by kernel_rfl
theorem heat_Line_eq (n:Nat) (s:TState) (a:TAsk):heat_Line (n+1) s a =
 obind (heat_Cells n s a) fun r0 =>
 tif ((!(decide (r0.2=0)))) (
 some ([],r0.2)) (
 obind (heat_Steps n r0.1) fun r1 =>
 tif ((!(decide (r1.2=0)))) (
 some ([],r1.2)) (
 obind (heat_Levels n r1.1) fun r2 =>
 tif (((decide ((0:Int)≤(((List.length r2.1):Nat):Int)))&&((decide ((((List.length r2.1):Nat):Int)≤(((List.length r2.1):Nat):Int)))&&(decide (((((List.length r2.1):Nat):Int)*1)≤140737488355328))))) (
 obind (heat_Line_l10 n loopFuel (r2.2,((List.replicate (Int.toNat (((List.length r2.1):Nat):Int)) (0:Int)),(r2.1,((((List.length r2.1):Nat):Int),((0:Int),())))))) fun r3 =>
 selim (fun y4 =>
 some ((List.map (fun y5=>(UInt8.ofNat (Int.toNat y5))) y4.2.1),y4.1)) (fun z6 =>
 some z6) r3) (
 none))):=by kernel_rfl
theorem heat_Line_l10_eq (n f:Nat) (why:Int) (out:(List Int)) (s38:(List Int)) (s39:Int) (s40:Int):heat_Line_l10 n (f+1) (why,out,s38,s39,s40,()) =
 tif ((decide (s40<s39))) (
 obind (at? s38 s40) fun r0 =>
 obind (at? out s40) fun r1 =>
 obind ((out)[(Int.toNat s40)]?) fun r2 =>
 heat_Line_l10 n f (why,((List.set out (Int.toNat s40) (IntKind.wrap .u8 (IntKind.wrap .i64 ((48:Int)+r0)))),(s38,(s39,((IntKind.wrap .i64 (s40+1)),())))))) (
 some (.inl (why,(out,())))):=by kernel_rfl
theorem heat_Peak_eq (n:Nat) (l:(List (Int×Int))):heat_Peak (n+1) l =
 obind (heat_Peak_l3 n loopFuel (l,((0:Int),(l,((((List.length l):Nat):Int),((0:Int),())))))) fun r0 =>
 selim (fun y1 =>
 some (y1.2.1,(decide ((0:Int)<(((List.length y1.1):Nat):Int))))) (fun z2 =>
 some z2) r0:=by kernel_rfl
theorem heat_Peak_l3_eq (n f:Nat) (l:(List (Int×Int))) (at_:Int) (s7:(List (Int×Int))) (s8:Int) (s9:Int):heat_Peak_l3 n (f+1) (l,at_,s7,s8,s9,()) =
 tif ((decide (s9<s8))) (
 obind (at? s7 s9) fun r0 =>
 obind (at? l at_) fun r1 =>
 obind (wide_Less n r1 r0) fun r2 =>
 tif (r2) (
 heat_Peak_l3 n f (l,(s9,(s7,(s8,((IntKind.wrap .i64 (s9+1)),())))))) (
 heat_Peak_l3 n f (l,(at_,(s7,(s8,((IntKind.wrap .i64 (s9+1)),()))))))) (
 some (.inl (l,(at_,())))):=by kernel_rfl
theorem heat_Levels_eq (n:Nat) (l:(List (Int×Int))):heat_Levels (n+1) l =
 obind (heat_Peak n l) fun r0 =>
 tif ((!r0.2)) (
 some ([],(0:Int))) (
 obind (heat_Levels_l6 n loopFuel (l,(r0.1,((((0:Int),(0:Int)),(((0:Int),(0:Int)),(((0:Int),(0:Int)),(((0:Int),(0:Int)),(((0:Int),(0:Int)),(((0:Int),(0:Int)),(((0:Int),(0:Int)),(((0:Int),(0:Int)),(((0:Int),(0:Int)),((0:Int),(0:Int))))))))))),((0:Int),()))))) fun r1 =>
 selim (fun y2 =>
 tif (((decide ((0:Int)≤(((List.length y2.1):Nat):Int)))&&((decide ((((List.length y2.1):Nat):Int)≤(((List.length y2.1):Nat):Int)))&&(decide (((((List.length y2.1):Nat):Int)*8)≤140737488355328))))) (
 obind (at? y2.1 y2.2.1) fun r3 =>
 obind (wide_Of n (0:Int)) fun r4 =>
 tif (((decide (r3.1=r4.1))&&(decide (r3.2=r4.2)))) (
 some ((List.replicate (Int.toNat (((List.length y2.1):Nat):Int)) (0:Int)),(0:Int))) (
 obind (heat_Levels_l17 n loopFuel (y2.2.2.1,((List.replicate (Int.toNat (((List.length y2.1):Nat):Int)) (0:Int)),(y2.1,((((List.length y2.1):Nat):Int),((0:Int),())))))) fun r5 =>
 selim (fun y6 =>
 some (y6.1,(0:Int))) (fun z7 =>
 some z7) r5)) (
 none)) (fun z8 =>
 some z8) r1):=by kernel_rfl
theorem heat_Levels_l6_eq (n f:Nat) (l:(List (Int×Int))) (at_:Int) (times:((Int×Int)×((Int×Int)×((Int×Int)×((Int×Int)×((Int×Int)×((Int×Int)×((Int×Int)×((Int×Int)×TFraction))))))))) (s19:Int):heat_Levels_l6 n (f+1) (l,at_,times,s19,()) =
 tif ((decide (s19<10))) (
 obind (at? l at_) fun r0 =>
 obind (wide_Times n r0 (IntKind.wrap .u64 s19)) fun r1 =>
 tif ((decide (s19=0))) (
 tif ((!(decide (r1.2=0)))) (
 some (.inr ([],r1.2))) (
 heat_Levels_l6 n f (l,(at_,((r1.1,times.2),((IntKind.wrap .i64 (s19+1)),())))))) (
 tif ((decide (s19=1))) (
 tif ((!(decide (r1.2=0)))) (
 some (.inr ([],r1.2))) (
 heat_Levels_l6 n f (l,(at_,((times.1,(r1.1,times.2.2)),((IntKind.wrap .i64 (s19+1)),())))))) (
 tif ((decide (s19=2))) (
 tif ((!(decide (r1.2=0)))) (
 some (.inr ([],r1.2))) (
 heat_Levels_l6 n f (l,(at_,((times.1,(times.2.1,(r1.1,times.2.2.2))),((IntKind.wrap .i64 (s19+1)),())))))) (
 tif ((decide (s19=3))) (
 tif ((!(decide (r1.2=0)))) (
 some (.inr ([],r1.2))) (
 heat_Levels_l6 n f (l,(at_,((times.1,(times.2.1,(times.2.2.1,(r1.1,times.2.2.2.2)))),((IntKind.wrap .i64 (s19+1)),())))))) (
 tif ((decide (s19=4))) (
 tif ((!(decide (r1.2=0)))) (
 some (.inr ([],r1.2))) (
 heat_Levels_l6 n f (l,(at_,((times.1,(times.2.1,(times.2.2.1,(times.2.2.2.1,(r1.1,times.2.2.2.2.2))))),((IntKind.wrap .i64 (s19+1)),())))))) (
 tif ((decide (s19=5))) (
 tif ((!(decide (r1.2=0)))) (
 some (.inr ([],r1.2))) (
 heat_Levels_l6 n f (l,(at_,((times.1,(times.2.1,(times.2.2.1,(times.2.2.2.1,(times.2.2.2.2.1,(r1.1,times.2.2.2.2.2.2)))))),((IntKind.wrap .i64 (s19+1)),())))))) (
 tif ((decide (s19=6))) (
 tif ((!(decide (r1.2=0)))) (
 some (.inr ([],r1.2))) (
 heat_Levels_l6 n f (l,(at_,((times.1,(times.2.1,(times.2.2.1,(times.2.2.2.1,(times.2.2.2.2.1,(times.2.2.2.2.2.1,(r1.1,times.2.2.2.2.2.2.2))))))),((IntKind.wrap .i64 (s19+1)),())))))) (
 tif ((decide (s19=7))) (
 tif ((!(decide (r1.2=0)))) (
 some (.inr ([],r1.2))) (
 heat_Levels_l6 n f (l,(at_,((times.1,(times.2.1,(times.2.2.1,(times.2.2.2.1,(times.2.2.2.2.1,(times.2.2.2.2.2.1,(times.2.2.2.2.2.2.1,(r1.1,times.2.2.2.2.2.2.2.2)))))))),((IntKind.wrap .i64 (s19+1)),())))))) (
 tif ((decide (s19=8))) (
 tif ((!(decide (r1.2=0)))) (
 some (.inr ([],r1.2))) (
 heat_Levels_l6 n f (l,(at_,((times.1,(times.2.1,(times.2.2.1,(times.2.2.2.1,(times.2.2.2.2.1,(times.2.2.2.2.2.1,(times.2.2.2.2.2.2.1,(times.2.2.2.2.2.2.2.1,(r1.1,times.2.2.2.2.2.2.2.2.2))))))))),((IntKind.wrap .i64 (s19+1)),())))))) (
 tif ((decide (s19=9))) (
 tif ((!(decide (r1.2=0)))) (
 some (.inr ([],r1.2))) (
 heat_Levels_l6 n f (l,(at_,((times.1,(times.2.1,(times.2.2.1,(times.2.2.2.1,(times.2.2.2.2.1,(times.2.2.2.2.2.1,(times.2.2.2.2.2.2.1,(times.2.2.2.2.2.2.2.1,(times.2.2.2.2.2.2.2.2.1,r1.1))))))))),((IntKind.wrap .i64 (s19+1)),())))))) (
 none))))))))))) (
 some (.inl (l,(at_,(times,()))))):=by kernel_rfl
theorem heat_Levels_l17_eq (n f:Nat) (times:((Int×Int)×((Int×Int)×((Int×Int)×((Int×Int)×((Int×Int)×((Int×Int)×((Int×Int)×((Int×Int)×TFraction))))))))) (out:(List Int)) (s48:(List (Int×Int))) (s49:Int) (s50:Int):heat_Levels_l17 n (f+1) (times,out,s48,s49,s50,()) =
 tif ((decide (s50<s49))) (
 obind (at? s48 s50) fun r0 =>
 obind (heat_level n r0 times) fun r1 =>
 obind (at? out s50) fun r2 =>
 obind ((out)[(Int.toNat s50)]?) fun r3 =>
 heat_Levels_l17 n f (times,((List.set out (Int.toNat s50) r1),(s48,(s49,((IntKind.wrap .i64 (s50+1)),())))))) (
 some (.inl (out,()))):=by kernel_rfl
theorem wide_Less_eq (n:Nat) (a:(Int×Int)) (b:(Int×Int)):wide_Less (n+1) a b =
 tif ((decide (a.1<b.1))) (
 some true) (
 tif ((decide (a.1=b.1))) (
 some (decide (a.2<b.2))) (
 some false)):=by kernel_rfl
theorem wide_Times_eq (n:Nat) (a:(Int×Int)) (n_:Int):wide_Times (n+1) a n_ =
 obind (math_bits_Mul64 n a.2 n_) fun r0 =>
 obind (math_bits_Mul64 n a.1 n_) fun r1 =>
 tif (((decide ((0:Int)≤r1.2))&&((decide ((0:Int)≤r0.1))&&true))) (
 obind (wide_sure n ((((r1.2+r0.1)+0) % (18446744073709551616:Int)),r0.2) (orI .u64 r1.1 (((r1.2+r0.1)+0) / (18446744073709551616:Int)))) fun r2 =>
 some r2) (
 none):=by kernel_rfl
end Go.Proofs.YtefpnjjbopdplaaGreatDoor
