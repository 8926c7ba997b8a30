/- Trees, printed by program. -/
import Derived.Test.YtgkpkajaepphjaaGreatDoorTr0
import Derived.KernelRfl
set_option linter.unusedVariables false
namespace Go.Proofs.YtgkpkajaepphjaaGreatDoor
open Go.Flat
theorem l38_HeatSteps_eq (n:Nat) (l:(List TCell)) (m:(List (Int×Int))):l38_HeatSteps (n+1) l m =
 tif ((decide ((60:Int)<(((List.length l):Nat):Int)))) (
 obind (l38_lives n ) fun r0 =>
 some r0) (
 tif ((decide ((60:Int)<(((List.length m):Nat):Int)))) (
 obind (l38_lives n ) fun r1 =>
 some r1) (
 obind (heat_Steps n l) fun r2 =>
 obind (r38_Steps n l) fun r3 =>
 obind (heat_Peak n m) fun r4 =>
 obind (r38_Peak n m) fun r5 =>
 obind (heat_Levels n m) fun r6 =>
 obind (r38_Levels n m) fun r7 =>
 obind (l38_lives n ) fun r8 =>
 tif (r8) (
 obind (r38_SameWides n r2.1 r3.1) fun r9 =>
 tif (r9) (
 tif ((decide (r2.2=r3.2))) (
 tif ((decide (r4.1=r5.1))) (
 tif ((r4.2==r5.2)) (
 obind (r06_Same n r6.1 r7.1) fun r10 =>
 tif (r10) (
 some (decide (r6.2=r7.2))) (
 some false)) (
 some false)) (
 some false)) (
 some false)) (
 some false)) (
 some false))):=by kernel_rfl
theorem r06_Same_eq (n:Nat) (a:(List Int)) (b:(List Int)):r06_Same (n+1) a b =
 tif ((!(decide ((((List.length a):Nat):Int)=(((List.length b):Nat):Int))))) (
 some false) (
 obind (r06_Same_l4 n loopFuel (a,(b,((((List.length a):Nat):Int),((0:Int),()))))) fun r0 =>
 selim (fun y1 =>
 some true) (fun z2 =>
 some z2) r0):=by kernel_rfl
theorem r06_Same_l4_eq (n f:Nat) (a:(List Int)) (b:(List Int)) (s12:Int) (s13:Int):r06_Same_l4 n (f+1) (a,b,s12,s13,()) =
 tif ((decide (s13<s12))) (
 obind (at? a s13) fun r0 =>
 obind (at? b s13) fun r1 =>
 tif ((!(decide (r0=r1)))) (
 some (.inr false)) (
 r06_Same_l4 n f (a,(b,(s12,((IntKind.wrap .i64 (s13+1)),())))))) (
 some (.inl ())):=by kernel_rfl
theorem heat_Cells_eq (n:Nat) (s:TState) (a:TAsk):heat_Cells (n+1) s a =
 obind (query_Do n s a) fun r0 =>
 tif ((!(decide (r0.2=0)))) (
 some ([],r0.2)) (
 tif ((decide ((IntKind.wrap .i64 (r0.1.1-1))=0))) (
 obind (wi_Span n a.2.2.1 a.2.2.2 s.1.2.1.1) fun r1 =>
 tif ((!(decide (r1.2.2=0)))) (
 some ([],r1.2.2)) (
 tif ((decide ((4096:Int)<(IntKind.wrap .i64 (r1.2.1-r1.1))))) (
 some ([],(6:Int))) (
 tif (((decide ((0:Int)≤(IntKind.wrap .i64 (r1.2.1-r1.1))))&&((decide ((IntKind.wrap .i64 (r1.2.1-r1.1))≤(IntKind.wrap .i64 (r1.2.1-r1.1))))&&(decide (((IntKind.wrap .i64 (r1.2.1-r1.1))*112)≤140737488355328))))) (
 obind (stt_Find n s a.1) fun r2 =>
 tif ((!(decide (r2.2=0)))) (
 some ((List.replicate (Int.toNat (IntKind.wrap .i64 (r1.2.1-r1.1))) ((0:Int),(((0:Int),((0:Int),((0:Int),false))),(((0:Int),((0:Int),((0:Int),false))),(((0:Int),(0:Int)),((0:Int),((0:Int),(0:Int)))))))),(0:Int))) (
 obind (heat_Cells_l14 n loopFuel (s,(r0.1,(r1.1,((List.replicate (Int.toNat (IntKind.wrap .i64 (r1.2.1-r1.1))) ((0:Int),(((0:Int),((0:Int),((0:Int),false))),(((0:Int),((0:Int),((0:Int),false))),(((0:Int),(0:Int)),((0:Int),((0:Int),(0:Int)))))))),(r2.1,((((List.length (List.replicate (Int.toNat (IntKind.wrap .i64 (r1.2.1-r1.1))) ((0:Int),(((0:Int),((0:Int),((0:Int),false))),(((0:Int),((0:Int),((0:Int),false))),(((0:Int),(0:Int)),((0:Int),((0:Int),(0:Int))))))))):Nat):Int),((0:Int),())))))))) fun r3 =>
 selim (fun y4 =>
 some (y4.1,(0:Int))) (fun z5 =>
 some z5) r3)) (
 none)))) (
 tif ((decide ((IntKind.wrap .i64 (r0.1.1-1))=1))) (
 obind (wi_Span n a.2.2.1 a.2.2.2 s.1.2.1.2.1) fun r6 =>
 tif ((!(decide (r6.2.2=0)))) (
 some ([],r6.2.2)) (
 tif ((decide ((4096:Int)<(IntKind.wrap .i64 (r6.2.1-r6.1))))) (
 some ([],(6:Int))) (
 tif (((decide ((0:Int)≤(IntKind.wrap .i64 (r6.2.1-r6.1))))&&((decide ((IntKind.wrap .i64 (r6.2.1-r6.1))≤(IntKind.wrap .i64 (r6.2.1-r6.1))))&&(decide (((IntKind.wrap .i64 (r6.2.1-r6.1))*112)≤140737488355328))))) (
 obind (stt_Find n s a.1) fun r7 =>
 tif ((!(decide (r7.2=0)))) (
 some ((List.replicate (Int.toNat (IntKind.wrap .i64 (r6.2.1-r6.1))) ((0:Int),(((0:Int),((0:Int),((0:Int),false))),(((0:Int),((0:Int),((0:Int),false))),(((0:Int),(0:Int)),((0:Int),((0:Int),(0:Int)))))))),(0:Int))) (
 obind (heat_Cells_l14 n loopFuel (s,(r0.1,(r6.1,((List.replicate (Int.toNat (IntKind.wrap .i64 (r6.2.1-r6.1))) ((0:Int),(((0:Int),((0:Int),((0:Int),false))),(((0:Int),((0:Int),((0:Int),false))),(((0:Int),(0:Int)),((0:Int),((0:Int),(0:Int)))))))),(r7.1,((((List.length (List.replicate (Int.toNat (IntKind.wrap .i64 (r6.2.1-r6.1))) ((0:Int),(((0:Int),((0:Int),((0:Int),false))),(((0:Int),((0:Int),((0:Int),false))),(((0:Int),(0:Int)),((0:Int),((0:Int),(0:Int))))))))):Nat):Int),((0:Int),())))))))) fun r8 =>
 selim (fun y9 =>
 some (y9.1,(0:Int))) (fun z10 =>
 some z10) r8)) (
 none)))) (
 tif ((decide ((IntKind.wrap .i64 (r0.1.1-1))=2))) (
 obind (wi_Span n a.2.2.1 a.2.2.2 s.1.2.1.2.2) fun r11 =>
 tif ((!(decide (r11.2.2=0)))) (
 some ([],r11.2.2)) (
 tif ((decide ((4096:Int)<(IntKind.wrap .i64 (r11.2.1-r11.1))))) (
 some ([],(6:Int))) (
 tif (((decide ((0:Int)≤(IntKind.wrap .i64 (r11.2.1-r11.1))))&&((decide ((IntKind.wrap .i64 (r11.2.1-r11.1))≤(IntKind.wrap .i64 (r11.2.1-r11.1))))&&(decide (((IntKind.wrap .i64 (r11.2.1-r11.1))*112)≤140737488355328))))) (
 obind (stt_Find n s a.1) fun r12 =>
 tif ((!(decide (r12.2=0)))) (
 some ((List.replicate (Int.toNat (IntKind.wrap .i64 (r11.2.1-r11.1))) ((0:Int),(((0:Int),((0:Int),((0:Int),false))),(((0:Int),((0:Int),((0:Int),false))),(((0:Int),(0:Int)),((0:Int),((0:Int),(0:Int)))))))),(0:Int))) (
 obind (heat_Cells_l14 n loopFuel (s,(r0.1,(r11.1,((List.replicate (Int.toNat (IntKind.wrap .i64 (r11.2.1-r11.1))) ((0:Int),(((0:Int),((0:Int),((0:Int),false))),(((0:Int),((0:Int),((0:Int),false))),(((0:Int),(0:Int)),((0:Int),((0:Int),(0:Int)))))))),(r12.1,((((List.length (List.replicate (Int.toNat (IntKind.wrap .i64 (r11.2.1-r11.1))) ((0:Int),(((0:Int),((0:Int),((0:Int),false))),(((0:Int),((0:Int),((0:Int),false))),(((0:Int),(0:Int)),((0:Int),((0:Int),(0:Int))))))))):Nat):Int),((0:Int),())))))))) fun r13 =>
 selim (fun y14 =>
 some (y14.1,(0:Int))) (fun z15 =>
 some z15) r13)) (
 none)))) (
 none)))):=by kernel_rfl
theorem heat_Cells_l14_eq (n f:Nat) (s_:TState) (r:TReply) (i:Int) (out:(List TCell)) (at_:Int) (s61:Int) (s62:Int):heat_Cells_l14 n (f+1) (s_,r,i,out,at_,s61,s62,()) =
 tif ((decide (s62<s61))) (
 obind (at? s_.2.2.2 at_) fun r0 =>
 obind (series_Cell n s_.1 r0 (IntKind.wrap .i64 (r.1-1)) (IntKind.wrap .i64 (i+s62))) fun r1 =>
 obind (at? out s62) fun r2 =>
 obind ((out)[(Int.toNat s62)]?) fun r3 =>
 tif ((!(decide (r1.2=0)))) (
 some (.inr ([],r1.2))) (
 heat_Cells_l14 n f (s_,(r,(i,((List.set out (Int.toNat s62) r1.1),(at_,(s61,((IntKind.wrap .i64 (s62+1)),()))))))))) (
 some (.inl (out,()))):=by kernel_rfl
theorem heat_Line_eq (n:Nat) (s:TState) (a:TAsk):heat_Line (n+1) s a =
 obind (heat_Cells n s a) fun r0 =>
 tif ((!(decide (r0.2=0)))) (
 some ([],r0.2)) (
 obind (heat_Steps n r0.1) fun r1 =>
 tif ((!(decide (r1.2=0)))) (
 some ([],r1.2)) (
 obind (heat_Levels n r1.1) fun r2 =>
 tif (((decide ((0:Int)≤(((List.length r2.1):Nat):Int)))&&((decide ((((List.length r2.1):Nat):Int)≤(((List.length r2.1):Nat):Int)))&&(decide (((((List.length r2.1):Nat):Int)*1)≤140737488355328))))) (
 obind (heat_Line_l10 n loopFuel (r2.2,((List.replicate (Int.toNat (((List.length r2.1):Nat):Int)) (0:Int)),(r2.1,((((List.length r2.1):Nat):Int),((0:Int),())))))) fun r3 =>
 selim (fun y4 =>
 some ((List.map (fun y5=>(UInt8.ofNat (Int.toNat y5))) y4.2.1),y4.1)) (fun z6 =>
 some z6) r3) (
 none))):=by kernel_rfl
theorem heat_Line_l10_eq (n f:Nat) (why:Int) (out:(List Int)) (s38:(List Int)) (s39:Int) (s40:Int):heat_Line_l10 n (f+1) (why,out,s38,s39,s40,()) =
 tif ((decide (s40<s39))) (
 obind (at? s38 s40) fun r0 =>
 obind (at? out s40) fun r1 =>
 obind ((out)[(Int.toNat s40)]?) fun r2 =>
 heat_Line_l10 n f (why,((List.set out (Int.toNat s40) (IntKind.wrap .u8 (IntKind.wrap .i64 ((48:Int)+r0)))),(s38,(s39,((IntKind.wrap .i64 (s40+1)),())))))) (
 some (.inl (why,(out,())))):=by kernel_rfl
theorem heat_Steps_eq (n:Nat) (l:(List TCell)):heat_Steps (n+1) l =
 obind (cell_All n l) fun r0 =>
 tif ((!(decide (r0.2=0)))) (
 some ([],r0.2)) (
 tif (((decide ((0:Int)≤(((List.length l):Nat):Int)))&&((decide ((((List.length l):Nat):Int)≤(((List.length l):Nat):Int)))&&(decide (((((List.length l):Nat):Int)*16)≤140737488355328))))) (
 obind (heat_Steps_l7 n loopFuel (l,((List.replicate (Int.toNat (((List.length l):Nat):Int)) ((0:Int),(0:Int))),(none,((((List.length l):Nat):Int),((0:Int),())))))) fun r1 =>
 selim (fun y2 =>
 some (y2.1,(0:Int))) (fun z3 =>
 some z3) r1) (
 none)):=by kernel_rfl
theorem heat_Steps_l7_eq (n f:Nat) (l:(List TCell)) (out:(List (Int×Int))) (last:(Option TCell)) (s24:Int) (s25:Int):heat_Steps_l7 n (f+1) (l,out,last,s24,s25,()) =
 oelim (last) (
 tif ((decide (s25<s24))) (
 obind (at? l s25) fun r0 =>
 tif ((decide (r0.1=0))) (
 heat_Steps_l7 n f (l,(out,(none,(s24,((IntKind.wrap .i64 (s25+1)),())))))) (
 obind (at? out s25) fun r1 =>
 obind ((out)[(Int.toNat s25)]?) fun r2 =>
 heat_Steps_l7 n f (l,((List.set out (Int.toNat s25) r0.2.2.2.1),((some r0),(s24,((IntKind.wrap .i64 (s25+1)),()))))))) (
 some (.inl (out,())))) fun r3 =>
 tif ((decide (s25<s24))) (
 obind (at? l s25) fun r4 =>
 tif ((decide (r4.1=0))) (
 heat_Steps_l7 n f (l,(out,((some r3),(s24,((IntKind.wrap .i64 (s25+1)),())))))) (
 obind (at? out s25) fun r5 =>
 obind ((out)[(Int.toNat s25)]?) fun r6 =>
 obind (event_Between n r3.2.2.1 r4.2.1) fun r7 =>
 obind (wide_Add n r7.1.2.2.2.1 r4.2.2.2.1) fun r8 =>
 obind (at? (List.set out (Int.toNat s25) r4.2.2.2.1) s25) fun r9 =>
 obind (((List.set out (Int.toNat s25) r4.2.2.2.1))[(Int.toNat s25)]?) fun r10 =>
 heat_Steps_l7 n f (l,((List.set (List.set out (Int.toNat s25) r4.2.2.2.1) (Int.toNat s25) r8.1),((some r4),(s24,((IntKind.wrap .i64 (s25+1)),()))))))) (
 some (.inl (out,()))):=by kernel_rfl
theorem r38_Steps_eq (n:Nat) (l:(List TCell)):r38_Steps (n+1) l =
 obind (r08_All n l) fun r0 =>
 tif ((!(decide (r0.2=0)))) (
 some ([],r0.2)) (
 obind (r38_Steps_l6 n loopFuel (l,([],((((List.length l):Nat):Int),((0:Int),()))))) fun r1 =>
 selim (fun y2 =>
 some (y2.1,(0:Int))) (fun z3 =>
 some z3) r1):=by kernel_rfl
theorem r38_Steps_l6_eq (n f:Nat) (l:(List TCell)) (out:(List (Int×Int))) (s23:Int) (s24:Int):r38_Steps_l6 n (f+1) (l,out,s23,s24,()) =
 tif ((decide (s24<s23))) (
 tif (((decide ((0:Int)≤s24))&&(decide (s24≤(((List.length l):Nat):Int))))) (
 obind (r08_All n (List.drop 0 (List.take (Int.toNat s24) l))) fun r0 =>
 tif (((decide ((0:Int)≤(IntKind.wrap .i64 (s24+1))))&&(decide ((IntKind.wrap .i64 (s24+1))≤(((List.length l):Nat):Int))))) (
 obind (r08_All n (List.drop 0 (List.take (Int.toNat (IntKind.wrap .i64 (s24+1))) l))) fun r1 =>
 obind (r01_Sub n r1.1.2.2.2.1 r0.1.2.2.2.1) fun r2 =>
 tif ((decide ((((List.length out)+1)*16)≤140737488355328))) (
 r38_Steps_l6 n f (l,((out++(r2.1::[])),(s23,((IntKind.wrap .i64 (s24+1)),()))))) (
 none)) (
 none)) (
 none)) (
 some (.inl (out,()))):=by kernel_rfl
theorem heat_Peak_eq (n:Nat) (l:(List (Int×Int))):heat_Peak (n+1) l =
 obind (heat_Peak_l3 n loopFuel (l,((0:Int),(l,((((List.length l):Nat):Int),((0:Int),())))))) fun r0 =>
 selim (fun y1 =>
 some (y1.2.1,(decide ((0:Int)<(((List.length y1.1):Nat):Int))))) (fun z2 =>
 some z2) r0:=by kernel_rfl
theorem heat_Peak_l3_eq (n f:Nat) (l:(List (Int×Int))) (at_:Int) (s7:(List (Int×Int))) (s8:Int) (s9:Int):heat_Peak_l3 n (f+1) (l,at_,s7,s8,s9,()) =
 tif ((decide (s9<s8))) (
 obind (at? s7 s9) fun r0 =>
 obind (at? l at_) fun r1 =>
 obind (wide_Less n r1 r0) fun r2 =>
 tif (r2) (
 heat_Peak_l3 n f (l,(s9,(s7,(s8,((IntKind.wrap .i64 (s9+1)),())))))) (
 heat_Peak_l3 n f (l,(at_,(s7,(s8,((IntKind.wrap .i64 (s9+1)),()))))))) (
 some (.inl (l,(at_,())))):=by kernel_rfl
theorem r38_Peak_eq (n:Nat) (l:(List (Int×Int))):r38_Peak (n+1) l =
 obind (r38_Peak_l2 n loopFuel (l,(l,((((List.length l):Nat):Int),((0:Int),()))))) fun r0 =>
 selim (fun y1 =>
 some ((0:Int),false)) (fun z2 =>
 some z2) r0:=by kernel_rfl
theorem r38_Peak_l2_eq (n f:Nat) (l:(List (Int×Int))) (s9:(List (Int×Int))) (s10:Int) (s11:Int):r38_Peak_l2 n (f+1) (l,s9,s10,s11,()) =
 tif ((decide (s11<s10))) (
 obind (at? s9 s11) fun r0 =>
 obind (r38_Peak_l6 n loopFuel (l,(s11,(r0,(true,(s9,(s10,(s11,(l,((((List.length l):Nat):Int),((0:Int),()))))))))))) fun r1 =>
 selim (fun y2 =>
 tif (y2.2.2.1) (
 some (.inr (y2.2.1,true))) (
 r38_Peak_l2 n f (y2.1,(y2.2.2.2.1,(y2.2.2.2.2.1,((IntKind.wrap .i64 (y2.2.2.2.2.2.1+1)),())))))) (fun z3 =>
 some (.inr z3)) r1) (
 some (.inl ())):=by kernel_rfl
theorem r38_Peak_l6_eq (n f:Nat) (l:(List (Int×Int))) (i:Int) (x:(Int×Int)) (ok:Bool) (s9:(List (Int×Int))) (s10:Int) (s11:Int) (s16:(List (Int×Int))) (s17:Int) (s18:Int):r38_Peak_l6 n (f+1) (l,i,x,ok,s9,s10,s11,s16,s17,s18,()) =
 tif ((decide (s18<s17))) (
 obind (at? s16 s18) fun r0 =>
 tif (ok) (
 obind (r01_Less n x r0) fun r1 =>
 r38_Peak_l6 n f (l,(i,(x,((!r1),(s9,(s10,(s11,(s16,(s17,((IntKind.wrap .i64 (s18+1)),()))))))))))) (
 r38_Peak_l6 n f (l,(i,(x,(false,(s9,(s10,(s11,(s16,(s17,((IntKind.wrap .i64 (s18+1)),())))))))))))) (
 some (.inl (l,(i,(ok,(s9,(s10,(s11,())))))))):=by kernel_rfl
theorem heat_Levels_eq (n:Nat) (l:(List (Int×Int))):heat_Levels (n+1) l =
 obind (heat_Peak n l) fun r0 =>
 tif ((!r0.2)) (
 some ([],(0:Int))) (
 obind (heat_Levels_l6 n loopFuel (l,(r0.1,((((0:Int),(0:Int)),(((0:Int),(0:Int)),(((0:Int),(0:Int)),(((0:Int),(0:Int)),(((0:Int),(0:Int)),(((0:Int),(0:Int)),(((0:Int),(0:Int)),(((0:Int),(0:Int)),(((0:Int),(0:Int)),((0:Int),(0:Int))))))))))),((0:Int),()))))) fun r1 =>
 selim (fun y2 =>
 tif (((decide ((0:Int)≤(((List.length y2.1):Nat):Int)))&&((decide ((((List.length y2.1):Nat):Int)≤(((List.length y2.1):Nat):Int)))&&(decide (((((List.length y2.1):Nat):Int)*8)≤140737488355328))))) (
 obind (at? y2.1 y2.2.1) fun r3 =>
 obind (wide_Of n (0:Int)) fun r4 =>
 tif (((decide (r3.1=r4.1))&&(decide (r3.2=r4.2)))) (
 some ((List.replicate (Int.toNat (((List.length y2.1):Nat):Int)) (0:Int)),(0:Int))) (
 obind (heat_Levels_l17 n loopFuel (y2.2.2.1,((List.replicate (Int.toNat (((List.length y2.1):Nat):Int)) (0:Int)),(y2.1,((((List.length y2.1):Nat):Int),((0:Int),())))))) fun r5 =>
 selim (fun y6 =>
 some (y6.1,(0:Int))) (fun z7 =>
 some z7) r5)) (
 none)) (fun z8 =>
 some z8) r1):=by kernel_rfl
theorem heat_Levels_l6_eq (n f:Nat) (l:(List (Int×Int))) (at_:Int) (times:((Int×Int)×((Int×Int)×((Int×Int)×((Int×Int)×((Int×Int)×((Int×Int)×((Int×Int)×((Int×Int)×TFraction))))))))) (s19:Int):heat_Levels_l6 n (f+1) (l,at_,times,s19,()) =
 tif ((decide (s19<10))) (
 obind (at? l at_) fun r0 =>
 obind (wide_Times n r0 (IntKind.wrap .u64 s19)) fun r1 =>
 tif ((decide (s19=0))) (
 tif ((!(decide (r1.2=0)))) (
 some (.inr ([],r1.2))) (
 heat_Levels_l6 n f (l,(at_,((r1.1,times.2),((IntKind.wrap .i64 (s19+1)),())))))) (
 tif ((decide (s19=1))) (
 tif ((!(decide (r1.2=0)))) (
 some (.inr ([],r1.2))) (
 heat_Levels_l6 n f (l,(at_,((times.1,(r1.1,times.2.2)),((IntKind.wrap .i64 (s19+1)),())))))) (
 tif ((decide (s19=2))) (
 tif ((!(decide (r1.2=0)))) (
 some (.inr ([],r1.2))) (
 heat_Levels_l6 n f (l,(at_,((times.1,(times.2.1,(r1.1,times.2.2.2))),((IntKind.wrap .i64 (s19+1)),())))))) (
 tif ((decide (s19=3))) (
 tif ((!(decide (r1.2=0)))) (
 some (.inr ([],r1.2))) (
 heat_Levels_l6 n f (l,(at_,((times.1,(times.2.1,(times.2.2.1,(r1.1,times.2.2.2.2)))),((IntKind.wrap .i64 (s19+1)),())))))) (
 tif ((decide (s19=4))) (
 tif ((!(decide (r1.2=0)))) (
 some (.inr ([],r1.2))) (
 heat_Levels_l6 n f (l,(at_,((times.1,(times.2.1,(times.2.2.1,(times.2.2.2.1,(r1.1,times.2.2.2.2.2))))),((IntKind.wrap .i64 (s19+1)),())))))) (
 tif ((decide (s19=5))) (
 tif ((!(decide (r1.2=0)))) (
 some (.inr ([],r1.2))) (
 heat_Levels_l6 n f (l,(at_,((times.1,(times.2.1,(times.2.2.1,(times.2.2.2.1,(times.2.2.2.2.1,(r1.1,times.2.2.2.2.2.2)))))),((IntKind.wrap .i64 (s19+1)),())))))) (
 tif ((decide (s19=6))) (
 tif ((!(decide (r1.2=0)))) (
 some (.inr ([],r1.2))) (
 heat_Levels_l6 n f (l,(at_,((times.1,(times.2.1,(times.2.2.1,(times.2.2.2.1,(times.2.2.2.2.1,(times.2.2.2.2.2.1,(r1.1,times.2.2.2.2.2.2.2))))))),((IntKind.wrap .i64 (s19+1)),())))))) (
 tif ((decide (s19=7))) (
 tif ((!(decide (r1.2=0)))) (
 some (.inr ([],r1.2))) (
 heat_Levels_l6 n f (l,(at_,((times.1,(times.2.1,(times.2.2.1,(times.2.2.2.1,(times.2.2.2.2.1,(times.2.2.2.2.2.1,(times.2.2.2.2.2.2.1,(r1.1,times.2.2.2.2.2.2.2.2)))))))),((IntKind.wrap .i64 (s19+1)),())))))) (
 tif ((decide (s19=8))) (
 tif ((!(decide (r1.2=0)))) (
 some (.inr ([],r1.2))) (
 heat_Levels_l6 n f (l,(at_,((times.1,(times.2.1,(times.2.2.1,(times.2.2.2.1,(times.2.2.2.2.1,(times.2.2.2.2.2.1,(times.2.2.2.2.2.2.1,(times.2.2.2.2.2.2.2.1,(r1.1,times.2.2.2.2.2.2.2.2.2))))))))),((IntKind.wrap .i64 (s19+1)),())))))) (
 tif ((decide (s19=9))) (
 tif ((!(decide (r1.2=0)))) (
 some (.inr ([],r1.2))) (
 heat_Levels_l6 n f (l,(at_,((times.1,(times.2.1,(times.2.2.1,(times.2.2.2.1,(times.2.2.2.2.1,(times.2.2.2.2.2.1,(times.2.2.2.2.2.2.1,(times.2.2.2.2.2.2.2.1,(times.2.2.2.2.2.2.2.2.1,r1.1))))))))),((IntKind.wrap .i64 (s19+1)),())))))) (
 none))))))))))) (
 some (.inl (l,(at_,(times,()))))):=by kernel_rfl
theorem heat_Levels_l17_eq (n f:Nat) (times:((Int×Int)×((Int×Int)×((Int×Int)×((Int×Int)×((Int×Int)×((Int×Int)×((Int×Int)×((Int×Int)×TFraction))))))))) (out:(List Int)) (s48:(List (Int×Int))) (s49:Int) (s50:Int):heat_Levels_l17 n (f+1) (times,out,s48,s49,s50,()) =
 tif ((decide (s50<s49))) (
 obind (at? s48 s50) fun r0 =>
 obind (heat_level n r0 times) fun r1 =>
 obind (at? out s50) fun r2 =>
 obind ((out)[(Int.toNat s50)]?) fun r3 =>
 heat_Levels_l17 n f (times,((List.set out (Int.toNat s50) r1),(s48,(s49,((IntKind.wrap .i64 (s50+1)),())))))) (
 some (.inl (out,()))):=by kernel_rfl
theorem r38_Levels_eq (n:Nat) (l:(List (Int×Int))):r38_Levels (n+1) l =
 obind (r38_Peak n l) fun r0 =>
 tif ((!r0.2)) (
 some ([],(0:Int))) (
 obind (at? l r0.1) fun r1 =>
 obind (r01_Times n r1 (9:Int)) fun r2 =>
 tif ((!(decide (r2.2=0)))) (
 some ([],r2.2)) (
 obind (r38_Levels_l10 n loopFuel (r1,([],(l,((((List.length l):Nat):Int),((0:Int),())))))) fun r3 =>
 selim (fun y4 =>
 some (y4.1,(0:Int))) (fun z5 =>
 some z5) r3)):=by kernel_rfl
theorem r38_Levels_l10_eq (n f:Nat) (top:(Int×Int)) (out:(List Int)) (s37:(List (Int×Int))) (s38:Int) (s39:Int):r38_Levels_l10 n (f+1) (top,out,s37,s38,s39,()) =
 tif ((decide (s39<s38))) (
 obind (at? s37 s39) fun r0 =>
 obind (r01_Times n r0 (9:Int)) fun r1 =>
 obind (r38_Levels_l15 n loopFuel (top,(out,(r1.1,((0:Int),((1:Int),(s37,(s38,(s39,()))))))))) fun r2 =>
 selim (fun y3 =>
 tif ((decide ((((List.length y3.2.1)+1)*8)≤140737488355328))) (
 r38_Levels_l10 n f (y3.1,((y3.2.1++(y3.2.2.1::[])),(y3.2.2.2.1,(y3.2.2.2.2.1,((IntKind.wrap .i64 (y3.2.2.2.2.2.1+1)),())))))) (
 none)) (fun z4 =>
 some (.inr z4)) r2) (
 some (.inl (out,()))):=by kernel_rfl
theorem r38_Levels_l15_eq (n f:Nat) (top:(Int×Int)) (out:(List Int)) (nine:(Int×Int)) (k:Int) (n_:Int) (s37:(List (Int×Int))) (s38:Int) (s39:Int):r38_Levels_l15 n (f+1) (top,out,nine,k,n_,s37,s38,s39,()) =
 tif ((decide (n_≤9))) (
 tif ((!((decide (top.1=0))&&(decide (top.2=0))))) (
 obind (r01_Times n top n_) fun r0 =>
 obind (r01_Less n nine r0.1) fun r1 =>
 tif ((!r1)) (
 r38_Levels_l15 n f (top,(out,(nine,((IntKind.wrap .i64 n_),((IntKind.wrap .u64 (n_+1)),(s37,(s38,(s39,()))))))))) (
 r38_Levels_l15 n f (top,(out,(nine,(k,((IntKind.wrap .u64 (n_+1)),(s37,(s38,(s39,())))))))))) (
 some (.inl (top,(out,(k,(s37,(s38,(s39,()))))))))) (
 some (.inl (top,(out,(k,(s37,(s38,(s39,())))))))):=by kernel_rfl
theorem r38_SameWides_eq (n:Nat) (a:(List (Int×Int))) (b:(List (Int×Int))):r38_SameWides (n+1) a b =
 tif ((!(decide ((((List.length a):Nat):Int)=(((List.length b):Nat):Int))))) (
 some false) (
 obind (r38_SameWides_l4 n loopFuel (a,(b,((((List.length a):Nat):Int),((0:Int),()))))) fun r0 =>
 selim (fun y1 =>
 some true) (fun z2 =>
 some z2) r0):=by kernel_rfl
theorem r38_SameWides_l4_eq (n f:Nat) (a:(List (Int×Int))) (b:(List (Int×Int))) (s12:Int) (s13:Int):r38_SameWides_l4 n (f+1) (a,b,s12,s13,()) =
 tif ((decide (s13<s12))) (
 obind (at? a s13) fun r0 =>
 obind (at? b s13) fun r1 =>
 tif ((!((decide (r0.1=r1.1))&&(decide (r0.2=r1.2))))) (
 some (.inr false)) (
 r38_SameWides_l4 n f (a,(b,(s12,((IntKind.wrap .i64 (s13+1)),())))))) (
 some (.inl ())):=by kernel_rfl
theorem cell_All_eq (n:Nat) (l:(List TCell)):cell_All (n+1) l =
 obind (cell_All_l3 n loopFuel (((0:Int),(((0:Int),((0:Int),((0:Int),false))),(((0:Int),((0:Int),((0:Int),false))),(((0:Int),(0:Int)),((0:Int),((0:Int),(0:Int))))))),(((0:Int),(((0:Int),((0:Int),((0:Int),false))),(((0:Int),((0:Int),((0:Int),false))),(((0:Int),(0:Int)),((0:Int),((0:Int),(0:Int))))))),(l,((((List.length l):Nat):Int),((0:Int),())))))) fun r0 =>
 selim (fun y1 =>
 some (y1.2.1,(0:Int))) (fun z2 =>
 some z2) r0:=by kernel_rfl
theorem cell_All_l3_eq (n f:Nat) (s2:TCell) (c:TCell) (s9:(List TCell)) (s10:Int) (s11:Int):cell_All_l3 n (f+1) (s2,c,s9,s10,s11,()) =
 tif ((decide (s11<s10))) (
 obind (at? s9 s11) fun r0 =>
 obind (cell_Merge n c r0) fun r1 =>
 tif ((!(decide (r1.2=0)))) (
 some (.inr (((0:Int),(((0:Int),((0:Int),((0:Int),false))),(((0:Int),((0:Int),((0:Int),false))),(((0:Int),(0:Int)),((0:Int),((0:Int),(0:Int))))))),r1.2))) (
 cell_All_l3 n f (s2,(r1.1,(s9,(s10,((IntKind.wrap .i64 (s11+1)),()))))))) (
 some (.inl (s2,(c,())))):=by kernel_rfl
theorem wide_Sum_eq (n:Nat) (l:(List (Int×Int))):wide_Sum (n+1) l =
 obind (wide_Sum_l3 n loopFuel (((0:Int),(0:Int)),(((0:Int),(0:Int)),(l,((((List.length l):Nat):Int),((0:Int),())))))) fun r0 =>
 selim (fun y1 =>
 some (y1.2.1,(0:Int))) (fun z2 =>
 some z2) r0:=by kernel_rfl
theorem wide_Sum_l3_eq (n f:Nat) (s2:(Int×Int)) (a:(Int×Int)) (s9:(List (Int×Int))) (s10:Int) (s11:Int):wide_Sum_l3 n (f+1) (s2,a,s9,s10,s11,()) =
 tif ((decide (s11<s10))) (
 obind (at? s9 s11) fun r0 =>
 obind (wide_Add n a r0) fun r1 =>
 tif ((!(decide (r1.2=0)))) (
 some (.inr (((0:Int),(0:Int)),r1.2))) (
 wide_Sum_l3 n f (s2,(r1.1,(s9,(s10,((IntKind.wrap .i64 (s11+1)),()))))))) (
 some (.inl (s2,(a,())))):=by kernel_rfl
theorem wide_Less_eq (n:Nat) (a:(Int×Int)) (b:(Int×Int)):wide_Less (n+1) a b =
 tif ((decide (a.1<b.1))) (
 some true) (
 tif ((decide (a.1=b.1))) (
 some (decide (a.2<b.2))) (
 some false)):=by kernel_rfl
theorem wide_Times_eq (n:Nat) (a:(Int×Int)) (n_:Int):wide_Times (n+1) a n_ =
 obind (math_bits_Mul64 n a.2 n_) fun r0 =>
 obind (math_bits_Mul64 n a.1 n_) fun r1 =>
 tif (((decide ((0:Int)≤r1.2))&&((decide ((0:Int)≤r0.1))&&true))) (
 obind (wide_sure n ((((r1.2+r0.1)+0) % (18446744073709551616:Int)),r0.2) (orI .u64 r1.1 (((r1.2+r0.1)+0) / (18446744073709551616:Int)))) fun r2 =>
 some r2) (
 none):=by kernel_rfl
end Go.Proofs.YtgkpkajaepphjaaGreatDoor
