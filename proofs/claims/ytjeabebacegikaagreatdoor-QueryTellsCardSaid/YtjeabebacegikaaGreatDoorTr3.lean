/-
  What each function comes to by one step of the flat reading. Printed by program; the kernel looks at each.
-/
import Derived.Test.YtjeabebacegikaaGreatDoorTr0
import Derived.KernelRfl
set_option linter.unusedVariables false
namespace Go.Proofs.YtjeabebacegikaaGreatDoor
open Go.Flat
theorem l17_Small_eq (n:Nat) (s:TState):l17_Small (n+1) s =
  tif ((decide ((8:Int)<(((List.length s.2.2.2):Nat):Int)))) (
  some (0:Int)) (
  obind (l17_Small_l4 n loopFuel (s.2.2.2,((((List.length s.2.2.2):Nat):Int),((0:Int),())))) fun r0 =>
  selim (fun y1 =>
  some (1:Int)) (fun z2 =>
  some z2) r0):=by kernel_rfl
theorem l17_Small_l4_eq (n f:Nat) (s10:(List TSeries)) (s11:Int) (s12:Int):l17_Small_l4 n (f+1) (s10,s11,s12,()) =
  tif ((decide (s12<s11))) (
  obind (at? s10 s12) fun r0 =>
  obind (l15_Small n r0) fun r1 =>
  tif ((decide (r1=0))) (
  some (.inr (0:Int))) (
  l17_Small_l4 n f (s10,(s11,((IntKind.wrap .i64 (s12+1)),()))))) (
  some (.inl ())):=by kernel_rfl
theorem r17_Check_eq (n:Nat) (s:TState):r17_Check (n+1) s =
  obind (r17_whole n s) fun r0 =>
  tif ((!r0)) (
  some (2:Int)) (
  obind (r17_time n s.2.1) fun r1 =>
  tif ((!r1)) (
  some (2:Int)) (
  tif ((!(decide (s.2.2.1=((-1):Int))))) (
  obind (r17_time n s.2.2.1) fun r2 =>
  tif ((!r2)) (
  some (2:Int)) (
  tif ((decide (s.2.1<s.2.2.1))) (
  some (2:Int)) (
  obind (r17_Mark n s) fun r3 =>
  obind (r17_Check_l5 n loopFuel (s,((IntKind.wrap .i64 (r3+s.1.2.1.1)),(s.2.2.2,((((List.length s.2.2.2):Nat):Int),((0:Int),())))))) fun r4 =>
  selim (fun y5 =>
  some (0:Int)) (fun z6 =>
  some z6) r4))) (
  tif ((decide (s.2.1<s.2.2.1))) (
  some (2:Int)) (
  obind (r17_Mark n s) fun r7 =>
  obind (r17_Check_l5 n loopFuel (s,((IntKind.wrap .i64 (r7+s.1.2.1.1)),(s.2.2.2,((((List.length s.2.2.2):Nat):Int),((0:Int),())))))) fun r8 =>
  selim (fun y9 =>
  some (0:Int)) (fun z10 =>
  some z10) r8)))):=by kernel_rfl
theorem r17_Check_l5_eq (n f:Nat) (s_:TState) (end_:Int) (s42:(List TSeries)) (s43:Int) (s44:Int):r17_Check_l5 n (f+1) (s_,end_,s42,s43,s44,()) =
  tif ((decide (s44<s43))) (
  obind (at? s42 s44) fun r0 =>
  obind (r17_Empty n r0) fun r1 =>
  tif (r1) (
  r17_Check_l5 n f (s_,(end_,(s42,(s43,((IntKind.wrap .i64 (s44+1)),())))))) (
  obind (r15_Check n s_.1 r0) fun r2 =>
  tif ((!(decide (r2=0)))) (
  some (.inr (2:Int))) (
  tif ((decide (r0.2.1<0))) (
  some (.inr (2:Int))) (
  tif ((decide (end_≤r0.2.1))) (
  some (.inr (2:Int))) (
  tif (((decide ((0:Int)≤s44))&&(decide (s44≤(((List.length s_.2.2.2):Nat):Int))))) (
  obind (r17_Check_l11 n loopFuel (s_,(end_,(s44,(r0,(s42,(s43,(s44,((((List.length (List.drop 0 (List.take (Int.toNat s44) s_.2.2.2))):Nat):Int),((0:Int),())))))))))) fun r3 =>
  selim (fun y4 =>
  r17_Check_l5 n f (y4.1,(y4.2.1,(y4.2.2.1,(y4.2.2.2.1,((IntKind.wrap .i64 (y4.2.2.2.2.1+1)),())))))) (fun z5 =>
  some (.inr z5)) r3) (
  none)))))) (
  some (.inl ())):=by kernel_rfl
theorem r17_Check_l11_eq (n f:Nat) (s_:TState) (end_:Int) (i:Int) (x:TSeries) (s42:(List TSeries)) (s43:Int) (s44:Int) (s71:Int) (s72:Int):r17_Check_l11 n (f+1) (s_,end_,i,x,s42,s43,s44,s71,s72,()) =
  tif ((decide (s72<s71))) (
  obind (r17_lives n s_ i) fun r0 =>
  tif (r0) (
  obind (r17_lives n s_ s72) fun r1 =>
  tif (r1) (
  obind (at? s_.2.2.2 s72) fun r2 =>
  obind (r05_Same n r2.1 x.1) fun r3 =>
  tif (r3) (
  some (.inr (2:Int))) (
  r17_Check_l11 n f (s_,(end_,(i,(x,(s42,(s43,(s44,(s71,((IntKind.wrap .i64 (s72+1)),()))))))))))) (
  r17_Check_l11 n f (s_,(end_,(i,(x,(s42,(s43,(s44,(s71,((IntKind.wrap .i64 (s72+1)),()))))))))))) (
  r17_Check_l11 n f (s_,(end_,(i,(x,(s42,(s43,(s44,(s71,((IntKind.wrap .i64 (s72+1)),()))))))))))) (
  some (.inl (s_,(end_,(s42,(s43,(s44,()))))))):=by kernel_rfl
theorem state_Check_eq (n:Nat) (s:TState):state_Check (n+1) s =
  obind (state_open n s) fun r0 =>
  tif ((!(decide (r0.2=0)))) (
  some (2:Int)) (
  obind (state_view_clock n r0.1) fun r1 =>
  tif ((!r1)) (
  some (2:Int)) (
  obind (state_view_place n r0.1 (fun y2=>state_Check_1 n y2.1 r0.1)) fun r3 =>
  tif ((decide ((0:Int)≤r3))) (
  some (2:Int)) (
  some (0:Int)))):=by kernel_rfl
theorem l05_Small_eq (n:Nat) (l:(List (List UInt8×List UInt8))):l05_Small (n+1) l =
  obind (l05_Small_l2 n loopFuel (l,((((List.length l):Nat):Int),((0:Int),())))) fun r0 =>
  selim (fun y1 =>
  some (1:Int)) (fun z2 =>
  some z2) r0:=by kernel_rfl
theorem l05_Small_l2_eq (n f:Nat) (s5:(List (List UInt8×List UInt8))) (s6:Int) (s7:Int):l05_Small_l2 n (f+1) (s5,s6,s7,()) =
  tif ((decide (s7<s6))) (
  obind (at? s5 s7) fun r0 =>
  tif ((decide (s7=40))) (
  some (.inr (0:Int))) (
  tif ((decide ((1000:Int)<(((List.length r0.1):Nat):Int)))) (
  some (.inr (0:Int))) (
  tif ((decide ((1000:Int)<(((List.length r0.2):Nat):Int)))) (
  some (.inr (0:Int))) (
  l05_Small_l2 n f (s5,(s6,((IntKind.wrap .i64 (s7+1)),()))))))) (
  some (.inl ())):=by kernel_rfl
theorem query_Do_eq (n:Nat) (s:TState) (a:TAsk):query_Do (n+1) s a =
  obind (query_may n s a.1) fun r0 =>
  tif ((!(decide (r0=0)))) (
  some (((0:Int),(((0:Int),(((0:Int),((0:Int),((0:Int),false))),(((0:Int),((0:Int),((0:Int),false))),(((0:Int),(0:Int)),((0:Int),((0:Int),(0:Int))))))),((((0:Int),(0:Int)),((0:Int),(0:Int))),(0:Int)))),r0)) (
  obind (query_Tier n s a.2.1 a.2.2.1 a.2.2.2) fun r1 =>
  tif ((!(decide (r1.2=0)))) (
  some (((0:Int),(((0:Int),(((0:Int),((0:Int),((0:Int),false))),(((0:Int),((0:Int),((0:Int),false))),(((0:Int),(0:Int)),((0:Int),((0:Int),(0:Int))))))),((((0:Int),(0:Int)),((0:Int),(0:Int))),(0:Int)))),r1.2)) (
  obind (query_of n s a (IntKind.wrap .i64 (r1.1-1))) fun r2 =>
  tif ((!(decide (r2.2=0)))) (
  some (((0:Int),(((0:Int),(((0:Int),((0:Int),((0:Int),false))),(((0:Int),((0:Int),((0:Int),false))),(((0:Int),(0:Int)),((0:Int),((0:Int),(0:Int))))))),((((0:Int),(0:Int)),((0:Int),(0:Int))),(0:Int)))),r2.2)) (
  obind (query_Rate n r2.1) fun r3 =>
  some ((r1.1,(r2.1,r3)),(0:Int))))):=by kernel_rfl
theorem r22_Do_eq (n:Nat) (s:TState) (a:TAsk):r22_Do (n+1) s a =
  obind (r17_Check n s) fun r0 =>
  tif ((!(decide (r0=0)))) (
  some (((0:Int),(((0:Int),(((0:Int),((0:Int),((0:Int),false))),(((0:Int),((0:Int),((0:Int),false))),(((0:Int),(0:Int)),((0:Int),((0:Int),(0:Int))))))),((((0:Int),(0:Int)),((0:Int),(0:Int))),(0:Int)))),(2:Int))) (
  obind (r05_Check n a.1) fun r1 =>
  tif ((!(decide (r1=0)))) (
  some (((0:Int),(((0:Int),(((0:Int),((0:Int),((0:Int),false))),(((0:Int),((0:Int),((0:Int),false))),(((0:Int),(0:Int)),((0:Int),((0:Int),(0:Int))))))),((((0:Int),(0:Int)),((0:Int),(0:Int))),(0:Int)))),r1)) (
  obind (r22_Tier n s a.2.1 a.2.2.1 a.2.2.2) fun r2 =>
  tif ((!(decide (r2.2=0)))) (
  some (((0:Int),(((0:Int),(((0:Int),((0:Int),((0:Int),false))),(((0:Int),((0:Int),((0:Int),false))),(((0:Int),(0:Int)),((0:Int),((0:Int),(0:Int))))))),((((0:Int),(0:Int)),((0:Int),(0:Int))),(0:Int)))),r2.2)) (
  obind (r17_Find n s a.1) fun r3 =>
  tif ((decide (r3.2=0))) (
  tif ((decide ((IntKind.wrap .i64 (r2.1-1))=0))) (
  obind (r09_Span n a.2.2.1 a.2.2.2 s.1.2.1.1) fun r4 =>
  obind (at? s.2.2.2 r3.1) fun r5 =>
  obind (r15_Range n s.1 r5 (IntKind.wrap .i64 (r2.1-1)) r4.1 r4.2.1) fun r6 =>
  tif ((!(decide (r6.2=0)))) (
  some (((0:Int),(((0:Int),(((0:Int),((0:Int),((0:Int),false))),(((0:Int),((0:Int),((0:Int),false))),(((0:Int),(0:Int)),((0:Int),((0:Int),(0:Int))))))),((((0:Int),(0:Int)),((0:Int),(0:Int))),(0:Int)))),r6.2)) (
  obind (r22_Rate n r6.1) fun r7 =>
  some ((r2.1,(r6.1,r7)),(0:Int)))) (
  tif ((decide ((IntKind.wrap .i64 (r2.1-1))=1))) (
  obind (r09_Span n a.2.2.1 a.2.2.2 s.1.2.1.2.1) fun r8 =>
  obind (at? s.2.2.2 r3.1) fun r9 =>
  obind (r15_Range n s.1 r9 (IntKind.wrap .i64 (r2.1-1)) r8.1 r8.2.1) fun r10 =>
  tif ((!(decide (r10.2=0)))) (
  some (((0:Int),(((0:Int),(((0:Int),((0:Int),((0:Int),false))),(((0:Int),((0:Int),((0:Int),false))),(((0:Int),(0:Int)),((0:Int),((0:Int),(0:Int))))))),((((0:Int),(0:Int)),((0:Int),(0:Int))),(0:Int)))),r10.2)) (
  obind (r22_Rate n r10.1) fun r11 =>
  some ((r2.1,(r10.1,r11)),(0:Int)))) (
  tif ((decide ((IntKind.wrap .i64 (r2.1-1))=2))) (
  obind (r09_Span n a.2.2.1 a.2.2.2 s.1.2.1.2.2) fun r12 =>
  obind (at? s.2.2.2 r3.1) fun r13 =>
  obind (r15_Range n s.1 r13 (IntKind.wrap .i64 (r2.1-1)) r12.1 r12.2.1) fun r14 =>
  tif ((!(decide (r14.2=0)))) (
  some (((0:Int),(((0:Int),(((0:Int),((0:Int),((0:Int),false))),(((0:Int),((0:Int),((0:Int),false))),(((0:Int),(0:Int)),((0:Int),((0:Int),(0:Int))))))),((((0:Int),(0:Int)),((0:Int),(0:Int))),(0:Int)))),r14.2)) (
  obind (r22_Rate n r14.1) fun r15 =>
  some ((r2.1,(r14.1,r15)),(0:Int)))) (
  none)))) (
  obind (r22_Rate n ((0:Int),(((0:Int),((0:Int),((0:Int),false))),(((0:Int),((0:Int),((0:Int),false))),(((0:Int),(0:Int)),((0:Int),((0:Int),(0:Int)))))))) fun r16 =>
  some ((r2.1,(((0:Int),(((0:Int),((0:Int),((0:Int),false))),(((0:Int),((0:Int),((0:Int),false))),(((0:Int),(0:Int)),((0:Int),((0:Int),(0:Int))))))),r16)),(0:Int)))))):=by kernel_rfl
theorem query_Tier_eq (n:Nat) (s:TState) (tier:Int) (from_:Int) (to:Int):query_Tier (n+1) s tier from_ to =
  obind (state_Check n s) fun r0 =>
  tif ((!(decide (r0=0)))) (
  some ((0:Int),r0)) (
  tif ((decide (tier<0))) (
  some ((0:Int),(1:Int))) (
  tif ((decide ((3:Int)<tier))) (
  some ((0:Int),(1:Int))) (
  tif ((decide (tier=0))) (
  obind (query_whichever n s from_ to) fun r1 =>
  some r1) (
  obind (query_one n s tier from_ to) fun r2 =>
  tif ((!(decide (r2=0)))) (
  some ((0:Int),r2)) (
  some (tier,(0:Int))))))):=by kernel_rfl
theorem r22_Tier_eq (n:Nat) (s:TState) (tier:Int) (from_:Int) (to:Int):r22_Tier (n+1) s tier from_ to =
  obind (r17_Check n s) fun r0 =>
  tif ((!(decide (r0=0)))) (
  some ((0:Int),(2:Int))) (
  tif ((decide (tier<0))) (
  some ((0:Int),(1:Int))) (
  tif ((decide ((3:Int)<tier))) (
  some ((0:Int),(1:Int))) (
  tif ((decide ((0:Int)<tier))) (
  obind (r22_one n s tier from_ to) fun r1 =>
  tif ((!(decide (r1=0)))) (
  some ((0:Int),r1)) (
  some (tier,(0:Int)))) (
  obind (r22_Tier_l12 n loopFuel (from_,(to,(s,(false,((1:Int),())))))) fun r2 =>
  selim (fun y3 =>
  tif (y3.1) (
  some ((0:Int),(11:Int))) (
  some ((0:Int),(10:Int)))) (fun z4 =>
  some z4) r2)))):=by kernel_rfl
theorem r22_Tier_l12_eq (n f:Nat) (from_:Int) (to:Int) (s_:TState) (expired:Bool) (k:Int):r22_Tier_l12 n (f+1) (from_,to,s_,expired,k,()) =
  tif ((decide (k≤3))) (
  obind (r22_one n s_ k from_ to) fun r0 =>
  tif ((decide (r0=0))) (
  some (.inr (k,(0:Int)))) (
  tif ((decide (r0=1))) (
  some (.inr ((0:Int),r0))) (
  tif (expired) (
  r22_Tier_l12 n f (from_,(to,(s_,(true,((IntKind.wrap .i64 (k+1)),())))))) (
  r22_Tier_l12 n f (from_,(to,(s_,((decide (r0=11)),((IntKind.wrap .i64 (k+1)),()))))))))) (
  some (.inl (expired,()))):=by kernel_rfl
theorem query_Raw_eq (n:Nat) (s:TState) (l:(List (List UInt8×List UInt8))) (from_:Int) (to:Int):query_Raw (n+1) s l from_ to =
  obind (query_may n s l) fun r0 =>
  tif ((!(decide (r0=0)))) (
  some ([],r0)) (
  tif ((decide (from_<0))) (
  some ([],(1:Int))) (
  tif ((decide ((35184372088832:Int)<to))) (
  some ([],(1:Int))) (
  tif ((decide (to≤from_))) (
  some ([],(1:Int))) (
  obind (series_Dead n s.1 from_ s.2.1) fun r1 =>
  tif (r1) (
  some ([],(11:Int))) (
  obind (state_Find n s l) fun r2 =>
  tif ((!(decide (r2.2=0)))) (
  some ([],(0:Int))) (
  obind (at? s.2.2.2 r2.1) fun r3 =>
  obind (raw_Range n r3.2.2.1 from_ to) fun r4 =>
  some r4)))))):=by kernel_rfl
theorem r22_Raw_eq (n:Nat) (s:TState) (l:(List (List UInt8×List UInt8))) (from_:Int) (to:Int):r22_Raw (n+1) s l from_ to =
  obind (r17_Check n s) fun r0 =>
  tif ((!(decide (r0=0)))) (
  some ([],(2:Int))) (
  obind (r05_Check n l) fun r1 =>
  tif ((!(decide (r1=0)))) (
  some ([],r1)) (
  tif ((decide (from_<0))) (
  some ([],(1:Int))) (
  tif ((decide ((35184372088832:Int)<to))) (
  some ([],(1:Int))) (
  tif ((decide (to≤from_))) (
  some ([],(1:Int))) (
  obind (r15_Dead n s.1 from_ s.2.1) fun r2 =>
  tif (r2) (
  some ([],(11:Int))) (
  obind (r17_Find n s l) fun r3 =>
  tif ((!(decide (r3.2=0)))) (
  some ([],(0:Int))) (
  obind (at? s.2.2.2 r3.1) fun r4 =>
  obind (r12_Range n r4.2.2.1 from_ to) fun r5 =>
  some r5))))))):=by kernel_rfl
theorem query_Rate_eq (n:Nat) (c:TCell):query_Rate (n+1) c =
  tif ((decide (c.2.2.2.2.2.2<1))) (
  some ((((0:Int),(0:Int)),((0:Int),(0:Int))),(12:Int))) (
  obind (ratio_Rate n c.2.2.2.1 (IntKind.wrap .u64 c.2.2.2.2.2.2)) fun r0 =>
  some r0):=by kernel_rfl
theorem r22_Rate_eq (n:Nat) (c:TCell):r22_Rate (n+1) c =
  tif ((decide (c.2.2.2.2.2.2<1))) (
  some ((((0:Int),(0:Int)),((0:Int),(0:Int))),(12:Int))) (
  obind (r02_Rate n c.2.2.2.1 (IntKind.wrap .u64 c.2.2.2.2.2.2)) fun r0 =>
  some r0):=by kernel_rfl
theorem r12_SameList_eq (n:Nat) (a:(List TEvent)) (b:(List TEvent)):r12_SameList (n+1) a b =
  tif ((!(decide ((((List.length a):Nat):Int)=(((List.length b):Nat):Int))))) (
  some false) (
  obind (r12_SameList_l4 n loopFuel (a,(b,((((List.length a):Nat):Int),((0:Int),()))))) fun r0 =>
  selim (fun y1 =>
  some true) (fun z2 =>
  some z2) r0):=by kernel_rfl
theorem r12_SameList_l4_eq (n f:Nat) (a:(List TEvent)) (b:(List TEvent)) (s12:Int) (s13:Int):r12_SameList_l4 n (f+1) (a,b,s12,s13,()) =
  tif ((decide (s13<s12))) (
  obind (at? a s13) fun r0 =>
  obind (at? b s13) fun r1 =>
  tif ((!((decide (r0.1=r1.1))&&((decide (r0.2.1=r1.2.1))&&((decide (r0.2.2.1=r1.2.2.1))&&(r0.2.2.2==r1.2.2.2)))))) (
  some (.inr false)) (
  r12_SameList_l4 n f (a,(b,(s12,((IntKind.wrap .i64 (s13+1)),())))))) (
  some (.inl ())):=by kernel_rfl
theorem cell_Check_eq (n:Nat) (c:TCell):cell_Check (n+1) c =
  obind (cell_none n c) fun r0 =>
  tif (r0) (
  some (0:Int)) (
  obind (cell_spans n c) fun r1 =>
  tif ((!r1)) (
  some (2:Int)) (
  obind (wide_Of n (18446744073709551615:Int)) fun r2 =>
  obind (wide_Times n r2 (IntKind.wrap .u64 (IntKind.wrap .i64 (c.1-1)))) fun r3 =>
  tif ((!(decide (r3.2=0)))) (
  some (2:Int)) (
  obind (wide_Less n r3.1 c.2.2.2.1) fun r4 =>
  tif (r4) (
  some (2:Int)) (
  obind (cell_in n c.2.2.2.2.2.1 (IntKind.wrap .i64 (c.1-1))) fun r5 =>
  tif ((!r5)) (
  some (2:Int)) (
  obind (cell_in n c.2.2.2.2.1 (IntKind.wrap .i64 ((IntKind.wrap .i64 (c.1-1))-c.2.2.2.2.2.1))) fun r6 =>
  tif ((!r6)) (
  some (2:Int)) (
  obind (cell_in n c.2.2.2.2.2.2 (IntKind.wrap .i64 (c.2.2.1.1-c.2.1.1))) fun r7 =>
  tif ((!r7)) (
  some (2:Int)) (
  some (0:Int)))))))):=by kernel_rfl
theorem ratio_Rate_eq (n:Nat) (inc:(Int×Int)) (ms:Int):ratio_Rate (n+1) inc ms =
  tif ((decide (ms=0))) (
  some ((((0:Int),(0:Int)),((0:Int),(0:Int))),(12:Int))) (
  obind (wide_Times n inc (1000:Int)) fun r0 =>
  tif ((!(decide (r0.2=0)))) (
  some ((((0:Int),(0:Int)),((0:Int),(0:Int))),r0.2)) (
  obind (wide_Of n ms) fun r1 =>
  obind (ratio_Reduce n r0.1 r1) fun r2 =>
  some r2)):=by kernel_rfl
theorem cell_Merge_eq (n:Nat) (a:TCell) (b:TCell):cell_Merge (n+1) a b =
  obind (cell_Check n a) fun r0 =>
  tif ((!(decide (r0=0)))) (
  some (((0:Int),(((0:Int),((0:Int),((0:Int),false))),(((0:Int),((0:Int),((0:Int),false))),(((0:Int),(0:Int)),((0:Int),((0:Int),(0:Int))))))),(2:Int))) (
  obind (cell_Check n b) fun r1 =>
  tif ((!(decide (r1=0)))) (
  some (((0:Int),(((0:Int),((0:Int),((0:Int),false))),(((0:Int),((0:Int),((0:Int),false))),(((0:Int),(0:Int)),((0:Int),((0:Int),(0:Int))))))),(2:Int))) (
  obind (cell_none n a) fun r2 =>
  tif (r2) (
  some (b,(0:Int))) (
  obind (cell_none n b) fun r3 =>
  tif (r3) (
  some (a,(0:Int))) (
  obind (cell_join n a b) fun r4 =>
  some r4)))):=by kernel_rfl
theorem l15_Small_eq (n:Nat) (s:TSeries):l15_Small (n+1) s =
  obind (l05_Small n s.1) fun r0 =>
  tif ((decide (r0=0))) (
  some (0:Int)) (
  tif ((decide ((60:Int)<(((List.length s.2.2.1.2.2):Nat):Int)))) (
  some (0:Int)) (
  obind (l14_Small n s.2.2.2.1) fun r1 =>
  some r1)):=by kernel_rfl
theorem r13_All_eq (n:Nat) (l:(List TSlot)):r13_All (n+1) l =
  obind (r13_All_l3 n loopFuel ([],(l,((((List.length l):Nat):Int),((0:Int),()))))) fun r0 =>
  selim (fun y1 =>
  some y1.1) (fun z2 =>
  some z2) r0:=by kernel_rfl
theorem r13_All_l3_eq (n f:Nat) (out:(List TSlot)) (s8:(List TSlot)) (s9:Int) (s10:Int):r13_All_l3 n (f+1) (out,s8,s9,s10,()) =
  tif ((decide (s10<s9))) (
  obind (at? s8 s10) fun r0 =>
  tif (((decide (r0.1=0))&&((decide (r0.2.1=0))&&((decide (r0.2.2.1.1=0))&&((decide (r0.2.2.1.2.1=0))&&((decide (r0.2.2.1.2.2.1=0))&&((r0.2.2.1.2.2.2==false)&&((decide (r0.2.2.2.1.1=0))&&((decide (r0.2.2.2.1.2.1=0))&&((decide (r0.2.2.2.1.2.2.1=0))&&((r0.2.2.2.1.2.2.2==false)&&((decide (r0.2.2.2.2.1.1=0))&&((decide (r0.2.2.2.2.1.2=0))&&((decide (r0.2.2.2.2.2.1=0))&&((decide (r0.2.2.2.2.2.2.1=0))&&(decide (r0.2.2.2.2.2.2.2=0))))))))))))))))) (
  r13_All_l3 n f (out,(s8,(s9,((IntKind.wrap .i64 (s10+1)),()))))) (
  obind (r13_All_l7 n loopFuel (out,(r0,((((List.length out):Nat):Int),(s8,(s9,(s10,()))))))) fun r1 =>
  selim (fun y2 =>
  tif (((decide ((0:Int)≤y2.2.2.1))&&(decide (y2.2.2.1≤(((List.length y2.1):Nat):Int))))) (
  tif ((decide (((0+(List.length (List.take ((Int.toNat y2.2.2.1)-0) (List.drop 0 y2.1))))*120)≤140737488355328))) (
  tif ((decide ((((List.length ([]++(List.take ((Int.toNat y2.2.2.1)-0) (List.drop 0 y2.1))))+1)*120)≤140737488355328))) (
  tif ((decide ((0:Int)≤y2.2.2.1))) (
  tif ((decide ((Int.toNat y2.2.2.1)≤(List.length y2.1)))) (
  tif ((decide ((((List.length (([]++(List.take ((Int.toNat y2.2.2.1)-0) (List.drop 0 y2.1)))++(y2.2.1::[])))+(List.length (List.take ((List.length y2.1)-(Int.toNat y2.2.2.1)) (List.drop (Int.toNat y2.2.2.1) y2.1))))*120)≤140737488355328))) (
  r13_All_l3 n f (((([]++(List.take ((Int.toNat y2.2.2.1)-0) (List.drop 0 y2.1)))++(y2.2.1::[]))++(List.take ((List.length y2.1)-(Int.toNat y2.2.2.1)) (List.drop (Int.toNat y2.2.2.1) y2.1))),(y2.2.2.2.1,(y2.2.2.2.2.1,((IntKind.wrap .i64 (y2.2.2.2.2.2.1+1)),()))))) (
  none)) (
  none)) (
  none)) (
  none)) (
  none)) (
  none)) (fun z3 =>
  some (.inr z3)) r1)) (
  some (.inl (out,()))):=by kernel_rfl
theorem r13_All_l7_eq (n f:Nat) (out:(List TSlot)) (s:TSlot) (at_:Int) (s8:(List TSlot)) (s9:Int) (s10:Int):r13_All_l7 n (f+1) (out,s,at_,s8,s9,s10,()) =
  tif ((decide ((0:Int)<at_))) (
  obind (at? out (IntKind.wrap .i64 (at_-1))) fun r0 =>
  obind ((out)[(Int.toNat (IntKind.wrap .i64 (at_-1)))]?) fun r1 =>
  tif ((decide (s.1<r1.1))) (
  r13_All_l7 n f (out,(s,((IntKind.wrap .i64 (at_-1)),(s8,(s9,(s10,()))))))) (
  some (.inl (out,(s,(at_,(s8,(s9,(s10,()))))))))) (
  some (.inl (out,(s,(at_,(s8,(s9,(s10,())))))))):=by kernel_rfl
theorem r17_Empty_eq (n:Nat) (s:TSeries):r17_Empty (n+1) s =
  obind (r15_Same n s ([],((0:Int),(((0:Int),((0:Int),[])),(([],([],[])),((0:Int),((0:Int),(((0:Int),((0:Int),((0:Int),false))),(((0:Int),((0:Int),((0:Int),false))),(((0:Int),(0:Int)),((0:Int),((0:Int),(0:Int))))))))))))) fun r0 =>
  some r0:=by kernel_rfl
theorem r17_whole_eq (n:Nat) (s:TState):r17_whole (n+1) s =
  obind (r10_Check n s.1) fun r0 =>
  tif ((decide (r0=0))) (
  some (decide ((((List.length s.2.2.2):Nat):Int)=s.1.2.2.2.1))) (
  some false):=by kernel_rfl
theorem r17_lives_eq (n:Nat) (s:TState) (i:Int):r17_lives (n+1) s i =
  obind (at? s.2.2.2 i) fun r0 =>
  obind (r17_Empty n r0) fun r1 =>
  tif ((!r1)) (
  tif ((decide (s.2.2.1=((-1):Int)))) (
  some true) (
  obind (at? s.2.2.2 i) fun r2 =>
  obind (r15_Dead n s.1 r2.2.1 s.2.2.1) fun r3 =>
  some (!r3))) (
  some false):=by kernel_rfl
theorem r17_time_eq (n:Nat) (t:Int):r17_time (n+1) t =
  tif ((decide ((0:Int)≤t))) (
  some (decide (t<35184372088832))) (
  some false):=by kernel_rfl
theorem r17_Mark_eq (n:Nat) (s:TState):r17_Mark (n+1) s =
  obind (r17_whole n s) fun r0 =>
  tif ((!r0)) (
  some (0:Int)) (
  obind (r17_time n s.2.1) fun r1 =>
  tif ((!r1)) (
  some (0:Int)) (
  tif ((decide (s.1.2.1.1=0))) (
  none) (
  some (IntKind.wrap .i64 ((IntKind.wrap .i64 (Int.tdiv s.2.1 s.1.2.1.1))*s.1.2.1.1))))):=by kernel_rfl
theorem r15_Check_eq (n:Nat) (c:TConfig) (s:TSeries):r15_Check (n+1) c s =
  obind (r10_Check n c) fun r0 =>
  tif ((!(decide (r0=0)))) (
  some (2:Int)) (
  obind (r05_Check n s.1) fun r1 =>
  tif ((!(decide (r1=0)))) (
  some (2:Int)) (
  obind (r12_Check n s.2.2.1 c.1) fun r2 =>
  tif ((!(decide (r2=0)))) (
  some (2:Int)) (
  obind (r14_Check n c s.2.2.2.1) fun r3 =>
  tif ((!(decide (r3=0)))) (
  some (2:Int)) (
  tif ((decide (s.2.1=((-1):Int)))) (
  tif ((decide ((0:Int)<(((List.length s.2.2.1.2.2):Nat):Int)))) (
  some (2:Int)) (
  tif ((!((decide (s.2.2.2.2.1=0))&&((decide (s.2.2.2.2.2.1=0))&&((decide (s.2.2.2.2.2.2.1.1=0))&&((decide (s.2.2.2.2.2.2.1.2.1=0))&&((decide (s.2.2.2.2.2.2.1.2.2.1=0))&&((s.2.2.2.2.2.2.1.2.2.2==false)&&((decide (s.2.2.2.2.2.2.2.1.1=0))&&((decide (s.2.2.2.2.2.2.2.1.2.1=0))&&((decide (s.2.2.2.2.2.2.2.1.2.2.1=0))&&((s.2.2.2.2.2.2.2.1.2.2.2==false)&&((decide (s.2.2.2.2.2.2.2.2.1.1=0))&&((decide (s.2.2.2.2.2.2.2.2.1.2=0))&&((decide (s.2.2.2.2.2.2.2.2.2.1=0))&&((decide (s.2.2.2.2.2.2.2.2.2.2.1=0))&&(decide (s.2.2.2.2.2.2.2.2.2.2.2=0)))))))))))))))))) (
  some (2:Int)) (
  obind (r15_Check_l7 n loopFuel (s,((0:Int),()))) fun r4 =>
  selim (fun y5 =>
  some (0:Int)) (fun z6 =>
  some z6) r4))) (
  obind (r12_Last n s.2.2.1) fun r7 =>
  tif ((!(decide (r7.2=0)))) (
  some (2:Int)) (
  tif ((!(decide (r7.1.1=s.2.1)))) (
  some (2:Int)) (
  obind (r13_Fits n s.2.2.2.2.2 c.2.1.1 s.2.2.2.2.1) fun r8 =>
  tif ((!r8)) (
  some (2:Int)) (
  tif ((!(decide (s.2.2.2.2.2.2.2.1.1=s.2.1)))) (
  some (2:Int)) (
  obind (r15_Check_l16 n loopFuel (c,(s,((0:Int),())))) fun r9 =>
  selim (fun y10 =>
  some (0:Int)) (fun z11 =>
  some z11) r9))))))))):=by kernel_rfl
theorem r15_Check_l7_eq (n f:Nat) (s_:TSeries) (k:Int):r15_Check_l7 n (f+1) (s_,k,()) =
  tif ((decide (k<3))) (
  tif ((decide (k=0))) (
  obind (r13_All n s_.2.2.2.1.1) fun r0 =>
  tif ((decide ((0:Int)<(((List.length r0):Nat):Int)))) (
  some (.inr (2:Int))) (
  r15_Check_l7 n f (s_,((IntKind.wrap .i64 (k+1)),())))) (
  tif ((decide (k=1))) (
  obind (r13_All n s_.2.2.2.1.2.1) fun r1 =>
  tif ((decide ((0:Int)<(((List.length r1):Nat):Int)))) (
  some (.inr (2:Int))) (
  r15_Check_l7 n f (s_,((IntKind.wrap .i64 (k+1)),())))) (
  tif ((decide (k=2))) (
  obind (r13_All n s_.2.2.2.1.2.2) fun r2 =>
  tif ((decide ((0:Int)<(((List.length r2):Nat):Int)))) (
  some (.inr (2:Int))) (
  r15_Check_l7 n f (s_,((IntKind.wrap .i64 (k+1)),())))) (
  none)))) (
  some (.inl ())):=by kernel_rfl
theorem r15_Check_l16_eq (n f:Nat) (c_:TConfig) (s_:TSeries) (k_:Int):r15_Check_l16 n (f+1) (c_,s_,k_,()) =
  tif ((decide (k_<3))) (
  tif ((decide (k_=0))) (
  obind (r13_All n s_.2.2.2.1.1) fun r0 =>
  obind (r15_Check_l19 n loopFuel (c_,(s_,(k_,(r0,((((List.length r0):Nat):Int),((0:Int),()))))))) fun r1 =>
  selim (fun y2 =>
  r15_Check_l16 n f (y2.1,(y2.2.1,((IntKind.wrap .i64 (y2.2.2.1+1)),())))) (fun z3 =>
  some (.inr z3)) r1) (
  tif ((decide (k_=1))) (
  obind (r13_All n s_.2.2.2.1.2.1) fun r4 =>
  obind (r15_Check_l19 n loopFuel (c_,(s_,(k_,(r4,((((List.length r4):Nat):Int),((0:Int),()))))))) fun r5 =>
  selim (fun y6 =>
  r15_Check_l16 n f (y6.1,(y6.2.1,((IntKind.wrap .i64 (y6.2.2.1+1)),())))) (fun z7 =>
  some (.inr z7)) r5) (
  tif ((decide (k_=2))) (
  obind (r13_All n s_.2.2.2.1.2.2) fun r8 =>
  obind (r15_Check_l19 n loopFuel (c_,(s_,(k_,(r8,((((List.length r8):Nat):Int),((0:Int),()))))))) fun r9 =>
  selim (fun y10 =>
  r15_Check_l16 n f (y10.1,(y10.2.1,((IntKind.wrap .i64 (y10.2.2.1+1)),())))) (fun z11 =>
  some (.inr z11)) r9) (
  none)))) (
  some (.inl ())):=by kernel_rfl
theorem r15_Check_l19_eq (n f:Nat) (c_:TConfig) (s_:TSeries) (k_:Int) (s106:(List TSlot)) (s107:Int) (s108:Int):r15_Check_l19 n (f+1) (c_,s_,k_,s106,s107,s108,()) =
  tif ((decide (s108<s107))) (
  obind (at? s106 s108) fun r0 =>
  tif ((decide (k_=0))) (
  tif ((decide (c_.2.1.1=0))) (
  none) (
  tif ((decide ((IntKind.wrap .i64 (Int.tdiv s_.2.1 c_.2.1.1))≤r0.1))) (
  some (.inr (2:Int))) (
  r15_Check_l19 n f (c_,(s_,(k_,(s106,(s107,((IntKind.wrap .i64 (s108+1)),()))))))))) (
  tif ((decide (k_=1))) (
  tif ((decide (c_.2.1.2.1=0))) (
  none) (
  tif ((decide ((IntKind.wrap .i64 (Int.tdiv s_.2.1 c_.2.1.2.1))≤r0.1))) (
  some (.inr (2:Int))) (
  r15_Check_l19 n f (c_,(s_,(k_,(s106,(s107,((IntKind.wrap .i64 (s108+1)),()))))))))) (
  tif ((decide (k_=2))) (
  tif ((decide (c_.2.1.2.2=0))) (
  none) (
  tif ((decide ((IntKind.wrap .i64 (Int.tdiv s_.2.1 c_.2.1.2.2))≤r0.1))) (
  some (.inr (2:Int))) (
  r15_Check_l19 n f (c_,(s_,(k_,(s106,(s107,((IntKind.wrap .i64 (s108+1)),()))))))))) (
  none)))) (
  some (.inl (c_,(s_,(k_,()))))):=by kernel_rfl
theorem r05_Same_eq (n:Nat) (a:(List (List UInt8×List UInt8))) (b:(List (List UInt8×List UInt8))):r05_Same (n+1) a b =
  tif ((!(decide ((((List.length a):Nat):Int)=(((List.length b):Nat):Int))))) (
  some false) (
  obind (r05_Same_l4 n loopFuel (a,(b,((((List.length a):Nat):Int),((0:Int),()))))) fun r0 =>
  selim (fun y1 =>
  some true) (fun z2 =>
  some z2) r0):=by kernel_rfl
theorem r05_Same_l4_eq (n f:Nat) (a:(List (List UInt8×List UInt8))) (b:(List (List UInt8×List UInt8))) (s12:Int) (s13:Int):r05_Same_l4 n (f+1) (a,b,s12,s13,()) =
  tif ((decide (s13<s12))) (
  obind (at? a s13) fun r0 =>
  obind (at? b s13) fun r1 =>
  tif ((!((r0.1==r1.1)&&(r0.2==r1.2)))) (
  some (.inr false)) (
  r05_Same_l4 n f (a,(b,(s12,((IntKind.wrap .i64 (s13+1)),())))))) (
  some (.inl ())):=by kernel_rfl
theorem state_open_eq (n:Nat) (s:TState):state_open (n+1) s =
  obind (conf_Check n s.1) fun r0 =>
  tif ((!(decide (r0=0)))) (
  some ((((0:Int),(((0:Int),((0:Int),(0:Int))),(((0:Int),((0:Int),(0:Int))),((0:Int),(0:Int))))),((0:Int),((0:Int),[]))),(2:Int))) (
  tif ((!(decide ((((List.length s.2.2.2):Nat):Int)=s.1.2.2.2.1)))) (
  some ((((0:Int),(((0:Int),((0:Int),(0:Int))),(((0:Int),((0:Int),(0:Int))),((0:Int),(0:Int))))),((0:Int),((0:Int),[]))),(2:Int))) (
  some (s,(0:Int)))):=by kernel_rfl
theorem state_view_clock_eq (n:Nat) (v:TState):state_view_clock (n+1) v =
  obind (state_time n v.2.1) fun r0 =>
  tif (r0) (
  tif ((decide (v.2.2.1=((-1):Int)))) (
  some (decide (v.2.2.1≤v.2.1))) (
  obind (state_time n v.2.2.1) fun r1 =>
  tif (r1) (
  some (decide (v.2.2.1≤v.2.1))) (
  some false))) (
  some false):=by kernel_rfl
theorem state_view_place_eq (n:Nat) (v:TState) (is:((Int×Unit)→Option Bool)):state_view_place (n+1) v is =
  obind (state_view_place_l2 n loopFuel (is,((((List.length v.2.2.2):Nat):Int),((0:Int),())))) fun r0 =>
  selim (fun y1 =>
  some ((-1):Int)) (fun z2 =>
  some z2) r0:=by kernel_rfl
theorem state_view_place_l2_eq (n f:Nat) (is:((Int×Unit)→Option Bool)) (s9:Int) (s10:Int):state_view_place_l2 n (f+1) (is,s9,s10,()) =
  tif ((decide (s10<s9))) (
  obind (is (s10,())) fun r0 =>
  tif (r0) (
  some (.inr s10)) (
  state_view_place_l2 n f (is,(s9,((IntKind.wrap .i64 (s10+1)),()))))) (
  some (.inl ())):=by kernel_rfl
theorem state_Check_1_eq (n:Nat) (i:Int) (p1:TState):state_Check_1 (n+1) i p1 =
  obind (state_view_right n p1 i) fun r0 =>
  some (!r0):=by kernel_rfl
theorem state_view_right_eq (n:Nat) (v:TState) (i:Int):state_view_right (n+1) v i =
  obind (at? v.2.2.2 i) fun r0 =>
  obind (state_empty n r0) fun r1 =>
  tif (r1) (
  some true) (
  obind (series_Check n v.1 r0) fun r2 =>
  tif ((decide (r2=0))) (
  tif ((decide ((0:Int)≤r0.2.1))) (
  obind (state_view_mark n v) fun r3 =>
  tif ((decide (r0.2.1<(IntKind.wrap .i64 (r3+v.1.2.1.1))))) (
  obind (state_view_twin n v i) fun r4 =>
  some (!r4)) (
  some false)) (
  some false)) (
  some false)):=by kernel_rfl
theorem window_Oldest_eq (n:Nat) (now:Int) (w:Int) (n_:Int):window_Oldest (n+1) now w n_ =
  obind (window_Of n now w) fun r0 =>
  tif ((!(decide (r0.2=0)))) (
  some ((0:Int),(1:Int))) (
  obind (window_in_int n n_ (1:Int) (4096:Int)) fun r1 =>
  tif ((!r1)) (
  some ((0:Int),(1:Int))) (
  some ((if (0:Int)<(IntKind.wrap .i64 ((IntKind.wrap .i64 (r0.1+1))-n_)) then (IntKind.wrap .i64 ((IntKind.wrap .i64 (r0.1+1))-n_)) else (0:Int)),(0:Int)))):=by kernel_rfl
theorem query_may_eq (n:Nat) (s:TState) (l:(List (List UInt8×List UInt8))):query_may (n+1) s l =
  obind (state_Check n s) fun r0 =>
  tif ((!(decide (r0=0)))) (
  some r0) (
  obind (label_Check n l) fun r1 =>
  some r1):=by kernel_rfl
theorem query_of_eq (n:Nat) (s:TState) (a:TAsk) (k:Int):query_of (n+1) s a k =
  obind (state_Find n s a.1) fun r0 =>
  tif ((!(decide (r0.2=0)))) (
  some (((0:Int),(((0:Int),((0:Int),((0:Int),false))),(((0:Int),((0:Int),((0:Int),false))),(((0:Int),(0:Int)),((0:Int),((0:Int),(0:Int))))))),(0:Int))) (
  tif ((decide (k=0))) (
  obind (window_Span n a.2.2.1 a.2.2.2 s.1.2.1.1) fun r1 =>
  tif ((!(decide (r1.2.2=0)))) (
  some (((0:Int),(((0:Int),((0:Int),((0:Int),false))),(((0:Int),((0:Int),((0:Int),false))),(((0:Int),(0:Int)),((0:Int),((0:Int),(0:Int))))))),r1.2.2)) (
  obind (at? s.2.2.2 r0.1) fun r2 =>
  obind (series_Range n s.1 r2 k r1.1 r1.2.1) fun r3 =>
  some r3)) (
  tif ((decide (k=1))) (
  obind (window_Span n a.2.2.1 a.2.2.2 s.1.2.1.2.1) fun r4 =>
  tif ((!(decide (r4.2.2=0)))) (
  some (((0:Int),(((0:Int),((0:Int),((0:Int),false))),(((0:Int),((0:Int),((0:Int),false))),(((0:Int),(0:Int)),((0:Int),((0:Int),(0:Int))))))),r4.2.2)) (
  obind (at? s.2.2.2 r0.1) fun r5 =>
  obind (series_Range n s.1 r5 k r4.1 r4.2.1) fun r6 =>
  some r6)) (
  tif ((decide (k=2))) (
  obind (window_Span n a.2.2.1 a.2.2.2 s.1.2.1.2.2) fun r7 =>
  tif ((!(decide (r7.2.2=0)))) (
  some (((0:Int),(((0:Int),((0:Int),((0:Int),false))),(((0:Int),((0:Int),((0:Int),false))),(((0:Int),(0:Int)),((0:Int),((0:Int),(0:Int))))))),r7.2.2)) (
  obind (at? s.2.2.2 r0.1) fun r8 =>
  obind (series_Range n s.1 r8 k r7.1 r7.2.1) fun r9 =>
  some r9)) (
  none)))):=by kernel_rfl
theorem r05_Check_eq (n:Nat) (l:(List (List UInt8×List UInt8))):r05_Check (n+1) l =
  tif ((decide ((((List.length l):Nat):Int)<1))) (
  some (8:Int)) (
  tif ((decide ((16:Int)<(((List.length l):Nat):Int)))) (
  some (8:Int)) (
  obind (r05_Check_l5 n loopFuel (l,((0:Int),(l,((((List.length l):Nat):Int),((0:Int),())))))) fun r0 =>
  selim (fun y1 =>
  tif ((decide ((256:Int)<y1.1))) (
  some (8:Int)) (
  some (0:Int))) (fun z2 =>
  some z2) r0)):=by kernel_rfl
theorem r05_Check_l5_eq (n f:Nat) (l:(List (List UInt8×List UInt8))) (all:Int) (s14:(List (List UInt8×List UInt8))) (s15:Int) (s16:Int):r05_Check_l5 n (f+1) (l,all,s14,s15,s16,()) =
  tif ((decide (s16<s15))) (
  obind (at? s14 s16) fun r0 =>
  obind (r05_name n r0.1) fun r1 =>
  tif ((!r1)) (
  some (.inr (8:Int))) (
  tif ((decide ((128:Int)<(((List.length r0.2):Nat):Int)))) (
  some (.inr (8:Int))) (
  tif ((decide ((0:Int)<s16))) (
  obind (at? l (IntKind.wrap .i64 (s16-1))) fun r2 =>
  tif ((!(Go.Op.bytesLess r2.1 r0.1))) (
  some (.inr (8:Int))) (
  r05_Check_l5 n f (l,((IntKind.wrap .i64 (all+(IntKind.wrap .i64 ((((List.length r0.1):Nat):Int)+(((List.length r0.2):Nat):Int))))),(s14,(s15,((IntKind.wrap .i64 (s16+1)),()))))))) (
  r05_Check_l5 n f (l,((IntKind.wrap .i64 (all+(IntKind.wrap .i64 ((((List.length r0.1):Nat):Int)+(((List.length r0.2):Nat):Int))))),(s14,(s15,((IntKind.wrap .i64 (s16+1)),()))))))))) (
  some (.inl (all,()))):=by kernel_rfl
theorem r17_Find_eq (n:Nat) (s:TState) (l:(List (List UInt8×List UInt8))):r17_Find (n+1) s l =
  obind (r17_whole n s) fun r0 =>
  tif ((!r0)) (
  some ((0:Int),(2:Int))) (
  obind (r17_Find_l4 n loopFuel (l,(s,(s.2.2.2,((((List.length s.2.2.2):Nat):Int),((0:Int),())))))) fun r1 =>
  selim (fun y2 =>
  some ((0:Int),(3:Int))) (fun z3 =>
  some z3) r1):=by kernel_rfl
theorem r17_Find_l4_eq (n f:Nat) (l:(List (List UInt8×List UInt8))) (s_:TState) (s12:(List TSeries)) (s13:Int) (s14:Int):r17_Find_l4 n (f+1) (l,s_,s12,s13,s14,()) =
  tif ((decide (s14<s13))) (
  obind (at? s12 s14) fun r0 =>
  obind (r17_lives n s_ s14) fun r1 =>
  tif (r1) (
  obind (r05_Same n r0.1 l) fun r2 =>
  tif (r2) (
  some (.inr (s14,(0:Int)))) (
  r17_Find_l4 n f (l,(s_,(s12,(s13,((IntKind.wrap .i64 (s14+1)),()))))))) (
  r17_Find_l4 n f (l,(s_,(s12,(s13,((IntKind.wrap .i64 (s14+1)),()))))))) (
  some (.inl ())):=by kernel_rfl
theorem r09_Span_eq (n:Nat) (a:Int) (b:Int) (w:Int):r09_Span (n+1) a b w =
  obind (r09_width n w) fun r0 =>
  tif ((!r0)) (
  some ((0:Int),((0:Int),(1:Int)))) (
  tif ((decide (a<0))) (
  some ((0:Int),((0:Int),(1:Int)))) (
  tif ((decide ((35184372088832:Int)<b))) (
  some ((0:Int),((0:Int),(1:Int)))) (
  tif ((decide (b≤a))) (
  some ((0:Int),((0:Int),(1:Int)))) (
  tif ((decide (w=0))) (
  none) (
  tif ((!(decide ((Int.tmod a w)=0)))) (
  some ((0:Int),((0:Int),(10:Int)))) (
  tif ((decide (w=0))) (
  none) (
  tif ((!(decide ((Int.tmod b w)=0)))) (
  some ((0:Int),((0:Int),(10:Int)))) (
  tif ((decide (w=0))) (
  none) (
  tif ((decide (w=0))) (
  none) (
  some ((IntKind.wrap .i64 (Int.tdiv a w)),((IntKind.wrap .i64 (Int.tdiv b w)),(0:Int))))))))))))):=by kernel_rfl
theorem r15_Range_eq_0 (n:Nat) (c:TConfig) (s:TSeries) (i:Int) (j:Int):r15_Range (n+1) c s (0:Int) i j =
  obind (r15_Check n c s) fun r0 =>
  tif ((!(decide (r0=0)))) (
  some (((0:Int),(((0:Int),((0:Int),((0:Int),false))),(((0:Int),((0:Int),((0:Int),false))),(((0:Int),(0:Int)),((0:Int),((0:Int),(0:Int))))))),(2:Int))) (
  tif ((decide (i<0))) (
  some (((0:Int),(((0:Int),((0:Int),((0:Int),false))),(((0:Int),((0:Int),((0:Int),false))),(((0:Int),(0:Int)),((0:Int),((0:Int),(0:Int))))))),(1:Int))) (
  tif ((decide (j<i))) (
  some (((0:Int),(((0:Int),((0:Int),((0:Int),false))),(((0:Int),((0:Int),((0:Int),false))),(((0:Int),(0:Int)),((0:Int),((0:Int),(0:Int))))))),(1:Int))) (
  tif ((decide (s.2.1=((-1):Int)))) (
  some (((0:Int),(((0:Int),((0:Int),((0:Int),false))),(((0:Int),((0:Int),((0:Int),false))),(((0:Int),(0:Int)),((0:Int),((0:Int),(0:Int))))))),(0:Int))) (
  tif ((decide (c.2.1.1=0))) (
  none) (
  obind (r13_Fold n s.2.2.2.1.1 i (if i<(if (IntKind.wrap .i64 (Int.tdiv s.2.1 c.2.1.1))<j then (IntKind.wrap .i64 (Int.tdiv s.2.1 c.2.1.1)) else j) then (if (IntKind.wrap .i64 (Int.tdiv s.2.1 c.2.1.1))<j then (IntKind.wrap .i64 (Int.tdiv s.2.1 c.2.1.1)) else j) else i)) fun r1 =>
  tif ((!(decide (r1.2=0)))) (
  some r1) (
  tif ((decide ((IntKind.wrap .i64 (Int.tdiv s.2.1 c.2.1.1))<i))) (
  some r1) (
  tif ((decide (j≤(IntKind.wrap .i64 (Int.tdiv s.2.1 c.2.1.1))))) (
  some r1) (
  obind (r15_one n c s (0:Int) (IntKind.wrap .i64 (Int.tdiv s.2.1 c.2.1.1))) fun r2 =>
  tif ((!(decide (r2.2=0)))) (
  some (((0:Int),(((0:Int),((0:Int),((0:Int),false))),(((0:Int),((0:Int),((0:Int),false))),(((0:Int),(0:Int)),((0:Int),((0:Int),(0:Int))))))),r2.2)) (
  obind (r08_Merge n r1.1 r2.1) fun r3 =>
  some r3))))))))):=by kernel_rfl
theorem r15_Range_eq_1 (n:Nat) (c:TConfig) (s:TSeries) (i:Int) (j:Int):r15_Range (n+1) c s (1:Int) i j =
  obind (r15_Check n c s) fun r0 =>
  tif ((!(decide (r0=0)))) (
  some (((0:Int),(((0:Int),((0:Int),((0:Int),false))),(((0:Int),((0:Int),((0:Int),false))),(((0:Int),(0:Int)),((0:Int),((0:Int),(0:Int))))))),(2:Int))) (
  tif ((decide (i<0))) (
  some (((0:Int),(((0:Int),((0:Int),((0:Int),false))),(((0:Int),((0:Int),((0:Int),false))),(((0:Int),(0:Int)),((0:Int),((0:Int),(0:Int))))))),(1:Int))) (
  tif ((decide (j<i))) (
  some (((0:Int),(((0:Int),((0:Int),((0:Int),false))),(((0:Int),((0:Int),((0:Int),false))),(((0:Int),(0:Int)),((0:Int),((0:Int),(0:Int))))))),(1:Int))) (
  tif ((decide (s.2.1=((-1):Int)))) (
  some (((0:Int),(((0:Int),((0:Int),((0:Int),false))),(((0:Int),((0:Int),((0:Int),false))),(((0:Int),(0:Int)),((0:Int),((0:Int),(0:Int))))))),(0:Int))) (
  tif ((decide (c.2.1.2.1=0))) (
  none) (
  obind (r13_Fold n s.2.2.2.1.2.1 i (if i<(if (IntKind.wrap .i64 (Int.tdiv s.2.1 c.2.1.2.1))<j then (IntKind.wrap .i64 (Int.tdiv s.2.1 c.2.1.2.1)) else j) then (if (IntKind.wrap .i64 (Int.tdiv s.2.1 c.2.1.2.1))<j then (IntKind.wrap .i64 (Int.tdiv s.2.1 c.2.1.2.1)) else j) else i)) fun r1 =>
  tif ((!(decide (r1.2=0)))) (
  some r1) (
  tif ((decide ((IntKind.wrap .i64 (Int.tdiv s.2.1 c.2.1.2.1))<i))) (
  some r1) (
  tif ((decide (j≤(IntKind.wrap .i64 (Int.tdiv s.2.1 c.2.1.2.1))))) (
  some r1) (
  obind (r15_one n c s (1:Int) (IntKind.wrap .i64 (Int.tdiv s.2.1 c.2.1.2.1))) fun r2 =>
  tif ((!(decide (r2.2=0)))) (
  some (((0:Int),(((0:Int),((0:Int),((0:Int),false))),(((0:Int),((0:Int),((0:Int),false))),(((0:Int),(0:Int)),((0:Int),((0:Int),(0:Int))))))),r2.2)) (
  obind (r08_Merge n r1.1 r2.1) fun r3 =>
  some r3))))))))):=by kernel_rfl
theorem r15_Range_eq_2 (n:Nat) (c:TConfig) (s:TSeries) (i:Int) (j:Int):r15_Range (n+1) c s (2:Int) i j =
  obind (r15_Check n c s) fun r0 =>
  tif ((!(decide (r0=0)))) (
  some (((0:Int),(((0:Int),((0:Int),((0:Int),false))),(((0:Int),((0:Int),((0:Int),false))),(((0:Int),(0:Int)),((0:Int),((0:Int),(0:Int))))))),(2:Int))) (
  tif ((decide (i<0))) (
  some (((0:Int),(((0:Int),((0:Int),((0:Int),false))),(((0:Int),((0:Int),((0:Int),false))),(((0:Int),(0:Int)),((0:Int),((0:Int),(0:Int))))))),(1:Int))) (
  tif ((decide (j<i))) (
  some (((0:Int),(((0:Int),((0:Int),((0:Int),false))),(((0:Int),((0:Int),((0:Int),false))),(((0:Int),(0:Int)),((0:Int),((0:Int),(0:Int))))))),(1:Int))) (
  tif ((decide (s.2.1=((-1):Int)))) (
  some (((0:Int),(((0:Int),((0:Int),((0:Int),false))),(((0:Int),((0:Int),((0:Int),false))),(((0:Int),(0:Int)),((0:Int),((0:Int),(0:Int))))))),(0:Int))) (
  tif ((decide (c.2.1.2.2=0))) (
  none) (
  obind (r13_Fold n s.2.2.2.1.2.2 i (if i<(if (IntKind.wrap .i64 (Int.tdiv s.2.1 c.2.1.2.2))<j then (IntKind.wrap .i64 (Int.tdiv s.2.1 c.2.1.2.2)) else j) then (if (IntKind.wrap .i64 (Int.tdiv s.2.1 c.2.1.2.2))<j then (IntKind.wrap .i64 (Int.tdiv s.2.1 c.2.1.2.2)) else j) else i)) fun r1 =>
  tif ((!(decide (r1.2=0)))) (
  some r1) (
  tif ((decide ((IntKind.wrap .i64 (Int.tdiv s.2.1 c.2.1.2.2))<i))) (
  some r1) (
  tif ((decide (j≤(IntKind.wrap .i64 (Int.tdiv s.2.1 c.2.1.2.2))))) (
  some r1) (
  obind (r15_one n c s (2:Int) (IntKind.wrap .i64 (Int.tdiv s.2.1 c.2.1.2.2))) fun r2 =>
  tif ((!(decide (r2.2=0)))) (
  some (((0:Int),(((0:Int),((0:Int),((0:Int),false))),(((0:Int),((0:Int),((0:Int),false))),(((0:Int),(0:Int)),((0:Int),((0:Int),(0:Int))))))),r2.2)) (
  obind (r08_Merge n r1.1 r2.1) fun r3 =>
  some r3))))))))):=by kernel_rfl
end Go.Proofs.YtjeabebacegikaaGreatDoor
