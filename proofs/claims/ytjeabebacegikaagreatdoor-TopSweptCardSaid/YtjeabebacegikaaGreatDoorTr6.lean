/- Trees, printed by program. -/
import Derived.Test.YtjeabebacegikaaGreatDoorTr0
import Derived.KernelRfl
set_option linter.unusedVariables false
namespace Go.Proofs.YtjeabebacegikaaGreatDoor
open Go.Flat
theorem sl_Equal_Event_eq (n:Nat) (s1:(List TEvent)) (s2:(List TEvent)):sl_Equal_Event (n+1) s1 s2 =
 tif ((!(decide ((((List.length s1):Nat):Int)=(((List.length s2):Nat):Int))))) (
 some false) (
 obind (sl_Equal_Event_l4 n loopFuel (s1,(s2,((((List.length s1):Nat):Int),((0:Int),()))))) fun r0 =>
 selim (fun y1 =>
 some true) (fun z2 =>
 some z2) r0):=by kernel_rfl
theorem sl_Equal_Event_l4_eq (n f:Nat) (s1:(List TEvent)) (s2:(List TEvent)) (s12:Int) (s13:Int):sl_Equal_Event_l4 n (f+1) (s1,s2,s12,s13,()) =
 tif ((decide (s13<s12))) (
 obind (at? s1 s13) fun r0 =>
 obind (at? s2 s13) fun r1 =>
 tif ((!((decide (r0.1=r1.1))&&((decide (r0.2.1=r1.2.1))&&((decide (r0.2.2.1=r1.2.2.1))&&(r0.2.2.2==r1.2.2.2)))))) (
 some (.inr false)) (
 sl_Equal_Event_l4 n f (s1,(s2,(s12,((IntKind.wrap .i64 (s13+1)),())))))) (
 some (.inl ())):=by kernel_rfl
theorem sl_IndexFunc_byte_eq (n:Nat) (s:(List Int)) (f_:((Int×Unit)→Option Bool)):sl_IndexFunc_byte (n+1) s f_ =
 obind (sl_IndexFunc_byte_l2 n loopFuel (s,(f_,((((List.length s):Nat):Int),((0:Int),()))))) fun r0 =>
 selim (fun y1 =>
 some ((-1):Int)) (fun z2 =>
 some z2) r0:=by kernel_rfl
theorem sl_IndexFunc_byte_l2_eq (n f:Nat) (s:(List Int)) (f_:((Int×Unit)→Option Bool)) (s7:Int) (s8:Int):sl_IndexFunc_byte_l2 n (f+1) (s,f_,s7,s8,()) =
 tif ((decide (s8<s7))) (
 obind (at? s s8) fun r0 =>
 obind (f_ (r0,())) fun r1 =>
 tif (r1) (
 some (.inr s8)) (
 sl_IndexFunc_byte_l2 n f (s,(f_,(s7,((IntKind.wrap .i64 (s8+1)),())))))) (
 some (.inl ())):=by kernel_rfl
theorem cell_All_eq (n:Nat) (l:(List TCell)):cell_All (n+1) l =
 obind (cell_All_l3 n loopFuel (((0:Int),(((0:Int),((0:Int),((0:Int),false))),(((0:Int),((0:Int),((0:Int),false))),(((0:Int),(0:Int)),((0:Int),((0:Int),(0:Int))))))),(((0:Int),(((0:Int),((0:Int),((0:Int),false))),(((0:Int),((0:Int),((0:Int),false))),(((0:Int),(0:Int)),((0:Int),((0:Int),(0:Int))))))),(l,((((List.length l):Nat):Int),((0:Int),())))))) fun r0 =>
 selim (fun y1 =>
 some (y1.2.1,(0:Int))) (fun z2 =>
 some z2) r0:=by kernel_rfl
theorem cell_All_l3_eq (n f:Nat) (s2:TCell) (c:TCell) (s9:(List TCell)) (s10:Int) (s11:Int):cell_All_l3 n (f+1) (s2,c,s9,s10,s11,()) =
 tif ((decide (s11<s10))) (
 obind (at? s9 s11) fun r0 =>
 obind (cell_Merge n c r0) fun r1 =>
 tif ((!(decide (r1.2=0)))) (
 some (.inr (((0:Int),(((0:Int),((0:Int),((0:Int),false))),(((0:Int),((0:Int),((0:Int),false))),(((0:Int),(0:Int)),((0:Int),((0:Int),(0:Int))))))),r1.2))) (
 cell_All_l3 n f (s2,(r1.1,(s9,(s10,((IntKind.wrap .i64 (s11+1)),()))))))) (
 some (.inl (s2,(c,())))):=by kernel_rfl
theorem tier_Check_eq (n:Nat) (l:(List TSlot)) (w:Int):tier_Check (n+1) l w =
 tif ((decide ((((List.length l):Nat):Int)=0))) (
 some (2:Int)) (
 tif ((decide ((4096:Int)<(((List.length l):Nat):Int)))) (
 some (2:Int)) (
 tif ((decide (w<1))) (
 some (2:Int)) (
 tif ((decide ((1099511627776:Int)<w))) (
 some (2:Int)) (
 obind (tier_Check_l4 n loopFuel (l,(w,(l,((((List.length l):Nat):Int),((0:Int),())))))) fun r0 =>
 selim (fun y1 =>
 some (0:Int)) (fun z2 =>
 some z2) r0)))):=by kernel_rfl
theorem tier_Check_l4_eq (n f:Nat) (l:(List TSlot)) (w:Int) (s23:(List TSlot)) (s24:Int) (s25:Int):tier_Check_l4 n (f+1) (l,w,s23,s24,s25,()) =
 tif ((decide (s25<s24))) (
 obind (at? s23 s25) fun r0 =>
 obind (tier_none n r0) fun r1 =>
 tif ((!r1)) (
 obind (wi_Slot n r0.1 (((List.length l):Nat):Int)) fun r2 =>
 tif ((!(decide (r2=s25)))) (
 some (.inr (2:Int))) (
 obind (tier_Fits n r0.2 w r0.1) fun r3 =>
 tif ((!r3)) (
 some (.inr (2:Int))) (
 tier_Check_l4 n f (l,(w,(s23,(s24,((IntKind.wrap .i64 (s25+1)),())))))))) (
 tier_Check_l4 n f (l,(w,(s23,(s24,((IntKind.wrap .i64 (s25+1)),()))))))) (
 some (.inl ())):=by kernel_rfl
theorem sl_ContainsFunc_Slot_eq (n:Nat) (s:(List TSlot)) (f_:((TSlot×Unit)→Option Bool)):sl_ContainsFunc_Slot (n+1) s f_ =
 obind (sl_IndexFunc_Slot n s f_) fun r0 =>
 some (decide ((0:Int)≤r0)):=by kernel_rfl
theorem series_behind_1_eq (n:Nat) (s:TSlot) (p1:Int):series_behind_1 (n+1) s p1 =
 tif ((decide ((0:Int)<s.2.1))) (
 some (decide (p1≤s.1))) (
 some false):=by kernel_rfl
theorem tier_Put_eq (n:Nat) (l:(List TSlot)) (w:Int) (i:Int) (c:TCell):tier_Put (n+1) l w i c =
 obind (tier_Check n l w) fun r0 =>
 tif ((!(decide (r0=0)))) (
 some ([],(2:Int))) (
 obind (tier_Fits n c w i) fun r1 =>
 tif ((!r1)) (
 some ([],(2:Int))) (
 obind (sl_Clone_Slot n l) fun r2 =>
 obind (wi_Slot n i (((List.length r2):Nat):Int)) fun r3 =>
 obind (at? r2 r3) fun r4 =>
 obind ((r2)[(Int.toNat r3)]?) fun r5 =>
 some ((List.set r2 (Int.toNat r3) (i,c)),(0:Int)))):=by kernel_rfl
theorem fdst_made_eq_1 (n:Nat) (s:Tfdst) (i:Int):fdst_made (n+1) s (1:Int) i =
 tif ((decide (s.1.2.1.1=0))) (
 none) (
 obind (tier_Fold n s.2.1 (IntKind.wrap .i64 (i*(IntKind.wrap .i64 (Int.tdiv s.1.2.1.2.1 s.1.2.1.1)))) (IntKind.wrap .i64 ((IntKind.wrap .i64 (i+1))*(IntKind.wrap .i64 (Int.tdiv s.1.2.1.2.1 s.1.2.1.1))))) fun r0 =>
 some (r0.1,(r0.2,s))):=by kernel_rfl
theorem fdst_made_eq_2 (n:Nat) (s:Tfdst) (i:Int):fdst_made (n+1) s (2:Int) i =
 tif ((decide (s.1.2.1.2.1=0))) (
 none) (
 obind (tier_Fold n s.2.2.1 (IntKind.wrap .i64 (i*(IntKind.wrap .i64 (Int.tdiv s.1.2.1.2.2 s.1.2.1.2.1)))) (IntKind.wrap .i64 ((IntKind.wrap .i64 (i+1))*(IntKind.wrap .i64 (Int.tdiv s.1.2.1.2.2 s.1.2.1.2.1))))) fun r0 =>
 some (r0.1,(r0.2,s))):=by kernel_rfl
theorem ring_New_Event_eq (n:Nat) (room:Int):ring_New_Event (n+1) room =
 tif ((decide (room<1))) (
 some (none,(1:Int))) (
 tif ((decide ((65536:Int)<room))) (
 some (none,(1:Int))) (
 some ((some (room,([],((0:Int),(0:Int))))),(0:Int)))):=by kernel_rfl
theorem rg_place_eq (n:Nat) (r:TEvent_) (i:Int):rg_place (n+1) r i =
 tif ((decide ((((List.length r.2.1):Nat):Int)=0))) (
 none) (
 some ((Int.tmod (IntKind.wrap .i64 (r.2.2.1+i)) (((List.length r.2.1):Nat):Int)),r)):=by kernel_rfl
theorem sl_rotS_eq (n:Nat) (data:(List TSlot)) (a:Int) (m:Int) (b:Int) (cmp:((TSlot×(TSlot×Unit))→Option Int)):sl_rotS (n+1) data a m b cmp =
 obind (sl_rotS_l2 n loopFuel (data,(m,(cmp,((IntKind.wrap .i64 (m-a)),((IntKind.wrap .i64 (b-m)),())))))) fun r0 =>
 selim (fun y1 =>
 obind (sl_swpR n y1.1 (IntKind.wrap .i64 (y1.2.1-y1.2.2.2.1)) y1.2.1 y1.2.2.2.1 y1.2.2.1) fun r2 =>
 some r2) (fun z3 =>
 some z3) r0:=by kernel_rfl
theorem sl_rotS_l2_eq (n f:Nat) (data:(List TSlot)) (m:Int) (cmp:((TSlot×(TSlot×Unit))→Option Int)) (i:Int) (j:Int):sl_rotS_l2 n (f+1) (data,m,cmp,i,j,()) =
 tif ((!(decide (i=j)))) (
 tif ((decide (j<i))) (
 obind (sl_swpR n data (IntKind.wrap .i64 (m-i)) m j cmp) fun r0 =>
 sl_rotS_l2 n f (r0,(m,(cmp,((IntKind.wrap .i64 (i-j)),(j,())))))) (
 obind (sl_swpR n data (IntKind.wrap .i64 (m-i)) (IntKind.wrap .i64 ((IntKind.wrap .i64 (m+j))-i)) i cmp) fun r1 =>
 sl_rotS_l2 n f (r1,(m,(cmp,(i,((IntKind.wrap .i64 (j-i)),()))))))) (
 some (.inl (data,(m,(cmp,(i,())))))):=by kernel_rfl
theorem wi_Slot_eq (n:Nat) (i:Int) (n_:Int):wi_Slot (n+1) i n_ =
 tif ((decide (i<0))) (
 some (0:Int)) (
 tif ((decide (n_<1))) (
 some (0:Int)) (
 tif ((decide (n_=0))) (
 none) (
 some (Int.tmod i n_)))):=by kernel_rfl
theorem sl_swpR_eq (n:Nat) (data:(List TSlot)) (a:Int) (b:Int) (n_:Int) (cmp:((TSlot×(TSlot×Unit))→Option Int)):sl_swpR (n+1) data a b n_ cmp =
 obind (sl_swpR_l1 n loopFuel (data,(a,(b,(n_,((0:Int),())))))) fun r0 =>
 selim (fun y1 =>
 some y1.1) (fun z2 =>
 some z2) r0:=by kernel_rfl
theorem sl_swpR_l1_eq (n f:Nat) (data:(List TSlot)) (a:Int) (b:Int) (n_:Int) (i:Int):sl_swpR_l1 n (f+1) (data,a,b,n_,i,()) =
 tif ((decide (i<n_))) (
 obind (at? data (IntKind.wrap .i64 (b+i))) fun r0 =>
 obind ((data)[(Int.toNat (IntKind.wrap .i64 (b+i)))]?) fun r1 =>
 obind (at? data (IntKind.wrap .i64 (a+i))) fun r2 =>
 obind ((data)[(Int.toNat (IntKind.wrap .i64 (a+i)))]?) fun r3 =>
 obind (at? data (IntKind.wrap .i64 (a+i))) fun r4 =>
 obind ((data)[(Int.toNat (IntKind.wrap .i64 (a+i)))]?) fun r5 =>
 obind (at? (List.set data (Int.toNat (IntKind.wrap .i64 (a+i))) r1) (IntKind.wrap .i64 (b+i))) fun r6 =>
 obind (((List.set data (Int.toNat (IntKind.wrap .i64 (a+i))) r1))[(Int.toNat (IntKind.wrap .i64 (b+i)))]?) fun r7 =>
 sl_swpR_l1 n f ((List.set (List.set data (Int.toNat (IntKind.wrap .i64 (a+i))) r1) (Int.toNat (IntKind.wrap .i64 (b+i))) r3),(a,(b,(n_,((IntKind.wrap .i64 (i+1)),())))))) (
 some (.inl (data,()))):=by kernel_rfl
end Go.Proofs.YtjeabebacegikaaGreatDoor
