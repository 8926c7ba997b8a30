/- Trees, printed by program. -/
import Derived.Test.YtefpnjjbopdplaaGreatDoorTr0
import Derived.KernelRfl
set_option linter.unusedVariables false
namespace Go.Proofs.YtefpnjjbopdplaaGreatDoor
open Go.Flat
theorem wi_Gone_eq (n:Nat) (t:Int) (now:Int) (w:Int) (n_:Int):wi_Gone (n+1) t now w n_ =
 obind (wi_Of n t w) fun r0 =>
 obind (wi_Oldest n now w n_) fun r1 =>
 tif ((decide (r0.2=0))) (
 tif ((decide (r1.2=0))) (
 some (decide (r0.1<r1.1))) (
 some false)) (
 some false):=by kernel_rfl
theorem wi_Of_eq (n:Nat) (t:Int) (w:Int):wi_Of (n+1) t w =
 obind (wi_in_int64 n t (0:Int) (35184372088831:Int)) fun r0 =>
 tif ((!r0)) (
 some ((0:Int),(1:Int))) (
 obind (wi_width n w) fun r1 =>
 tif ((!r1)) (
 some ((0:Int),(1:Int))) (
 tif ((decide (w=0))) (
 none) (
 some ((IntKind.wrap .i64 (Int.tdiv t w)),(0:Int))))):=by kernel_rfl
theorem wi_in_int_eq (n:Nat) (n_:Int) (low:Int) (high:Int):wi_in_int (n+1) n_ low high =
 tif ((decide (low≤n_))) (
 some (decide (n_≤high))) (
 some false):=by kernel_rfl
theorem sl_Clone_Slot_eq (n:Nat) (s:(List TSlot)):sl_Clone_Slot (n+1) s =
 tif ((decide ((List.length s)=0))) (
 both (
 some []) (
 tif ((decide (((0+(List.length s))*120)≤140737488355328))) (
 some ([]++s)) (
 none))) (
 tif ((decide (((0+(List.length s))*120)≤140737488355328))) (
 some ([]++s)) (
 none)):=by kernel_rfl
theorem bits_tz64_eq (n:Nat) (x:Int):bits_tz64 (n+1) x =
 tif ((decide (x=0))) (
 some (64:Int)) (
 obind (at? ((0:Int)::((1:Int)::((56:Int)::((2:Int)::((57:Int)::((49:Int)::((28:Int)::((3:Int)::((61:Int)::((58:Int)::((42:Int)::((50:Int)::((38:Int)::((29:Int)::((17:Int)::((4:Int)::((62:Int)::((47:Int)::((59:Int)::((36:Int)::((45:Int)::((43:Int)::((51:Int)::((22:Int)::((53:Int)::((39:Int)::((33:Int)::((30:Int)::((24:Int)::((18:Int)::((12:Int)::((5:Int)::((63:Int)::((55:Int)::((48:Int)::((27:Int)::((60:Int)::((41:Int)::((37:Int)::((16:Int)::((46:Int)::((35:Int)::((44:Int)::((21:Int)::((52:Int)::((32:Int)::((23:Int)::((11:Int)::((54:Int)::((26:Int)::((40:Int)::((15:Int)::((34:Int)::((20:Int)::((31:Int)::((10:Int)::((25:Int)::((14:Int)::((19:Int)::((9:Int)::((13:Int)::((8:Int)::((7:Int)::((6:Int)::[])))))))))))))))))))))))))))))))))))))))))))))))))))))))))))))))) (shrI .u64 (IntKind.wrap .u64 ((285870213051353865:Int)*(andI .u64 x (IntKind.wrap .u64 ((0:Int)-x))))) (58:Int))) fun r0 =>
 some (IntKind.wrap .i64 r0)):=by kernel_rfl
theorem wide_Sub_eq (n:Nat) (a:(Int×Int)) (b:(Int×Int)):wide_Sub (n+1) a b =
 tif ((((decide ((0:Int)≤a.2))&&(decide ((0:Int)≤b.2)))&&((decide (b.2<18446744073709551616))&&true))) (
 tif ((((decide ((0:Int)≤a.1))&&(decide ((0:Int)≤b.1)))&&((decide (b.1<18446744073709551616))&&((decide ((0:Int)≤(if a.2<(b.2+0) then (1:Int) else (0:Int))))&&(decide ((if a.2<(b.2+0) then (1:Int) else (0:Int))≤1)))))) (
 obind (wide_sure n ((((a.1-b.1)-(if a.2<(b.2+0) then (1:Int) else (0:Int))) % (18446744073709551616:Int)),(((a.2-b.2)-0) % (18446744073709551616:Int))) (if a.1<(b.1+(if a.2<(b.2+0) then (1:Int) else (0:Int))) then (1:Int) else (0:Int))) fun r0 =>
 some r0) (
 none)) (
 none):=by kernel_rfl
theorem r10_place_eq (n:Nat) (c:TConfig):r10_place (n+1) c =
 obind (r10_parts n c.1 (16:Int)) fun r0 =>
 obind (r10_parts n c.2.2.1.1 (4:Int)) fun r1 =>
 obind (r10_parts n c.2.2.1.2.1 (4:Int)) fun r2 =>
 obind (r10_parts n c.2.2.1.2.2 (4:Int)) fun r3 =>
 some (IntKind.wrap .i64 ((IntKind.wrap .i64 ((IntKind.wrap .i64 ((IntKind.wrap .i64 ((1:Int)+r0))+r1))+r2))+r3)):=by kernel_rfl
theorem r07_Check_eq (n:Nat) (e:TEvent):r07_Check (n+1) e =
 tif ((decide (e.1<0))) (
 some (2:Int)) (
 tif ((decide ((35184372088832:Int)≤e.1))) (
 some (2:Int)) (
 tif ((decide (e.2.2.1<0))) (
 some (2:Int)) (
 tif ((decide (e.1<e.2.2.1))) (
 some (2:Int)) (
 tif (e.2.2.2) (
 tif ((!(decide (e.2.1=0)))) (
 some (2:Int)) (
 tif ((!(decide (e.2.2.1=0)))) (
 some (2:Int)) (
 some (0:Int)))) (
 some (0:Int)))))):=by kernel_rfl
theorem r13_Check_eq (n:Nat) (l:(List TSlot)) (w:Int):r13_Check (n+1) l w =
 tif ((decide ((((List.length l):Nat):Int)<1))) (
 some (2:Int)) (
 tif ((decide ((4096:Int)<(((List.length l):Nat):Int)))) (
 some (2:Int)) (
 tif ((decide (w<1))) (
 some (2:Int)) (
 tif ((decide ((1099511627776:Int)<w))) (
 some (2:Int)) (
 obind (r13_Check_l4 n loopFuel (l,(w,(l,((((List.length l):Nat):Int),((0:Int),())))))) fun r0 =>
 selim (fun y1 =>
 some (0:Int)) (fun z2 =>
 some z2) r0)))):=by kernel_rfl
theorem r13_Check_l4_eq (n f:Nat) (l:(List TSlot)) (w:Int) (s23:(List TSlot)) (s24:Int) (s25:Int):r13_Check_l4 n (f+1) (l,w,s23,s24,s25,()) =
 tif ((decide (s25<s24))) (
 obind (at? s23 s25) fun r0 =>
 tif (((decide (r0.1=0))&&((decide (r0.2.1=0))&&((decide (r0.2.2.1.1=0))&&((decide (r0.2.2.1.2.1=0))&&((decide (r0.2.2.1.2.2.1=0))&&((r0.2.2.1.2.2.2==false)&&((decide (r0.2.2.2.1.1=0))&&((decide (r0.2.2.2.1.2.1=0))&&((decide (r0.2.2.2.1.2.2.1=0))&&((r0.2.2.2.1.2.2.2==false)&&((decide (r0.2.2.2.2.1.1=0))&&((decide (r0.2.2.2.2.1.2=0))&&((decide (r0.2.2.2.2.2.1=0))&&((decide (r0.2.2.2.2.2.2.1=0))&&(decide (r0.2.2.2.2.2.2.2=0))))))))))))))))) (
 r13_Check_l4 n f (l,(w,(s23,(s24,((IntKind.wrap .i64 (s25+1)),())))))) (
 obind (r13_Fits n r0.2 w r0.1) fun r1 =>
 tif ((!r1)) (
 some (.inr (2:Int))) (
 obind (r09_Slot n r0.1 (((List.length l):Nat):Int)) fun r2 =>
 tif ((!(decide (r2=s25)))) (
 some (.inr (2:Int))) (
 r13_Check_l4 n f (l,(w,(s23,(s24,((IntKind.wrap .i64 (s25+1)),()))))))))) (
 some (.inl ())):=by kernel_rfl
theorem r09_Of_eq (n:Nat) (t:Int) (w:Int):r09_Of (n+1) t w =
 tif ((decide (t<0))) (
 some ((0:Int),(1:Int))) (
 tif ((decide ((35184372088832:Int)≤t))) (
 some ((0:Int),(1:Int))) (
 obind (r09_width n w) fun r0 =>
 tif ((!r0)) (
 some ((0:Int),(1:Int))) (
 tif ((decide (w=0))) (
 none) (
 tif ((decide (w=0))) (
 none) (
 some ((IntKind.wrap .i64 (Int.tdiv (IntKind.wrap .i64 (t-(Int.tmod t w))) w)),(0:Int))))))):=by kernel_rfl
theorem conf_parts_eq (n:Nat) (n_:Int) (by_:Int):conf_parts (n+1) n_ by_ =
 tif ((decide (by_=0))) (
 none) (
 some (IntKind.wrap .i64 (Int.tdiv (IntKind.wrap .i64 ((IntKind.wrap .i64 (n_+by_))-1)) by_))):=by kernel_rfl
theorem raw_Same_eq (n:Nat) (a:(Int×(Int×(List TEvent)))) (b:(Int×(Int×(List TEvent)))):raw_Same (n+1) a b =
 tif ((decide (a.1=b.1))) (
 tif ((decide (a.2.1=b.2.1))) (
 obind (sl_Equal_Event n a.2.2 b.2.2) fun r0 =>
 some r0) (
 some false)) (
 some false):=by kernel_rfl
theorem sl_Equal_Slot_eq (n:Nat) (s1:(List TSlot)) (s2:(List TSlot)):sl_Equal_Slot (n+1) s1 s2 =
 tif ((!(decide ((((List.length s1):Nat):Int)=(((List.length s2):Nat):Int))))) (
 some false) (
 obind (sl_Equal_Slot_l4 n loopFuel (s1,(s2,((((List.length s1):Nat):Int),((0:Int),()))))) fun r0 =>
 selim (fun y1 =>
 some true) (fun z2 =>
 some z2) r0):=by kernel_rfl
theorem sl_Equal_Slot_l4_eq (n f:Nat) (s1:(List TSlot)) (s2:(List TSlot)) (s12:Int) (s13:Int):sl_Equal_Slot_l4 n (f+1) (s1,s2,s12,s13,()) =
 tif ((decide (s13<s12))) (
 obind (at? s1 s13) fun r0 =>
 obind (at? s2 s13) fun r1 =>
 tif ((!((decide (r0.1=r1.1))&&((decide (r0.2.1=r1.2.1))&&((decide (r0.2.2.1.1=r1.2.2.1.1))&&((decide (r0.2.2.1.2.1=r1.2.2.1.2.1))&&((decide (r0.2.2.1.2.2.1=r1.2.2.1.2.2.1))&&((r0.2.2.1.2.2.2==r1.2.2.1.2.2.2)&&((decide (r0.2.2.2.1.1=r1.2.2.2.1.1))&&((decide (r0.2.2.2.1.2.1=r1.2.2.2.1.2.1))&&((decide (r0.2.2.2.1.2.2.1=r1.2.2.2.1.2.2.1))&&((r0.2.2.2.1.2.2.2==r1.2.2.2.1.2.2.2)&&((decide (r0.2.2.2.2.1.1=r1.2.2.2.2.1.1))&&((decide (r0.2.2.2.2.1.2=r1.2.2.2.2.1.2))&&((decide (r0.2.2.2.2.2.1=r1.2.2.2.2.2.1))&&((decide (r0.2.2.2.2.2.2.1=r1.2.2.2.2.2.2.1))&&(decide (r0.2.2.2.2.2.2.2=r1.2.2.2.2.2.2.2)))))))))))))))))) (
 some (.inr false)) (
 sl_Equal_Slot_l4 n f (s1,(s2,(s12,((IntKind.wrap .i64 (s13+1)),())))))) (
 some (.inl ())):=by kernel_rfl
theorem label_digit_eq (n:Nat) (c:Int):label_digit (n+1) c =
 tif ((decide ((48:Int)≤c))) (
 some (decide (c≤57))) (
 some false):=by kernel_rfl
theorem sl_ContainsFunc_byte_eq (n:Nat) (s:(List Int)) (f_:((Int×Unit)→Option Bool)):sl_ContainsFunc_byte (n+1) s f_ =
 obind (sl_IndexFunc_byte n s f_) fun r0 =>
 some (decide ((0:Int)≤r0)):=by kernel_rfl
theorem label_name_1_eq (n:Nat) (c:Int):label_name_1 (n+1) c =
 obind (label_sign n c) fun r0 =>
 some (!r0):=by kernel_rfl
theorem label_sign_eq (n:Nat) (c:Int):label_sign (n+1) c =
 obind (label_digit n c) fun r0 =>
 tif (r0) (
 some true) (
 tif ((decide (c=95))) (
 some true) (
 tif ((decide ((97:Int)≤(orI .u8 c (32:Int))))) (
 some (decide ((orI .u8 c (32:Int))≤122))) (
 some false))):=by kernel_rfl
theorem ratio_whole_eq (n:Nat) (a:(Int×Int)) (d:(Int×Int)):ratio_whole (n+1) a d =
 obind (ratio_long n a) fun r0 =>
 obind (ratio_long n d) fun r1 =>
 obind (ratio_whole_l3 n loopFuel (a,(d,(((0:Int),(0:Int)),(((0:Int),(0:Int)),((IntKind.wrap .i64 (r0-r1)),())))))) fun r2 =>
 selim (fun y3 =>
 some y3.2.1) (fun z4 =>
 some z4) r2:=by kernel_rfl
theorem ratio_whole_l3_eq (n f:Nat) (a_:(Int×Int)) (d_:(Int×Int)) (s4:(Int×Int)) (q:(Int×Int)) (by_:Int):ratio_whole_l3 n (f+1) (a_,d_,s4,q,by_,()) =
 tif ((decide ((0:Int)≤by_))) (
 obind (ratio_up n d_ by_) fun r0 =>
 obind (wide_Less n a_ r0) fun r1 =>
 tif (r1) (
 ratio_whole_l3 n f (a_,(d_,(s4,(q,((IntKind.wrap .i64 (by_-1)),())))))) (
 obind (ratio_less n a_ r0) fun r2 =>
 obind (wide_Of n (1:Int)) fun r3 =>
 obind (ratio_up n r3 by_) fun r4 =>
 ratio_whole_l3 n f (r2,(d_,(s4,(((orI .u64 q.1 r4.1),(orI .u64 q.2 r4.2)),((IntKind.wrap .i64 (by_-1)),()))))))) (
 some (.inl (s4,(q,())))):=by kernel_rfl
theorem fold_open_eq (n:Nat) (c:TConfig) (s:((List TSlot)×((List TSlot)×(List TSlot)))):fold_open (n+1) c s =
 obind (conf_Check n c) fun r0 =>
 tif ((!(decide (r0=0)))) (
 some (none,r0)) (
 tif ((!(decide ((((List.length s.1):Nat):Int)=c.2.2.1.1)))) (
 some (none,(2:Int))) (
 obind (tier_Check n s.1 c.2.1.1) fun r1 =>
 tif ((!(decide (r1=0)))) (
 some (none,(2:Int))) (
 tif ((!(decide ((((List.length s.2.1):Nat):Int)=c.2.2.1.2.1)))) (
 some (none,(2:Int))) (
 obind (tier_Check n s.2.1 c.2.1.2.1) fun r2 =>
 tif ((!(decide (r2=0)))) (
 some (none,(2:Int))) (
 tif ((!(decide ((((List.length s.2.2):Nat):Int)=c.2.2.1.2.2)))) (
 some (none,(2:Int))) (
 obind (tier_Check n s.2.2 c.2.1.2.2) fun r3 =>
 tif ((!(decide (r3=0)))) (
 some (none,(2:Int))) (
 some ((some (c,s)),(0:Int))))))))):=by kernel_rfl
theorem raw_rising_eq (n:Nat) (l:(List TEvent)):raw_rising (n+1) l =
 obind (raw_rising_l2 n loopFuel (l,(l,((((List.length l):Nat):Int),((0:Int),()))))) fun r0 =>
 selim (fun y1 =>
 some true) (fun z2 =>
 some z2) r0:=by kernel_rfl
theorem raw_rising_l2_eq (n f:Nat) (l:(List TEvent)) (s5:(List TEvent)) (s6:Int) (s7:Int):raw_rising_l2 n (f+1) (l,s5,s6,s7,()) =
 tif ((decide (s7<s6))) (
 obind (at? s5 s7) fun r0 =>
 obind (event_Check n r0) fun r1 =>
 tif ((!(decide (r1=0)))) (
 some (.inr false)) (
 tif ((decide ((0:Int)<s7))) (
 obind (at? l (IntKind.wrap .i64 (s7-1))) fun r2 =>
 obind (event_Follow n r2 r0) fun r3 =>
 tif ((!r3)) (
 some (.inr false)) (
 raw_rising_l2 n f (l,(s5,(s6,((IntKind.wrap .i64 (s7+1)),())))))) (
 raw_rising_l2 n f (l,(s5,(s6,((IntKind.wrap .i64 (s7+1)),()))))))) (
 some (.inl ())):=by kernel_rfl
theorem raw_marked_eq (n:Nat) (r:(Int×(Int×(List TEvent)))) (room:Int):raw_marked (n+1) r room =
 tif ((decide (r.1=0))) (
 some (decide (r.2.1=0))) (
 tif ((decide ((((List.length r.2.2):Nat):Int)=room))) (
 tif ((decide ((0:Int)≤r.2.1))) (
 obind (at? r.2.2 (0:Int)) fun r0 =>
 some (decide (r.2.1<r0.1))) (
 some false)) (
 some false)):=by kernel_rfl
theorem series_behind_eq (n:Nat) (l:(List TSlot)) (i:Int):series_behind (n+1) l i =
 obind (sl_ContainsFunc_Slot n l (fun y0=>series_behind_1 n y0.1 i)) fun r1 =>
 some r1:=by kernel_rfl
theorem raw_Last_eq (n:Nat) (r:(Int×(Int×(List TEvent)))):raw_Last (n+1) r =
 tif ((decide ((((List.length r.2.2):Nat):Int)=0))) (
 some (((0:Int),((0:Int),((0:Int),false))),(3:Int))) (
 obind (at? r.2.2 (IntKind.wrap .i64 ((((List.length r.2.2):Nat):Int)-1))) fun r0 =>
 some (r0,(0:Int))):=by kernel_rfl
theorem tier_Fits_eq (n:Nat) (c:TCell) (w:Int) (i:Int):tier_Fits (n+1) c w i =
 tif ((decide (c.1=0))) (
 some false) (
 obind (cell_Check n c) fun r0 =>
 tif ((!(decide (r0=0)))) (
 some false) (
 obind (tier_Fits_l4 n loopFuel (w,(i,((c.2.1.1,c.2.2.1.1),((0:Int),()))))) fun r1 =>
 selim (fun y2 =>
 some true) (fun z3 =>
 some z3) r1)):=by kernel_rfl
theorem tier_Fits_l4_eq (n f:Nat) (w:Int) (i:Int) (s25:(Int×Int)) (s26:Int):tier_Fits_l4 n (f+1) (w,i,s25,s26,()) =
 tif ((decide (s26<2))) (
 tif ((decide (s26=0))) (
 obind (wi_Of n s25.1 w) fun r0 =>
 tif ((!(decide (r0.2=0)))) (
 some (.inr false)) (
 tif ((!(decide (r0.1=i)))) (
 some (.inr false)) (
 tier_Fits_l4 n f (w,(i,(s25,((IntKind.wrap .i64 (s26+1)),()))))))) (
 tif ((decide (s26=1))) (
 obind (wi_Of n s25.2 w) fun r1 =>
 tif ((!(decide (r1.2=0)))) (
 some (.inr false)) (
 tif ((!(decide (r1.1=i)))) (
 some (.inr false)) (
 tier_Fits_l4 n f (w,(i,(s25,((IntKind.wrap .i64 (s26+1)),()))))))) (
 none))) (
 some (.inl ())):=by kernel_rfl
theorem tier_All_eq (n:Nat) (l:(List TSlot)):tier_All (n+1) l =
 obind (sl_Clone_Slot n l) fun r0 =>
 obind (sl_DeleteFunc_Slot n r0 (fun y1=>tier_none n y1.1)) fun r2 =>
 obind (sl_SortStableFunc_Slot n r2 (fun y3=>tier_All_1 n y3.1 y3.2.1)) fun r4 =>
 some r4:=by kernel_rfl
theorem r09_Slot_eq (n:Nat) (i:Int) (n_:Int):r09_Slot (n+1) i n_ =
 tif ((decide (i<0))) (
 some (0:Int)) (
 tif ((decide (n_<1))) (
 some (0:Int)) (
 tif ((decide (n_=0))) (
 none) (
 some (Int.tmod i n_)))):=by kernel_rfl
theorem event_Follow_eq (n:Nat) (p:TEvent) (c:TEvent):event_Follow (n+1) p c =
 obind (event_right n (p::(c::[]))) fun r0 =>
 tif (r0) (
 some (decide (p.1<c.1))) (
 some false):=by kernel_rfl
theorem r10_parts_eq (n:Nat) (n_:Int) (each:Int):r10_parts (n+1) n_ each =
 obind (r10_parts_l2 n loopFuel (n_,(each,((0:Int),())))) fun r0 =>
 selim (fun y1 =>
 some y1.1) (fun z2 =>
 some z2) r0:=by kernel_rfl
theorem r10_parts_l2_eq (n f:Nat) (n_:Int) (each:Int) (k:Int):r10_parts_l2 n (f+1) (n_,each,k,()) =
 tif ((decide ((0:Int)<n_))) (
 r10_parts_l2 n f ((IntKind.wrap .i64 (n_-each)),(each,((IntKind.wrap .i64 (k+1)),())))) (
 some (.inl (k,()))):=by kernel_rfl
theorem sl_Equal_Event_eq (n:Nat) (s1:(List TEvent)) (s2:(List TEvent)):sl_Equal_Event (n+1) s1 s2 =
 tif ((!(decide ((((List.length s1):Nat):Int)=(((List.length s2):Nat):Int))))) (
 some false) (
 obind (sl_Equal_Event_l4 n loopFuel (s1,(s2,((((List.length s1):Nat):Int),((0:Int),()))))) fun r0 =>
 selim (fun y1 =>
 some true) (fun z2 =>
 some z2) r0):=by kernel_rfl
theorem sl_Equal_Event_l4_eq (n f:Nat) (s1:(List TEvent)) (s2:(List TEvent)) (s12:Int) (s13:Int):sl_Equal_Event_l4 n (f+1) (s1,s2,s12,s13,()) =
 tif ((decide (s13<s12))) (
 obind (at? s1 s13) fun r0 =>
 obind (at? s2 s13) fun r1 =>
 tif ((!((decide (r0.1=r1.1))&&((decide (r0.2.1=r1.2.1))&&((decide (r0.2.2.1=r1.2.2.1))&&(r0.2.2.2==r1.2.2.2)))))) (
 some (.inr false)) (
 sl_Equal_Event_l4 n f (s1,(s2,(s12,((IntKind.wrap .i64 (s13+1)),())))))) (
 some (.inl ())):=by kernel_rfl
theorem sl_IndexFunc_byte_eq (n:Nat) (s:(List Int)) (f_:((Int×Unit)→Option Bool)):sl_IndexFunc_byte (n+1) s f_ =
 obind (sl_IndexFunc_byte_l2 n loopFuel (s,(f_,((((List.length s):Nat):Int),((0:Int),()))))) fun r0 =>
 selim (fun y1 =>
 some ((-1):Int)) (fun z2 =>
 some z2) r0:=by kernel_rfl
theorem sl_IndexFunc_byte_l2_eq (n f:Nat) (s:(List Int)) (f_:((Int×Unit)→Option Bool)) (s7:Int) (s8:Int):sl_IndexFunc_byte_l2 n (f+1) (s,f_,s7,s8,()) =
 tif ((decide (s8<s7))) (
 obind (at? s s8) fun r0 =>
 obind (f_ (r0,())) fun r1 =>
 tif (r1) (
 some (.inr s8)) (
 sl_IndexFunc_byte_l2 n f (s,(f_,(s7,((IntKind.wrap .i64 (s8+1)),())))))) (
 some (.inl ())):=by kernel_rfl
theorem ratio_long_eq (n:Nat) (a:(Int×Int)):ratio_long (n+1) a =
 tif ((!(decide (a.1=0)))) (
 obind (math_bits_Len64 n a.1) fun r0 =>
 some (IntKind.wrap .i64 ((64:Int)+r0))) (
 obind (math_bits_Len64 n a.2) fun r1 =>
 some r1):=by kernel_rfl
theorem tier_Check_eq (n:Nat) (l:(List TSlot)) (w:Int):tier_Check (n+1) l w =
 tif ((decide ((((List.length l):Nat):Int)=0))) (
 some (2:Int)) (
 tif ((decide ((4096:Int)<(((List.length l):Nat):Int)))) (
 some (2:Int)) (
 tif ((decide (w<1))) (
 some (2:Int)) (
 tif ((decide ((1099511627776:Int)<w))) (
 some (2:Int)) (
 obind (tier_Check_l4 n loopFuel (l,(w,(l,((((List.length l):Nat):Int),((0:Int),())))))) fun r0 =>
 selim (fun y1 =>
 some (0:Int)) (fun z2 =>
 some z2) r0)))):=by kernel_rfl
theorem tier_Check_l4_eq (n f:Nat) (l:(List TSlot)) (w:Int) (s23:(List TSlot)) (s24:Int) (s25:Int):tier_Check_l4 n (f+1) (l,w,s23,s24,s25,()) =
 tif ((decide (s25<s24))) (
 obind (at? s23 s25) fun r0 =>
 obind (tier_none n r0) fun r1 =>
 tif ((!r1)) (
 obind (wi_Slot n r0.1 (((List.length l):Nat):Int)) fun r2 =>
 tif ((!(decide (r2=s25)))) (
 some (.inr (2:Int))) (
 obind (tier_Fits n r0.2 w r0.1) fun r3 =>
 tif ((!r3)) (
 some (.inr (2:Int))) (
 tier_Check_l4 n f (l,(w,(s23,(s24,((IntKind.wrap .i64 (s25+1)),())))))))) (
 tier_Check_l4 n f (l,(w,(s23,(s24,((IntKind.wrap .i64 (s25+1)),()))))))) (
 some (.inl ())):=by kernel_rfl
theorem sl_ContainsFunc_Slot_eq (n:Nat) (s:(List TSlot)) (f_:((TSlot×Unit)→Option Bool)):sl_ContainsFunc_Slot (n+1) s f_ =
 obind (sl_IndexFunc_Slot n s f_) fun r0 =>
 some (decide ((0:Int)≤r0)):=by kernel_rfl
theorem series_behind_1_eq (n:Nat) (s:TSlot) (p1:Int):series_behind_1 (n+1) s p1 =
 tif ((decide ((0:Int)<s.2.1))) (
 some (decide (p1≤s.1))) (
 some false):=by kernel_rfl
theorem sl_DeleteFunc_Slot_eq (n:Nat) (s:(List TSlot)) (del:((TSlot×Unit)→Option Bool)):sl_DeleteFunc_Slot (n+1) s del =
 obind (sl_IndexFunc_Slot n s del) fun r0 =>
 tif ((decide (r0=((-1):Int)))) (
 some s) (
 obind (sl_DeleteFunc_Slot_l5 n loopFuel (s,(del,(r0,((IntKind.wrap .i64 (r0+1)),()))))) fun r1 =>
 selim (fun y2 =>
 tif ((decide ((0:Int)≤y2.2.1))) (
 tif ((decide ((Int.toNat y2.2.1)≤(List.length y2.1)))) (
 tif ((decide (((Int.toNat y2.2.1)+((List.length y2.1)-(Int.toNat y2.2.1)))≤(List.length y2.1)))) (
 tif (((decide ((0:Int)≤y2.2.1))&&(decide (y2.2.1≤(((List.length (Go.Flat.putRow y2.1 (Int.toNat y2.2.1) (List.replicate ((List.length y2.1)-(Int.toNat y2.2.1)) ((0:Int),((0:Int),(((0:Int),((0:Int),((0:Int),false))),(((0:Int),((0:Int),((0:Int),false))),(((0:Int),(0:Int)),((0:Int),((0:Int),(0:Int))))))))))):Nat):Int))))) (
 some (List.take ((Int.toNat y2.2.1)-0) (Go.Flat.putRow y2.1 (Int.toNat y2.2.1) (List.replicate ((List.length y2.1)-(Int.toNat y2.2.1)) ((0:Int),((0:Int),(((0:Int),((0:Int),((0:Int),false))),(((0:Int),((0:Int),((0:Int),false))),(((0:Int),(0:Int)),((0:Int),((0:Int),(0:Int)))))))))))) (
 none)) (
 none)) (
 none)) (
 none)) (fun z3 =>
 some z3) r1):=by kernel_rfl
theorem sl_DeleteFunc_Slot_l5_eq (n f:Nat) (s:(List TSlot)) (del:((TSlot×Unit)→Option Bool)) (i:Int) (j:Int):sl_DeleteFunc_Slot_l5 n (f+1) (s,del,i,j,()) =
 tif ((decide (j<(((List.length s):Nat):Int)))) (
 obind (at? s j) fun r0 =>
 obind ((s)[(Int.toNat j)]?) fun r1 =>
 obind (del (r1,())) fun r2 =>
 tif ((!r2)) (
 obind (at? s i) fun r3 =>
 obind ((s)[(Int.toNat i)]?) fun r4 =>
 sl_DeleteFunc_Slot_l5 n f ((List.set s (Int.toNat i) r1),(del,((IntKind.wrap .i64 (i+1)),((IntKind.wrap .i64 (j+1)),()))))) (
 sl_DeleteFunc_Slot_l5 n f (s,(del,(i,((IntKind.wrap .i64 (j+1)),())))))) (
 some (.inl (s,(i,())))):=by kernel_rfl
theorem tier_none_eq (n:Nat) (s:TSlot):tier_none (n+1) s =
 some ((decide (s.1=0))&&((decide (s.2.1=0))&&((decide (s.2.2.1.1=0))&&((decide (s.2.2.1.2.1=0))&&((decide (s.2.2.1.2.2.1=0))&&((s.2.2.1.2.2.2==false)&&((decide (s.2.2.2.1.1=0))&&((decide (s.2.2.2.1.2.1=0))&&((decide (s.2.2.2.1.2.2.1=0))&&((s.2.2.2.1.2.2.2==false)&&((decide (s.2.2.2.2.1.1=0))&&((decide (s.2.2.2.2.1.2=0))&&((decide (s.2.2.2.2.2.1=0))&&((decide (s.2.2.2.2.2.2.1=0))&&(decide (s.2.2.2.2.2.2.2=0)))))))))))))))):=by kernel_rfl
theorem sl_SortStableFunc_Slot_eq (n:Nat) (x:(List TSlot)) (cmp:((TSlot×(TSlot×Unit))→Option Int)):sl_SortStableFunc_Slot (n+1) x cmp =
 obind (sl_stab n x (((List.length x):Nat):Int) cmp) fun r0 =>
 some r0:=by kernel_rfl
theorem tier_All_1_eq (n:Nat) (a:TSlot) (b:TSlot):tier_All_1 (n+1) a b =
 obind (cmp_Compare_int64 n a.1 b.1) fun r0 =>
 some r0:=by kernel_rfl
theorem cmp_Compare_int64_eq (n:Nat) (x:Int) (y:Int):cmp_Compare_int64 (n+1) x y =
 obind (cmp_isNaN_int64 n x) fun r0 =>
 obind (cmp_isNaN_int64 n y) fun r1 =>
 tif (r0) (
 tif (r1) (
 some (0:Int)) (
 some ((-1):Int))) (
 tif (r1) (
 some (1:Int)) (
 tif ((decide (x<y))) (
 some ((-1):Int)) (
 tif ((decide (y<x))) (
 some (1:Int)) (
 some (0:Int))))):=by kernel_rfl
theorem math_bits_Len64_eq (n:Nat) (x:Int):math_bits_Len64 (n+1) x =
 tif ((decide ((4294967296:Int)≤x))) (
 tif ((decide ((65536:Int)≤(shrI .u64 x (32:Int))))) (
 tif ((decide ((256:Int)≤(shrI .u64 (shrI .u64 x (32:Int)) (16:Int))))) (
 obind (at? bs_2753755 (IntKind.wrap .u8 (shrI .u64 (shrI .u64 (shrI .u64 x (32:Int)) (16:Int)) (8:Int)))) fun r0 =>
 some (IntKind.wrap .i64 ((56:Int)+(IntKind.wrap .i64 (((UInt8.toNat r0):Nat):Int))))) (
 obind (at? bs_2753755 (IntKind.wrap .u8 (shrI .u64 (shrI .u64 x (32:Int)) (16:Int)))) fun r1 =>
 some (IntKind.wrap .i64 ((48:Int)+(IntKind.wrap .i64 (((UInt8.toNat r1):Nat):Int)))))) (
 tif ((decide ((256:Int)≤(shrI .u64 x (32:Int))))) (
 obind (at? bs_2753755 (IntKind.wrap .u8 (shrI .u64 (shrI .u64 x (32:Int)) (8:Int)))) fun r2 =>
 some (IntKind.wrap .i64 ((40:Int)+(IntKind.wrap .i64 (((UInt8.toNat r2):Nat):Int))))) (
 obind (at? bs_2753755 (IntKind.wrap .u8 (shrI .u64 x (32:Int)))) fun r3 =>
 some (IntKind.wrap .i64 ((32:Int)+(IntKind.wrap .i64 (((UInt8.toNat r3):Nat):Int))))))) (
 tif ((decide ((65536:Int)≤x))) (
 tif ((decide ((256:Int)≤(shrI .u64 x (16:Int))))) (
 obind (at? bs_2753755 (IntKind.wrap .u8 (shrI .u64 (shrI .u64 x (16:Int)) (8:Int)))) fun r4 =>
 some (IntKind.wrap .i64 ((24:Int)+(IntKind.wrap .i64 (((UInt8.toNat r4):Nat):Int))))) (
 obind (at? bs_2753755 (IntKind.wrap .u8 (shrI .u64 x (16:Int)))) fun r5 =>
 some (IntKind.wrap .i64 ((16:Int)+(IntKind.wrap .i64 (((UInt8.toNat r5):Nat):Int)))))) (
 tif ((decide ((256:Int)≤x))) (
 obind (at? bs_2753755 (IntKind.wrap .u8 (shrI .u64 x (8:Int)))) fun r6 =>
 some (IntKind.wrap .i64 ((8:Int)+(IntKind.wrap .i64 (((UInt8.toNat r6):Nat):Int))))) (
 obind (at? bs_2753755 (IntKind.wrap .u8 x)) fun r7 =>
 some (IntKind.wrap .i64 ((0:Int)+(IntKind.wrap .i64 (((UInt8.toNat r7):Nat):Int))))))):=by kernel_rfl
theorem sl_IndexFunc_Slot_eq (n:Nat) (s:(List TSlot)) (f_:((TSlot×Unit)→Option Bool)):sl_IndexFunc_Slot (n+1) s f_ =
 obind (sl_IndexFunc_Slot_l2 n loopFuel (s,(f_,((((List.length s):Nat):Int),((0:Int),()))))) fun r0 =>
 selim (fun y1 =>
 some ((-1):Int)) (fun z2 =>
 some z2) r0:=by kernel_rfl
theorem sl_IndexFunc_Slot_l2_eq (n f:Nat) (s:(List TSlot)) (f_:((TSlot×Unit)→Option Bool)) (s7:Int) (s8:Int):sl_IndexFunc_Slot_l2 n (f+1) (s,f_,s7,s8,()) =
 tif ((decide (s8<s7))) (
 obind (at? s s8) fun r0 =>
 obind (f_ (r0,())) fun r1 =>
 tif (r1) (
 some (.inr s8)) (
 sl_IndexFunc_Slot_l2 n f (s,(f_,(s7,((IntKind.wrap .i64 (s8+1)),())))))) (
 some (.inl ())):=by kernel_rfl
theorem sl_stab_eq (n:Nat) (data:(List TSlot)) (n_:Int) (cmp:((TSlot×(TSlot×Unit))→Option Int)):sl_stab (n+1) data n_ cmp =
 obind (sl_stab_l2 n loopFuel (data,(n_,(cmp,((20:Int),((0:Int),((20:Int),()))))))) fun r0 =>
 selim (fun y1 =>
 obind (sl_insS n y1.1 y1.2.2.2.2.1 y1.2.1 y1.2.2.1) fun r2 =>
 obind (sl_stab_l7 n loopFuel (r2,(y1.2.1,(y1.2.2.1,(y1.2.2.2.1,()))))) fun r3 =>
 selim (fun y4 =>
 some y4.1) (fun z5 =>
 some z5) r3) (fun z6 =>
 some z6) r0:=by kernel_rfl
theorem sl_stab_l2_eq (n f:Nat) (data:(List TSlot)) (n_:Int) (cmp:((TSlot×(TSlot×Unit))→Option Int)) (blockSize:Int) (a:Int) (b:Int):sl_stab_l2 n (f+1) (data,n_,cmp,blockSize,a,b,()) =
 tif ((decide (b≤n_))) (
 obind (sl_insS n data a b cmp) fun r0 =>
 sl_stab_l2 n f (r0,(n_,(cmp,(blockSize,(b,((IntKind.wrap .i64 (b+blockSize)),()))))))) (
 some (.inl (data,(n_,(cmp,(blockSize,(a,()))))))):=by kernel_rfl
theorem sl_stab_l7_eq (n f:Nat) (data:(List TSlot)) (n_:Int) (cmp:((TSlot×(TSlot×Unit))→Option Int)) (blockSize:Int):sl_stab_l7 n (f+1) (data,n_,cmp,blockSize,()) =
 tif ((decide (blockSize<n_))) (
 obind (sl_stab_l9 n loopFuel (data,(n_,(cmp,(blockSize,((0:Int),((IntKind.wrap .i64 ((2:Int)*blockSize)),()))))))) fun r0 =>
 selim (fun y1 =>
 tif ((decide ((IntKind.wrap .i64 (y1.2.2.2.2.1+y1.2.2.2.1))<y1.2.1))) (
 obind (sl_symM n y1.1 y1.2.2.2.2.1 (IntKind.wrap .i64 (y1.2.2.2.2.1+y1.2.2.2.1)) y1.2.1 y1.2.2.1) fun r2 =>
 sl_stab_l7 n f (r2,(y1.2.1,(y1.2.2.1,((IntKind.wrap .i64 (y1.2.2.2.1*2)),()))))) (
 sl_stab_l7 n f (y1.1,(y1.2.1,(y1.2.2.1,((IntKind.wrap .i64 (y1.2.2.2.1*2)),())))))) (fun z3 =>
 some (.inr z3)) r0) (
 some (.inl (data,()))):=by kernel_rfl
theorem sl_stab_l9_eq (n f:Nat) (data:(List TSlot)) (n_:Int) (cmp:((TSlot×(TSlot×Unit))→Option Int)) (blockSize:Int) (a:Int) (b:Int):sl_stab_l9 n (f+1) (data,n_,cmp,blockSize,a,b,()) =
 tif ((decide (b≤n_))) (
 obind (sl_symM n data a (IntKind.wrap .i64 (a+blockSize)) b cmp) fun r0 =>
 sl_stab_l9 n f (r0,(n_,(cmp,(blockSize,(b,((IntKind.wrap .i64 (b+(IntKind.wrap .i64 ((2:Int)*blockSize)))),()))))))) (
 some (.inl (data,(n_,(cmp,(blockSize,(a,()))))))):=by kernel_rfl
theorem cmp_isNaN_int64_eq (n:Nat) (x:Int):cmp_isNaN_int64 (n+1) x =
 some (!(decide (x=x))):=by kernel_rfl
theorem sl_insS_eq (n:Nat) (data:(List TSlot)) (a:Int) (b:Int) (cmp:((TSlot×(TSlot×Unit))→Option Int)):sl_insS (n+1) data a b cmp =
 obind (sl_insS_l1 n loopFuel (data,(a,(b,(cmp,((IntKind.wrap .i64 (a+1)),())))))) fun r0 =>
 selim (fun y1 =>
 some y1.1) (fun z2 =>
 some z2) r0:=by kernel_rfl
theorem sl_insS_l1_eq (n f:Nat) (data:(List TSlot)) (a:Int) (b:Int) (cmp:((TSlot×(TSlot×Unit))→Option Int)) (i:Int):sl_insS_l1 n (f+1) (data,a,b,cmp,i,()) =
 tif ((decide (i<b))) (
 obind (sl_insS_l4 n loopFuel (data,(a,(b,(cmp,(i,(i,()))))))) fun r0 =>
 selim (fun y1 =>
 sl_insS_l1 n f (y1.1,(y1.2.1,(y1.2.2.1,(y1.2.2.2.1,((IntKind.wrap .i64 (y1.2.2.2.2.1+1)),())))))) (fun z2 =>
 some (.inr z2)) r0) (
 some (.inl (data,()))):=by kernel_rfl
theorem sl_insS_l4_eq (n f:Nat) (data:(List TSlot)) (a:Int) (b:Int) (cmp:((TSlot×(TSlot×Unit))→Option Int)) (i:Int) (j:Int):sl_insS_l4 n (f+1) (data,a,b,cmp,i,j,()) =
 tif ((decide (a<j))) (
 obind (at? data j) fun r0 =>
 obind ((data)[(Int.toNat j)]?) fun r1 =>
 obind (at? data (IntKind.wrap .i64 (j-1))) fun r2 =>
 obind ((data)[(Int.toNat (IntKind.wrap .i64 (j-1)))]?) fun r3 =>
 obind (cmp (r1,(r3,()))) fun r4 =>
 tif ((decide (r4<0))) (
 obind (at? data (IntKind.wrap .i64 (j-1))) fun r5 =>
 obind ((data)[(Int.toNat (IntKind.wrap .i64 (j-1)))]?) fun r6 =>
 obind (at? data j) fun r7 =>
 obind ((data)[(Int.toNat j)]?) fun r8 =>
 obind (at? data j) fun r9 =>
 obind ((data)[(Int.toNat j)]?) fun r10 =>
 obind (at? (List.set data (Int.toNat j) r6) (IntKind.wrap .i64 (j-1))) fun r11 =>
 obind (((List.set data (Int.toNat j) r6))[(Int.toNat (IntKind.wrap .i64 (j-1)))]?) fun r12 =>
 sl_insS_l4 n f ((List.set (List.set data (Int.toNat j) r6) (Int.toNat (IntKind.wrap .i64 (j-1))) r8),(a,(b,(cmp,(i,((IntKind.wrap .i64 (j-1)),()))))))) (
 some (.inl (data,(a,(b,(cmp,(i,())))))))) (
 some (.inl (data,(a,(b,(cmp,(i,()))))))):=by kernel_rfl
theorem sl_symM_eq (n:Nat) (data:(List TSlot)) (a:Int) (m:Int) (b:Int) (cmp:((TSlot×(TSlot×Unit))→Option Int)):sl_symM (n+1) data a m b cmp =
 tif ((decide ((IntKind.wrap .i64 (m-a))=1))) (
 obind (sl_symM_l3 n loopFuel (data,(a,(cmp,(m,(b,())))))) fun r0 =>
 selim (fun y1 =>
 obind (sl_symM_l9 n loopFuel (y1.1,(y1.2.2.1,(y1.2.1,())))) fun r2 =>
 selim (fun y3 =>
 some y3.1) (fun z4 =>
 some z4) r2) (fun z5 =>
 some z5) r0) (
 tif ((decide ((IntKind.wrap .i64 (b-m))=1))) (
 obind (sl_symM_l15 n loopFuel (data,(m,(cmp,(a,(m,())))))) fun r6 =>
 selim (fun y7 =>
 obind (sl_symM_l21 n loopFuel (y7.1,(y7.2.2.1,(y7.2.1,())))) fun r8 =>
 selim (fun y9 =>
 some y9.1) (fun z10 =>
 some z10) r8) (fun z11 =>
 some z11) r6) (
 tif ((decide ((IntKind.wrap .i64 (shrI .u64 (IntKind.wrap .u64 (IntKind.wrap .i64 (a+b))) (1:Int)))<m))) (
 obind (sl_symM_l33 n loopFuel (data,(a,(m,(b,(cmp,((IntKind.wrap .i64 (shrI .u64 (IntKind.wrap .u64 (IntKind.wrap .i64 (a+b))) (1:Int))),((IntKind.wrap .i64 ((IntKind.wrap .i64 (shrI .u64 (IntKind.wrap .u64 (IntKind.wrap .i64 (a+b))) (1:Int)))+m)),((IntKind.wrap .i64 ((IntKind.wrap .i64 ((IntKind.wrap .i64 (shrI .u64 (IntKind.wrap .u64 (IntKind.wrap .i64 (a+b))) (1:Int)))+m))-b)),((IntKind.wrap .i64 (shrI .u64 (IntKind.wrap .u64 (IntKind.wrap .i64 (a+b))) (1:Int))),((IntKind.wrap .i64 ((IntKind.wrap .i64 ((IntKind.wrap .i64 (shrI .u64 (IntKind.wrap .u64 (IntKind.wrap .i64 (a+b))) (1:Int)))+m))-1)),()))))))))))) fun r12 =>
 selim (fun y13 =>
 tif ((decide (y13.2.2.2.2.2.2.2.1<y13.2.2.1))) (
 tif ((decide (y13.2.2.1<(IntKind.wrap .i64 (y13.2.2.2.2.2.2.1-y13.2.2.2.2.2.2.2.1))))) (
 obind (sl_rotS n y13.1 y13.2.2.2.2.2.2.2.1 y13.2.2.1 (IntKind.wrap .i64 (y13.2.2.2.2.2.2.1-y13.2.2.2.2.2.2.2.1)) y13.2.2.2.2.1) fun r14 =>
 tif ((decide (y13.2.1<y13.2.2.2.2.2.2.2.1))) (
 tif ((decide (y13.2.2.2.2.2.2.2.1<y13.2.2.2.2.2.1))) (
 obind (sl_symM n r14 y13.2.1 y13.2.2.2.2.2.2.2.1 y13.2.2.2.2.2.1 y13.2.2.2.2.1) fun r15 =>
 tif ((decide (y13.2.2.2.2.2.1<(IntKind.wrap .i64 (y13.2.2.2.2.2.2.1-y13.2.2.2.2.2.2.2.1))))) (
 tif ((decide ((IntKind.wrap .i64 (y13.2.2.2.2.2.2.1-y13.2.2.2.2.2.2.2.1))<y13.2.2.2.1))) (
 obind (sl_symM n r15 y13.2.2.2.2.2.1 (IntKind.wrap .i64 (y13.2.2.2.2.2.2.1-y13.2.2.2.2.2.2.2.1)) y13.2.2.2.1 y13.2.2.2.2.1) fun r16 =>
 some r16) (
 some r15)) (
 some r15)) (
 tif ((decide (y13.2.2.2.2.2.1<(IntKind.wrap .i64 (y13.2.2.2.2.2.2.1-y13.2.2.2.2.2.2.2.1))))) (
 tif ((decide ((IntKind.wrap .i64 (y13.2.2.2.2.2.2.1-y13.2.2.2.2.2.2.2.1))<y13.2.2.2.1))) (
 obind (sl_symM n r14 y13.2.2.2.2.2.1 (IntKind.wrap .i64 (y13.2.2.2.2.2.2.1-y13.2.2.2.2.2.2.2.1)) y13.2.2.2.1 y13.2.2.2.2.1) fun r17 =>
 some r17) (
 some r14)) (
 some r14))) (
 tif ((decide (y13.2.2.2.2.2.1<(IntKind.wrap .i64 (y13.2.2.2.2.2.2.1-y13.2.2.2.2.2.2.2.1))))) (
 tif ((decide ((IntKind.wrap .i64 (y13.2.2.2.2.2.2.1-y13.2.2.2.2.2.2.2.1))<y13.2.2.2.1))) (
 obind (sl_symM n r14 y13.2.2.2.2.2.1 (IntKind.wrap .i64 (y13.2.2.2.2.2.2.1-y13.2.2.2.2.2.2.2.1)) y13.2.2.2.1 y13.2.2.2.2.1) fun r18 =>
 some r18) (
 some r14)) (
 some r14))) (
 tif ((decide (y13.2.1<y13.2.2.2.2.2.2.2.1))) (
 tif ((decide (y13.2.2.2.2.2.2.2.1<y13.2.2.2.2.2.1))) (
 obind (sl_symM n y13.1 y13.2.1 y13.2.2.2.2.2.2.2.1 y13.2.2.2.2.2.1 y13.2.2.2.2.1) fun r19 =>
 tif ((decide (y13.2.2.2.2.2.1<(IntKind.wrap .i64 (y13.2.2.2.2.2.2.1-y13.2.2.2.2.2.2.2.1))))) (
 tif ((decide ((IntKind.wrap .i64 (y13.2.2.2.2.2.2.1-y13.2.2.2.2.2.2.2.1))<y13.2.2.2.1))) (
 obind (sl_symM n r19 y13.2.2.2.2.2.1 (IntKind.wrap .i64 (y13.2.2.2.2.2.2.1-y13.2.2.2.2.2.2.2.1)) y13.2.2.2.1 y13.2.2.2.2.1) fun r20 =>
 some r20) (
 some r19)) (
 some r19)) (
 tif ((decide (y13.2.2.2.2.2.1<(IntKind.wrap .i64 (y13.2.2.2.2.2.2.1-y13.2.2.2.2.2.2.2.1))))) (
 tif ((decide ((IntKind.wrap .i64 (y13.2.2.2.2.2.2.1-y13.2.2.2.2.2.2.2.1))<y13.2.2.2.1))) (
 obind (sl_symM n y13.1 y13.2.2.2.2.2.1 (IntKind.wrap .i64 (y13.2.2.2.2.2.2.1-y13.2.2.2.2.2.2.2.1)) y13.2.2.2.1 y13.2.2.2.2.1) fun r21 =>
 some r21) (
 some y13.1)) (
 some y13.1))) (
 tif ((decide (y13.2.2.2.2.2.1<(IntKind.wrap .i64 (y13.2.2.2.2.2.2.1-y13.2.2.2.2.2.2.2.1))))) (
 tif ((decide ((IntKind.wrap .i64 (y13.2.2.2.2.2.2.1-y13.2.2.2.2.2.2.2.1))<y13.2.2.2.1))) (
 obind (sl_symM n y13.1 y13.2.2.2.2.2.1 (IntKind.wrap .i64 (y13.2.2.2.2.2.2.1-y13.2.2.2.2.2.2.2.1)) y13.2.2.2.1 y13.2.2.2.2.1) fun r22 =>
 some r22) (
 some y13.1)) (
 some y13.1)))) (
 tif ((decide (y13.2.1<y13.2.2.2.2.2.2.2.1))) (
 tif ((decide (y13.2.2.2.2.2.2.2.1<y13.2.2.2.2.2.1))) (
 obind (sl_symM n y13.1 y13.2.1 y13.2.2.2.2.2.2.2.1 y13.2.2.2.2.2.1 y13.2.2.2.2.1) fun r23 =>
 tif ((decide (y13.2.2.2.2.2.1<(IntKind.wrap .i64 (y13.2.2.2.2.2.2.1-y13.2.2.2.2.2.2.2.1))))) (
 tif ((decide ((IntKind.wrap .i64 (y13.2.2.2.2.2.2.1-y13.2.2.2.2.2.2.2.1))<y13.2.2.2.1))) (
 obind (sl_symM n r23 y13.2.2.2.2.2.1 (IntKind.wrap .i64 (y13.2.2.2.2.2.2.1-y13.2.2.2.2.2.2.2.1)) y13.2.2.2.1 y13.2.2.2.2.1) fun r24 =>
 some r24) (
 some r23)) (
 some r23)) (
 tif ((decide (y13.2.2.2.2.2.1<(IntKind.wrap .i64 (y13.2.2.2.2.2.2.1-y13.2.2.2.2.2.2.2.1))))) (
 tif ((decide ((IntKind.wrap .i64 (y13.2.2.2.2.2.2.1-y13.2.2.2.2.2.2.2.1))<y13.2.2.2.1))) (
 obind (sl_symM n y13.1 y13.2.2.2.2.2.1 (IntKind.wrap .i64 (y13.2.2.2.2.2.2.1-y13.2.2.2.2.2.2.2.1)) y13.2.2.2.1 y13.2.2.2.2.1) fun r25 =>
 some r25) (
 some y13.1)) (
 some y13.1))) (
 tif ((decide (y13.2.2.2.2.2.1<(IntKind.wrap .i64 (y13.2.2.2.2.2.2.1-y13.2.2.2.2.2.2.2.1))))) (
 tif ((decide ((IntKind.wrap .i64 (y13.2.2.2.2.2.2.1-y13.2.2.2.2.2.2.2.1))<y13.2.2.2.1))) (
 obind (sl_symM n y13.1 y13.2.2.2.2.2.1 (IntKind.wrap .i64 (y13.2.2.2.2.2.2.1-y13.2.2.2.2.2.2.2.1)) y13.2.2.2.1 y13.2.2.2.2.1) fun r26 =>
 some r26) (
 some y13.1)) (
 some y13.1)))) (fun z27 =>
 some z27) r12) (
 obind (sl_symM_l33 n loopFuel (data,(a,(m,(b,(cmp,((IntKind.wrap .i64 (shrI .u64 (IntKind.wrap .u64 (IntKind.wrap .i64 (a+b))) (1:Int))),((IntKind.wrap .i64 ((IntKind.wrap .i64 (shrI .u64 (IntKind.wrap .u64 (IntKind.wrap .i64 (a+b))) (1:Int)))+m)),(a,(m,((IntKind.wrap .i64 ((IntKind.wrap .i64 ((IntKind.wrap .i64 (shrI .u64 (IntKind.wrap .u64 (IntKind.wrap .i64 (a+b))) (1:Int)))+m))-1)),()))))))))))) fun r28 =>
 selim (fun y29 =>
 tif ((decide (y29.2.2.2.2.2.2.2.1<y29.2.2.1))) (
 tif ((decide (y29.2.2.1<(IntKind.wrap .i64 (y29.2.2.2.2.2.2.1-y29.2.2.2.2.2.2.2.1))))) (
 obind (sl_rotS n y29.1 y29.2.2.2.2.2.2.2.1 y29.2.2.1 (IntKind.wrap .i64 (y29.2.2.2.2.2.2.1-y29.2.2.2.2.2.2.2.1)) y29.2.2.2.2.1) fun r30 =>
 tif ((decide (y29.2.1<y29.2.2.2.2.2.2.2.1))) (
 tif ((decide (y29.2.2.2.2.2.2.2.1<y29.2.2.2.2.2.1))) (
 obind (sl_symM n r30 y29.2.1 y29.2.2.2.2.2.2.2.1 y29.2.2.2.2.2.1 y29.2.2.2.2.1) fun r31 =>
 tif ((decide (y29.2.2.2.2.2.1<(IntKind.wrap .i64 (y29.2.2.2.2.2.2.1-y29.2.2.2.2.2.2.2.1))))) (
 tif ((decide ((IntKind.wrap .i64 (y29.2.2.2.2.2.2.1-y29.2.2.2.2.2.2.2.1))<y29.2.2.2.1))) (
 obind (sl_symM n r31 y29.2.2.2.2.2.1 (IntKind.wrap .i64 (y29.2.2.2.2.2.2.1-y29.2.2.2.2.2.2.2.1)) y29.2.2.2.1 y29.2.2.2.2.1) fun r32 =>
 some r32) (
 some r31)) (
 some r31)) (
 tif ((decide (y29.2.2.2.2.2.1<(IntKind.wrap .i64 (y29.2.2.2.2.2.2.1-y29.2.2.2.2.2.2.2.1))))) (
 tif ((decide ((IntKind.wrap .i64 (y29.2.2.2.2.2.2.1-y29.2.2.2.2.2.2.2.1))<y29.2.2.2.1))) (
 obind (sl_symM n r30 y29.2.2.2.2.2.1 (IntKind.wrap .i64 (y29.2.2.2.2.2.2.1-y29.2.2.2.2.2.2.2.1)) y29.2.2.2.1 y29.2.2.2.2.1) fun r33 =>
 some r33) (
 some r30)) (
 some r30))) (
 tif ((decide (y29.2.2.2.2.2.1<(IntKind.wrap .i64 (y29.2.2.2.2.2.2.1-y29.2.2.2.2.2.2.2.1))))) (
 tif ((decide ((IntKind.wrap .i64 (y29.2.2.2.2.2.2.1-y29.2.2.2.2.2.2.2.1))<y29.2.2.2.1))) (
 obind (sl_symM n r30 y29.2.2.2.2.2.1 (IntKind.wrap .i64 (y29.2.2.2.2.2.2.1-y29.2.2.2.2.2.2.2.1)) y29.2.2.2.1 y29.2.2.2.2.1) fun r34 =>
 some r34) (
 some r30)) (
 some r30))) (
 tif ((decide (y29.2.1<y29.2.2.2.2.2.2.2.1))) (
 tif ((decide (y29.2.2.2.2.2.2.2.1<y29.2.2.2.2.2.1))) (
 obind (sl_symM n y29.1 y29.2.1 y29.2.2.2.2.2.2.2.1 y29.2.2.2.2.2.1 y29.2.2.2.2.1) fun r35 =>
 tif ((decide (y29.2.2.2.2.2.1<(IntKind.wrap .i64 (y29.2.2.2.2.2.2.1-y29.2.2.2.2.2.2.2.1))))) (
 tif ((decide ((IntKind.wrap .i64 (y29.2.2.2.2.2.2.1-y29.2.2.2.2.2.2.2.1))<y29.2.2.2.1))) (
 obind (sl_symM n r35 y29.2.2.2.2.2.1 (IntKind.wrap .i64 (y29.2.2.2.2.2.2.1-y29.2.2.2.2.2.2.2.1)) y29.2.2.2.1 y29.2.2.2.2.1) fun r36 =>
 some r36) (
 some r35)) (
 some r35)) (
 tif ((decide (y29.2.2.2.2.2.1<(IntKind.wrap .i64 (y29.2.2.2.2.2.2.1-y29.2.2.2.2.2.2.2.1))))) (
 tif ((decide ((IntKind.wrap .i64 (y29.2.2.2.2.2.2.1-y29.2.2.2.2.2.2.2.1))<y29.2.2.2.1))) (
 obind (sl_symM n y29.1 y29.2.2.2.2.2.1 (IntKind.wrap .i64 (y29.2.2.2.2.2.2.1-y29.2.2.2.2.2.2.2.1)) y29.2.2.2.1 y29.2.2.2.2.1) fun r37 =>
 some r37) (
 some y29.1)) (
 some y29.1))) (
 tif ((decide (y29.2.2.2.2.2.1<(IntKind.wrap .i64 (y29.2.2.2.2.2.2.1-y29.2.2.2.2.2.2.2.1))))) (
 tif ((decide ((IntKind.wrap .i64 (y29.2.2.2.2.2.2.1-y29.2.2.2.2.2.2.2.1))<y29.2.2.2.1))) (
 obind (sl_symM n y29.1 y29.2.2.2.2.2.1 (IntKind.wrap .i64 (y29.2.2.2.2.2.2.1-y29.2.2.2.2.2.2.2.1)) y29.2.2.2.1 y29.2.2.2.2.1) fun r38 =>
 some r38) (
 some y29.1)) (
 some y29.1)))) (
 tif ((decide (y29.2.1<y29.2.2.2.2.2.2.2.1))) (
 tif ((decide (y29.2.2.2.2.2.2.2.1<y29.2.2.2.2.2.1))) (
 obind (sl_symM n y29.1 y29.2.1 y29.2.2.2.2.2.2.2.1 y29.2.2.2.2.2.1 y29.2.2.2.2.1) fun r39 =>
 tif ((decide (y29.2.2.2.2.2.1<(IntKind.wrap .i64 (y29.2.2.2.2.2.2.1-y29.2.2.2.2.2.2.2.1))))) (
 tif ((decide ((IntKind.wrap .i64 (y29.2.2.2.2.2.2.1-y29.2.2.2.2.2.2.2.1))<y29.2.2.2.1))) (
 obind (sl_symM n r39 y29.2.2.2.2.2.1 (IntKind.wrap .i64 (y29.2.2.2.2.2.2.1-y29.2.2.2.2.2.2.2.1)) y29.2.2.2.1 y29.2.2.2.2.1) fun r40 =>
 some r40) (
 some r39)) (
 some r39)) (
 tif ((decide (y29.2.2.2.2.2.1<(IntKind.wrap .i64 (y29.2.2.2.2.2.2.1-y29.2.2.2.2.2.2.2.1))))) (
 tif ((decide ((IntKind.wrap .i64 (y29.2.2.2.2.2.2.1-y29.2.2.2.2.2.2.2.1))<y29.2.2.2.1))) (
 obind (sl_symM n y29.1 y29.2.2.2.2.2.1 (IntKind.wrap .i64 (y29.2.2.2.2.2.2.1-y29.2.2.2.2.2.2.2.1)) y29.2.2.2.1 y29.2.2.2.2.1) fun r41 =>
 some r41) (
 some y29.1)) (
 some y29.1))) (
 tif ((decide (y29.2.2.2.2.2.1<(IntKind.wrap .i64 (y29.2.2.2.2.2.2.1-y29.2.2.2.2.2.2.2.1))))) (
 tif ((decide ((IntKind.wrap .i64 (y29.2.2.2.2.2.2.1-y29.2.2.2.2.2.2.2.1))<y29.2.2.2.1))) (
 obind (sl_symM n y29.1 y29.2.2.2.2.2.1 (IntKind.wrap .i64 (y29.2.2.2.2.2.2.1-y29.2.2.2.2.2.2.2.1)) y29.2.2.2.1 y29.2.2.2.2.1) fun r42 =>
 some r42) (
 some y29.1)) (
 some y29.1)))) (fun z43 =>
 some z43) r28))):=by kernel_rfl
theorem sl_symM_l3_eq (n f:Nat) (data:(List TSlot)) (a:Int) (cmp:((TSlot×(TSlot×Unit))→Option Int)) (i:Int) (j:Int):sl_symM_l3 n (f+1) (data,a,cmp,i,j,()) =
 tif ((decide (i<j))) (
 obind (at? data (IntKind.wrap .i64 (shrI .u64 (IntKind.wrap .u64 (IntKind.wrap .i64 (i+j))) (1:Int)))) fun r0 =>
 obind ((data)[(Int.toNat (IntKind.wrap .i64 (shrI .u64 (IntKind.wrap .u64 (IntKind.wrap .i64 (i+j))) (1:Int))))]?) fun r1 =>
 obind (at? data a) fun r2 =>
 obind ((data)[(Int.toNat a)]?) fun r3 =>
 obind (cmp (r1,(r3,()))) fun r4 =>
 tif ((decide (r4<0))) (
 sl_symM_l3 n f (data,(a,(cmp,((IntKind.wrap .i64 ((IntKind.wrap .i64 (shrI .u64 (IntKind.wrap .u64 (IntKind.wrap .i64 (i+j))) (1:Int)))+1)),(j,())))))) (
 sl_symM_l3 n f (data,(a,(cmp,(i,((IntKind.wrap .i64 (shrI .u64 (IntKind.wrap .u64 (IntKind.wrap .i64 (i+j))) (1:Int))),()))))))) (
 some (.inl (data,(a,(i,()))))):=by kernel_rfl
theorem sl_symM_l9_eq (n f:Nat) (data:(List TSlot)) (i:Int) (k:Int):sl_symM_l9 n (f+1) (data,i,k,()) =
 tif ((decide (k<(IntKind.wrap .i64 (i-1))))) (
 obind (at? data (IntKind.wrap .i64 (k+1))) fun r0 =>
 obind ((data)[(Int.toNat (IntKind.wrap .i64 (k+1)))]?) fun r1 =>
 obind (at? data k) fun r2 =>
 obind ((data)[(Int.toNat k)]?) fun r3 =>
 obind (at? data k) fun r4 =>
 obind ((data)[(Int.toNat k)]?) fun r5 =>
 obind (at? (List.set data (Int.toNat k) r1) (IntKind.wrap .i64 (k+1))) fun r6 =>
 obind (((List.set data (Int.toNat k) r1))[(Int.toNat (IntKind.wrap .i64 (k+1)))]?) fun r7 =>
 sl_symM_l9 n f ((List.set (List.set data (Int.toNat k) r1) (Int.toNat (IntKind.wrap .i64 (k+1))) r3),(i,((IntKind.wrap .i64 (k+1)),())))) (
 some (.inl (data,()))):=by kernel_rfl
theorem sl_symM_l15_eq (n f:Nat) (data:(List TSlot)) (m:Int) (cmp:((TSlot×(TSlot×Unit))→Option Int)) (i_:Int) (j_:Int):sl_symM_l15 n (f+1) (data,m,cmp,i_,j_,()) =
 tif ((decide (i_<j_))) (
 obind (at? data m) fun r0 =>
 obind ((data)[(Int.toNat m)]?) fun r1 =>
 obind (at? data (IntKind.wrap .i64 (shrI .u64 (IntKind.wrap .u64 (IntKind.wrap .i64 (i_+j_))) (1:Int)))) fun r2 =>
 obind ((data)[(Int.toNat (IntKind.wrap .i64 (shrI .u64 (IntKind.wrap .u64 (IntKind.wrap .i64 (i_+j_))) (1:Int))))]?) fun r3 =>
 obind (cmp (r1,(r3,()))) fun r4 =>
 tif ((!(decide (r4<0)))) (
 sl_symM_l15 n f (data,(m,(cmp,((IntKind.wrap .i64 ((IntKind.wrap .i64 (shrI .u64 (IntKind.wrap .u64 (IntKind.wrap .i64 (i_+j_))) (1:Int)))+1)),(j_,())))))) (
 sl_symM_l15 n f (data,(m,(cmp,(i_,((IntKind.wrap .i64 (shrI .u64 (IntKind.wrap .u64 (IntKind.wrap .i64 (i_+j_))) (1:Int))),()))))))) (
 some (.inl (data,(m,(i_,()))))):=by kernel_rfl
theorem sl_symM_l21_eq (n f:Nat) (data:(List TSlot)) (i_:Int) (k_:Int):sl_symM_l21 n (f+1) (data,i_,k_,()) =
 tif ((decide (i_<k_))) (
 obind (at? data (IntKind.wrap .i64 (k_-1))) fun r0 =>
 obind ((data)[(Int.toNat (IntKind.wrap .i64 (k_-1)))]?) fun r1 =>
 obind (at? data k_) fun r2 =>
 obind ((data)[(Int.toNat k_)]?) fun r3 =>
 obind (at? data k_) fun r4 =>
 obind ((data)[(Int.toNat k_)]?) fun r5 =>
 obind (at? (List.set data (Int.toNat k_) r1) (IntKind.wrap .i64 (k_-1))) fun r6 =>
 obind (((List.set data (Int.toNat k_) r1))[(Int.toNat (IntKind.wrap .i64 (k_-1)))]?) fun r7 =>
 sl_symM_l21 n f ((List.set (List.set data (Int.toNat k_) r1) (Int.toNat (IntKind.wrap .i64 (k_-1))) r3),(i_,((IntKind.wrap .i64 (k_-1)),())))) (
 some (.inl (data,()))):=by kernel_rfl
theorem sl_symM_l33_eq (n f:Nat) (data:(List TSlot)) (a:Int) (m:Int) (b:Int) (cmp:((TSlot×(TSlot×Unit))→Option Int)) (mid:Int) (n_:Int) (start:Int) (r:Int) (p:Int):sl_symM_l33 n (f+1) (data,a,m,b,cmp,mid,n_,start,r,p,()) =
 tif ((decide (start<r))) (
 obind (at? data (IntKind.wrap .i64 (p-(IntKind.wrap .i64 (shrI .u64 (IntKind.wrap .u64 (IntKind.wrap .i64 (start+r))) (1:Int)))))) fun r0 =>
 obind ((data)[(Int.toNat (IntKind.wrap .i64 (p-(IntKind.wrap .i64 (shrI .u64 (IntKind.wrap .u64 (IntKind.wrap .i64 (start+r))) (1:Int))))))]?) fun r1 =>
 obind (at? data (IntKind.wrap .i64 (shrI .u64 (IntKind.wrap .u64 (IntKind.wrap .i64 (start+r))) (1:Int)))) fun r2 =>
 obind ((data)[(Int.toNat (IntKind.wrap .i64 (shrI .u64 (IntKind.wrap .u64 (IntKind.wrap .i64 (start+r))) (1:Int))))]?) fun r3 =>
 obind (cmp (r1,(r3,()))) fun r4 =>
 tif ((!(decide (r4<0)))) (
 sl_symM_l33 n f (data,(a,(m,(b,(cmp,(mid,(n_,((IntKind.wrap .i64 ((IntKind.wrap .i64 (shrI .u64 (IntKind.wrap .u64 (IntKind.wrap .i64 (start+r))) (1:Int)))+1)),(r,(p,()))))))))))) (
 sl_symM_l33 n f (data,(a,(m,(b,(cmp,(mid,(n_,(start,((IntKind.wrap .i64 (shrI .u64 (IntKind.wrap .u64 (IntKind.wrap .i64 (start+r))) (1:Int))),(p,())))))))))))) (
 some (.inl (data,(a,(m,(b,(cmp,(mid,(n_,(start,())))))))))):=by kernel_rfl
theorem sl_rotS_eq (n:Nat) (data:(List TSlot)) (a:Int) (m:Int) (b:Int) (cmp:((TSlot×(TSlot×Unit))→Option Int)):sl_rotS (n+1) data a m b cmp =
 obind (sl_rotS_l2 n loopFuel (data,(m,(cmp,((IntKind.wrap .i64 (m-a)),((IntKind.wrap .i64 (b-m)),())))))) fun r0 =>
 selim (fun y1 =>
 obind (sl_swpR n y1.1 (IntKind.wrap .i64 (y1.2.1-y1.2.2.2.1)) y1.2.1 y1.2.2.2.1 y1.2.2.1) fun r2 =>
 some r2) (fun z3 =>
 some z3) r0:=by kernel_rfl
theorem sl_rotS_l2_eq (n f:Nat) (data:(List TSlot)) (m:Int) (cmp:((TSlot×(TSlot×Unit))→Option Int)) (i:Int) (j:Int):sl_rotS_l2 n (f+1) (data,m,cmp,i,j,()) =
 tif ((!(decide (i=j)))) (
 tif ((decide (j<i))) (
 obind (sl_swpR n data (IntKind.wrap .i64 (m-i)) m j cmp) fun r0 =>
 sl_rotS_l2 n f (r0,(m,(cmp,((IntKind.wrap .i64 (i-j)),(j,())))))) (
 obind (sl_swpR n data (IntKind.wrap .i64 (m-i)) (IntKind.wrap .i64 ((IntKind.wrap .i64 (m+j))-i)) i cmp) fun r1 =>
 sl_rotS_l2 n f (r1,(m,(cmp,(i,((IntKind.wrap .i64 (j-i)),()))))))) (
 some (.inl (data,(m,(cmp,(i,())))))):=by kernel_rfl
theorem sl_swpR_eq (n:Nat) (data:(List TSlot)) (a:Int) (b:Int) (n_:Int) (cmp:((TSlot×(TSlot×Unit))→Option Int)):sl_swpR (n+1) data a b n_ cmp =
 obind (sl_swpR_l1 n loopFuel (data,(a,(b,(n_,((0:Int),())))))) fun r0 =>
 selim (fun y1 =>
 some y1.1) (fun z2 =>
 some z2) r0:=by kernel_rfl
theorem sl_swpR_l1_eq (n f:Nat) (data:(List TSlot)) (a:Int) (b:Int) (n_:Int) (i:Int):sl_swpR_l1 n (f+1) (data,a,b,n_,i,()) =
 tif ((decide (i<n_))) (
 obind (at? data (IntKind.wrap .i64 (b+i))) fun r0 =>
 obind ((data)[(Int.toNat (IntKind.wrap .i64 (b+i)))]?) fun r1 =>
 obind (at? data (IntKind.wrap .i64 (a+i))) fun r2 =>
 obind ((data)[(Int.toNat (IntKind.wrap .i64 (a+i)))]?) fun r3 =>
 obind (at? data (IntKind.wrap .i64 (a+i))) fun r4 =>
 obind ((data)[(Int.toNat (IntKind.wrap .i64 (a+i)))]?) fun r5 =>
 obind (at? (List.set data (Int.toNat (IntKind.wrap .i64 (a+i))) r1) (IntKind.wrap .i64 (b+i))) fun r6 =>
 obind (((List.set data (Int.toNat (IntKind.wrap .i64 (a+i))) r1))[(Int.toNat (IntKind.wrap .i64 (b+i)))]?) fun r7 =>
 sl_swpR_l1 n f ((List.set (List.set data (Int.toNat (IntKind.wrap .i64 (a+i))) r1) (Int.toNat (IntKind.wrap .i64 (b+i))) r3),(a,(b,(n_,((IntKind.wrap .i64 (i+1)),())))))) (
 some (.inl (data,()))):=by kernel_rfl
end Go.Proofs.YtefpnjjbopdplaaGreatDoor
