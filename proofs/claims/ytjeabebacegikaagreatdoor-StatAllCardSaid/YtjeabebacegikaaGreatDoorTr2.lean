/- Trees, printed by program. -/
import Derived.Test.YtjeabebacegikaaGreatDoorTr0
import Derived.KernelRfl
set_option linter.unusedVariables false
namespace Go.Proofs.YtjeabebacegikaaGreatDoor
open Go.Flat
theorem stt_view_lives_eq (n:Nat) (v:TState) (i:Int):stt_view_lives (n+1) v i =
 obind (at? v.2.2.2 i) fun r0 =>
 obind (stt_empty n r0) fun r1 =>
 tif ((!r1)) (
 tif ((decide (v.2.2.1=((-1):Int)))) (
 some true) (
 obind (series_Dead n v.1 r0.2.1 v.2.2.1) fun r2 =>
 some (!r2))) (
 some false):=by kernel_rfl
theorem tier_All_eq (n:Nat) (l:(List TSlot)):tier_All (n+1) l =
 obind (sl_Clone_Slot n l) fun r0 =>
 obind (sl_DeleteFunc_Slot n r0 (fun y1=>tier_none n y1.1)) fun r2 =>
 obind (sl_SortStableFunc_Slot n r2 (fun y3=>tier_All_1 n y3.1 y3.2.1)) fun r4 =>
 some r4:=by kernel_rfl
theorem r15_Same_eq (n:Nat) (a:TSeries) (b:TSeries):r15_Same (n+1) a b =
 obind (r05_Same n a.1 b.1) fun r0 =>
 tif (r0) (
 tif ((decide (a.2.1=b.2.1))) (
 obind (r12_Same n a.2.2.1 b.2.2.1) fun r1 =>
 tif (r1) (
 obind (r14_Same n a.2.2.2.1 b.2.2.2.1) fun r2 =>
 tif (r2) (
 some ((decide (a.2.2.2.2.1=b.2.2.2.2.1))&&((decide (a.2.2.2.2.2.1=b.2.2.2.2.2.1))&&((decide (a.2.2.2.2.2.2.1.1=b.2.2.2.2.2.2.1.1))&&((decide (a.2.2.2.2.2.2.1.2.1=b.2.2.2.2.2.2.1.2.1))&&((decide (a.2.2.2.2.2.2.1.2.2.1=b.2.2.2.2.2.2.1.2.2.1))&&((a.2.2.2.2.2.2.1.2.2.2==b.2.2.2.2.2.2.1.2.2.2)&&((decide (a.2.2.2.2.2.2.2.1.1=b.2.2.2.2.2.2.2.1.1))&&((decide (a.2.2.2.2.2.2.2.1.2.1=b.2.2.2.2.2.2.2.1.2.1))&&((decide (a.2.2.2.2.2.2.2.1.2.2.1=b.2.2.2.2.2.2.2.1.2.2.1))&&((a.2.2.2.2.2.2.2.1.2.2.2==b.2.2.2.2.2.2.2.1.2.2.2)&&((decide (a.2.2.2.2.2.2.2.2.1.1=b.2.2.2.2.2.2.2.2.1.1))&&((decide (a.2.2.2.2.2.2.2.2.1.2=b.2.2.2.2.2.2.2.2.1.2))&&((decide (a.2.2.2.2.2.2.2.2.2.1=b.2.2.2.2.2.2.2.2.2.1))&&((decide (a.2.2.2.2.2.2.2.2.2.2.1=b.2.2.2.2.2.2.2.2.2.2.1))&&(decide (a.2.2.2.2.2.2.2.2.2.2.2=b.2.2.2.2.2.2.2.2.2.2.2))))))))))))))))) (
 some false)) (
 some false)) (
 some false)) (
 some false):=by kernel_rfl
theorem r10_Check_eq (n:Nat) (c:TConfig):r10_Check (n+1) c =
 tif ((decide (c.1<1))) (
 some (2:Int)) (
 tif ((decide ((4096:Int)<c.1))) (
 some (2:Int)) (
 tif ((decide (c.2.2.2.1<1))) (
 some (2:Int)) (
 tif ((decide ((65536:Int)<c.2.2.2.1))) (
 some (2:Int)) (
 tif ((decide (c.2.2.2.2<1))) (
 some (2:Int)) (
 tif ((decide ((8192:Int)<c.2.2.2.2))) (
 some (2:Int)) (
 tif ((decide (c.2.1.1<1))) (
 some (2:Int)) (
 tif ((decide ((1099511627776:Int)<c.2.1.1))) (
 some (2:Int)) (
 tif ((decide (c.2.2.1.1<1))) (
 some (2:Int)) (
 tif ((decide ((4096:Int)<c.2.2.1.1))) (
 some (2:Int)) (
 tif ((decide (c.2.1.2.1<1))) (
 some (2:Int)) (
 tif ((decide ((1099511627776:Int)<c.2.1.2.1))) (
 some (2:Int)) (
 tif ((decide (c.2.2.1.2.1<1))) (
 some (2:Int)) (
 tif ((decide ((4096:Int)<c.2.2.1.2.1))) (
 some (2:Int)) (
 tif ((decide (c.2.1.1=0))) (
 none) (
 tif ((!(decide ((Int.tmod c.2.1.2.1 c.2.1.1)=0)))) (
 some (2:Int)) (
 tif ((decide (c.2.1.1=0))) (
 none) (
 tif ((decide (c.2.2.1.1<(IntKind.wrap .i64 (Int.tdiv c.2.1.2.1 c.2.1.1))))) (
 some (2:Int)) (
 tif ((decide (c.2.1.2.2<1))) (
 some (2:Int)) (
 tif ((decide ((1099511627776:Int)<c.2.1.2.2))) (
 some (2:Int)) (
 tif ((decide (c.2.2.1.2.2<1))) (
 some (2:Int)) (
 tif ((decide ((4096:Int)<c.2.2.1.2.2))) (
 some (2:Int)) (
 tif ((decide (c.2.1.2.1=0))) (
 none) (
 tif ((!(decide ((Int.tmod c.2.1.2.2 c.2.1.2.1)=0)))) (
 some (2:Int)) (
 tif ((decide (c.2.1.2.1=0))) (
 none) (
 tif ((decide (c.2.2.1.2.1<(IntKind.wrap .i64 (Int.tdiv c.2.1.2.2 c.2.1.2.1))))) (
 some (2:Int)) (
 obind (r10_place n c) fun r0 =>
 tif ((decide (c.2.2.2.2≤r0))) (
 some (2:Int)) (
 some (0:Int)))))))))))))))))))))))))))):=by kernel_rfl
theorem stt_Room_1_eq (n:Nat) (i:Int) (p1:TState):stt_Room_1 (n+1) i p1 =
 obind (stt_view_lives n p1 i) fun r0 =>
 some (!r0):=by kernel_rfl
theorem conf_Check_eq (n:Nat) (c:TConfig):conf_Check (n+1) c =
 obind (conf_in_int n c.1 (1:Int) (4096:Int)) fun r0 =>
 tif (r0) (
 obind (conf_in_int n c.2.2.2.1 (1:Int) (65536:Int)) fun r1 =>
 tif (r1) (
 obind (conf_in_int n c.2.2.2.2 (1:Int) (8192:Int)) fun r2 =>
 tif (r2) (
 obind (conf_in_int64 n c.2.1.1 (1:Int) (1099511627776:Int)) fun r3 =>
 tif (r3) (
 obind (conf_in_int n c.2.2.1.1 (1:Int) (4096:Int)) fun r4 =>
 tif (r4) (
 obind (conf_in_int64 n c.2.1.2.1 (1:Int) (1099511627776:Int)) fun r5 =>
 tif (r5) (
 obind (conf_in_int n c.2.2.1.2.1 (1:Int) (4096:Int)) fun r6 =>
 tif (r6) (
 obind (conf_in_int64 n c.2.1.2.2 (1:Int) (1099511627776:Int)) fun r7 =>
 tif (r7) (
 obind (conf_in_int n c.2.2.1.2.2 (1:Int) (4096:Int)) fun r8 =>
 tif (r8) (
 tif ((decide (c.2.1.1=0))) (
 none) (
 tif ((decide ((Int.tmod c.2.1.2.1 c.2.1.1)=0))) (
 tif ((decide (c.2.1.1=0))) (
 none) (
 tif ((decide ((IntKind.wrap .i64 (Int.tdiv c.2.1.2.1 c.2.1.1))≤c.2.2.1.1))) (
 tif ((decide (c.2.1.2.1=0))) (
 none) (
 tif ((decide ((Int.tmod c.2.1.2.2 c.2.1.2.1)=0))) (
 tif ((decide (c.2.1.2.1=0))) (
 none) (
 tif ((decide ((IntKind.wrap .i64 (Int.tdiv c.2.1.2.2 c.2.1.2.1))≤c.2.2.1.2.1))) (
 tif ((!(decide ((IntKind.wrap .i64 (Int.tdiv c.2.1.2.2 c.2.1.2.1))≤c.2.2.1.2.1)))) (
 some (2:Int)) (
 obind (conf_place n c) fun r9 =>
 tif ((decide (c.2.2.2.2≤r9))) (
 some (2:Int)) (
 some (0:Int)))) (
 tif ((!(decide ((IntKind.wrap .i64 (Int.tdiv c.2.1.2.2 c.2.1.2.1))≤c.2.2.1.2.1)))) (
 some (2:Int)) (
 obind (conf_place n c) fun r10 =>
 tif ((decide (c.2.2.2.2≤r10))) (
 some (2:Int)) (
 some (0:Int)))))) (
 some (2:Int)))) (
 tif ((!(decide ((IntKind.wrap .i64 (Int.tdiv c.2.1.2.1 c.2.1.1))≤c.2.2.1.1)))) (
 some (2:Int)) (
 obind (conf_place n c) fun r11 =>
 tif ((decide (c.2.2.2.2≤r11))) (
 some (2:Int)) (
 some (0:Int)))))) (
 some (2:Int)))) (
 tif ((!r8)) (
 some (2:Int)) (
 obind (conf_place n c) fun r12 =>
 tif ((decide (c.2.2.2.2≤r12))) (
 some (2:Int)) (
 some (0:Int))))) (
 some (2:Int))) (
 some (2:Int))) (
 some (2:Int))) (
 some (2:Int))) (
 some (2:Int))) (
 some (2:Int))) (
 some (2:Int))) (
 some (2:Int)):=by kernel_rfl
theorem stt_time_eq (n:Nat) (t:Int):stt_time (n+1) t =
 tif ((decide ((0:Int)≤t))) (
 some (decide (t<35184372088832))) (
 some false):=by kernel_rfl
theorem stt_empty_eq (n:Nat) (s:TSeries):stt_empty (n+1) s =
 obind (series_Same n s ([],((0:Int),(((0:Int),((0:Int),[])),(([],([],[])),((0:Int),((0:Int),(((0:Int),((0:Int),((0:Int),false))),(((0:Int),((0:Int),((0:Int),false))),(((0:Int),(0:Int)),((0:Int),((0:Int),(0:Int))))))))))))) fun r0 =>
 some r0:=by kernel_rfl
theorem series_Check_eq (n:Nat) (c:TConfig) (s:TSeries):series_Check (n+1) c s =
 obind (series_open n c s) fun r0 =>
 oelim (r0.1) (
 some r0.2) fun r1 =>
 some r0.2:=by kernel_rfl
theorem stt_view_mark_eq (n:Nat) (v:TState):stt_view_mark (n+1) v =
 tif ((decide (v.1.2.1.1=0))) (
 none) (
 some (IntKind.wrap .i64 (v.2.1-(Int.tmod v.2.1 v.1.2.1.1)))):=by kernel_rfl
theorem stt_view_twin_eq (n:Nat) (v:TState) (i:Int):stt_view_twin (n+1) v i =
 obind (stt_view_place n v (fun y0=>stt_view_twin_1 n y0.1 i v)) fun r1 =>
 tif ((decide (r1<i))) (
 obind (stt_view_lives n v i) fun r2 =>
 some r2) (
 some false):=by kernel_rfl
theorem sl_DeleteFunc_int_eq (n:Nat) (s:(List Int)) (del:((Int×Unit)→Option Bool)):sl_DeleteFunc_int (n+1) s del =
 obind (sl_IndexFunc_int n s del) fun r0 =>
 tif ((decide (r0=((-1):Int)))) (
 some s) (
 obind (sl_DeleteFunc_int_l5 n loopFuel (s,(del,(r0,((IntKind.wrap .i64 (r0+1)),()))))) fun r1 =>
 selim (fun y2 =>
 tif ((decide ((0:Int)≤y2.2.1))) (
 tif ((decide ((Int.toNat y2.2.1)≤(List.length y2.1)))) (
 tif ((decide (((Int.toNat y2.2.1)+((List.length y2.1)-(Int.toNat y2.2.1)))≤(List.length y2.1)))) (
 tif (((decide ((0:Int)≤y2.2.1))&&(decide (y2.2.1≤(((List.length (Go.Flat.putRow y2.1 (Int.toNat y2.2.1) (List.replicate ((List.length y2.1)-(Int.toNat y2.2.1)) (0:Int)))):Nat):Int))))) (
 some (List.take ((Int.toNat y2.2.1)-0) (Go.Flat.putRow y2.1 (Int.toNat y2.2.1) (List.replicate ((List.length y2.1)-(Int.toNat y2.2.1)) (0:Int))))) (
 none)) (
 none)) (
 none)) (
 none)) (fun z3 =>
 some z3) r1):=by kernel_rfl
theorem sl_DeleteFunc_int_l5_eq (n f:Nat) (s:(List Int)) (del:((Int×Unit)→Option Bool)) (i:Int) (j:Int):sl_DeleteFunc_int_l5 n (f+1) (s,del,i,j,()) =
 tif ((decide (j<(((List.length s):Nat):Int)))) (
 obind (at? s j) fun r0 =>
 obind ((s)[(Int.toNat j)]?) fun r1 =>
 obind (del (r1,())) fun r2 =>
 tif ((!r2)) (
 obind (at? s i) fun r3 =>
 obind ((s)[(Int.toNat i)]?) fun r4 =>
 sl_DeleteFunc_int_l5 n f ((List.set s (Int.toNat i) r1),(del,((IntKind.wrap .i64 (i+1)),((IntKind.wrap .i64 (j+1)),()))))) (
 sl_DeleteFunc_int_l5 n f (s,(del,(i,((IntKind.wrap .i64 (j+1)),())))))) (
 some (.inl (s,(i,())))):=by kernel_rfl
theorem sweep_Due_1_eq (n:Nat) (i:Int) (p1:TState):sweep_Due_1 (n+1) i p1 =
 obind (at? p1.2.2.2 i) fun r0 =>
 obind (series_Dead n p1.1 r0.2.1 p1.2.1) fun r1 =>
 some (!r1):=by kernel_rfl
theorem wi_Of_eq (n:Nat) (t:Int) (w:Int):wi_Of (n+1) t w =
 obind (wi_in_int64 n t (0:Int) (35184372088831:Int)) fun r0 =>
 tif ((!r0)) (
 some ((0:Int),(1:Int))) (
 obind (wi_width n w) fun r1 =>
 tif ((!r1)) (
 some ((0:Int),(1:Int))) (
 tif ((decide (w=0))) (
 none) (
 some ((IntKind.wrap .i64 (Int.tdiv t w)),(0:Int))))):=by kernel_rfl
theorem wi_in_int_eq (n:Nat) (n_:Int) (low:Int) (high:Int):wi_in_int (n+1) n_ low high =
 tif ((decide (low≤n_))) (
 some (decide (n_≤high))) (
 some false):=by kernel_rfl
theorem sweep_needed_eq_0 (n:Nat) (c:TConfig) (last:Int):sweep_needed (n+1) c last (0:Int) =
 tif ((decide (c.2.1.1=0))) (
 none) (
 tif ((decide (c.2.1.2.1=0))) (
 none) (
 some ((IntKind.wrap .i64 ((IntKind.wrap .i64 (Int.tdiv last c.2.1.2.1))*(IntKind.wrap .i64 (Int.tdiv c.2.1.2.1 c.2.1.1)))),(IntKind.wrap .i64 ((IntKind.wrap .i64 ((IntKind.wrap .i64 (Int.tdiv last c.2.1.2.1))*(IntKind.wrap .i64 (Int.tdiv c.2.1.2.1 c.2.1.1))))+(IntKind.wrap .i64 (Int.tdiv c.2.1.2.1 c.2.1.1))))))):=by kernel_rfl
theorem sweep_needed_eq_1 (n:Nat) (c:TConfig) (last:Int):sweep_needed (n+1) c last (1:Int) =
 tif ((decide (c.2.1.2.1=0))) (
 none) (
 tif ((decide (c.2.1.2.2=0))) (
 none) (
 some ((IntKind.wrap .i64 ((IntKind.wrap .i64 (Int.tdiv last c.2.1.2.2))*(IntKind.wrap .i64 (Int.tdiv c.2.1.2.2 c.2.1.2.1)))),(IntKind.wrap .i64 ((IntKind.wrap .i64 ((IntKind.wrap .i64 (Int.tdiv last c.2.1.2.2))*(IntKind.wrap .i64 (Int.tdiv c.2.1.2.2 c.2.1.2.1))))+(IntKind.wrap .i64 (Int.tdiv c.2.1.2.2 c.2.1.2.1))))))):=by kernel_rfl
theorem sweep_needed_eq_2 (n:Nat) (c:TConfig) (last:Int):sweep_needed (n+1) c last (2:Int) =
 some ((0:Int),(0:Int)):=by kernel_rfl
theorem sl_Clone_Slot_eq (n:Nat) (s:(List TSlot)):sl_Clone_Slot (n+1) s =
 tif ((decide ((List.length s)=0))) (
 both (
 some []) (
 tif ((decide (((0+(List.length s))*120)≤140737488355328))) (
 some ([]++s)) (
 none))) (
 tif ((decide (((0+(List.length s))*120)≤140737488355328))) (
 some ([]++s)) (
 none)):=by kernel_rfl
theorem label_Check_eq (n:Nat) (l:(List (List UInt8×List UInt8))):label_Check (n+1) l =
 tif ((decide ((((List.length l):Nat):Int)=0))) (
 some (8:Int)) (
 tif ((decide ((16:Int)<(((List.length l):Nat):Int)))) (
 some (8:Int)) (
 obind (label_Check_l5 n loopFuel (l,((256:Int),(l,((((List.length l):Nat):Int),((0:Int),())))))) fun r0 =>
 selim (fun y1 =>
 some (0:Int)) (fun z2 =>
 some z2) r0)):=by kernel_rfl
theorem label_Check_l5_eq (n f:Nat) (l:(List (List UInt8×List UInt8))) (left:Int) (s14:(List (List UInt8×List UInt8))) (s15:Int) (s16:Int):label_Check_l5 n (f+1) (l,left,s14,s15,s16,()) =
 tif ((decide (s16<s15))) (
 obind (at? s14 s16) fun r0 =>
 obind (label_name n r0.1) fun r1 =>
 tif ((!r1)) (
 some (.inr (8:Int))) (
 tif ((decide ((128:Int)<(((List.length r0.2):Nat):Int)))) (
 some (.inr (8:Int))) (
 tif ((decide ((IntKind.wrap .i64 (left-(IntKind.wrap .i64 ((((List.length r0.1):Nat):Int)+(((List.length r0.2):Nat):Int)))))<0))) (
 some (.inr (8:Int))) (
 tif ((decide ((0:Int)<s16))) (
 obind (at? l (IntKind.wrap .i64 (s16-1))) fun r2 =>
 tif ((!(Go.Op.bytesLess r2.1 r0.1))) (
 some (.inr (8:Int))) (
 label_Check_l5 n f (l,((IntKind.wrap .i64 (left-(IntKind.wrap .i64 ((((List.length r0.1):Nat):Int)+(((List.length r0.2):Nat):Int))))),(s14,(s15,((IntKind.wrap .i64 (s16+1)),()))))))) (
 label_Check_l5 n f (l,((IntKind.wrap .i64 (left-(IntKind.wrap .i64 ((((List.length r0.1):Nat):Int)+(((List.length r0.2):Nat):Int))))),(s14,(s15,((IntKind.wrap .i64 (s16+1)),())))))))))) (
 some (.inl ())):=by kernel_rfl
theorem r09_width_eq (n:Nat) (w:Int):r09_width (n+1) w =
 tif ((decide ((1:Int)≤w))) (
 some (decide (w≤1099511627776))) (
 some false):=by kernel_rfl
theorem wi_Gone_eq (n:Nat) (t:Int) (now:Int) (w:Int) (n_:Int):wi_Gone (n+1) t now w n_ =
 obind (wi_Of n t w) fun r0 =>
 obind (wi_Oldest n now w n_) fun r1 =>
 tif ((decide (r0.2=0))) (
 tif ((decide (r1.2=0))) (
 some (decide (r0.1<r1.1))) (
 some false)) (
 some false):=by kernel_rfl
theorem stt_Find_1_eq (n:Nat) (i:Int) (p1:TState) (p2:(List (List UInt8×List UInt8))) (p3:TState):stt_Find_1 (n+1) i p1 p2 p3 =
 obind (at? p1.2.2.2 i) fun r0 =>
 obind (label_Same n r0.1 p2) fun r1 =>
 tif (r1) (
 obind (stt_view_lives n p3 i) fun r2 =>
 some r2) (
 some false):=by kernel_rfl
theorem label_Same_eq (n:Nat) (a:(List (List UInt8×List UInt8))) (b:(List (List UInt8×List UInt8))):label_Same (n+1) a b =
 obind (sl_Equal_Label n a b) fun r0 =>
 some r0:=by kernel_rfl
theorem r09_Gone_eq (n:Nat) (t:Int) (now:Int) (w:Int) (n_:Int):r09_Gone (n+1) t now w n_ =
 obind (r09_Of n t w) fun r0 =>
 obind (r09_Oldest n now w n_) fun r1 =>
 tif ((decide (r0.2=0))) (
 tif ((decide (r1.2=0))) (
 some (decide (r0.1<r1.1))) (
 some false)) (
 some false):=by kernel_rfl
theorem event_Follow_eq (n:Nat) (p:TEvent) (c:TEvent):event_Follow (n+1) p c =
 obind (event_right n (p::(c::[]))) fun r0 =>
 tif (r0) (
 some (decide (p.1<c.1))) (
 some false):=by kernel_rfl
theorem math_bits_Mul64_eq (n:Nat) (x:Int) (y:Int):math_bits_Mul64 (n+1) x y =
 some ((IntKind.wrap .u64 ((IntKind.wrap .u64 ((IntKind.wrap .u64 ((shrI .u64 x (32:Int))*(shrI .u64 y (32:Int))))+(shrI .u64 (IntKind.wrap .u64 ((IntKind.wrap .u64 ((shrI .u64 x (32:Int))*(andI .u64 y (4294967295:Int))))+(shrI .u64 (IntKind.wrap .u64 ((andI .u64 x (4294967295:Int))*(andI .u64 y (4294967295:Int)))) (32:Int)))) (32:Int))))+(shrI .u64 (IntKind.wrap .u64 ((andI .u64 (IntKind.wrap .u64 ((IntKind.wrap .u64 ((shrI .u64 x (32:Int))*(andI .u64 y (4294967295:Int))))+(shrI .u64 (IntKind.wrap .u64 ((andI .u64 x (4294967295:Int))*(andI .u64 y (4294967295:Int)))) (32:Int)))) (4294967295:Int))+(IntKind.wrap .u64 ((andI .u64 x (4294967295:Int))*(shrI .u64 y (32:Int)))))) (32:Int)))),(IntKind.wrap .u64 (x*y))):=by kernel_rfl
theorem wide_sure_eq (n:Nat) (a:(Int×Int)) (over:Int):wide_sure (n+1) a over =
 tif ((!(decide (over=0)))) (
 some (((0:Int),(0:Int)),(1:Int))) (
 some (a,(0:Int))):=by kernel_rfl
theorem series_open_eq (n:Nat) (c:TConfig) (s:TSeries):series_open (n+1) c s =
 obind (fold_Check n c s.2.2.2.1) fun r0 =>
 tif ((!(decide (r0=0)))) (
 some (none,(2:Int))) (
 obind (label_Check n s.1) fun r1 =>
 tif ((!(decide (r1=0)))) (
 some (none,(2:Int))) (
 obind (raw_Check n s.2.2.1 c.1) fun r2 =>
 tif ((!(decide (r2=0)))) (
 some (none,(2:Int))) (
 tif ((decide (s.2.1=((-1):Int)))) (
 obind (srk_fresh n (c,s)) fun r3 =>
 tif (r3) (
 some ((some (c,s)),(0:Int))) (
 tif ((!(decide (s.2.1=((-1):Int))))) (
 obind (srk_ends n (c,s)) fun r4 =>
 tif (r4) (
 some ((some (c,s)),(0:Int))) (
 some (none,(2:Int)))) (
 some (none,(2:Int))))) (
 tif ((!(decide (s.2.1=((-1):Int))))) (
 obind (srk_ends n (c,s)) fun r5 =>
 tif (r5) (
 some ((some (c,s)),(0:Int))) (
 some (none,(2:Int)))) (
 some (none,(2:Int))))))):=by kernel_rfl
theorem sl_DeleteFunc_Slot_eq (n:Nat) (s:(List TSlot)) (del:((TSlot×Unit)→Option Bool)):sl_DeleteFunc_Slot (n+1) s del =
 obind (sl_IndexFunc_Slot n s del) fun r0 =>
 tif ((decide (r0=((-1):Int)))) (
 some s) (
 obind (sl_DeleteFunc_Slot_l5 n loopFuel (s,(del,(r0,((IntKind.wrap .i64 (r0+1)),()))))) fun r1 =>
 selim (fun y2 =>
 tif ((decide ((0:Int)≤y2.2.1))) (
 tif ((decide ((Int.toNat y2.2.1)≤(List.length y2.1)))) (
 tif ((decide (((Int.toNat y2.2.1)+((List.length y2.1)-(Int.toNat y2.2.1)))≤(List.length y2.1)))) (
 tif (((decide ((0:Int)≤y2.2.1))&&(decide (y2.2.1≤(((List.length (Go.Flat.putRow y2.1 (Int.toNat y2.2.1) (List.replicate ((List.length y2.1)-(Int.toNat y2.2.1)) ((0:Int),((0:Int),(((0:Int),((0:Int),((0:Int),false))),(((0:Int),((0:Int),((0:Int),false))),(((0:Int),(0:Int)),((0:Int),((0:Int),(0:Int))))))))))):Nat):Int))))) (
 some (List.take ((Int.toNat y2.2.1)-0) (Go.Flat.putRow y2.1 (Int.toNat y2.2.1) (List.replicate ((List.length y2.1)-(Int.toNat y2.2.1)) ((0:Int),((0:Int),(((0:Int),((0:Int),((0:Int),false))),(((0:Int),((0:Int),((0:Int),false))),(((0:Int),(0:Int)),((0:Int),((0:Int),(0:Int)))))))))))) (
 none)) (
 none)) (
 none)) (
 none)) (fun z3 =>
 some z3) r1):=by kernel_rfl
theorem sl_DeleteFunc_Slot_l5_eq (n f:Nat) (s:(List TSlot)) (del:((TSlot×Unit)→Option Bool)) (i:Int) (j:Int):sl_DeleteFunc_Slot_l5 n (f+1) (s,del,i,j,()) =
 tif ((decide (j<(((List.length s):Nat):Int)))) (
 obind (at? s j) fun r0 =>
 obind ((s)[(Int.toNat j)]?) fun r1 =>
 obind (del (r1,())) fun r2 =>
 tif ((!r2)) (
 obind (at? s i) fun r3 =>
 obind ((s)[(Int.toNat i)]?) fun r4 =>
 sl_DeleteFunc_Slot_l5 n f ((List.set s (Int.toNat i) r1),(del,((IntKind.wrap .i64 (i+1)),((IntKind.wrap .i64 (j+1)),()))))) (
 sl_DeleteFunc_Slot_l5 n f (s,(del,(i,((IntKind.wrap .i64 (j+1)),())))))) (
 some (.inl (s,(i,())))):=by kernel_rfl
theorem tier_none_eq (n:Nat) (s:TSlot):tier_none (n+1) s =
 some ((decide (s.1=0))&&((decide (s.2.1=0))&&((decide (s.2.2.1.1=0))&&((decide (s.2.2.1.2.1=0))&&((decide (s.2.2.1.2.2.1=0))&&((s.2.2.1.2.2.2==false)&&((decide (s.2.2.2.1.1=0))&&((decide (s.2.2.2.1.2.1=0))&&((decide (s.2.2.2.1.2.2.1=0))&&((s.2.2.2.1.2.2.2==false)&&((decide (s.2.2.2.2.1.1=0))&&((decide (s.2.2.2.2.1.2=0))&&((decide (s.2.2.2.2.2.1=0))&&((decide (s.2.2.2.2.2.2.1=0))&&(decide (s.2.2.2.2.2.2.2=0)))))))))))))))):=by kernel_rfl
theorem sl_SortStableFunc_Slot_eq (n:Nat) (x:(List TSlot)) (cmp:((TSlot×(TSlot×Unit))→Option Int)):sl_SortStableFunc_Slot (n+1) x cmp =
 obind (sl_stab n x (((List.length x):Nat):Int) cmp) fun r0 =>
 some r0:=by kernel_rfl
theorem tier_All_1_eq (n:Nat) (a:TSlot) (b:TSlot):tier_All_1 (n+1) a b =
 obind (cmp_Compare_int64 n a.1 b.1) fun r0 =>
 some r0:=by kernel_rfl
theorem cmp_Compare_int64_eq (n:Nat) (x:Int) (y:Int):cmp_Compare_int64 (n+1) x y =
 obind (cmp_isNaN_int64 n x) fun r0 =>
 obind (cmp_isNaN_int64 n y) fun r1 =>
 tif (r0) (
 tif (r1) (
 some (0:Int)) (
 some ((-1):Int))) (
 tif (r1) (
 some (1:Int)) (
 tif ((decide (x<y))) (
 some ((-1):Int)) (
 tif ((decide (y<x))) (
 some (1:Int)) (
 some (0:Int))))):=by kernel_rfl
theorem r12_Same_eq (n:Nat) (a:(Int×(Int×(List TEvent)))) (b:(Int×(Int×(List TEvent)))):r12_Same (n+1) a b =
 tif ((decide (a.1=b.1))) (
 tif ((decide (a.2.1=b.2.1))) (
 obind (r12_SameList n a.2.2 b.2.2) fun r0 =>
 some r0) (
 some false)) (
 some false):=by kernel_rfl
theorem r14_Same_eq (n:Nat) (a:((List TSlot)×((List TSlot)×(List TSlot)))) (b:((List TSlot)×((List TSlot)×(List TSlot)))):r14_Same (n+1) a b =
 obind (r13_Same n a.1 b.1) fun r0 =>
 tif ((!r0)) (
 some false) (
 obind (r13_Same n a.2.1 b.2.1) fun r1 =>
 tif ((!r1)) (
 some false) (
 obind (r13_Same n a.2.2 b.2.2) fun r2 =>
 tif ((!r2)) (
 some false) (
 some true))):=by kernel_rfl
theorem r10_place_eq (n:Nat) (c:TConfig):r10_place (n+1) c =
 obind (r10_parts n c.1 (16:Int)) fun r0 =>
 obind (r10_parts n c.2.2.1.1 (4:Int)) fun r1 =>
 obind (r10_parts n c.2.2.1.2.1 (4:Int)) fun r2 =>
 obind (r10_parts n c.2.2.1.2.2 (4:Int)) fun r3 =>
 some (IntKind.wrap .i64 ((IntKind.wrap .i64 ((IntKind.wrap .i64 ((IntKind.wrap .i64 ((1:Int)+r0))+r1))+r2))+r3)):=by kernel_rfl
theorem r09_Of_eq (n:Nat) (t:Int) (w:Int):r09_Of (n+1) t w =
 tif ((decide (t<0))) (
 some ((0:Int),(1:Int))) (
 tif ((decide ((35184372088832:Int)≤t))) (
 some ((0:Int),(1:Int))) (
 obind (r09_width n w) fun r0 =>
 tif ((!r0)) (
 some ((0:Int),(1:Int))) (
 tif ((decide (w=0))) (
 none) (
 tif ((decide (w=0))) (
 none) (
 some ((IntKind.wrap .i64 (Int.tdiv (IntKind.wrap .i64 (t-(Int.tmod t w))) w)),(0:Int))))))):=by kernel_rfl
theorem conf_in_int_eq (n:Nat) (n_:Int) (low:Int) (high:Int):conf_in_int (n+1) n_ low high =
 tif ((decide (low≤n_))) (
 some (decide (n_≤high))) (
 some false):=by kernel_rfl
theorem conf_in_int64_eq (n:Nat) (n_:Int) (low:Int) (high:Int):conf_in_int64 (n+1) n_ low high =
 tif ((decide (low≤n_))) (
 some (decide (n_≤high))) (
 some false):=by kernel_rfl
theorem conf_place_eq (n:Nat) (c:TConfig):conf_place (n+1) c =
 obind (conf_parts n c.1 (16:Int)) fun r0 =>
 obind (conf_parts n c.2.2.1.1 (4:Int)) fun r1 =>
 obind (conf_parts n c.2.2.1.2.1 (4:Int)) fun r2 =>
 obind (conf_parts n c.2.2.1.2.2 (4:Int)) fun r3 =>
 some (IntKind.wrap .i64 ((IntKind.wrap .i64 ((IntKind.wrap .i64 ((IntKind.wrap .i64 ((1:Int)+r0))+r1))+r2))+r3)):=by kernel_rfl
theorem series_Same_eq (n:Nat) (a:TSeries) (b:TSeries):series_Same (n+1) a b =
 obind (label_Same n a.1 b.1) fun r0 =>
 tif (r0) (
 tif ((decide (a.2.1=b.2.1))) (
 obind (raw_Same n a.2.2.1 b.2.2.1) fun r1 =>
 tif (r1) (
 tif (((decide (a.2.2.2.2.1=b.2.2.2.2.1))&&((decide (a.2.2.2.2.2.1=b.2.2.2.2.2.1))&&((decide (a.2.2.2.2.2.2.1.1=b.2.2.2.2.2.2.1.1))&&((decide (a.2.2.2.2.2.2.1.2.1=b.2.2.2.2.2.2.1.2.1))&&((decide (a.2.2.2.2.2.2.1.2.2.1=b.2.2.2.2.2.2.1.2.2.1))&&((a.2.2.2.2.2.2.1.2.2.2==b.2.2.2.2.2.2.1.2.2.2)&&((decide (a.2.2.2.2.2.2.2.1.1=b.2.2.2.2.2.2.2.1.1))&&((decide (a.2.2.2.2.2.2.2.1.2.1=b.2.2.2.2.2.2.2.1.2.1))&&((decide (a.2.2.2.2.2.2.2.1.2.2.1=b.2.2.2.2.2.2.2.1.2.2.1))&&((a.2.2.2.2.2.2.2.1.2.2.2==b.2.2.2.2.2.2.2.1.2.2.2)&&((decide (a.2.2.2.2.2.2.2.2.1.1=b.2.2.2.2.2.2.2.2.1.1))&&((decide (a.2.2.2.2.2.2.2.2.1.2=b.2.2.2.2.2.2.2.2.1.2))&&((decide (a.2.2.2.2.2.2.2.2.2.1=b.2.2.2.2.2.2.2.2.2.1))&&((decide (a.2.2.2.2.2.2.2.2.2.2.1=b.2.2.2.2.2.2.2.2.2.2.1))&&(decide (a.2.2.2.2.2.2.2.2.2.2.2=b.2.2.2.2.2.2.2.2.2.2.2))))))))))))))))) (
 obind (sl_Equal_Slot n a.2.2.2.1.1 b.2.2.2.1.1) fun r2 =>
 tif (r2) (
 obind (sl_Equal_Slot n a.2.2.2.1.2.1 b.2.2.2.1.2.1) fun r3 =>
 tif (r3) (
 obind (sl_Equal_Slot n a.2.2.2.1.2.2 b.2.2.2.1.2.2) fun r4 =>
 some r4) (
 some false)) (
 some false)) (
 some false)) (
 some false)) (
 some false)) (
 some false):=by kernel_rfl
theorem stt_view_twin_1_eq (n:Nat) (k:Int) (p1:Int) (p2:TState):stt_view_twin_1 (n+1) k p1 p2 =
 tif ((decide (k=p1))) (
 some true) (
 obind (stt_view_lives n p2 k) fun r0 =>
 tif (r0) (
 obind (at? p2.2.2.2 k) fun r1 =>
 obind (at? p2.2.2.2 p1) fun r2 =>
 obind (label_Same n r1.1 r2.1) fun r3 =>
 some r3) (
 some false)):=by kernel_rfl
theorem sl_IndexFunc_int_eq (n:Nat) (s:(List Int)) (f_:((Int×Unit)→Option Bool)):sl_IndexFunc_int (n+1) s f_ =
 obind (sl_IndexFunc_int_l2 n loopFuel (s,(f_,((((List.length s):Nat):Int),((0:Int),()))))) fun r0 =>
 selim (fun y1 =>
 some ((-1):Int)) (fun z2 =>
 some z2) r0:=by kernel_rfl
theorem sl_IndexFunc_int_l2_eq (n f:Nat) (s:(List Int)) (f_:((Int×Unit)→Option Bool)) (s7:Int) (s8:Int):sl_IndexFunc_int_l2 n (f+1) (s,f_,s7,s8,()) =
 tif ((decide (s8<s7))) (
 obind (at? s s8) fun r0 =>
 obind (f_ (r0,())) fun r1 =>
 tif (r1) (
 some (.inr s8)) (
 sl_IndexFunc_int_l2 n f (s,(f_,(s7,((IntKind.wrap .i64 (s8+1)),())))))) (
 some (.inl ())):=by kernel_rfl
theorem wi_in_int64_eq (n:Nat) (n_:Int) (low:Int) (high:Int):wi_in_int64 (n+1) n_ low high =
 tif ((decide (low≤n_))) (
 some (decide (n_≤high))) (
 some false):=by kernel_rfl
theorem wi_width_eq (n:Nat) (w:Int):wi_width (n+1) w =
 obind (wi_in_int64 n w (1:Int) (1099511627776:Int)) fun r0 =>
 some r0:=by kernel_rfl
theorem label_name_eq (n:Nat) (s:List UInt8):label_name (n+1) s =
 tif ((s==[])) (
 some false) (
 tif ((decide ((64:Int)<(((List.length s):Nat):Int)))) (
 some false) (
 obind (at? s (0:Int)) fun r0 =>
 obind (label_digit n (((UInt8.toNat r0):Nat):Int)) fun r1 =>
 tif (r1) (
 some false) (
 obind (sl_ContainsFunc_byte n (List.map (fun y2=>(((UInt8.toNat y2):Nat):Int)) s) (fun y3=>label_name_1 n y3.1)) fun r4 =>
 some (!r4)))):=by kernel_rfl
theorem r09_Oldest_eq (n:Nat) (now:Int) (w:Int) (n_:Int):r09_Oldest (n+1) now w n_ =
 obind (r09_Of n now w) fun r0 =>
 tif ((!(decide (r0.2=0)))) (
 some ((0:Int),(1:Int))) (
 tif ((decide (n_<1))) (
 some ((0:Int),(1:Int))) (
 tif ((decide ((4096:Int)<n_))) (
 some ((0:Int),(1:Int))) (
 some ((if (IntKind.wrap .i64 ((IntKind.wrap .i64 (r0.1-n_))+1))<0 then (0:Int) else (IntKind.wrap .i64 ((IntKind.wrap .i64 (r0.1-n_))+1))),(0:Int))))):=by kernel_rfl
theorem sl_Equal_Label_eq (n:Nat) (s1:(List (List UInt8×List UInt8))) (s2:(List (List UInt8×List UInt8))):sl_Equal_Label (n+1) s1 s2 =
 tif ((!(decide ((((List.length s1):Nat):Int)=(((List.length s2):Nat):Int))))) (
 some false) (
 obind (sl_Equal_Label_l4 n loopFuel (s1,(s2,((((List.length s1):Nat):Int),((0:Int),()))))) fun r0 =>
 selim (fun y1 =>
 some true) (fun z2 =>
 some z2) r0):=by kernel_rfl
theorem sl_Equal_Label_l4_eq (n f:Nat) (s1:(List (List UInt8×List UInt8))) (s2:(List (List UInt8×List UInt8))) (s12:Int) (s13:Int):sl_Equal_Label_l4 n (f+1) (s1,s2,s12,s13,()) =
 tif ((decide (s13<s12))) (
 obind (at? s1 s13) fun r0 =>
 obind (at? s2 s13) fun r1 =>
 tif ((!((r0.1==r1.1)&&(r0.2==r1.2)))) (
 some (.inr false)) (
 sl_Equal_Label_l4 n f (s1,(s2,(s12,((IntKind.wrap .i64 (s13+1)),())))))) (
 some (.inl ())):=by kernel_rfl
theorem event_right_eq (n:Nat) (l:(List TEvent)):event_right (n+1) l =
 obind (event_right_l2 n loopFuel (l,((((List.length l):Nat):Int),((0:Int),())))) fun r0 =>
 selim (fun y1 =>
 some true) (fun z2 =>
 some z2) r0:=by kernel_rfl
theorem event_right_l2_eq (n f:Nat) (s5:(List TEvent)) (s6:Int) (s7:Int):event_right_l2 n (f+1) (s5,s6,s7,()) =
 tif ((decide (s7<s6))) (
 obind (at? s5 s7) fun r0 =>
 obind (event_Check n r0) fun r1 =>
 tif ((!(decide (r1=0)))) (
 some (.inr false)) (
 event_right_l2 n f (s5,(s6,((IntKind.wrap .i64 (s7+1)),()))))) (
 some (.inl ())):=by kernel_rfl
end Go.Proofs.YtjeabebacegikaaGreatDoor
