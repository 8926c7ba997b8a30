/- Trees, printed by program. -/
import Derived.Test.YtjeabebacegikaaGreatDoorTr0
import Derived.KernelRfl
set_option linter.unusedVariables false
namespace Go.Proofs.YtjeabebacegikaaGreatDoor
open Go.Flat
theorem l33_StatTells_eq (n:Nat) (s:TState) (t:TStats):l33_StatTells (n+1) s t =
 obind (l17_Small n s) fun r0 =>
 tif ((decide (r0=0))) (
 obind (l33_lives n ) fun r1 =>
 some r1) (
 obind (stat_Of n s) fun r2 =>
 obind (r33_Of n s) fun r3 =>
 obind (r17_Room n s) fun r4 =>
 obind (l33_lives n ) fun r5 =>
 tif (r5) (
 tif (((decide (r2.1.1=r3.1.1))&&((decide (r2.1.2.1=r3.1.2.1))&&((decide (r2.1.2.2.1=r3.1.2.2.1))&&((decide (r2.1.2.2.2.1=r3.1.2.2.2.1))&&((decide (r2.1.2.2.2.2.1=r3.1.2.2.2.2.1))&&((decide (r2.1.2.2.2.2.2.1.1=r3.1.2.2.2.2.2.1.1))&&((decide (r2.1.2.2.2.2.2.1.2.1=r3.1.2.2.2.2.2.1.2.1))&&((decide (r2.1.2.2.2.2.2.1.2.2=r3.1.2.2.2.2.2.1.2.2))&&(decide (r2.1.2.2.2.2.2.2=r3.1.2.2.2.2.2.2))))))))))) (
 tif ((decide (r2.2=r3.2))) (
 obind (stat_Text n t) fun r6 =>
 obind (r33_Text n t) fun r7 =>
 tif ((r6==r7)) (
 obind (stat_Full n s) fun r8 =>
 obind (r17_Check n s) fun r9 =>
 tif ((decide (r9=0))) (
 some (r8==(decide (r4.2=7)))) (
 some (r8==false))) (
 some false)) (
 some false)) (
 some false)) (
 some false)):=by kernel_rfl
theorem l17_Small_eq (n:Nat) (s:TState):l17_Small (n+1) s =
 tif ((decide ((8:Int)<(((List.length s.2.2.2):Nat):Int)))) (
 some (0:Int)) (
 obind (l17_Small_l4 n loopFuel (s.2.2.2,((((List.length s.2.2.2):Nat):Int),((0:Int),())))) fun r0 =>
 selim (fun y1 =>
 some (1:Int)) (fun z2 =>
 some z2) r0):=by kernel_rfl
theorem l17_Small_l4_eq (n f:Nat) (s10:(List TSeries)) (s11:Int) (s12:Int):l17_Small_l4 n (f+1) (s10,s11,s12,()) =
 tif ((decide (s12<s11))) (
 obind (at? s10 s12) fun r0 =>
 obind (l15_Small n r0) fun r1 =>
 tif ((decide (r1=0))) (
 some (.inr (0:Int))) (
 l17_Small_l4 n f (s10,(s11,((IntKind.wrap .i64 (s12+1)),()))))) (
 some (.inl ())):=by kernel_rfl
theorem stat_Of_eq (n:Nat) (s:TState):stat_Of (n+1) s =
 obind (stt_Check n s) fun r0 =>
 tif ((!(decide (r0=0)))) (
 some (((0:Int),((0:Int),((0:Int),((0:Int),((0:Int),(((0:Int),((0:Int),(0:Int))),(0:Int))))))),r0)) (
 obind (stat_Of_l6 n loopFuel (s,(((0:Int),((0:Int),((0:Int),((0:Int),((0:Int),(((0:Int),((0:Int),(0:Int))),(0:Int))))))),(((0:Int),((0:Int),((0:Int),((0:Int),((0:Int),(((0:Int),((0:Int),(0:Int))),(0:Int))))))),(s.2.2.2,((((List.length s.2.2.2):Nat):Int),((0:Int),()))))))) fun r1 =>
 selim (fun y2 =>
 some (y2.2.1,(0:Int))) (fun z3 =>
 some z3) r1):=by kernel_rfl
theorem stat_Of_l6_eq (n f:Nat) (s_:TState) (s2:TStats) (t:TStats) (s15:(List TSeries)) (s16:Int) (s17:Int):stat_Of_l6 n (f+1) (s_,s2,t,s15,s16,s17,()) =
 tif ((decide (s17<s16))) (
 obind (at? s15 s17) fun r0 =>
 tif ((decide ((((List.length r0.1):Nat):Int)=0))) (
 stat_Of_l6 n f (s_,(s2,((t.1,(t.2.1,((IntKind.wrap .i64 (t.2.2.1+1)),t.2.2.2))),(s15,(s16,((IntKind.wrap .i64 (s17+1)),()))))))) (
 obind (stt_Lives n s_ s17) fun r1 =>
 tif (r1) (
 obind (stat_one n t s_ r0) fun r2 =>
 stat_Of_l6 n f (s_,(s2,(r2,(s15,(s16,((IntKind.wrap .i64 (s17+1)),()))))))) (
 stat_Of_l6 n f (s_,(s2,((t.1,((IntKind.wrap .i64 (t.2.1+1)),t.2.2)),(s15,(s16,((IntKind.wrap .i64 (s17+1)),()))))))))) (
 some (.inl (s2,(t,())))):=by kernel_rfl
theorem r33_Of_eq (n:Nat) (s:TState):r33_Of (n+1) s =
 obind (r17_Check n s) fun r0 =>
 tif ((!(decide (r0=0)))) (
 some (((0:Int),((0:Int),((0:Int),((0:Int),((0:Int),(((0:Int),((0:Int),(0:Int))),(0:Int))))))),(2:Int))) (
 obind (r21_Due n s) fun r1 =>
 obind (r33_Of_l5 n loopFuel (s,(((0:Int),((0:Int),((0:Int),((0:Int),((0:Int),(((0:Int),((0:Int),(0:Int))),(0:Int))))))),(((0:Int),((0:Int),((0:Int),((0:Int),((0:Int),(((0:Int),((0:Int),(0:Int))),(((List.length r1):Nat):Int))))))),(s.2.2.2,((((List.length s.2.2.2):Nat):Int),((0:Int),()))))))) fun r2 =>
 selim (fun y3 =>
 some (y3.2.1,(0:Int))) (fun z4 =>
 some z4) r2):=by kernel_rfl
theorem r33_Of_l5_eq (n f:Nat) (s_:TState) (s2:TStats) (t:TStats) (s17:(List TSeries)) (s18:Int) (s19:Int):r33_Of_l5 n (f+1) (s_,s2,t,s17,s18,s19,()) =
 tif ((decide (s19<s18))) (
 obind (at? s17 s19) fun r0 =>
 obind (r17_Lives n s_ s19) fun r1 =>
 tif (r1) (
 obind (r13_All n r0.2.2.2.1.1) fun r2 =>
 obind (r13_All n r0.2.2.2.1.2.1) fun r3 =>
 obind (r13_All n r0.2.2.2.1.2.2) fun r4 =>
 r33_Of_l5 n f (s_,(s2,(((IntKind.wrap .i64 (t.1+1)),(t.2.1,(t.2.2.1,((IntKind.wrap .i64 (t.2.2.2.1+(((List.length r0.2.2.1.2.2):Nat):Int))),((IntKind.wrap .i64 (t.2.2.2.2.1+r0.2.2.1.1)),(((IntKind.wrap .i64 (t.2.2.2.2.2.1.1+(((List.length r2):Nat):Int))),((IntKind.wrap .i64 (t.2.2.2.2.2.1.2.1+(((List.length r3):Nat):Int))),(IntKind.wrap .i64 (t.2.2.2.2.2.1.2.2+(((List.length r4):Nat):Int))))),t.2.2.2.2.2.2)))))),(s17,(s18,((IntKind.wrap .i64 (s19+1)),()))))))) (
 obind (r17_Empty n r0) fun r5 =>
 tif (r5) (
 r33_Of_l5 n f (s_,(s2,((t.1,(t.2.1,((IntKind.wrap .i64 (t.2.2.1+1)),t.2.2.2))),(s17,(s18,((IntKind.wrap .i64 (s19+1)),()))))))) (
 r33_Of_l5 n f (s_,(s2,((t.1,((IntKind.wrap .i64 (t.2.1+1)),t.2.2)),(s17,(s18,((IntKind.wrap .i64 (s19+1)),()))))))))) (
 some (.inl (s2,(t,())))):=by kernel_rfl
theorem r17_Room_eq (n:Nat) (s:TState):r17_Room (n+1) s =
 obind (r17_whole n s) fun r0 =>
 tif ((!r0)) (
 some ((0:Int),(2:Int))) (
 obind (r17_Room_l4 n loopFuel (s,((((List.length s.2.2.2):Nat):Int),((0:Int),())))) fun r1 =>
 selim (fun y2 =>
 some ((0:Int),(7:Int))) (fun z3 =>
 some z3) r1):=by kernel_rfl
theorem r17_Room_l4_eq (n f:Nat) (s_:TState) (s10:Int) (s11:Int):r17_Room_l4 n (f+1) (s_,s10,s11,()) =
 tif ((decide (s11<s10))) (
 obind (r17_lives n s_ s11) fun r0 =>
 tif ((!r0)) (
 some (.inr (s11,(0:Int)))) (
 r17_Room_l4 n f (s_,(s10,((IntKind.wrap .i64 (s11+1)),()))))) (
 some (.inl ())):=by kernel_rfl
theorem stat_Text_eq (n:Nat) (t:TStats):stat_Text (n+1) t =
 obind (stat_writer_part n [] ((108:UInt8)::((105:UInt8)::((118:UInt8)::((101:UInt8)::[])))) (t.1::[])) fun r0 =>
 obind (stat_writer_part n r0 ((100:UInt8)::((101:UInt8)::((97:UInt8)::((100:UInt8)::[])))) (t.2.1::[])) fun r1 =>
 obind (stat_writer_part n r1 ((101:UInt8)::((109:UInt8)::((112:UInt8)::((116:UInt8)::((121:UInt8)::[]))))) (t.2.2.1::[])) fun r2 =>
 obind (stat_writer_part n r2 ((101:UInt8)::((118:UInt8)::((101:UInt8)::((110:UInt8)::((116:UInt8)::((115:UInt8)::[])))))) (t.2.2.2.1::[])) fun r3 =>
 obind (stat_writer_part n r3 ((108:UInt8)::((111:UInt8)::((115:UInt8)::((116:UInt8)::[])))) (t.2.2.2.2.1::[])) fun r4 =>
 obind (stat_writer_part n r4 ((115:UInt8)::((108:UInt8)::((111:UInt8)::((116:UInt8)::((115:UInt8)::[]))))) (t.2.2.2.2.2.1.1::(t.2.2.2.2.2.1.2.1::(t.2.2.2.2.2.1.2.2::[])))) fun r5 =>
 obind (stat_writer_part n r5 ((100:UInt8)::((117:UInt8)::((101:UInt8)::[]))) (t.2.2.2.2.2.2::[])) fun r6 =>
 some (List.map (fun y7=>(UInt8.ofNat (Int.toNat y7))) r6):=by kernel_rfl
theorem r33_Text_eq (n:Nat) (t:TStats):r33_Text (n+1) t =
 obind (r33_num n t.1) fun r0 =>
 tif ((decide ((5+(List.length r0))≤9223372036854775807))) (
 tif ((decide (((List.length (((108:UInt8)::((105:UInt8)::((118:UInt8)::((101:UInt8)::((32:UInt8)::[])))))++r0))+7)≤9223372036854775807))) (
 obind (r33_num n t.2.1) fun r1 =>
 tif ((decide (((List.length ((((108:UInt8)::((105:UInt8)::((118:UInt8)::((101:UInt8)::((32:UInt8)::[])))))++r0)++((44:UInt8)::((32:UInt8)::((100:UInt8)::((101:UInt8)::((97:UInt8)::((100:UInt8)::((32:UInt8)::[])))))))))+(List.length r1))≤9223372036854775807))) (
 tif ((decide (((List.length (((((108:UInt8)::((105:UInt8)::((118:UInt8)::((101:UInt8)::((32:UInt8)::[])))))++r0)++((44:UInt8)::((32:UInt8)::((100:UInt8)::((101:UInt8)::((97:UInt8)::((100:UInt8)::((32:UInt8)::[]))))))))++r1))+8)≤9223372036854775807))) (
 obind (r33_num n t.2.2.1) fun r2 =>
 tif ((decide (((List.length ((((((108:UInt8)::((105:UInt8)::((118:UInt8)::((101:UInt8)::((32:UInt8)::[])))))++r0)++((44:UInt8)::((32:UInt8)::((100:UInt8)::((101:UInt8)::((97:UInt8)::((100:UInt8)::((32:UInt8)::[]))))))))++r1)++((44:UInt8)::((32:UInt8)::((101:UInt8)::((109:UInt8)::((112:UInt8)::((116:UInt8)::((121:UInt8)::((32:UInt8)::[]))))))))))+(List.length r2))≤9223372036854775807))) (
 tif ((decide (((List.length (((((((108:UInt8)::((105:UInt8)::((118:UInt8)::((101:UInt8)::((32:UInt8)::[])))))++r0)++((44:UInt8)::((32:UInt8)::((100:UInt8)::((101:UInt8)::((97:UInt8)::((100:UInt8)::((32:UInt8)::[]))))))))++r1)++((44:UInt8)::((32:UInt8)::((101:UInt8)::((109:UInt8)::((112:UInt8)::((116:UInt8)::((121:UInt8)::((32:UInt8)::[])))))))))++r2))+9)≤9223372036854775807))) (
 obind (r33_num n t.2.2.2.1) fun r3 =>
 tif ((decide (((List.length ((((((((108:UInt8)::((105:UInt8)::((118:UInt8)::((101:UInt8)::((32:UInt8)::[])))))++r0)++((44:UInt8)::((32:UInt8)::((100:UInt8)::((101:UInt8)::((97:UInt8)::((100:UInt8)::((32:UInt8)::[]))))))))++r1)++((44:UInt8)::((32:UInt8)::((101:UInt8)::((109:UInt8)::((112:UInt8)::((116:UInt8)::((121:UInt8)::((32:UInt8)::[])))))))))++r2)++((44:UInt8)::((32:UInt8)::((101:UInt8)::((118:UInt8)::((101:UInt8)::((110:UInt8)::((116:UInt8)::((115:UInt8)::((32:UInt8)::[])))))))))))+(List.length r3))≤9223372036854775807))) (
 tif ((decide (((List.length (((((((((108:UInt8)::((105:UInt8)::((118:UInt8)::((101:UInt8)::((32:UInt8)::[])))))++r0)++((44:UInt8)::((32:UInt8)::((100:UInt8)::((101:UInt8)::((97:UInt8)::((100:UInt8)::((32:UInt8)::[]))))))))++r1)++((44:UInt8)::((32:UInt8)::((101:UInt8)::((109:UInt8)::((112:UInt8)::((116:UInt8)::((121:UInt8)::((32:UInt8)::[])))))))))++r2)++((44:UInt8)::((32:UInt8)::((101:UInt8)::((118:UInt8)::((101:UInt8)::((110:UInt8)::((116:UInt8)::((115:UInt8)::((32:UInt8)::[]))))))))))++r3))+7)≤9223372036854775807))) (
 obind (r33_num n t.2.2.2.2.1) fun r4 =>
 tif ((decide (((List.length ((((((((((108:UInt8)::((105:UInt8)::((118:UInt8)::((101:UInt8)::((32:UInt8)::[])))))++r0)++((44:UInt8)::((32:UInt8)::((100:UInt8)::((101:UInt8)::((97:UInt8)::((100:UInt8)::((32:UInt8)::[]))))))))++r1)++((44:UInt8)::((32:UInt8)::((101:UInt8)::((109:UInt8)::((112:UInt8)::((116:UInt8)::((121:UInt8)::((32:UInt8)::[])))))))))++r2)++((44:UInt8)::((32:UInt8)::((101:UInt8)::((118:UInt8)::((101:UInt8)::((110:UInt8)::((116:UInt8)::((115:UInt8)::((32:UInt8)::[]))))))))))++r3)++((44:UInt8)::((32:UInt8)::((108:UInt8)::((111:UInt8)::((115:UInt8)::((116:UInt8)::((32:UInt8)::[])))))))))+(List.length r4))≤9223372036854775807))) (
 tif ((decide (((List.length (((((((((((108:UInt8)::((105:UInt8)::((118:UInt8)::((101:UInt8)::((32:UInt8)::[])))))++r0)++((44:UInt8)::((32:UInt8)::((100:UInt8)::((101:UInt8)::((97:UInt8)::((100:UInt8)::((32:UInt8)::[]))))))))++r1)++((44:UInt8)::((32:UInt8)::((101:UInt8)::((109:UInt8)::((112:UInt8)::((116:UInt8)::((121:UInt8)::((32:UInt8)::[])))))))))++r2)++((44:UInt8)::((32:UInt8)::((101:UInt8)::((118:UInt8)::((101:UInt8)::((110:UInt8)::((116:UInt8)::((115:UInt8)::((32:UInt8)::[]))))))))))++r3)++((44:UInt8)::((32:UInt8)::((108:UInt8)::((111:UInt8)::((115:UInt8)::((116:UInt8)::((32:UInt8)::[]))))))))++r4))+8)≤9223372036854775807))) (
 obind (r33_num n t.2.2.2.2.2.1.1) fun r5 =>
 tif ((decide (((List.length ((((((((((((108:UInt8)::((105:UInt8)::((118:UInt8)::((101:UInt8)::((32:UInt8)::[])))))++r0)++((44:UInt8)::((32:UInt8)::((100:UInt8)::((101:UInt8)::((97:UInt8)::((100:UInt8)::((32:UInt8)::[]))))))))++r1)++((44:UInt8)::((32:UInt8)::((101:UInt8)::((109:UInt8)::((112:UInt8)::((116:UInt8)::((121:UInt8)::((32:UInt8)::[])))))))))++r2)++((44:UInt8)::((32:UInt8)::((101:UInt8)::((118:UInt8)::((101:UInt8)::((110:UInt8)::((116:UInt8)::((115:UInt8)::((32:UInt8)::[]))))))))))++r3)++((44:UInt8)::((32:UInt8)::((108:UInt8)::((111:UInt8)::((115:UInt8)::((116:UInt8)::((32:UInt8)::[]))))))))++r4)++((44:UInt8)::((32:UInt8)::((115:UInt8)::((108:UInt8)::((111:UInt8)::((116:UInt8)::((115:UInt8)::((32:UInt8)::[]))))))))))+(List.length r5))≤9223372036854775807))) (
 tif ((decide (((List.length (((((((((((((108:UInt8)::((105:UInt8)::((118:UInt8)::((101:UInt8)::((32:UInt8)::[])))))++r0)++((44:UInt8)::((32:UInt8)::((100:UInt8)::((101:UInt8)::((97:UInt8)::((100:UInt8)::((32:UInt8)::[]))))))))++r1)++((44:UInt8)::((32:UInt8)::((101:UInt8)::((109:UInt8)::((112:UInt8)::((116:UInt8)::((121:UInt8)::((32:UInt8)::[])))))))))++r2)++((44:UInt8)::((32:UInt8)::((101:UInt8)::((118:UInt8)::((101:UInt8)::((110:UInt8)::((116:UInt8)::((115:UInt8)::((32:UInt8)::[]))))))))))++r3)++((44:UInt8)::((32:UInt8)::((108:UInt8)::((111:UInt8)::((115:UInt8)::((116:UInt8)::((32:UInt8)::[]))))))))++r4)++((44:UInt8)::((32:UInt8)::((115:UInt8)::((108:UInt8)::((111:UInt8)::((116:UInt8)::((115:UInt8)::((32:UInt8)::[])))))))))++r5))+1)≤9223372036854775807))) (
 obind (r33_num n t.2.2.2.2.2.1.2.1) fun r6 =>
 tif ((decide (((List.length ((((((((((((((108:UInt8)::((105:UInt8)::((118:UInt8)::((101:UInt8)::((32:UInt8)::[])))))++r0)++((44:UInt8)::((32:UInt8)::((100:UInt8)::((101:UInt8)::((97:UInt8)::((100:UInt8)::((32:UInt8)::[]))))))))++r1)++((44:UInt8)::((32:UInt8)::((101:UInt8)::((109:UInt8)::((112:UInt8)::((116:UInt8)::((121:UInt8)::((32:UInt8)::[])))))))))++r2)++((44:UInt8)::((32:UInt8)::((101:UInt8)::((118:UInt8)::((101:UInt8)::((110:UInt8)::((116:UInt8)::((115:UInt8)::((32:UInt8)::[]))))))))))++r3)++((44:UInt8)::((32:UInt8)::((108:UInt8)::((111:UInt8)::((115:UInt8)::((116:UInt8)::((32:UInt8)::[]))))))))++r4)++((44:UInt8)::((32:UInt8)::((115:UInt8)::((108:UInt8)::((111:UInt8)::((116:UInt8)::((115:UInt8)::((32:UInt8)::[])))))))))++r5)++((32:UInt8)::[])))+(List.length r6))≤9223372036854775807))) (
 tif ((decide (((List.length (((((((((((((((108:UInt8)::((105:UInt8)::((118:UInt8)::((101:UInt8)::((32:UInt8)::[])))))++r0)++((44:UInt8)::((32:UInt8)::((100:UInt8)::((101:UInt8)::((97:UInt8)::((100:UInt8)::((32:UInt8)::[]))))))))++r1)++((44:UInt8)::((32:UInt8)::((101:UInt8)::((109:UInt8)::((112:UInt8)::((116:UInt8)::((121:UInt8)::((32:UInt8)::[])))))))))++r2)++((44:UInt8)::((32:UInt8)::((101:UInt8)::((118:UInt8)::((101:UInt8)::((110:UInt8)::((116:UInt8)::((115:UInt8)::((32:UInt8)::[]))))))))))++r3)++((44:UInt8)::((32:UInt8)::((108:UInt8)::((111:UInt8)::((115:UInt8)::((116:UInt8)::((32:UInt8)::[]))))))))++r4)++((44:UInt8)::((32:UInt8)::((115:UInt8)::((108:UInt8)::((111:UInt8)::((116:UInt8)::((115:UInt8)::((32:UInt8)::[])))))))))++r5)++((32:UInt8)::[]))++r6))+1)≤9223372036854775807))) (
 obind (r33_num n t.2.2.2.2.2.1.2.2) fun r7 =>
 tif ((decide (((List.length ((((((((((((((((108:UInt8)::((105:UInt8)::((118:UInt8)::((101:UInt8)::((32:UInt8)::[])))))++r0)++((44:UInt8)::((32:UInt8)::((100:UInt8)::((101:UInt8)::((97:UInt8)::((100:UInt8)::((32:UInt8)::[]))))))))++r1)++((44:UInt8)::((32:UInt8)::((101:UInt8)::((109:UInt8)::((112:UInt8)::((116:UInt8)::((121:UInt8)::((32:UInt8)::[])))))))))++r2)++((44:UInt8)::((32:UInt8)::((101:UInt8)::((118:UInt8)::((101:UInt8)::((110:UInt8)::((116:UInt8)::((115:UInt8)::((32:UInt8)::[]))))))))))++r3)++((44:UInt8)::((32:UInt8)::((108:UInt8)::((111:UInt8)::((115:UInt8)::((116:UInt8)::((32:UInt8)::[]))))))))++r4)++((44:UInt8)::((32:UInt8)::((115:UInt8)::((108:UInt8)::((111:UInt8)::((116:UInt8)::((115:UInt8)::((32:UInt8)::[])))))))))++r5)++((32:UInt8)::[]))++r6)++((32:UInt8)::[])))+(List.length r7))≤9223372036854775807))) (
 tif ((decide (((List.length (((((((((((((((((108:UInt8)::((105:UInt8)::((118:UInt8)::((101:UInt8)::((32:UInt8)::[])))))++r0)++((44:UInt8)::((32:UInt8)::((100:UInt8)::((101:UInt8)::((97:UInt8)::((100:UInt8)::((32:UInt8)::[]))))))))++r1)++((44:UInt8)::((32:UInt8)::((101:UInt8)::((109:UInt8)::((112:UInt8)::((116:UInt8)::((121:UInt8)::((32:UInt8)::[])))))))))++r2)++((44:UInt8)::((32:UInt8)::((101:UInt8)::((118:UInt8)::((101:UInt8)::((110:UInt8)::((116:UInt8)::((115:UInt8)::((32:UInt8)::[]))))))))))++r3)++((44:UInt8)::((32:UInt8)::((108:UInt8)::((111:UInt8)::((115:UInt8)::((116:UInt8)::((32:UInt8)::[]))))))))++r4)++((44:UInt8)::((32:UInt8)::((115:UInt8)::((108:UInt8)::((111:UInt8)::((116:UInt8)::((115:UInt8)::((32:UInt8)::[])))))))))++r5)++((32:UInt8)::[]))++r6)++((32:UInt8)::[]))++r7))+6)≤9223372036854775807))) (
 obind (r33_num n t.2.2.2.2.2.2) fun r8 =>
 tif ((decide (((List.length ((((((((((((((((((108:UInt8)::((105:UInt8)::((118:UInt8)::((101:UInt8)::((32:UInt8)::[])))))++r0)++((44:UInt8)::((32:UInt8)::((100:UInt8)::((101:UInt8)::((97:UInt8)::((100:UInt8)::((32:UInt8)::[]))))))))++r1)++((44:UInt8)::((32:UInt8)::((101:UInt8)::((109:UInt8)::((112:UInt8)::((116:UInt8)::((121:UInt8)::((32:UInt8)::[])))))))))++r2)++((44:UInt8)::((32:UInt8)::((101:UInt8)::((118:UInt8)::((101:UInt8)::((110:UInt8)::((116:UInt8)::((115:UInt8)::((32:UInt8)::[]))))))))))++r3)++((44:UInt8)::((32:UInt8)::((108:UInt8)::((111:UInt8)::((115:UInt8)::((116:UInt8)::((32:UInt8)::[]))))))))++r4)++((44:UInt8)::((32:UInt8)::((115:UInt8)::((108:UInt8)::((111:UInt8)::((116:UInt8)::((115:UInt8)::((32:UInt8)::[])))))))))++r5)++((32:UInt8)::[]))++r6)++((32:UInt8)::[]))++r7)++((44:UInt8)::((32:UInt8)::((100:UInt8)::((117:UInt8)::((101:UInt8)::((32:UInt8)::[]))))))))+(List.length r8))≤9223372036854775807))) (
 some (((((((((((((((((((108:UInt8)::((105:UInt8)::((118:UInt8)::((101:UInt8)::((32:UInt8)::[])))))++r0)++((44:UInt8)::((32:UInt8)::((100:UInt8)::((101:UInt8)::((97:UInt8)::((100:UInt8)::((32:UInt8)::[]))))))))++r1)++((44:UInt8)::((32:UInt8)::((101:UInt8)::((109:UInt8)::((112:UInt8)::((116:UInt8)::((121:UInt8)::((32:UInt8)::[])))))))))++r2)++((44:UInt8)::((32:UInt8)::((101:UInt8)::((118:UInt8)::((101:UInt8)::((110:UInt8)::((116:UInt8)::((115:UInt8)::((32:UInt8)::[]))))))))))++r3)++((44:UInt8)::((32:UInt8)::((108:UInt8)::((111:UInt8)::((115:UInt8)::((116:UInt8)::((32:UInt8)::[]))))))))++r4)++((44:UInt8)::((32:UInt8)::((115:UInt8)::((108:UInt8)::((111:UInt8)::((116:UInt8)::((115:UInt8)::((32:UInt8)::[])))))))))++r5)++((32:UInt8)::[]))++r6)++((32:UInt8)::[]))++r7)++((44:UInt8)::((32:UInt8)::((100:UInt8)::((117:UInt8)::((101:UInt8)::((32:UInt8)::[])))))))++r8)) (
 none)) (
 none)) (
 none)) (
 none)) (
 none)) (
 none)) (
 none)) (
 none)) (
 none)) (
 none)) (
 none)) (
 none)) (
 none)) (
 none)) (
 none)) (
 none)) (
 none):=by kernel_rfl
theorem stat_Full_eq (n:Nat) (s:TState):stat_Full (n+1) s =
 obind (stt_Room n s) fun r0 =>
 obind (stt_Check n s) fun r1 =>
 tif ((decide (r1=0))) (
 some (decide (r0.2=7))) (
 some false):=by kernel_rfl
theorem r17_Check_eq (n:Nat) (s:TState):r17_Check (n+1) s =
 obind (r17_whole n s) fun r0 =>
 tif ((!r0)) (
 some (2:Int)) (
 obind (r17_time n s.2.1) fun r1 =>
 tif ((!r1)) (
 some (2:Int)) (
 tif ((!(decide (s.2.2.1=((-1):Int))))) (
 obind (r17_time n s.2.2.1) fun r2 =>
 tif ((!r2)) (
 some (2:Int)) (
 tif ((decide (s.2.1<s.2.2.1))) (
 some (2:Int)) (
 obind (r17_Mark n s) fun r3 =>
 obind (r17_Check_l5 n loopFuel (s,((IntKind.wrap .i64 (r3+s.1.2.1.1)),(s.2.2.2,((((List.length s.2.2.2):Nat):Int),((0:Int),())))))) fun r4 =>
 selim (fun y5 =>
 some (0:Int)) (fun z6 =>
 some z6) r4))) (
 tif ((decide (s.2.1<s.2.2.1))) (
 some (2:Int)) (
 obind (r17_Mark n s) fun r7 =>
 obind (r17_Check_l5 n loopFuel (s,((IntKind.wrap .i64 (r7+s.1.2.1.1)),(s.2.2.2,((((List.length s.2.2.2):Nat):Int),((0:Int),())))))) fun r8 =>
 selim (fun y9 =>
 some (0:Int)) (fun z10 =>
 some z10) r8)))):=by kernel_rfl
theorem r17_Check_l5_eq (n f:Nat) (s_:TState) (end_:Int) (s42:(List TSeries)) (s43:Int) (s44:Int):r17_Check_l5 n (f+1) (s_,end_,s42,s43,s44,()) =
 tif ((decide (s44<s43))) (
 obind (at? s42 s44) fun r0 =>
 obind (r17_Empty n r0) fun r1 =>
 tif (r1) (
 r17_Check_l5 n f (s_,(end_,(s42,(s43,((IntKind.wrap .i64 (s44+1)),())))))) (
 obind (r15_Check n s_.1 r0) fun r2 =>
 tif ((!(decide (r2=0)))) (
 some (.inr (2:Int))) (
 tif ((decide (r0.2.1<0))) (
 some (.inr (2:Int))) (
 tif ((decide (end_≤r0.2.1))) (
 some (.inr (2:Int))) (
 tif (((decide ((0:Int)≤s44))&&(decide (s44≤(((List.length s_.2.2.2):Nat):Int))))) (
 obind (r17_Check_l11 n loopFuel (s_,(end_,(s44,(r0,(s42,(s43,(s44,((((List.length (List.drop 0 (List.take (Int.toNat s44) s_.2.2.2))):Nat):Int),((0:Int),())))))))))) fun r3 =>
 selim (fun y4 =>
 r17_Check_l5 n f (y4.1,(y4.2.1,(y4.2.2.1,(y4.2.2.2.1,((IntKind.wrap .i64 (y4.2.2.2.2.1+1)),())))))) (fun z5 =>
 some (.inr z5)) r3) (
 none)))))) (
 some (.inl ())):=by kernel_rfl
theorem r17_Check_l11_eq (n f:Nat) (s_:TState) (end_:Int) (i:Int) (x:TSeries) (s42:(List TSeries)) (s43:Int) (s44:Int) (s71:Int) (s72:Int):r17_Check_l11 n (f+1) (s_,end_,i,x,s42,s43,s44,s71,s72,()) =
 tif ((decide (s72<s71))) (
 obind (r17_lives n s_ i) fun r0 =>
 tif (r0) (
 obind (r17_lives n s_ s72) fun r1 =>
 tif (r1) (
 obind (at? s_.2.2.2 s72) fun r2 =>
 obind (r05_Same n r2.1 x.1) fun r3 =>
 tif (r3) (
 some (.inr (2:Int))) (
 r17_Check_l11 n f (s_,(end_,(i,(x,(s42,(s43,(s44,(s71,((IntKind.wrap .i64 (s72+1)),()))))))))))) (
 r17_Check_l11 n f (s_,(end_,(i,(x,(s42,(s43,(s44,(s71,((IntKind.wrap .i64 (s72+1)),()))))))))))) (
 r17_Check_l11 n f (s_,(end_,(i,(x,(s42,(s43,(s44,(s71,((IntKind.wrap .i64 (s72+1)),()))))))))))) (
 some (.inl (s_,(end_,(s42,(s43,(s44,()))))))):=by kernel_rfl
theorem stt_Check_eq (n:Nat) (s:TState):stt_Check (n+1) s =
 obind (stt_open n s) fun r0 =>
 tif ((!(decide (r0.2=0)))) (
 some (2:Int)) (
 obind (stt_view_clock n r0.1) fun r1 =>
 tif ((!r1)) (
 some (2:Int)) (
 obind (stt_view_place n r0.1 (fun y2=>stt_Check_1 n y2.1 r0.1)) fun r3 =>
 tif ((decide ((0:Int)≤r3))) (
 some (2:Int)) (
 some (0:Int)))):=by kernel_rfl
theorem l05_Small_eq (n:Nat) (l:(List (List UInt8×List UInt8))):l05_Small (n+1) l =
 obind (l05_Small_l2 n loopFuel (l,((((List.length l):Nat):Int),((0:Int),())))) fun r0 =>
 selim (fun y1 =>
 some (1:Int)) (fun z2 =>
 some z2) r0:=by kernel_rfl
theorem l05_Small_l2_eq (n f:Nat) (s5:(List (List UInt8×List UInt8))) (s6:Int) (s7:Int):l05_Small_l2 n (f+1) (s5,s6,s7,()) =
 tif ((decide (s7<s6))) (
 obind (at? s5 s7) fun r0 =>
 tif ((decide (s7=40))) (
 some (.inr (0:Int))) (
 tif ((decide ((1000:Int)<(((List.length r0.1):Nat):Int)))) (
 some (.inr (0:Int))) (
 tif ((decide ((1000:Int)<(((List.length r0.2):Nat):Int)))) (
 some (.inr (0:Int))) (
 l05_Small_l2 n f (s5,(s6,((IntKind.wrap .i64 (s7+1)),()))))))) (
 some (.inl ())):=by kernel_rfl
theorem r12_SameList_eq (n:Nat) (a:(List TEvent)) (b:(List TEvent)):r12_SameList (n+1) a b =
 tif ((!(decide ((((List.length a):Nat):Int)=(((List.length b):Nat):Int))))) (
 some false) (
 obind (r12_SameList_l4 n loopFuel (a,(b,((((List.length a):Nat):Int),((0:Int),()))))) fun r0 =>
 selim (fun y1 =>
 some true) (fun z2 =>
 some z2) r0):=by kernel_rfl
theorem r12_SameList_l4_eq (n f:Nat) (a:(List TEvent)) (b:(List TEvent)) (s12:Int) (s13:Int):r12_SameList_l4 n (f+1) (a,b,s12,s13,()) =
 tif ((decide (s13<s12))) (
 obind (at? a s13) fun r0 =>
 obind (at? b s13) fun r1 =>
 tif ((!((decide (r0.1=r1.1))&&((decide (r0.2.1=r1.2.1))&&((decide (r0.2.2.1=r1.2.2.1))&&(r0.2.2.2==r1.2.2.2)))))) (
 some (.inr false)) (
 r12_SameList_l4 n f (a,(b,(s12,((IntKind.wrap .i64 (s13+1)),())))))) (
 some (.inl ())):=by kernel_rfl
theorem cell_Check_eq (n:Nat) (c:TCell):cell_Check (n+1) c =
 obind (cell_none n c) fun r0 =>
 tif (r0) (
 some (0:Int)) (
 obind (cell_spans n c) fun r1 =>
 tif ((!r1)) (
 some (2:Int)) (
 obind (wide_Of n (18446744073709551615:Int)) fun r2 =>
 obind (wide_Times n r2 (IntKind.wrap .u64 (IntKind.wrap .i64 (c.1-1)))) fun r3 =>
 tif ((!(decide (r3.2=0)))) (
 some (2:Int)) (
 obind (wide_Less n r3.1 c.2.2.2.1) fun r4 =>
 tif (r4) (
 some (2:Int)) (
 obind (cell_in n c.2.2.2.2.2.1 (IntKind.wrap .i64 (c.1-1))) fun r5 =>
 tif ((!r5)) (
 some (2:Int)) (
 obind (cell_in n c.2.2.2.2.1 (IntKind.wrap .i64 ((IntKind.wrap .i64 (c.1-1))-c.2.2.2.2.2.1))) fun r6 =>
 tif ((!r6)) (
 some (2:Int)) (
 obind (cell_in n c.2.2.2.2.2.2 (IntKind.wrap .i64 (c.2.2.1.1-c.2.1.1))) fun r7 =>
 tif ((!r7)) (
 some (2:Int)) (
 some (0:Int)))))))):=by kernel_rfl
theorem l15_Small_eq (n:Nat) (s:TSeries):l15_Small (n+1) s =
 obind (l05_Small n s.1) fun r0 =>
 tif ((decide (r0=0))) (
 some (0:Int)) (
 tif ((decide ((60:Int)<(((List.length s.2.2.1.2.2):Nat):Int)))) (
 some (0:Int)) (
 obind (l14_Small n s.2.2.2.1) fun r1 =>
 some r1)):=by kernel_rfl
theorem stt_Lives_eq (n:Nat) (s:TState) (i:Int):stt_Lives (n+1) s i =
 obind (stt_open n s) fun r0 =>
 tif ((decide (r0.2=0))) (
 tif ((decide ((0:Int)≤i))) (
 tif ((decide (i<(((List.length s.2.2.2):Nat):Int)))) (
 obind (stt_view_lives n r0.1 i) fun r1 =>
 some r1) (
 some false)) (
 some false)) (
 some false):=by kernel_rfl
theorem stat_one_eq (n:Nat) (t:TStats) (s:TState) (x:TSeries):stat_one (n+1) t s x =
 obind (tier_All n x.2.2.2.1.1) fun r0 =>
 obind (tier_All n x.2.2.2.1.2.1) fun r1 =>
 obind (tier_All n x.2.2.2.1.2.2) fun r2 =>
 obind (series_Dead n s.1 x.2.1 s.2.1) fun r3 =>
 tif (r3) (
 some ((IntKind.wrap .i64 (t.1+1)),(t.2.1,(t.2.2.1,((IntKind.wrap .i64 (t.2.2.2.1+(((List.length x.2.2.1.2.2):Nat):Int))),((IntKind.wrap .i64 (t.2.2.2.2.1+x.2.2.1.1)),(((IntKind.wrap .i64 (t.2.2.2.2.2.1.1+(((List.length r0):Nat):Int))),((IntKind.wrap .i64 (t.2.2.2.2.2.1.2.1+(((List.length r1):Nat):Int))),(IntKind.wrap .i64 (t.2.2.2.2.2.1.2.2+(((List.length r2):Nat):Int))))),(IntKind.wrap .i64 (t.2.2.2.2.2.2+1))))))))) (
 some ((IntKind.wrap .i64 (t.1+1)),(t.2.1,(t.2.2.1,((IntKind.wrap .i64 (t.2.2.2.1+(((List.length x.2.2.1.2.2):Nat):Int))),((IntKind.wrap .i64 (t.2.2.2.2.1+x.2.2.1.1)),(((IntKind.wrap .i64 (t.2.2.2.2.2.1.1+(((List.length r0):Nat):Int))),((IntKind.wrap .i64 (t.2.2.2.2.2.1.2.1+(((List.length r1):Nat):Int))),(IntKind.wrap .i64 (t.2.2.2.2.2.1.2.2+(((List.length r2):Nat):Int))))),t.2.2.2.2.2.2))))))):=by kernel_rfl
theorem r21_Due_eq (n:Nat) (s:TState):r21_Due (n+1) s =
 obind (r17_Check n s) fun r0 =>
 tif ((!(decide (r0=0)))) (
 some []) (
 obind (r17_Live n s) fun r1 =>
 obind (r21_Due_l5 n loopFuel (s,([],(r1,((((List.length r1):Nat):Int),((0:Int),())))))) fun r2 =>
 selim (fun y3 =>
 some y3.1) (fun z4 =>
 some z4) r2):=by kernel_rfl
theorem r21_Due_l5_eq (n f:Nat) (s_:TState) (out:(List Int)) (s10:(List Int)) (s11:Int) (s12:Int):r21_Due_l5 n (f+1) (s_,out,s10,s11,s12,()) =
 tif ((decide (s12<s11))) (
 obind (at? s10 s12) fun r0 =>
 obind (at? s_.2.2.2 r0) fun r1 =>
 obind (r15_Dead n s_.1 r1.2.1 s_.2.1) fun r2 =>
 tif (r2) (
 tif ((decide ((((List.length out)+1)*8)≤140737488355328))) (
 r21_Due_l5 n f (s_,((out++(r0::[])),(s10,(s11,((IntKind.wrap .i64 (s12+1)),())))))) (
 none)) (
 r21_Due_l5 n f (s_,(out,(s10,(s11,((IntKind.wrap .i64 (s12+1)),()))))))) (
 some (.inl (out,()))):=by kernel_rfl
theorem r17_Lives_eq (n:Nat) (s:TState) (i:Int):r17_Lives (n+1) s i =
 obind (r17_whole n s) fun r0 =>
 tif (r0) (
 tif ((decide ((0:Int)≤i))) (
 tif ((decide (i<(((List.length s.2.2.2):Nat):Int)))) (
 obind (r17_lives n s i) fun r1 =>
 some r1) (
 some false)) (
 some false)) (
 some false):=by kernel_rfl
theorem r13_All_eq (n:Nat) (l:(List TSlot)):r13_All (n+1) l =
 obind (r13_All_l3 n loopFuel ([],(l,((((List.length l):Nat):Int),((0:Int),()))))) fun r0 =>
 selim (fun y1 =>
 some y1.1) (fun z2 =>
 some z2) r0:=by kernel_rfl
theorem r13_All_l3_eq (n f:Nat) (out:(List TSlot)) (s8:(List TSlot)) (s9:Int) (s10:Int):r13_All_l3 n (f+1) (out,s8,s9,s10,()) =
 tif ((decide (s10<s9))) (
 obind (at? s8 s10) fun r0 =>
 tif (((decide (r0.1=0))&&((decide (r0.2.1=0))&&((decide (r0.2.2.1.1=0))&&((decide (r0.2.2.1.2.1=0))&&((decide (r0.2.2.1.2.2.1=0))&&((r0.2.2.1.2.2.2==false)&&((decide (r0.2.2.2.1.1=0))&&((decide (r0.2.2.2.1.2.1=0))&&((decide (r0.2.2.2.1.2.2.1=0))&&((r0.2.2.2.1.2.2.2==false)&&((decide (r0.2.2.2.2.1.1=0))&&((decide (r0.2.2.2.2.1.2=0))&&((decide (r0.2.2.2.2.2.1=0))&&((decide (r0.2.2.2.2.2.2.1=0))&&(decide (r0.2.2.2.2.2.2.2=0))))))))))))))))) (
 r13_All_l3 n f (out,(s8,(s9,((IntKind.wrap .i64 (s10+1)),()))))) (
 obind (r13_All_l7 n loopFuel (out,(r0,((((List.length out):Nat):Int),(s8,(s9,(s10,()))))))) fun r1 =>
 selim (fun y2 =>
 tif (((decide ((0:Int)≤y2.2.2.1))&&(decide (y2.2.2.1≤(((List.length y2.1):Nat):Int))))) (
 tif ((decide (((0+(List.length (List.take ((Int.toNat y2.2.2.1)-0) (List.drop 0 y2.1))))*120)≤140737488355328))) (
 tif ((decide ((((List.length ([]++(List.take ((Int.toNat y2.2.2.1)-0) (List.drop 0 y2.1))))+1)*120)≤140737488355328))) (
 tif ((decide ((0:Int)≤y2.2.2.1))) (
 tif ((decide ((Int.toNat y2.2.2.1)≤(List.length y2.1)))) (
 tif ((decide ((((List.length (([]++(List.take ((Int.toNat y2.2.2.1)-0) (List.drop 0 y2.1)))++(y2.2.1::[])))+(List.length (List.take ((List.length y2.1)-(Int.toNat y2.2.2.1)) (List.drop (Int.toNat y2.2.2.1) y2.1))))*120)≤140737488355328))) (
 r13_All_l3 n f (((([]++(List.take ((Int.toNat y2.2.2.1)-0) (List.drop 0 y2.1)))++(y2.2.1::[]))++(List.take ((List.length y2.1)-(Int.toNat y2.2.2.1)) (List.drop (Int.toNat y2.2.2.1) y2.1))),(y2.2.2.2.1,(y2.2.2.2.2.1,((IntKind.wrap .i64 (y2.2.2.2.2.2.1+1)),()))))) (
 none)) (
 none)) (
 none)) (
 none)) (
 none)) (
 none)) (fun z3 =>
 some (.inr z3)) r1)) (
 some (.inl (out,()))):=by kernel_rfl
theorem r13_All_l7_eq (n f:Nat) (out:(List TSlot)) (s:TSlot) (at_:Int) (s8:(List TSlot)) (s9:Int) (s10:Int):r13_All_l7 n (f+1) (out,s,at_,s8,s9,s10,()) =
 tif ((decide ((0:Int)<at_))) (
 obind (at? out (IntKind.wrap .i64 (at_-1))) fun r0 =>
 obind ((out)[(Int.toNat (IntKind.wrap .i64 (at_-1)))]?) fun r1 =>
 tif ((decide (s.1<r1.1))) (
 r13_All_l7 n f (out,(s,((IntKind.wrap .i64 (at_-1)),(s8,(s9,(s10,()))))))) (
 some (.inl (out,(s,(at_,(s8,(s9,(s10,()))))))))) (
 some (.inl (out,(s,(at_,(s8,(s9,(s10,())))))))):=by kernel_rfl
theorem r17_Empty_eq (n:Nat) (s:TSeries):r17_Empty (n+1) s =
 obind (r15_Same n s ([],((0:Int),(((0:Int),((0:Int),[])),(([],([],[])),((0:Int),((0:Int),(((0:Int),((0:Int),((0:Int),false))),(((0:Int),((0:Int),((0:Int),false))),(((0:Int),(0:Int)),((0:Int),((0:Int),(0:Int))))))))))))) fun r0 =>
 some r0:=by kernel_rfl
theorem r17_whole_eq (n:Nat) (s:TState):r17_whole (n+1) s =
 obind (r10_Check n s.1) fun r0 =>
 tif ((decide (r0=0))) (
 some (decide ((((List.length s.2.2.2):Nat):Int)=s.1.2.2.2.1))) (
 some false):=by kernel_rfl
theorem r17_lives_eq (n:Nat) (s:TState) (i:Int):r17_lives (n+1) s i =
 obind (at? s.2.2.2 i) fun r0 =>
 obind (r17_Empty n r0) fun r1 =>
 tif ((!r1)) (
 tif ((decide (s.2.2.1=((-1):Int)))) (
 some true) (
 obind (at? s.2.2.2 i) fun r2 =>
 obind (r15_Dead n s.1 r2.2.1 s.2.2.1) fun r3 =>
 some (!r3))) (
 some false):=by kernel_rfl
theorem stat_writer_part_eq (n:Nat) (w:(List Int)) (word:List UInt8) (l:(List Int)):stat_writer_part (n+1) w word l =
 tif ((decide ((0:Int)<(((List.length w):Nat):Int)))) (
 tif ((decide ((((List.length w)+2)*1)≤140737488355328))) (
 tif ((decide ((((List.length (w++((44:Int)::((32:Int)::[]))))+(List.length (List.map (fun y4=>(((UInt8.toNat y4):Nat):Int)) word)))*1)≤140737488355328))) (
 obind (stat_writer_part_l4 n loopFuel (((w++((44:Int)::((32:Int)::[])))++(List.map (fun y0=>(((UInt8.toNat y0):Nat):Int)) word)),(l,((((List.length l):Nat):Int),((0:Int),()))))) fun r1 =>
 selim (fun y2 =>
 some y2.1) (fun z3 =>
 some z3) r1) (
 none)) (
 none)) (
 tif ((decide ((((List.length w)+(List.length (List.map (fun y9=>(((UInt8.toNat y9):Nat):Int)) word)))*1)≤140737488355328))) (
 obind (stat_writer_part_l4 n loopFuel ((w++(List.map (fun y5=>(((UInt8.toNat y5):Nat):Int)) word)),(l,((((List.length l):Nat):Int),((0:Int),()))))) fun r6 =>
 selim (fun y7 =>
 some y7.1) (fun z8 =>
 some z8) r6) (
 none)):=by kernel_rfl
theorem stat_writer_part_l4_eq (n f:Nat) (w:(List Int)) (s26:(List Int)) (s27:Int) (s28:Int):stat_writer_part_l4 n (f+1) (w,s26,s27,s28,()) =
 tif ((decide (s28<s27))) (
 obind (at? s26 s28) fun r0 =>
 tif ((decide ((((List.length w)+1)*1)≤140737488355328))) (
 obind (strconv_AppendInt n (w++((32:Int)::[])) r0 (10:Int)) fun r1 =>
 stat_writer_part_l4 n f (r1,(s26,(s27,((IntKind.wrap .i64 (s28+1)),()))))) (
 none)) (
 some (.inl (w,()))):=by kernel_rfl
theorem r33_num_eq (n:Nat) (n_:Int):r33_num (n+1) n_ =
 tif ((decide (n_<0))) (
 obind (r01_Text n ((0:Int),(IntKind.wrap .u64 ((IntKind.wrap .u64 (IntKind.wrap .i64 ((0:Int)-(IntKind.wrap .i64 (n_+1)))))+1)))) fun r0 =>
 tif ((decide ((1+(List.length r0))≤9223372036854775807))) (
 some (((45:UInt8)::[])++r0)) (
 none)) (
 obind (r01_Text n ((0:Int),(IntKind.wrap .u64 n_))) fun r1 =>
 some r1):=by kernel_rfl
theorem stt_Room_eq (n:Nat) (s:TState):stt_Room (n+1) s =
 obind (stt_open n s) fun r0 =>
 tif ((!(decide (r0.2=0)))) (
 some ((0:Int),r0.2)) (
 obind (stt_view_place n r0.1 (fun y1=>stt_Room_1 n y1.1 r0.1)) fun r2 =>
 tif ((decide (r2<0))) (
 some ((0:Int),(7:Int))) (
 some (r2,(0:Int)))):=by kernel_rfl
theorem r17_time_eq (n:Nat) (t:Int):r17_time (n+1) t =
 tif ((decide ((0:Int)≤t))) (
 some (decide (t<35184372088832))) (
 some false):=by kernel_rfl
theorem r17_Mark_eq (n:Nat) (s:TState):r17_Mark (n+1) s =
 obind (r17_whole n s) fun r0 =>
 tif ((!r0)) (
 some (0:Int)) (
 obind (r17_time n s.2.1) fun r1 =>
 tif ((!r1)) (
 some (0:Int)) (
 tif ((decide (s.1.2.1.1=0))) (
 none) (
 some (IntKind.wrap .i64 ((IntKind.wrap .i64 (Int.tdiv s.2.1 s.1.2.1.1))*s.1.2.1.1))))):=by kernel_rfl
theorem r15_Check_eq (n:Nat) (c:TConfig) (s:TSeries):r15_Check (n+1) c s =
 obind (r10_Check n c) fun r0 =>
 tif ((!(decide (r0=0)))) (
 some (2:Int)) (
 obind (r05_Check n s.1) fun r1 =>
 tif ((!(decide (r1=0)))) (
 some (2:Int)) (
 obind (r12_Check n s.2.2.1 c.1) fun r2 =>
 tif ((!(decide (r2=0)))) (
 some (2:Int)) (
 obind (r14_Check n c s.2.2.2.1) fun r3 =>
 tif ((!(decide (r3=0)))) (
 some (2:Int)) (
 tif ((decide (s.2.1=((-1):Int)))) (
 tif ((decide ((0:Int)<(((List.length s.2.2.1.2.2):Nat):Int)))) (
 some (2:Int)) (
 tif ((!((decide (s.2.2.2.2.1=0))&&((decide (s.2.2.2.2.2.1=0))&&((decide (s.2.2.2.2.2.2.1.1=0))&&((decide (s.2.2.2.2.2.2.1.2.1=0))&&((decide (s.2.2.2.2.2.2.1.2.2.1=0))&&((s.2.2.2.2.2.2.1.2.2.2==false)&&((decide (s.2.2.2.2.2.2.2.1.1=0))&&((decide (s.2.2.2.2.2.2.2.1.2.1=0))&&((decide (s.2.2.2.2.2.2.2.1.2.2.1=0))&&((s.2.2.2.2.2.2.2.1.2.2.2==false)&&((decide (s.2.2.2.2.2.2.2.2.1.1=0))&&((decide (s.2.2.2.2.2.2.2.2.1.2=0))&&((decide (s.2.2.2.2.2.2.2.2.2.1=0))&&((decide (s.2.2.2.2.2.2.2.2.2.2.1=0))&&(decide (s.2.2.2.2.2.2.2.2.2.2.2=0)))))))))))))))))) (
 some (2:Int)) (
 obind (r15_Check_l7 n loopFuel (s,((0:Int),()))) fun r4 =>
 selim (fun y5 =>
 some (0:Int)) (fun z6 =>
 some z6) r4))) (
 obind (r12_Last n s.2.2.1) fun r7 =>
 tif ((!(decide (r7.2=0)))) (
 some (2:Int)) (
 tif ((!(decide (r7.1.1=s.2.1)))) (
 some (2:Int)) (
 obind (r13_Fits n s.2.2.2.2.2 c.2.1.1 s.2.2.2.2.1) fun r8 =>
 tif ((!r8)) (
 some (2:Int)) (
 tif ((!(decide (s.2.2.2.2.2.2.2.1.1=s.2.1)))) (
 some (2:Int)) (
 obind (r15_Check_l16 n loopFuel (c,(s,((0:Int),())))) fun r9 =>
 selim (fun y10 =>
 some (0:Int)) (fun z11 =>
 some z11) r9))))))))):=by kernel_rfl
theorem r15_Check_l7_eq (n f:Nat) (s_:TSeries) (k:Int):r15_Check_l7 n (f+1) (s_,k,()) =
 tif ((decide (k<3))) (
 tif ((decide (k=0))) (
 obind (r13_All n s_.2.2.2.1.1) fun r0 =>
 tif ((decide ((0:Int)<(((List.length r0):Nat):Int)))) (
 some (.inr (2:Int))) (
 r15_Check_l7 n f (s_,((IntKind.wrap .i64 (k+1)),())))) (
 tif ((decide (k=1))) (
 obind (r13_All n s_.2.2.2.1.2.1) fun r1 =>
 tif ((decide ((0:Int)<(((List.length r1):Nat):Int)))) (
 some (.inr (2:Int))) (
 r15_Check_l7 n f (s_,((IntKind.wrap .i64 (k+1)),())))) (
 tif ((decide (k=2))) (
 obind (r13_All n s_.2.2.2.1.2.2) fun r2 =>
 tif ((decide ((0:Int)<(((List.length r2):Nat):Int)))) (
 some (.inr (2:Int))) (
 r15_Check_l7 n f (s_,((IntKind.wrap .i64 (k+1)),())))) (
 none)))) (
 some (.inl ())):=by kernel_rfl
theorem r15_Check_l16_eq (n f:Nat) (c_:TConfig) (s_:TSeries) (k_:Int):r15_Check_l16 n (f+1) (c_,s_,k_,()) =
 tif ((decide (k_<3))) (
 tif ((decide (k_=0))) (
 obind (r13_All n s_.2.2.2.1.1) fun r0 =>
 obind (r15_Check_l19 n loopFuel (c_,(s_,(k_,(r0,((((List.length r0):Nat):Int),((0:Int),()))))))) fun r1 =>
 selim (fun y2 =>
 r15_Check_l16 n f (y2.1,(y2.2.1,((IntKind.wrap .i64 (y2.2.2.1+1)),())))) (fun z3 =>
 some (.inr z3)) r1) (
 tif ((decide (k_=1))) (
 obind (r13_All n s_.2.2.2.1.2.1) fun r4 =>
 obind (r15_Check_l19 n loopFuel (c_,(s_,(k_,(r4,((((List.length r4):Nat):Int),((0:Int),()))))))) fun r5 =>
 selim (fun y6 =>
 r15_Check_l16 n f (y6.1,(y6.2.1,((IntKind.wrap .i64 (y6.2.2.1+1)),())))) (fun z7 =>
 some (.inr z7)) r5) (
 tif ((decide (k_=2))) (
 obind (r13_All n s_.2.2.2.1.2.2) fun r8 =>
 obind (r15_Check_l19 n loopFuel (c_,(s_,(k_,(r8,((((List.length r8):Nat):Int),((0:Int),()))))))) fun r9 =>
 selim (fun y10 =>
 r15_Check_l16 n f (y10.1,(y10.2.1,((IntKind.wrap .i64 (y10.2.2.1+1)),())))) (fun z11 =>
 some (.inr z11)) r9) (
 none)))) (
 some (.inl ())):=by kernel_rfl
theorem r15_Check_l19_eq (n f:Nat) (c_:TConfig) (s_:TSeries) (k_:Int) (s106:(List TSlot)) (s107:Int) (s108:Int):r15_Check_l19 n (f+1) (c_,s_,k_,s106,s107,s108,()) =
 tif ((decide (s108<s107))) (
 obind (at? s106 s108) fun r0 =>
 tif ((decide (k_=0))) (
 tif ((decide (c_.2.1.1=0))) (
 none) (
 tif ((decide ((IntKind.wrap .i64 (Int.tdiv s_.2.1 c_.2.1.1))≤r0.1))) (
 some (.inr (2:Int))) (
 r15_Check_l19 n f (c_,(s_,(k_,(s106,(s107,((IntKind.wrap .i64 (s108+1)),()))))))))) (
 tif ((decide (k_=1))) (
 tif ((decide (c_.2.1.2.1=0))) (
 none) (
 tif ((decide ((IntKind.wrap .i64 (Int.tdiv s_.2.1 c_.2.1.2.1))≤r0.1))) (
 some (.inr (2:Int))) (
 r15_Check_l19 n f (c_,(s_,(k_,(s106,(s107,((IntKind.wrap .i64 (s108+1)),()))))))))) (
 tif ((decide (k_=2))) (
 tif ((decide (c_.2.1.2.2=0))) (
 none) (
 tif ((decide ((IntKind.wrap .i64 (Int.tdiv s_.2.1 c_.2.1.2.2))≤r0.1))) (
 some (.inr (2:Int))) (
 r15_Check_l19 n f (c_,(s_,(k_,(s106,(s107,((IntKind.wrap .i64 (s108+1)),()))))))))) (
 none)))) (
 some (.inl (c_,(s_,(k_,()))))):=by kernel_rfl
theorem r05_Same_eq (n:Nat) (a:(List (List UInt8×List UInt8))) (b:(List (List UInt8×List UInt8))):r05_Same (n+1) a b =
 tif ((!(decide ((((List.length a):Nat):Int)=(((List.length b):Nat):Int))))) (
 some false) (
 obind (r05_Same_l4 n loopFuel (a,(b,((((List.length a):Nat):Int),((0:Int),()))))) fun r0 =>
 selim (fun y1 =>
 some true) (fun z2 =>
 some z2) r0):=by kernel_rfl
theorem r05_Same_l4_eq (n f:Nat) (a:(List (List UInt8×List UInt8))) (b:(List (List UInt8×List UInt8))) (s12:Int) (s13:Int):r05_Same_l4 n (f+1) (a,b,s12,s13,()) =
 tif ((decide (s13<s12))) (
 obind (at? a s13) fun r0 =>
 obind (at? b s13) fun r1 =>
 tif ((!((r0.1==r1.1)&&(r0.2==r1.2)))) (
 some (.inr false)) (
 r05_Same_l4 n f (a,(b,(s12,((IntKind.wrap .i64 (s13+1)),())))))) (
 some (.inl ())):=by kernel_rfl
theorem stt_open_eq (n:Nat) (s:TState):stt_open (n+1) s =
 obind (conf_Check n s.1) fun r0 =>
 tif ((!(decide (r0=0)))) (
 some ((((0:Int),(((0:Int),((0:Int),(0:Int))),(((0:Int),((0:Int),(0:Int))),((0:Int),(0:Int))))),((0:Int),((0:Int),[]))),(2:Int))) (
 tif ((!(decide ((((List.length s.2.2.2):Nat):Int)=s.1.2.2.2.1)))) (
 some ((((0:Int),(((0:Int),((0:Int),(0:Int))),(((0:Int),((0:Int),(0:Int))),((0:Int),(0:Int))))),((0:Int),((0:Int),[]))),(2:Int))) (
 some (s,(0:Int)))):=by kernel_rfl
theorem stt_view_clock_eq (n:Nat) (v:TState):stt_view_clock (n+1) v =
 obind (stt_time n v.2.1) fun r0 =>
 tif (r0) (
 tif ((decide (v.2.2.1=((-1):Int)))) (
 some (decide (v.2.2.1≤v.2.1))) (
 obind (stt_time n v.2.2.1) fun r1 =>
 tif (r1) (
 some (decide (v.2.2.1≤v.2.1))) (
 some false))) (
 some false):=by kernel_rfl
theorem stt_view_place_eq (n:Nat) (v:TState) (is:((Int×Unit)→Option Bool)):stt_view_place (n+1) v is =
 obind (stt_view_place_l2 n loopFuel (is,((((List.length v.2.2.2):Nat):Int),((0:Int),())))) fun r0 =>
 selim (fun y1 =>
 some ((-1):Int)) (fun z2 =>
 some z2) r0:=by kernel_rfl
theorem stt_view_place_l2_eq (n f:Nat) (is:((Int×Unit)→Option Bool)) (s9:Int) (s10:Int):stt_view_place_l2 n (f+1) (is,s9,s10,()) =
 tif ((decide (s10<s9))) (
 obind (is (s10,())) fun r0 =>
 tif (r0) (
 some (.inr s10)) (
 stt_view_place_l2 n f (is,(s9,((IntKind.wrap .i64 (s10+1)),()))))) (
 some (.inl ())):=by kernel_rfl
theorem stt_Check_1_eq (n:Nat) (i:Int) (p1:TState):stt_Check_1 (n+1) i p1 =
 obind (stt_view_right n p1 i) fun r0 =>
 some (!r0):=by kernel_rfl
theorem stt_view_right_eq (n:Nat) (v:TState) (i:Int):stt_view_right (n+1) v i =
 obind (at? v.2.2.2 i) fun r0 =>
 obind (stt_empty n r0) fun r1 =>
 tif (r1) (
 some true) (
 obind (series_Check n v.1 r0) fun r2 =>
 tif ((decide (r2=0))) (
 tif ((decide ((0:Int)≤r0.2.1))) (
 obind (stt_view_mark n v) fun r3 =>
 tif ((decide (r0.2.1<(IntKind.wrap .i64 (r3+v.1.2.1.1))))) (
 obind (stt_view_twin n v i) fun r4 =>
 some (!r4)) (
 some false)) (
 some false)) (
 some false)):=by kernel_rfl
theorem sweep_Due_eq (n:Nat) (s:TState):sweep_Due (n+1) s =
 obind (stt_Check n s) fun r0 =>
 tif ((!(decide (r0=0)))) (
 some []) (
 obind (stt_Live n s) fun r1 =>
 obind (sl_DeleteFunc_int n r1 (fun y2=>sweep_Due_1 n y2.1 s)) fun r3 =>
 some r3):=by kernel_rfl
theorem stt_Live_eq (n:Nat) (s:TState):stt_Live (n+1) s =
 obind (stt_open n s) fun r0 =>
 tif ((!(decide (r0.2=0)))) (
 some []) (
 obind (stt_Live_l6 n loopFuel (r0.1,([],((((List.length r0.1.2.2.2):Nat):Int),((0:Int),()))))) fun r1 =>
 selim (fun y2 =>
 some y2.1) (fun z3 =>
 some z3) r1):=by kernel_rfl
theorem stt_Live_l6_eq (n f:Nat) (v:TState) (out:(List Int)) (s17:Int) (s18:Int):stt_Live_l6 n (f+1) (v,out,s17,s18,()) =
 tif ((decide (s18<s17))) (
 obind (stt_view_lives n v s18) fun r0 =>
 tif (r0) (
 tif ((decide ((((List.length out)+1)*8)≤140737488355328))) (
 stt_Live_l6 n f (v,((out++(s18::[])),(s17,((IntKind.wrap .i64 (s18+1)),()))))) (
 none)) (
 stt_Live_l6 n f (v,(out,(s17,((IntKind.wrap .i64 (s18+1)),())))))) (
 some (.inl (out,()))):=by kernel_rfl
theorem wi_Oldest_eq (n:Nat) (now:Int) (w:Int) (n_:Int):wi_Oldest (n+1) now w n_ =
 obind (wi_Of n now w) fun r0 =>
 tif ((!(decide (r0.2=0)))) (
 some ((0:Int),(1:Int))) (
 obind (wi_in_int n n_ (1:Int) (4096:Int)) fun r1 =>
 tif ((!r1)) (
 some ((0:Int),(1:Int))) (
 some ((if (0:Int)<(IntKind.wrap .i64 ((IntKind.wrap .i64 (r0.1+1))-n_)) then (IntKind.wrap .i64 ((IntKind.wrap .i64 (r0.1+1))-n_)) else (0:Int)),(0:Int)))):=by kernel_rfl
theorem r05_Check_eq (n:Nat) (l:(List (List UInt8×List UInt8))):r05_Check (n+1) l =
 tif ((decide ((((List.length l):Nat):Int)<1))) (
 some (8:Int)) (
 tif ((decide ((16:Int)<(((List.length l):Nat):Int)))) (
 some (8:Int)) (
 obind (r05_Check_l5 n loopFuel (l,((0:Int),(l,((((List.length l):Nat):Int),((0:Int),())))))) fun r0 =>
 selim (fun y1 =>
 tif ((decide ((256:Int)<y1.1))) (
 some (8:Int)) (
 some (0:Int))) (fun z2 =>
 some z2) r0)):=by kernel_rfl
theorem r05_Check_l5_eq (n f:Nat) (l:(List (List UInt8×List UInt8))) (all:Int) (s14:(List (List UInt8×List UInt8))) (s15:Int) (s16:Int):r05_Check_l5 n (f+1) (l,all,s14,s15,s16,()) =
 tif ((decide (s16<s15))) (
 obind (at? s14 s16) fun r0 =>
 obind (r05_name n r0.1) fun r1 =>
 tif ((!r1)) (
 some (.inr (8:Int))) (
 tif ((decide ((128:Int)<(((List.length r0.2):Nat):Int)))) (
 some (.inr (8:Int))) (
 tif ((decide ((0:Int)<s16))) (
 obind (at? l (IntKind.wrap .i64 (s16-1))) fun r2 =>
 tif ((!(Go.Op.bytesLess r2.1 r0.1))) (
 some (.inr (8:Int))) (
 r05_Check_l5 n f (l,((IntKind.wrap .i64 (all+(IntKind.wrap .i64 ((((List.length r0.1):Nat):Int)+(((List.length r0.2):Nat):Int))))),(s14,(s15,((IntKind.wrap .i64 (s16+1)),()))))))) (
 r05_Check_l5 n f (l,((IntKind.wrap .i64 (all+(IntKind.wrap .i64 ((((List.length r0.1):Nat):Int)+(((List.length r0.2):Nat):Int))))),(s14,(s15,((IntKind.wrap .i64 (s16+1)),()))))))))) (
 some (.inl (all,()))):=by kernel_rfl
theorem r17_Find_eq (n:Nat) (s:TState) (l:(List (List UInt8×List UInt8))):r17_Find (n+1) s l =
 obind (r17_whole n s) fun r0 =>
 tif ((!r0)) (
 some ((0:Int),(2:Int))) (
 obind (r17_Find_l4 n loopFuel (l,(s,(s.2.2.2,((((List.length s.2.2.2):Nat):Int),((0:Int),())))))) fun r1 =>
 selim (fun y2 =>
 some ((0:Int),(3:Int))) (fun z3 =>
 some z3) r1):=by kernel_rfl
theorem r17_Find_l4_eq (n f:Nat) (l:(List (List UInt8×List UInt8))) (s_:TState) (s12:(List TSeries)) (s13:Int) (s14:Int):r17_Find_l4 n (f+1) (l,s_,s12,s13,s14,()) =
 tif ((decide (s14<s13))) (
 obind (at? s12 s14) fun r0 =>
 obind (r17_lives n s_ s14) fun r1 =>
 tif (r1) (
 obind (r05_Same n r0.1 l) fun r2 =>
 tif (r2) (
 some (.inr (s14,(0:Int)))) (
 r17_Find_l4 n f (l,(s_,(s12,(s13,((IntKind.wrap .i64 (s14+1)),()))))))) (
 r17_Find_l4 n f (l,(s_,(s12,(s13,((IntKind.wrap .i64 (s14+1)),()))))))) (
 some (.inl ())):=by kernel_rfl
theorem series_Dead_eq (n:Nat) (c:TConfig) (last:Int) (now:Int):series_Dead (n+1) c last now =
 obind (conf_Check n c) fun r0 =>
 tif ((decide (r0=0))) (
 obind (wi_Gone n last now c.2.1.1 c.2.2.1.1) fun r1 =>
 tif (r1) (
 obind (wi_Gone n last now c.2.1.2.1 c.2.2.1.2.1) fun r2 =>
 tif (r2) (
 obind (wi_Gone n last now c.2.1.2.2 c.2.2.1.2.2) fun r3 =>
 tif (r3) (
 some r3) (
 some r3)) (
 some r2)) (
 some r1)) (
 some (decide (r0=0))):=by kernel_rfl
theorem stt_Find_eq (n:Nat) (s:TState) (l:(List (List UInt8×List UInt8))):stt_Find (n+1) s l =
 obind (stt_open n s) fun r0 =>
 tif ((!(decide (r0.2=0)))) (
 some ((0:Int),r0.2)) (
 obind (stt_view_place n r0.1 (fun y1=>stt_Find_1 n y1.1 s l r0.1)) fun r2 =>
 tif ((decide (r2<0))) (
 some ((0:Int),(3:Int))) (
 some (r2,(0:Int)))):=by kernel_rfl
theorem r15_Dead_eq (n:Nat) (c:TConfig) (last:Int) (now:Int):r15_Dead (n+1) c last now =
 obind (r10_Check n c) fun r0 =>
 tif ((!(decide (r0=0)))) (
 some false) (
 obind (r09_Gone n last now c.2.1.1 c.2.2.1.1) fun r1 =>
 tif ((!r1)) (
 some false) (
 obind (r09_Gone n last now c.2.1.2.1 c.2.2.1.2.1) fun r2 =>
 tif ((!r2)) (
 some false) (
 obind (r09_Gone n last now c.2.1.2.2 c.2.2.1.2.2) fun r3 =>
 tif ((!r3)) (
 some false) (
 some true)))):=by kernel_rfl
theorem cell_none_eq (n:Nat) (c:TCell):cell_none (n+1) c =
 some ((decide (c.1=0))&&((decide (c.2.1.1=0))&&((decide (c.2.1.2.1=0))&&((decide (c.2.1.2.2.1=0))&&((c.2.1.2.2.2==false)&&((decide (c.2.2.1.1=0))&&((decide (c.2.2.1.2.1=0))&&((decide (c.2.2.1.2.2.1=0))&&((c.2.2.1.2.2.2==false)&&((decide (c.2.2.2.1.1=0))&&((decide (c.2.2.2.1.2=0))&&((decide (c.2.2.2.2.1=0))&&((decide (c.2.2.2.2.2.1=0))&&(decide (c.2.2.2.2.2.2=0))))))))))))))):=by kernel_rfl
theorem cell_spans_eq (n:Nat) (c:TCell):cell_spans (n+1) c =
 tif ((decide (c.1=1))) (
 tif (((decide (c.2.1.1=c.2.2.1.1))&&((decide (c.2.1.2.1=c.2.2.1.2.1))&&((decide (c.2.1.2.2.1=c.2.2.1.2.2.1))&&(c.2.1.2.2.2==c.2.2.1.2.2.2))))) (
 obind (event_Check n c.2.1) fun r0 =>
 some (decide (r0=0))) (
 some false)) (
 tif ((decide ((1:Int)<c.1))) (
 obind (event_Follow n c.2.1 c.2.2.1) fun r1 =>
 tif (r1) (
 some (decide ((IntKind.wrap .i64 (c.1-1))≤(IntKind.wrap .i64 (c.2.2.1.1-c.2.1.1))))) (
 some false)) (
 some false)):=by kernel_rfl
theorem wide_Times_eq (n:Nat) (a:(Int×Int)) (n_:Int):wide_Times (n+1) a n_ =
 obind (math_bits_Mul64 n a.2 n_) fun r0 =>
 obind (math_bits_Mul64 n a.1 n_) fun r1 =>
 tif (((decide ((0:Int)≤r1.2))&&((decide ((0:Int)≤r0.1))&&true))) (
 obind (wide_sure n ((((r1.2+r0.1)+0) % (18446744073709551616:Int)),r0.2) (orI .u64 r1.1 (((r1.2+r0.1)+0) / (18446744073709551616:Int)))) fun r2 =>
 some r2) (
 none):=by kernel_rfl
theorem wide_Of_eq (n:Nat) (n_:Int):wide_Of (n+1) n_ =
 some ((0:Int),n_):=by kernel_rfl
theorem wide_Less_eq (n:Nat) (a:(Int×Int)) (b:(Int×Int)):wide_Less (n+1) a b =
 tif ((decide (a.1<b.1))) (
 some true) (
 tif ((decide (a.1=b.1))) (
 some (decide (a.2<b.2))) (
 some false)):=by kernel_rfl
theorem cell_in_eq (n:Nat) (n_:Int) (most:Int):cell_in (n+1) n_ most =
 tif ((decide ((0:Int)≤n_))) (
 some (decide (n_≤most))) (
 some false):=by kernel_rfl
theorem event_Check_eq (n:Nat) (e:TEvent):event_Check (n+1) e =
 tif ((decide (e.1<0))) (
 some (2:Int)) (
 tif ((decide ((35184372088832:Int)≤e.1))) (
 some (2:Int)) (
 tif ((decide (e.2.2.1<0))) (
 some (2:Int)) (
 tif ((decide (e.1<e.2.2.1))) (
 some (2:Int)) (
 tif (e.2.2.2) (
 tif ((!((decide (e.1=e.1))&&((decide (e.2.1=0))&&((decide (e.2.2.1=0))&&(e.2.2.2==true)))))) (
 some (2:Int)) (
 some (0:Int))) (
 some (0:Int)))))):=by kernel_rfl
theorem l14_Small_eq (n:Nat) (s:((List TSlot)×((List TSlot)×(List TSlot)))):l14_Small (n+1) s =
 obind (l14_Small_l2 n loopFuel (s,((0:Int),()))) fun r0 =>
 selim (fun y1 =>
 some (1:Int)) (fun z2 =>
 some z2) r0:=by kernel_rfl
theorem l14_Small_l2_eq (n f:Nat) (s_:((List TSlot)×((List TSlot)×(List TSlot)))) (s4:Int):l14_Small_l2 n (f+1) (s_,s4,()) =
 tif ((decide (s4<3))) (
 tif ((decide (s4=0))) (
 tif ((decide ((40:Int)<(((List.length s_.1):Nat):Int)))) (
 some (.inr (0:Int))) (
 l14_Small_l2 n f (s_,((IntKind.wrap .i64 (s4+1)),())))) (
 tif ((decide (s4=1))) (
 tif ((decide ((40:Int)<(((List.length s_.2.1):Nat):Int)))) (
 some (.inr (0:Int))) (
 l14_Small_l2 n f (s_,((IntKind.wrap .i64 (s4+1)),())))) (
 tif ((decide (s4=2))) (
 tif ((decide ((40:Int)<(((List.length s_.2.2):Nat):Int)))) (
 some (.inr (0:Int))) (
 l14_Small_l2 n f (s_,((IntKind.wrap .i64 (s4+1)),())))) (
 none)))) (
 some (.inl ())):=by kernel_rfl
end Go.Proofs.YtjeabebacegikaaGreatDoor
