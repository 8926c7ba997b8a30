/- Trees, printed by program. -/
import Derived.Test.YtjeabebacegikaaGreatDoorTr0
import Derived.KernelRfl
set_option linter.unusedVariables false
namespace Go.Proofs.YtjeabebacegikaaGreatDoor
open Go.Flat
theorem raw_Range_eq (n:Nat) (r:(Int×(Int×(List TEvent)))) (a:Int) (b:Int):raw_Range (n+1) r a b =
 tif ((decide (b≤a))) (
 some ([],(1:Int))) (
 tif ((decide ((0:Int)<r.1))) (
 tif ((decide (a≤r.2.1))) (
 some ([],(11:Int))) (
 obind (sl_Clone_Event n r.2.2) fun r0 =>
 obind (sl_DeleteFunc_Event n r0 (fun y1=>raw_Range_1 n y1.1 a b)) fun r2 =>
 some (r2,(0:Int)))) (
 obind (sl_Clone_Event n r.2.2) fun r3 =>
 obind (sl_DeleteFunc_Event n r3 (fun y4=>raw_Range_1 n y4.1 a b)) fun r5 =>
 some (r5,(0:Int)))):=by kernel_rfl
theorem sl_DeleteFunc_Event_eq (n:Nat) (s:(List TEvent)) (del:((TEvent×Unit)→Option Bool)):sl_DeleteFunc_Event (n+1) s del =
 obind (sl_IndexFunc_Event n s del) fun r0 =>
 tif ((decide (r0=((-1):Int)))) (
 some s) (
 obind (sl_DeleteFunc_Event_l5 n loopFuel (s,(del,(r0,((IntKind.wrap .i64 (r0+1)),()))))) fun r1 =>
 selim (fun y2 =>
 tif ((decide ((0:Int)≤y2.2.1))) (
 tif ((decide ((Int.toNat y2.2.1)≤(List.length y2.1)))) (
 tif ((decide (((Int.toNat y2.2.1)+((List.length y2.1)-(Int.toNat y2.2.1)))≤(List.length y2.1)))) (
 tif (((decide ((0:Int)≤y2.2.1))&&(decide (y2.2.1≤(((List.length (Go.Flat.putRow y2.1 (Int.toNat y2.2.1) (List.replicate ((List.length y2.1)-(Int.toNat y2.2.1)) ((0:Int),((0:Int),((0:Int),false)))))):Nat):Int))))) (
 some (List.take ((Int.toNat y2.2.1)-0) (Go.Flat.putRow y2.1 (Int.toNat y2.2.1) (List.replicate ((List.length y2.1)-(Int.toNat y2.2.1)) ((0:Int),((0:Int),((0:Int),false))))))) (
 none)) (
 none)) (
 none)) (
 none)) (fun z3 =>
 some z3) r1):=by kernel_rfl
theorem sl_DeleteFunc_Event_l5_eq (n f:Nat) (s:(List TEvent)) (del:((TEvent×Unit)→Option Bool)) (i:Int) (j:Int):sl_DeleteFunc_Event_l5 n (f+1) (s,del,i,j,()) =
 tif ((decide (j<(((List.length s):Nat):Int)))) (
 obind (at? s j) fun r0 =>
 obind ((s)[(Int.toNat j)]?) fun r1 =>
 obind (del (r1,())) fun r2 =>
 tif ((!r2)) (
 obind (at? s i) fun r3 =>
 obind ((s)[(Int.toNat i)]?) fun r4 =>
 sl_DeleteFunc_Event_l5 n f ((List.set s (Int.toNat i) r1),(del,((IntKind.wrap .i64 (i+1)),((IntKind.wrap .i64 (j+1)),()))))) (
 sl_DeleteFunc_Event_l5 n f (s,(del,(i,((IntKind.wrap .i64 (j+1)),())))))) (
 some (.inl (s,(i,())))):=by kernel_rfl
theorem sl_Clone_Event_eq (n:Nat) (s:(List TEvent)):sl_Clone_Event (n+1) s =
 tif ((decide ((List.length s)=0))) (
 both (
 some []) (
 tif ((decide (((0+(List.length s))*32)≤140737488355328))) (
 some ([]++s)) (
 none))) (
 tif ((decide (((0+(List.length s))*32)≤140737488355328))) (
 some ([]++s)) (
 none)):=by kernel_rfl
end Go.Proofs.YtjeabebacegikaaGreatDoor
