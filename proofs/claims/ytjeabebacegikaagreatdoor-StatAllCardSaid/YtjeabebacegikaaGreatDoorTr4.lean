/- Trees, printed by program. -/
import Derived.Test.YtjeabebacegikaaGreatDoorTr0
import Derived.KernelRfl
set_option linter.unusedVariables false
namespace Go.Proofs.YtjeabebacegikaaGreatDoor
open Go.Flat
theorem sl_swpR_eq (n:Nat) (data:(List TSlot)) (a:Int) (b:Int) (n_:Int) (cmp:((TSlot×(TSlot×Unit))→Option Int)):sl_swpR (n+1) data a b n_ cmp =
 obind (sl_swpR_l1 n loopFuel (data,(a,(b,(n_,((0:Int),())))))) fun r0 =>
 selim (fun y1 =>
 some y1.1) (fun z2 =>
 some z2) r0:=by kernel_rfl
theorem sl_swpR_l1_eq (n f:Nat) (data:(List TSlot)) (a:Int) (b:Int) (n_:Int) (i:Int):sl_swpR_l1 n (f+1) (data,a,b,n_,i,()) =
 tif ((decide (i<n_))) (
 obind (at? data (IntKind.wrap .i64 (b+i))) fun r0 =>
 obind ((data)[(Int.toNat (IntKind.wrap .i64 (b+i)))]?) fun r1 =>
 obind (at? data (IntKind.wrap .i64 (a+i))) fun r2 =>
 obind ((data)[(Int.toNat (IntKind.wrap .i64 (a+i)))]?) fun r3 =>
 obind (at? data (IntKind.wrap .i64 (a+i))) fun r4 =>
 obind ((data)[(Int.toNat (IntKind.wrap .i64 (a+i)))]?) fun r5 =>
 obind (at? (List.set data (Int.toNat (IntKind.wrap .i64 (a+i))) r1) (IntKind.wrap .i64 (b+i))) fun r6 =>
 obind (((List.set data (Int.toNat (IntKind.wrap .i64 (a+i))) r1))[(Int.toNat (IntKind.wrap .i64 (b+i)))]?) fun r7 =>
 sl_swpR_l1 n f ((List.set (List.set data (Int.toNat (IntKind.wrap .i64 (a+i))) r1) (Int.toNat (IntKind.wrap .i64 (b+i))) r3),(a,(b,(n_,((IntKind.wrap .i64 (i+1)),())))))) (
 some (.inl (data,()))):=by kernel_rfl
end Go.Proofs.YtjeabebacegikaaGreatDoor
