/-
  What each function comes to by one step of the flat reading. Printed by program; the kernel looks at each.
-/
import Derived.Test.YtjeabebacegikaaGreatTr0
import Derived.KernelRfl
set_option linter.unusedVariables false
namespace Go.Proofs.YtjeabebacegikaaGreat
open Go.Flat
theorem slices_rotateCmpFunc_Slot_eq (n : Nat) (data : (List TSlot)) (a : Int) (m : Int) (b : Int) (cmp : ((TSlot × (TSlot × Unit)) → Option Int)) : slices_rotateCmpFunc_Slot (n + 1) data a m b cmp =
  obind (slices_rotateCmpFunc_Slot_l2 n loopFuel (data, (m, (cmp, ((IntKind.wrap .i64 (m - a)), ((IntKind.wrap .i64 (b - m)), ())))))) fun r0 =>
  selim (fun y1 =>
  obind (slices_swapRangeCmpFunc_Slot n y1.1 (IntKind.wrap .i64 (y1.2.1 - y1.2.2.2.1)) y1.2.1 y1.2.2.2.1 y1.2.2.1) fun r2 =>
  some r2) (fun z3 =>
  some z3) r0 := by kernel_rfl
theorem slices_rotateCmpFunc_Slot_l2_eq (n f : Nat) (data : (List TSlot)) (m : Int) (cmp : ((TSlot × (TSlot × Unit)) → Option Int)) (i : Int) (j : Int) : slices_rotateCmpFunc_Slot_l2 n (f + 1) (data, m, cmp, i, j, ()) =
  tif ((!(decide (i = j)))) (
  tif ((decide (j < i))) (
  obind (slices_swapRangeCmpFunc_Slot n data (IntKind.wrap .i64 (m - i)) m j cmp) fun r0 =>
  slices_rotateCmpFunc_Slot_l2 n f (r0, (m, (cmp, ((IntKind.wrap .i64 (i - j)), (j, ())))))) (
  obind (slices_swapRangeCmpFunc_Slot n data (IntKind.wrap .i64 (m - i)) (IntKind.wrap .i64 ((IntKind.wrap .i64 (m + j)) - i)) i cmp) fun r1 =>
  slices_rotateCmpFunc_Slot_l2 n f (r1, (m, (cmp, (i, ((IntKind.wrap .i64 (j - i)), ()))))))) (
  some (.inl (data, (m, (cmp, (i, ())))))) := by kernel_rfl
theorem slices_swapRangeCmpFunc_Slot_eq (n : Nat) (data : (List TSlot)) (a : Int) (b : Int) (n_ : Int) (cmp : ((TSlot × (TSlot × Unit)) → Option Int)) : slices_swapRangeCmpFunc_Slot (n + 1) data a b n_ cmp =
  obind (slices_swapRangeCmpFunc_Slot_l1 n loopFuel (data, (a, (b, (n_, ((0 : Int), ())))))) fun r0 =>
  selim (fun y1 =>
  some y1.1) (fun z2 =>
  some z2) r0 := by kernel_rfl
theorem slices_swapRangeCmpFunc_Slot_l1_eq (n f : Nat) (data : (List TSlot)) (a : Int) (b : Int) (n_ : Int) (i : Int) : slices_swapRangeCmpFunc_Slot_l1 n (f + 1) (data, a, b, n_, i, ()) =
  tif ((decide (i < n_))) (
  obind (at? data (IntKind.wrap .i64 (b + i))) fun r0 =>
  obind ((data)[(Int.toNat (IntKind.wrap .i64 (b + i)))]?) fun r1 =>
  obind (at? data (IntKind.wrap .i64 (a + i))) fun r2 =>
  obind ((data)[(Int.toNat (IntKind.wrap .i64 (a + i)))]?) fun r3 =>
  obind (at? data (IntKind.wrap .i64 (a + i))) fun r4 =>
  obind ((data)[(Int.toNat (IntKind.wrap .i64 (a + i)))]?) fun r5 =>
  obind (at? (List.set data (Int.toNat (IntKind.wrap .i64 (a + i))) r1) (IntKind.wrap .i64 (b + i))) fun r6 =>
  obind (((List.set data (Int.toNat (IntKind.wrap .i64 (a + i))) r1))[(Int.toNat (IntKind.wrap .i64 (b + i)))]?) fun r7 =>
  slices_swapRangeCmpFunc_Slot_l1 n f ((List.set (List.set data (Int.toNat (IntKind.wrap .i64 (a + i))) r1) (Int.toNat (IntKind.wrap .i64 (b + i))) r3), (a, (b, (n_, ((IntKind.wrap .i64 (i + (1 : Int))), ())))))) (
  some (.inl (data, ()))) := by kernel_rfl
end Go.Proofs.YtjeabebacegikaaGreat
