/-
  What each function comes to by one step of the flat reading. Printed by program; the kernel looks at each.
-/
import Derived.Test.YthjnbidgliejkaaGreatTr0
import Derived.KernelRfl
set_option linter.unusedVariables false
namespace Go.Proofs.YthjnbidgliejkaaGreat
open Go.Flat
theorem wide_sure_eq (n : Nat) (a : (Int × Int)) (over : Int) : wide_sure (n + 1) a over =
  tif ((!(decide (over = (0 : Int))))) (
  some (((0 : Int), (0 : Int)), (1 : Int))) (
  some (a, (0 : Int))) := by kernel_rfl
theorem event_anew_eq (n : Nat) (c : TEvent) (seen : Int) : event_anew (n + 1) c seen =
  obind (wide_Of n c.2.1) fun r0 =>
  some ((0 : Int), (((0 : Int), ((0 : Int), ((0 : Int), false))), (((0 : Int), ((0 : Int), ((0 : Int), false))), (r0, ((1 : Int), ((0 : Int), seen)))))) := by kernel_rfl
theorem wide_Add_eq (n : Nat) (a : (Int × Int)) (b : (Int × Int)) : wide_Add (n + 1) a b =
  tif (((decide ((0 : Int) ≤ a.2)) && ((decide ((0 : Int) ≤ b.2)) && true))) (
  tif (((decide ((0 : Int) ≤ a.1)) && ((decide ((0 : Int) ≤ b.1)) && ((decide ((0 : Int) ≤ (((a.2 + b.2) + (0 : Int)) / (18446744073709551616 : Int)))) && (decide ((((a.2 + b.2) + (0 : Int)) / (18446744073709551616 : Int)) ≤ (1 : Int))))))) (
  obind (wide_sure n ((((a.1 + b.1) + (((a.2 + b.2) + (0 : Int)) / (18446744073709551616 : Int))) % (18446744073709551616 : Int)), (((a.2 + b.2) + (0 : Int)) % (18446744073709551616 : Int))) (((a.1 + b.1) + (((a.2 + b.2) + (0 : Int)) / (18446744073709551616 : Int))) / (18446744073709551616 : Int))) fun r0 =>
  some r0) (
  none)) (
  none) := by kernel_rfl
theorem r13_Get_eq (n : Nat) (l : (List TSlot)) (i : Int) : r13_Get (n + 1) l i =
  tif ((decide (i < (0 : Int)))) (
  some ((0 : Int), (((0 : Int), ((0 : Int), ((0 : Int), false))), (((0 : Int), ((0 : Int), ((0 : Int), false))), (((0 : Int), (0 : Int)), ((0 : Int), ((0 : Int), (0 : Int)))))))) (
  tif ((decide ((((List.length l) : Nat) : Int) = (0 : Int)))) (
  some ((0 : Int), (((0 : Int), ((0 : Int), ((0 : Int), false))), (((0 : Int), ((0 : Int), ((0 : Int), false))), (((0 : Int), (0 : Int)), ((0 : Int), ((0 : Int), (0 : Int)))))))) (
  obind (r09_Slot n i (((List.length l) : Nat) : Int)) fun r0 =>
  obind (at? l r0) fun r1 =>
  tif ((!(decide (r1.1 = i)))) (
  some ((0 : Int), (((0 : Int), ((0 : Int), ((0 : Int), false))), (((0 : Int), ((0 : Int), ((0 : Int), false))), (((0 : Int), (0 : Int)), ((0 : Int), ((0 : Int), (0 : Int)))))))) (
  some r1.2))) := by kernel_rfl
theorem r08_All_eq (n : Nat) (l : (List TCell)) : r08_All (n + 1) l =
  obind (r08_All_l3 n loopFuel (((0 : Int), (((0 : Int), ((0 : Int), ((0 : Int), false))), (((0 : Int), ((0 : Int), ((0 : Int), false))), (((0 : Int), (0 : Int)), ((0 : Int), ((0 : Int), (0 : Int))))))), (((0 : Int), (((0 : Int), ((0 : Int), ((0 : Int), false))), (((0 : Int), ((0 : Int), ((0 : Int), false))), (((0 : Int), (0 : Int)), ((0 : Int), ((0 : Int), (0 : Int))))))), (l, ((((List.length l) : Nat) : Int), ((0 : Int), ())))))) fun r0 =>
  selim (fun y1 =>
  some (y1.2.1, (0 : Int))) (fun z2 =>
  some z2) r0 := by kernel_rfl
theorem r08_All_l3_eq (n f : Nat) (s2 : TCell) (c : TCell) (s9 : (List TCell)) (s10 : Int) (s11 : Int) : r08_All_l3 n (f + 1) (s2, c, s9, s10, s11, ()) =
  tif ((decide (s11 < s10))) (
  obind (at? s9 s11) fun r0 =>
  obind (r08_Merge n c r0) fun r1 =>
  tif ((!(decide (r1.2 = (0 : Int))))) (
  some (.inr (((0 : Int), (((0 : Int), ((0 : Int), ((0 : Int), false))), (((0 : Int), ((0 : Int), ((0 : Int), false))), (((0 : Int), (0 : Int)), ((0 : Int), ((0 : Int), (0 : Int))))))), r1.2))) (
  r08_All_l3 n f (s2, (r1.1, (s9, (s10, ((IntKind.wrap .i64 (s11 + (1 : Int))), ()))))))) (
  some (.inl (s2, (c, ())))) := by kernel_rfl
theorem slices_insertionSortCmpFunc_Slot_eq (n : Nat) (data : (List TSlot)) (a : Int) (b : Int) (cmp : ((TSlot × (TSlot × Unit)) → Option Int)) : slices_insertionSortCmpFunc_Slot (n + 1) data a b cmp =
  obind (slices_insertionSortCmpFunc_Slot_l1 n loopFuel (data, (a, (b, (cmp, ((IntKind.wrap .i64 (a + (1 : Int))), ())))))) fun r0 =>
  selim (fun y1 =>
  some y1.1) (fun z2 =>
  some z2) r0 := by kernel_rfl
theorem slices_insertionSortCmpFunc_Slot_l1_eq (n f : Nat) (data : (List TSlot)) (a : Int) (b : Int) (cmp : ((TSlot × (TSlot × Unit)) → Option Int)) (i : Int) : slices_insertionSortCmpFunc_Slot_l1 n (f + 1) (data, a, b, cmp, i, ()) =
  tif ((decide (i < b))) (
  obind (slices_insertionSortCmpFunc_Slot_l4 n loopFuel (data, (a, (b, (cmp, (i, (i, ()))))))) fun r0 =>
  selim (fun y1 =>
  slices_insertionSortCmpFunc_Slot_l1 n f (y1.1, (y1.2.1, (y1.2.2.1, (y1.2.2.2.1, ((IntKind.wrap .i64 (y1.2.2.2.2.1 + (1 : Int))), ())))))) (fun z2 =>
  some (.inr z2)) r0) (
  some (.inl (data, ()))) := by kernel_rfl
theorem slices_insertionSortCmpFunc_Slot_l4_eq (n f : Nat) (data : (List TSlot)) (a : Int) (b : Int) (cmp : ((TSlot × (TSlot × Unit)) → Option Int)) (i : Int) (j : Int) : slices_insertionSortCmpFunc_Slot_l4 n (f + 1) (data, a, b, cmp, i, j, ()) =
  tif ((decide (a < j))) (
  obind (at? data j) fun r0 =>
  obind ((data)[(Int.toNat j)]?) fun r1 =>
  obind (at? data (IntKind.wrap .i64 (j - (1 : Int)))) fun r2 =>
  obind ((data)[(Int.toNat (IntKind.wrap .i64 (j - (1 : Int))))]?) fun r3 =>
  obind (cmp (r1, (r3, ()))) fun r4 =>
  tif ((decide (r4 < (0 : Int)))) (
  obind (at? data (IntKind.wrap .i64 (j - (1 : Int)))) fun r5 =>
  obind ((data)[(Int.toNat (IntKind.wrap .i64 (j - (1 : Int))))]?) fun r6 =>
  obind (at? data j) fun r7 =>
  obind ((data)[(Int.toNat j)]?) fun r8 =>
  obind (at? data j) fun r9 =>
  obind ((data)[(Int.toNat j)]?) fun r10 =>
  obind (at? (List.set data (Int.toNat j) r6) (IntKind.wrap .i64 (j - (1 : Int)))) fun r11 =>
  obind (((List.set data (Int.toNat j) r6))[(Int.toNat (IntKind.wrap .i64 (j - (1 : Int))))]?) fun r12 =>
  slices_insertionSortCmpFunc_Slot_l4 n f ((List.set (List.set data (Int.toNat j) r6) (Int.toNat (IntKind.wrap .i64 (j - (1 : Int)))) r8), (a, (b, (cmp, (i, ((IntKind.wrap .i64 (j - (1 : Int))), ()))))))) (
  some (.inl (data, (a, (b, (cmp, (i, ())))))))) (
  some (.inl (data, (a, (b, (cmp, (i, ()))))))) := by kernel_rfl
theorem slices_symMergeCmpFunc_Slot_eq (n : Nat) (data : (List TSlot)) (a : Int) (m : Int) (b : Int) (cmp : ((TSlot × (TSlot × Unit)) → Option Int)) : slices_symMergeCmpFunc_Slot (n + 1) data a m b cmp =
  tif ((decide ((IntKind.wrap .i64 (m - a)) = (1 : Int)))) (
  obind (slices_symMergeCmpFunc_Slot_l3 n loopFuel (data, (a, (cmp, (m, (b, ())))))) fun r0 =>
  selim (fun y1 =>
  obind (slices_symMergeCmpFunc_Slot_l9 n loopFuel (y1.1, (y1.2.2.1, (y1.2.1, ())))) fun r2 =>
  selim (fun y3 =>
  some y3.1) (fun z4 =>
  some z4) r2) (fun z5 =>
  some z5) r0) (
  tif ((decide ((IntKind.wrap .i64 (b - m)) = (1 : Int)))) (
  obind (slices_symMergeCmpFunc_Slot_l15 n loopFuel (data, (m, (cmp, (a, (m, ())))))) fun r6 =>
  selim (fun y7 =>
  obind (slices_symMergeCmpFunc_Slot_l21 n loopFuel (y7.1, (y7.2.2.1, (y7.2.1, ())))) fun r8 =>
  selim (fun y9 =>
  some y9.1) (fun z10 =>
  some z10) r8) (fun z11 =>
  some z11) r6) (
  tif ((decide ((IntKind.wrap .i64 (shrI .u64 (IntKind.wrap .u64 (IntKind.wrap .i64 (a + b))) (1 : Int))) < m))) (
  obind (slices_symMergeCmpFunc_Slot_l33 n loopFuel (data, (a, (m, (b, (cmp, ((IntKind.wrap .i64 (shrI .u64 (IntKind.wrap .u64 (IntKind.wrap .i64 (a + b))) (1 : Int))), ((IntKind.wrap .i64 ((IntKind.wrap .i64 (shrI .u64 (IntKind.wrap .u64 (IntKind.wrap .i64 (a + b))) (1 : Int))) + m)), ((IntKind.wrap .i64 ((IntKind.wrap .i64 ((IntKind.wrap .i64 (shrI .u64 (IntKind.wrap .u64 (IntKind.wrap .i64 (a + b))) (1 : Int))) + m)) - b)), ((IntKind.wrap .i64 (shrI .u64 (IntKind.wrap .u64 (IntKind.wrap .i64 (a + b))) (1 : Int))), ((IntKind.wrap .i64 ((IntKind.wrap .i64 ((IntKind.wrap .i64 (shrI .u64 (IntKind.wrap .u64 (IntKind.wrap .i64 (a + b))) (1 : Int))) + m)) - (1 : Int))), ()))))))))))) fun r12 =>
  selim (fun y13 =>
  tif ((decide (y13.2.2.2.2.2.2.2.1 < y13.2.2.1))) (
  tif ((decide (y13.2.2.1 < (IntKind.wrap .i64 (y13.2.2.2.2.2.2.1 - y13.2.2.2.2.2.2.2.1))))) (
  obind (slices_rotateCmpFunc_Slot n y13.1 y13.2.2.2.2.2.2.2.1 y13.2.2.1 (IntKind.wrap .i64 (y13.2.2.2.2.2.2.1 - y13.2.2.2.2.2.2.2.1)) y13.2.2.2.2.1) fun r14 =>
  tif ((decide (y13.2.1 < y13.2.2.2.2.2.2.2.1))) (
  tif ((decide (y13.2.2.2.2.2.2.2.1 < y13.2.2.2.2.2.1))) (
  obind (slices_symMergeCmpFunc_Slot n r14 y13.2.1 y13.2.2.2.2.2.2.2.1 y13.2.2.2.2.2.1 y13.2.2.2.2.1) fun r15 =>
  tif ((decide (y13.2.2.2.2.2.1 < (IntKind.wrap .i64 (y13.2.2.2.2.2.2.1 - y13.2.2.2.2.2.2.2.1))))) (
  tif ((decide ((IntKind.wrap .i64 (y13.2.2.2.2.2.2.1 - y13.2.2.2.2.2.2.2.1)) < y13.2.2.2.1))) (
  obind (slices_symMergeCmpFunc_Slot n r15 y13.2.2.2.2.2.1 (IntKind.wrap .i64 (y13.2.2.2.2.2.2.1 - y13.2.2.2.2.2.2.2.1)) y13.2.2.2.1 y13.2.2.2.2.1) fun r16 =>
  some r16) (
  some r15)) (
  some r15)) (
  tif ((decide (y13.2.2.2.2.2.1 < (IntKind.wrap .i64 (y13.2.2.2.2.2.2.1 - y13.2.2.2.2.2.2.2.1))))) (
  tif ((decide ((IntKind.wrap .i64 (y13.2.2.2.2.2.2.1 - y13.2.2.2.2.2.2.2.1)) < y13.2.2.2.1))) (
  obind (slices_symMergeCmpFunc_Slot n r14 y13.2.2.2.2.2.1 (IntKind.wrap .i64 (y13.2.2.2.2.2.2.1 - y13.2.2.2.2.2.2.2.1)) y13.2.2.2.1 y13.2.2.2.2.1) fun r17 =>
  some r17) (
  some r14)) (
  some r14))) (
  tif ((decide (y13.2.2.2.2.2.1 < (IntKind.wrap .i64 (y13.2.2.2.2.2.2.1 - y13.2.2.2.2.2.2.2.1))))) (
  tif ((decide ((IntKind.wrap .i64 (y13.2.2.2.2.2.2.1 - y13.2.2.2.2.2.2.2.1)) < y13.2.2.2.1))) (
  obind (slices_symMergeCmpFunc_Slot n r14 y13.2.2.2.2.2.1 (IntKind.wrap .i64 (y13.2.2.2.2.2.2.1 - y13.2.2.2.2.2.2.2.1)) y13.2.2.2.1 y13.2.2.2.2.1) fun r18 =>
  some r18) (
  some r14)) (
  some r14))) (
  tif ((decide (y13.2.1 < y13.2.2.2.2.2.2.2.1))) (
  tif ((decide (y13.2.2.2.2.2.2.2.1 < y13.2.2.2.2.2.1))) (
  obind (slices_symMergeCmpFunc_Slot n y13.1 y13.2.1 y13.2.2.2.2.2.2.2.1 y13.2.2.2.2.2.1 y13.2.2.2.2.1) fun r19 =>
  tif ((decide (y13.2.2.2.2.2.1 < (IntKind.wrap .i64 (y13.2.2.2.2.2.2.1 - y13.2.2.2.2.2.2.2.1))))) (
  tif ((decide ((IntKind.wrap .i64 (y13.2.2.2.2.2.2.1 - y13.2.2.2.2.2.2.2.1)) < y13.2.2.2.1))) (
  obind (slices_symMergeCmpFunc_Slot n r19 y13.2.2.2.2.2.1 (IntKind.wrap .i64 (y13.2.2.2.2.2.2.1 - y13.2.2.2.2.2.2.2.1)) y13.2.2.2.1 y13.2.2.2.2.1) fun r20 =>
  some r20) (
  some r19)) (
  some r19)) (
  tif ((decide (y13.2.2.2.2.2.1 < (IntKind.wrap .i64 (y13.2.2.2.2.2.2.1 - y13.2.2.2.2.2.2.2.1))))) (
  tif ((decide ((IntKind.wrap .i64 (y13.2.2.2.2.2.2.1 - y13.2.2.2.2.2.2.2.1)) < y13.2.2.2.1))) (
  obind (slices_symMergeCmpFunc_Slot n y13.1 y13.2.2.2.2.2.1 (IntKind.wrap .i64 (y13.2.2.2.2.2.2.1 - y13.2.2.2.2.2.2.2.1)) y13.2.2.2.1 y13.2.2.2.2.1) fun r21 =>
  some r21) (
  some y13.1)) (
  some y13.1))) (
  tif ((decide (y13.2.2.2.2.2.1 < (IntKind.wrap .i64 (y13.2.2.2.2.2.2.1 - y13.2.2.2.2.2.2.2.1))))) (
  tif ((decide ((IntKind.wrap .i64 (y13.2.2.2.2.2.2.1 - y13.2.2.2.2.2.2.2.1)) < y13.2.2.2.1))) (
  obind (slices_symMergeCmpFunc_Slot n y13.1 y13.2.2.2.2.2.1 (IntKind.wrap .i64 (y13.2.2.2.2.2.2.1 - y13.2.2.2.2.2.2.2.1)) y13.2.2.2.1 y13.2.2.2.2.1) fun r22 =>
  some r22) (
  some y13.1)) (
  some y13.1)))) (
  tif ((decide (y13.2.1 < y13.2.2.2.2.2.2.2.1))) (
  tif ((decide (y13.2.2.2.2.2.2.2.1 < y13.2.2.2.2.2.1))) (
  obind (slices_symMergeCmpFunc_Slot n y13.1 y13.2.1 y13.2.2.2.2.2.2.2.1 y13.2.2.2.2.2.1 y13.2.2.2.2.1) fun r23 =>
  tif ((decide (y13.2.2.2.2.2.1 < (IntKind.wrap .i64 (y13.2.2.2.2.2.2.1 - y13.2.2.2.2.2.2.2.1))))) (
  tif ((decide ((IntKind.wrap .i64 (y13.2.2.2.2.2.2.1 - y13.2.2.2.2.2.2.2.1)) < y13.2.2.2.1))) (
  obind (slices_symMergeCmpFunc_Slot n r23 y13.2.2.2.2.2.1 (IntKind.wrap .i64 (y13.2.2.2.2.2.2.1 - y13.2.2.2.2.2.2.2.1)) y13.2.2.2.1 y13.2.2.2.2.1) fun r24 =>
  some r24) (
  some r23)) (
  some r23)) (
  tif ((decide (y13.2.2.2.2.2.1 < (IntKind.wrap .i64 (y13.2.2.2.2.2.2.1 - y13.2.2.2.2.2.2.2.1))))) (
  tif ((decide ((IntKind.wrap .i64 (y13.2.2.2.2.2.2.1 - y13.2.2.2.2.2.2.2.1)) < y13.2.2.2.1))) (
  obind (slices_symMergeCmpFunc_Slot n y13.1 y13.2.2.2.2.2.1 (IntKind.wrap .i64 (y13.2.2.2.2.2.2.1 - y13.2.2.2.2.2.2.2.1)) y13.2.2.2.1 y13.2.2.2.2.1) fun r25 =>
  some r25) (
  some y13.1)) (
  some y13.1))) (
  tif ((decide (y13.2.2.2.2.2.1 < (IntKind.wrap .i64 (y13.2.2.2.2.2.2.1 - y13.2.2.2.2.2.2.2.1))))) (
  tif ((decide ((IntKind.wrap .i64 (y13.2.2.2.2.2.2.1 - y13.2.2.2.2.2.2.2.1)) < y13.2.2.2.1))) (
  obind (slices_symMergeCmpFunc_Slot n y13.1 y13.2.2.2.2.2.1 (IntKind.wrap .i64 (y13.2.2.2.2.2.2.1 - y13.2.2.2.2.2.2.2.1)) y13.2.2.2.1 y13.2.2.2.2.1) fun r26 =>
  some r26) (
  some y13.1)) (
  some y13.1)))) (fun z27 =>
  some z27) r12) (
  obind (slices_symMergeCmpFunc_Slot_l33 n loopFuel (data, (a, (m, (b, (cmp, ((IntKind.wrap .i64 (shrI .u64 (IntKind.wrap .u64 (IntKind.wrap .i64 (a + b))) (1 : Int))), ((IntKind.wrap .i64 ((IntKind.wrap .i64 (shrI .u64 (IntKind.wrap .u64 (IntKind.wrap .i64 (a + b))) (1 : Int))) + m)), (a, (m, ((IntKind.wrap .i64 ((IntKind.wrap .i64 ((IntKind.wrap .i64 (shrI .u64 (IntKind.wrap .u64 (IntKind.wrap .i64 (a + b))) (1 : Int))) + m)) - (1 : Int))), ()))))))))))) fun r28 =>
  selim (fun y29 =>
  tif ((decide (y29.2.2.2.2.2.2.2.1 < y29.2.2.1))) (
  tif ((decide (y29.2.2.1 < (IntKind.wrap .i64 (y29.2.2.2.2.2.2.1 - y29.2.2.2.2.2.2.2.1))))) (
  obind (slices_rotateCmpFunc_Slot n y29.1 y29.2.2.2.2.2.2.2.1 y29.2.2.1 (IntKind.wrap .i64 (y29.2.2.2.2.2.2.1 - y29.2.2.2.2.2.2.2.1)) y29.2.2.2.2.1) fun r30 =>
  tif ((decide (y29.2.1 < y29.2.2.2.2.2.2.2.1))) (
  tif ((decide (y29.2.2.2.2.2.2.2.1 < y29.2.2.2.2.2.1))) (
  obind (slices_symMergeCmpFunc_Slot n r30 y29.2.1 y29.2.2.2.2.2.2.2.1 y29.2.2.2.2.2.1 y29.2.2.2.2.1) fun r31 =>
  tif ((decide (y29.2.2.2.2.2.1 < (IntKind.wrap .i64 (y29.2.2.2.2.2.2.1 - y29.2.2.2.2.2.2.2.1))))) (
  tif ((decide ((IntKind.wrap .i64 (y29.2.2.2.2.2.2.1 - y29.2.2.2.2.2.2.2.1)) < y29.2.2.2.1))) (
  obind (slices_symMergeCmpFunc_Slot n r31 y29.2.2.2.2.2.1 (IntKind.wrap .i64 (y29.2.2.2.2.2.2.1 - y29.2.2.2.2.2.2.2.1)) y29.2.2.2.1 y29.2.2.2.2.1) fun r32 =>
  some r32) (
  some r31)) (
  some r31)) (
  tif ((decide (y29.2.2.2.2.2.1 < (IntKind.wrap .i64 (y29.2.2.2.2.2.2.1 - y29.2.2.2.2.2.2.2.1))))) (
  tif ((decide ((IntKind.wrap .i64 (y29.2.2.2.2.2.2.1 - y29.2.2.2.2.2.2.2.1)) < y29.2.2.2.1))) (
  obind (slices_symMergeCmpFunc_Slot n r30 y29.2.2.2.2.2.1 (IntKind.wrap .i64 (y29.2.2.2.2.2.2.1 - y29.2.2.2.2.2.2.2.1)) y29.2.2.2.1 y29.2.2.2.2.1) fun r33 =>
  some r33) (
  some r30)) (
  some r30))) (
  tif ((decide (y29.2.2.2.2.2.1 < (IntKind.wrap .i64 (y29.2.2.2.2.2.2.1 - y29.2.2.2.2.2.2.2.1))))) (
  tif ((decide ((IntKind.wrap .i64 (y29.2.2.2.2.2.2.1 - y29.2.2.2.2.2.2.2.1)) < y29.2.2.2.1))) (
  obind (slices_symMergeCmpFunc_Slot n r30 y29.2.2.2.2.2.1 (IntKind.wrap .i64 (y29.2.2.2.2.2.2.1 - y29.2.2.2.2.2.2.2.1)) y29.2.2.2.1 y29.2.2.2.2.1) fun r34 =>
  some r34) (
  some r30)) (
  some r30))) (
  tif ((decide (y29.2.1 < y29.2.2.2.2.2.2.2.1))) (
  tif ((decide (y29.2.2.2.2.2.2.2.1 < y29.2.2.2.2.2.1))) (
  obind (slices_symMergeCmpFunc_Slot n y29.1 y29.2.1 y29.2.2.2.2.2.2.2.1 y29.2.2.2.2.2.1 y29.2.2.2.2.1) fun r35 =>
  tif ((decide (y29.2.2.2.2.2.1 < (IntKind.wrap .i64 (y29.2.2.2.2.2.2.1 - y29.2.2.2.2.2.2.2.1))))) (
  tif ((decide ((IntKind.wrap .i64 (y29.2.2.2.2.2.2.1 - y29.2.2.2.2.2.2.2.1)) < y29.2.2.2.1))) (
  obind (slices_symMergeCmpFunc_Slot n r35 y29.2.2.2.2.2.1 (IntKind.wrap .i64 (y29.2.2.2.2.2.2.1 - y29.2.2.2.2.2.2.2.1)) y29.2.2.2.1 y29.2.2.2.2.1) fun r36 =>
  some r36) (
  some r35)) (
  some r35)) (
  tif ((decide (y29.2.2.2.2.2.1 < (IntKind.wrap .i64 (y29.2.2.2.2.2.2.1 - y29.2.2.2.2.2.2.2.1))))) (
  tif ((decide ((IntKind.wrap .i64 (y29.2.2.2.2.2.2.1 - y29.2.2.2.2.2.2.2.1)) < y29.2.2.2.1))) (
  obind (slices_symMergeCmpFunc_Slot n y29.1 y29.2.2.2.2.2.1 (IntKind.wrap .i64 (y29.2.2.2.2.2.2.1 - y29.2.2.2.2.2.2.2.1)) y29.2.2.2.1 y29.2.2.2.2.1) fun r37 =>
  some r37) (
  some y29.1)) (
  some y29.1))) (
  tif ((decide (y29.2.2.2.2.2.1 < (IntKind.wrap .i64 (y29.2.2.2.2.2.2.1 - y29.2.2.2.2.2.2.2.1))))) (
  tif ((decide ((IntKind.wrap .i64 (y29.2.2.2.2.2.2.1 - y29.2.2.2.2.2.2.2.1)) < y29.2.2.2.1))) (
  obind (slices_symMergeCmpFunc_Slot n y29.1 y29.2.2.2.2.2.1 (IntKind.wrap .i64 (y29.2.2.2.2.2.2.1 - y29.2.2.2.2.2.2.2.1)) y29.2.2.2.1 y29.2.2.2.2.1) fun r38 =>
  some r38) (
  some y29.1)) (
  some y29.1)))) (
  tif ((decide (y29.2.1 < y29.2.2.2.2.2.2.2.1))) (
  tif ((decide (y29.2.2.2.2.2.2.2.1 < y29.2.2.2.2.2.1))) (
  obind (slices_symMergeCmpFunc_Slot n y29.1 y29.2.1 y29.2.2.2.2.2.2.2.1 y29.2.2.2.2.2.1 y29.2.2.2.2.1) fun r39 =>
  tif ((decide (y29.2.2.2.2.2.1 < (IntKind.wrap .i64 (y29.2.2.2.2.2.2.1 - y29.2.2.2.2.2.2.2.1))))) (
  tif ((decide ((IntKind.wrap .i64 (y29.2.2.2.2.2.2.1 - y29.2.2.2.2.2.2.2.1)) < y29.2.2.2.1))) (
  obind (slices_symMergeCmpFunc_Slot n r39 y29.2.2.2.2.2.1 (IntKind.wrap .i64 (y29.2.2.2.2.2.2.1 - y29.2.2.2.2.2.2.2.1)) y29.2.2.2.1 y29.2.2.2.2.1) fun r40 =>
  some r40) (
  some r39)) (
  some r39)) (
  tif ((decide (y29.2.2.2.2.2.1 < (IntKind.wrap .i64 (y29.2.2.2.2.2.2.1 - y29.2.2.2.2.2.2.2.1))))) (
  tif ((decide ((IntKind.wrap .i64 (y29.2.2.2.2.2.2.1 - y29.2.2.2.2.2.2.2.1)) < y29.2.2.2.1))) (
  obind (slices_symMergeCmpFunc_Slot n y29.1 y29.2.2.2.2.2.1 (IntKind.wrap .i64 (y29.2.2.2.2.2.2.1 - y29.2.2.2.2.2.2.2.1)) y29.2.2.2.1 y29.2.2.2.2.1) fun r41 =>
  some r41) (
  some y29.1)) (
  some y29.1))) (
  tif ((decide (y29.2.2.2.2.2.1 < (IntKind.wrap .i64 (y29.2.2.2.2.2.2.1 - y29.2.2.2.2.2.2.2.1))))) (
  tif ((decide ((IntKind.wrap .i64 (y29.2.2.2.2.2.2.1 - y29.2.2.2.2.2.2.2.1)) < y29.2.2.2.1))) (
  obind (slices_symMergeCmpFunc_Slot n y29.1 y29.2.2.2.2.2.1 (IntKind.wrap .i64 (y29.2.2.2.2.2.2.1 - y29.2.2.2.2.2.2.2.1)) y29.2.2.2.1 y29.2.2.2.2.1) fun r42 =>
  some r42) (
  some y29.1)) (
  some y29.1)))) (fun z43 =>
  some z43) r28))) := by kernel_rfl
theorem slices_symMergeCmpFunc_Slot_l3_eq (n f : Nat) (data : (List TSlot)) (a : Int) (cmp : ((TSlot × (TSlot × Unit)) → Option Int)) (i : Int) (j : Int) : slices_symMergeCmpFunc_Slot_l3 n (f + 1) (data, a, cmp, i, j, ()) =
  tif ((decide (i < j))) (
  obind (at? data (IntKind.wrap .i64 (shrI .u64 (IntKind.wrap .u64 (IntKind.wrap .i64 (i + j))) (1 : Int)))) fun r0 =>
  obind ((data)[(Int.toNat (IntKind.wrap .i64 (shrI .u64 (IntKind.wrap .u64 (IntKind.wrap .i64 (i + j))) (1 : Int))))]?) fun r1 =>
  obind (at? data a) fun r2 =>
  obind ((data)[(Int.toNat a)]?) fun r3 =>
  obind (cmp (r1, (r3, ()))) fun r4 =>
  tif ((decide (r4 < (0 : Int)))) (
  slices_symMergeCmpFunc_Slot_l3 n f (data, (a, (cmp, ((IntKind.wrap .i64 ((IntKind.wrap .i64 (shrI .u64 (IntKind.wrap .u64 (IntKind.wrap .i64 (i + j))) (1 : Int))) + (1 : Int))), (j, ())))))) (
  slices_symMergeCmpFunc_Slot_l3 n f (data, (a, (cmp, (i, ((IntKind.wrap .i64 (shrI .u64 (IntKind.wrap .u64 (IntKind.wrap .i64 (i + j))) (1 : Int))), ()))))))) (
  some (.inl (data, (a, (i, ()))))) := by kernel_rfl
theorem slices_symMergeCmpFunc_Slot_l9_eq (n f : Nat) (data : (List TSlot)) (i : Int) (k : Int) : slices_symMergeCmpFunc_Slot_l9 n (f + 1) (data, i, k, ()) =
  tif ((decide (k < (IntKind.wrap .i64 (i - (1 : Int)))))) (
  obind (at? data (IntKind.wrap .i64 (k + (1 : Int)))) fun r0 =>
  obind ((data)[(Int.toNat (IntKind.wrap .i64 (k + (1 : Int))))]?) fun r1 =>
  obind (at? data k) fun r2 =>
  obind ((data)[(Int.toNat k)]?) fun r3 =>
  obind (at? data k) fun r4 =>
  obind ((data)[(Int.toNat k)]?) fun r5 =>
  obind (at? (List.set data (Int.toNat k) r1) (IntKind.wrap .i64 (k + (1 : Int)))) fun r6 =>
  obind (((List.set data (Int.toNat k) r1))[(Int.toNat (IntKind.wrap .i64 (k + (1 : Int))))]?) fun r7 =>
  slices_symMergeCmpFunc_Slot_l9 n f ((List.set (List.set data (Int.toNat k) r1) (Int.toNat (IntKind.wrap .i64 (k + (1 : Int)))) r3), (i, ((IntKind.wrap .i64 (k + (1 : Int))), ())))) (
  some (.inl (data, ()))) := by kernel_rfl
theorem slices_symMergeCmpFunc_Slot_l15_eq (n f : Nat) (data : (List TSlot)) (m : Int) (cmp : ((TSlot × (TSlot × Unit)) → Option Int)) (i_ : Int) (j_ : Int) : slices_symMergeCmpFunc_Slot_l15 n (f + 1) (data, m, cmp, i_, j_, ()) =
  tif ((decide (i_ < j_))) (
  obind (at? data m) fun r0 =>
  obind ((data)[(Int.toNat m)]?) fun r1 =>
  obind (at? data (IntKind.wrap .i64 (shrI .u64 (IntKind.wrap .u64 (IntKind.wrap .i64 (i_ + j_))) (1 : Int)))) fun r2 =>
  obind ((data)[(Int.toNat (IntKind.wrap .i64 (shrI .u64 (IntKind.wrap .u64 (IntKind.wrap .i64 (i_ + j_))) (1 : Int))))]?) fun r3 =>
  obind (cmp (r1, (r3, ()))) fun r4 =>
  tif ((!(decide (r4 < (0 : Int))))) (
  slices_symMergeCmpFunc_Slot_l15 n f (data, (m, (cmp, ((IntKind.wrap .i64 ((IntKind.wrap .i64 (shrI .u64 (IntKind.wrap .u64 (IntKind.wrap .i64 (i_ + j_))) (1 : Int))) + (1 : Int))), (j_, ())))))) (
  slices_symMergeCmpFunc_Slot_l15 n f (data, (m, (cmp, (i_, ((IntKind.wrap .i64 (shrI .u64 (IntKind.wrap .u64 (IntKind.wrap .i64 (i_ + j_))) (1 : Int))), ()))))))) (
  some (.inl (data, (m, (i_, ()))))) := by kernel_rfl
theorem slices_symMergeCmpFunc_Slot_l21_eq (n f : Nat) (data : (List TSlot)) (i_ : Int) (k_ : Int) : slices_symMergeCmpFunc_Slot_l21 n (f + 1) (data, i_, k_, ()) =
  tif ((decide (i_ < k_))) (
  obind (at? data (IntKind.wrap .i64 (k_ - (1 : Int)))) fun r0 =>
  obind ((data)[(Int.toNat (IntKind.wrap .i64 (k_ - (1 : Int))))]?) fun r1 =>
  obind (at? data k_) fun r2 =>
  obind ((data)[(Int.toNat k_)]?) fun r3 =>
  obind (at? data k_) fun r4 =>
  obind ((data)[(Int.toNat k_)]?) fun r5 =>
  obind (at? (List.set data (Int.toNat k_) r1) (IntKind.wrap .i64 (k_ - (1 : Int)))) fun r6 =>
  obind (((List.set data (Int.toNat k_) r1))[(Int.toNat (IntKind.wrap .i64 (k_ - (1 : Int))))]?) fun r7 =>
  slices_symMergeCmpFunc_Slot_l21 n f ((List.set (List.set data (Int.toNat k_) r1) (Int.toNat (IntKind.wrap .i64 (k_ - (1 : Int)))) r3), (i_, ((IntKind.wrap .i64 (k_ - (1 : Int))), ())))) (
  some (.inl (data, ()))) := by kernel_rfl
theorem slices_symMergeCmpFunc_Slot_l33_eq (n f : Nat) (data : (List TSlot)) (a : Int) (m : Int) (b : Int) (cmp : ((TSlot × (TSlot × Unit)) → Option Int)) (mid : Int) (n_ : Int) (start : Int) (r : Int) (p : Int) : slices_symMergeCmpFunc_Slot_l33 n (f + 1) (data, a, m, b, cmp, mid, n_, start, r, p, ()) =
  tif ((decide (start < r))) (
  obind (at? data (IntKind.wrap .i64 (p - (IntKind.wrap .i64 (shrI .u64 (IntKind.wrap .u64 (IntKind.wrap .i64 (start + r))) (1 : Int)))))) fun r0 =>
  obind ((data)[(Int.toNat (IntKind.wrap .i64 (p - (IntKind.wrap .i64 (shrI .u64 (IntKind.wrap .u64 (IntKind.wrap .i64 (start + r))) (1 : Int))))))]?) fun r1 =>
  obind (at? data (IntKind.wrap .i64 (shrI .u64 (IntKind.wrap .u64 (IntKind.wrap .i64 (start + r))) (1 : Int)))) fun r2 =>
  obind ((data)[(Int.toNat (IntKind.wrap .i64 (shrI .u64 (IntKind.wrap .u64 (IntKind.wrap .i64 (start + r))) (1 : Int))))]?) fun r3 =>
  obind (cmp (r1, (r3, ()))) fun r4 =>
  tif ((!(decide (r4 < (0 : Int))))) (
  slices_symMergeCmpFunc_Slot_l33 n f (data, (a, (m, (b, (cmp, (mid, (n_, ((IntKind.wrap .i64 ((IntKind.wrap .i64 (shrI .u64 (IntKind.wrap .u64 (IntKind.wrap .i64 (start + r))) (1 : Int))) + (1 : Int))), (r, (p, ()))))))))))) (
  slices_symMergeCmpFunc_Slot_l33 n f (data, (a, (m, (b, (cmp, (mid, (n_, (start, ((IntKind.wrap .i64 (shrI .u64 (IntKind.wrap .u64 (IntKind.wrap .i64 (start + r))) (1 : Int))), (p, ())))))))))))) (
  some (.inl (data, (a, (m, (b, (cmp, (mid, (n_, (start, ())))))))))) := by kernel_rfl
theorem slices_rotateCmpFunc_Slot_eq (n : Nat) (data : (List TSlot)) (a : Int) (m : Int) (b : Int) (cmp : ((TSlot × (TSlot × Unit)) → Option Int)) : slices_rotateCmpFunc_Slot (n + 1) data a m b cmp =
  obind (slices_rotateCmpFunc_Slot_l2 n loopFuel (data, (m, (cmp, ((IntKind.wrap .i64 (m - a)), ((IntKind.wrap .i64 (b - m)), ())))))) fun r0 =>
  selim (fun y1 =>
  obind (slices_swapRangeCmpFunc_Slot n y1.1 (IntKind.wrap .i64 (y1.2.1 - y1.2.2.2.1)) y1.2.1 y1.2.2.2.1 y1.2.2.1) fun r2 =>
  some r2) (fun z3 =>
  some z3) r0 := by kernel_rfl
theorem slices_rotateCmpFunc_Slot_l2_eq (n f : Nat) (data : (List TSlot)) (m : Int) (cmp : ((TSlot × (TSlot × Unit)) → Option Int)) (i : Int) (j : Int) : slices_rotateCmpFunc_Slot_l2 n (f + 1) (data, m, cmp, i, j, ()) =
  tif ((!(decide (i = j)))) (
  tif ((decide (j < i))) (
  obind (slices_swapRangeCmpFunc_Slot n data (IntKind.wrap .i64 (m - i)) m j cmp) fun r0 =>
  slices_rotateCmpFunc_Slot_l2 n f (r0, (m, (cmp, ((IntKind.wrap .i64 (i - j)), (j, ())))))) (
  obind (slices_swapRangeCmpFunc_Slot n data (IntKind.wrap .i64 (m - i)) (IntKind.wrap .i64 ((IntKind.wrap .i64 (m + j)) - i)) i cmp) fun r1 =>
  slices_rotateCmpFunc_Slot_l2 n f (r1, (m, (cmp, (i, ((IntKind.wrap .i64 (j - i)), ()))))))) (
  some (.inl (data, (m, (cmp, (i, ())))))) := by kernel_rfl
theorem slices_swapRangeCmpFunc_Slot_eq (n : Nat) (data : (List TSlot)) (a : Int) (b : Int) (n_ : Int) (cmp : ((TSlot × (TSlot × Unit)) → Option Int)) : slices_swapRangeCmpFunc_Slot (n + 1) data a b n_ cmp =
  obind (slices_swapRangeCmpFunc_Slot_l1 n loopFuel (data, (a, (b, (n_, ((0 : Int), ())))))) fun r0 =>
  selim (fun y1 =>
  some y1.1) (fun z2 =>
  some z2) r0 := by kernel_rfl
theorem slices_swapRangeCmpFunc_Slot_l1_eq (n f : Nat) (data : (List TSlot)) (a : Int) (b : Int) (n_ : Int) (i : Int) : slices_swapRangeCmpFunc_Slot_l1 n (f + 1) (data, a, b, n_, i, ()) =
  tif ((decide (i < n_))) (
  obind (at? data (IntKind.wrap .i64 (b + i))) fun r0 =>
  obind ((data)[(Int.toNat (IntKind.wrap .i64 (b + i)))]?) fun r1 =>
  obind (at? data (IntKind.wrap .i64 (a + i))) fun r2 =>
  obind ((data)[(Int.toNat (IntKind.wrap .i64 (a + i)))]?) fun r3 =>
  obind (at? data (IntKind.wrap .i64 (a + i))) fun r4 =>
  obind ((data)[(Int.toNat (IntKind.wrap .i64 (a + i)))]?) fun r5 =>
  obind (at? (List.set data (Int.toNat (IntKind.wrap .i64 (a + i))) r1) (IntKind.wrap .i64 (b + i))) fun r6 =>
  obind (((List.set data (Int.toNat (IntKind.wrap .i64 (a + i))) r1))[(Int.toNat (IntKind.wrap .i64 (b + i)))]?) fun r7 =>
  slices_swapRangeCmpFunc_Slot_l1 n f ((List.set (List.set data (Int.toNat (IntKind.wrap .i64 (a + i))) r1) (Int.toNat (IntKind.wrap .i64 (b + i))) r3), (a, (b, (n_, ((IntKind.wrap .i64 (i + (1 : Int))), ())))))) (
  some (.inl (data, ()))) := by kernel_rfl
end Go.Proofs.YthjnbidgliejkaaGreat
