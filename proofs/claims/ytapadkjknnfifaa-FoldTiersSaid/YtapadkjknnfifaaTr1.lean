/-
  What each function comes to by one step of the flat reading. Printed by program; the kernel looks at each.
-/
import Derived.Test.YtapadkjknnfifaaTr0
import Derived.KernelRfl
set_option linter.unusedVariables false
namespace Go.Proofs.Ytapadkjknnfifaa
open Go.Flat
theorem l13_TierFolds_eq (n : Nat) (l : (List TSlot)) (w : Int) (i : Int) (k : Int) : l13_TierFolds (n + 1) l w i k =
  tif ((decide ((100 : Int) < (((List.length l) : Nat) : Int)))) (
  obind (l13_lives n ) fun r0 =>
  some r0) (
  obind (r13_Check n l w) fun r1 =>
  tif ((!(decide (r1 = (0 : Int))))) (
  obind (l13_lives n ) fun r2 =>
  some r2) (
  obind (tier_Fold n l i k) fun r3 =>
  obind (r13_Fold n l i k) fun r4 =>
  obind (l13_lives n ) fun r5 =>
  tif (r5) (
  tif (((decide (r3.1.1 = r4.1.1)) && ((decide (r3.1.2.1.1 = r4.1.2.1.1)) && ((decide (r3.1.2.1.2.1 = r4.1.2.1.2.1)) && ((decide (r3.1.2.1.2.2.1 = r4.1.2.1.2.2.1)) && ((r3.1.2.1.2.2.2 == r4.1.2.1.2.2.2) && ((decide (r3.1.2.2.1.1 = r4.1.2.2.1.1)) && ((decide (r3.1.2.2.1.2.1 = r4.1.2.2.1.2.1)) && ((decide (r3.1.2.2.1.2.2.1 = r4.1.2.2.1.2.2.1)) && ((r3.1.2.2.1.2.2.2 == r4.1.2.2.1.2.2.2) && ((decide (r3.1.2.2.2.1.1 = r4.1.2.2.2.1.1)) && ((decide (r3.1.2.2.2.1.2 = r4.1.2.2.2.1.2)) && ((decide (r3.1.2.2.2.2.1 = r4.1.2.2.2.2.1)) && ((decide (r3.1.2.2.2.2.2.1 = r4.1.2.2.2.2.2.1)) && (decide (r3.1.2.2.2.2.2.2 = r4.1.2.2.2.2.2.2)))))))))))))))) (
  some (decide (r3.2 = r4.2))) (
  some false)) (
  some false))) := by kernel_rfl

theorem l13_TierLast_eq (n : Nat) (n_ : Int) (w : Int) (l : (List TEvent)) (from_ : Int) : l13_TierLast (n + 1) n_ w l from_ =
  obind (l13_lives n ) fun r0 =>
  tif ((!r0)) (
  some false) (
  tif ((decide (n_ < (1 : Int)))) (
  some true) (
  tif ((decide ((20 : Int) < n_))) (
  some true) (
  tif ((decide (w < (1 : Int)))) (
  some true) (
  tif ((decide ((1099511627776 : Int) < w))) (
  some true) (
  tif ((decide ((100 : Int) < (((List.length l) : Nat) : Int)))) (
  some true) (
  obind (cell_Of n l) fun r1 =>
  tif ((!(decide (r1.2 = (0 : Int))))) (
  some true) (
  tif ((decide ((((List.length l) : Nat) : Int) = (0 : Int)))) (
  some true) (
  obind (tier_New n n_) fun r2 =>
  obind (l13_TierLast_l10 n loopFuel (n_, (w, (l, (from_, (r2, (l, ((((List.length l) : Nat) : Int), ((0 : Int), ()))))))))) fun r3 =>
  selim (fun y4 =>
  obind (at? y4.2.2.1 (IntKind.wrap .i64 ((((List.length y4.2.2.1) : Nat) : Int) - (1 : Int)))) fun r5 =>
  tif ((decide (y4.2.1 = (0 : Int)))) (
  none) (
  obind (l13_TierLast_l23 n loopFuel (y4.2.1, ((if (IntKind.wrap .i64 (Int.tdiv r5.1 y4.2.1)) < (if y4.2.2.2.1 < (if (IntKind.wrap .i64 ((IntKind.wrap .i64 ((IntKind.wrap .i64 (Int.tdiv r5.1 y4.2.1)) - y4.1)) + (1 : Int))) < (0 : Int) then (0 : Int) else (IntKind.wrap .i64 ((IntKind.wrap .i64 ((IntKind.wrap .i64 (Int.tdiv r5.1 y4.2.1)) - y4.1)) + (1 : Int)))) then (if (IntKind.wrap .i64 ((IntKind.wrap .i64 ((IntKind.wrap .i64 (Int.tdiv r5.1 y4.2.1)) - y4.1)) + (1 : Int))) < (0 : Int) then (0 : Int) else (IntKind.wrap .i64 ((IntKind.wrap .i64 ((IntKind.wrap .i64 (Int.tdiv r5.1 y4.2.1)) - y4.1)) + (1 : Int)))) else y4.2.2.2.1) then (IntKind.wrap .i64 (Int.tdiv r5.1 y4.2.1)) else (if y4.2.2.2.1 < (if (IntKind.wrap .i64 ((IntKind.wrap .i64 ((IntKind.wrap .i64 (Int.tdiv r5.1 y4.2.1)) - y4.1)) + (1 : Int))) < (0 : Int) then (0 : Int) else (IntKind.wrap .i64 ((IntKind.wrap .i64 ((IntKind.wrap .i64 (Int.tdiv r5.1 y4.2.1)) - y4.1)) + (1 : Int)))) then (if (IntKind.wrap .i64 ((IntKind.wrap .i64 ((IntKind.wrap .i64 (Int.tdiv r5.1 y4.2.1)) - y4.1)) + (1 : Int))) < (0 : Int) then (0 : Int) else (IntKind.wrap .i64 ((IntKind.wrap .i64 ((IntKind.wrap .i64 (Int.tdiv r5.1 y4.2.1)) - y4.1)) + (1 : Int)))) else y4.2.2.2.1)), (y4.2.2.2.2.1, ((IntKind.wrap .i64 (Int.tdiv r5.1 y4.2.1)), ([], (y4.2.2.1, ((((List.length y4.2.2.1) : Nat) : Int), ((0 : Int), ()))))))))) fun r6 =>
  selim (fun y7 =>
  obind (cell_Of n y7.2.2.2.2.1) fun r8 =>
  obind (tier_Fold n y7.2.2.1 y7.2.1 (IntKind.wrap .i64 (y7.2.2.2.1 + (1 : Int)))) fun r9 =>
  tif ((decide (r8.2 = (0 : Int)))) (
  tif ((decide (r9.2 = (0 : Int)))) (
  tif (((decide (r9.1.1 = r8.1.1)) && ((decide (r9.1.2.1.1 = r8.1.2.1.1)) && ((decide (r9.1.2.1.2.1 = r8.1.2.1.2.1)) && ((decide (r9.1.2.1.2.2.1 = r8.1.2.1.2.2.1)) && ((r9.1.2.1.2.2.2 == r8.1.2.1.2.2.2) && ((decide (r9.1.2.2.1.1 = r8.1.2.2.1.1)) && ((decide (r9.1.2.2.1.2.1 = r8.1.2.2.1.2.1)) && ((decide (r9.1.2.2.1.2.2.1 = r8.1.2.2.1.2.2.1)) && ((r9.1.2.2.1.2.2.2 == r8.1.2.2.1.2.2.2) && ((decide (r9.1.2.2.2.1.1 = r8.1.2.2.2.1.1)) && ((decide (r9.1.2.2.2.1.2 = r8.1.2.2.2.1.2)) && ((decide (r9.1.2.2.2.2.1 = r8.1.2.2.2.2.1)) && ((decide (r9.1.2.2.2.2.2.1 = r8.1.2.2.2.2.2.1)) && (decide (r9.1.2.2.2.2.2.2 = r8.1.2.2.2.2.2.2)))))))))))))))) (
  obind (tier_Check n y7.2.2.1 y7.1) fun r10 =>
  some (decide (r10 = (0 : Int)))) (
  some false)) (
  some false)) (
  some false)) (fun z11 =>
  some z11) r6)) (fun z12 =>
  some z12) r3)))))))) := by kernel_rfl
theorem l13_TierLast_l10_eq (n f : Nat) (n_ : Int) (w : Int) (l : (List TEvent)) (from_ : Int) (t : (List TSlot)) (s62 : (List TEvent)) (s63 : Int) (s64 : Int) : l13_TierLast_l10 n (f + 1) (n_, w, l, from_, t, s62, s63, s64, ()) =
  tif ((decide (s64 < s63))) (
  obind (at? s62 s64) fun r0 =>
  tif ((decide (w = (0 : Int)))) (
  none) (
  obind (tier_Get n t (IntKind.wrap .i64 (Int.tdiv r0.1 w))) fun r1 =>
  obind (cell_Add n r1 r0) fun r2 =>
  tif ((decide (w = (0 : Int)))) (
  none) (
  obind (tier_Put n t w (IntKind.wrap .i64 (Int.tdiv r0.1 w)) r2.1) fun r3 =>
  tif ((!(decide (r2.2 = (0 : Int))))) (
  some (.inr false)) (
  tif ((!(decide (r3.2 = (0 : Int))))) (
  some (.inr false)) (
  l13_TierLast_l10 n f (n_, (w, (l, (from_, (r3.1, (s62, (s63, ((IntKind.wrap .i64 (s64 + (1 : Int))), ()))))))))))))) (
  some (.inl (n_, (w, (l, (from_, (t, ()))))))) := by kernel_rfl
theorem l13_TierLast_l10_zero (n : Nat) (x : (Int × (Int × ((List TEvent) × (Int × ((List TSlot) × ((List TEvent) × (Int × (Int × Unit))))))))) : l13_TierLast_l10 n 0 x = none := by kernel_rfl
theorem l13_TierLast_l23_eq (n f : Nat) (w : Int) (from_ : Int) (t : (List TSlot)) (last : Int) (some_ : (List TEvent)) (s117 : (List TEvent)) (s118 : Int) (s119 : Int) : l13_TierLast_l23 n (f + 1) (w, from_, t, last, some_, s117, s118, s119, ()) =
  tif ((decide (s119 < s118))) (
  obind (at? s117 s119) fun r0 =>
  tif ((decide (w = (0 : Int)))) (
  none) (
  tif ((decide (from_ ≤ (IntKind.wrap .i64 (Int.tdiv r0.1 w))))) (
  tif ((decide ((((List.length some_) + 1) * 32) ≤ 140737488355328))) (
  l13_TierLast_l23 n f (w, (from_, (t, (last, ((some_ ++ (r0 :: [])), (s117, (s118, ((IntKind.wrap .i64 (s119 + (1 : Int))), ()))))))))) (
  none)) (
  l13_TierLast_l23 n f (w, (from_, (t, (last, (some_, (s117, (s118, ((IntKind.wrap .i64 (s119 + (1 : Int))), ()))))))))))) (
  some (.inl (w, (from_, (t, (last, (some_, ()))))))) := by kernel_rfl
theorem l13_TierLast_l23_zero (n : Nat) (x : (Int × (Int × ((List TSlot) × (Int × ((List TEvent) × ((List TEvent) × (Int × (Int × Unit))))))))) : l13_TierLast_l23 n 0 x = none := by kernel_rfl

theorem l14_FoldTells_eq (n : Nat) (c : TConfig) (s : ((List TSlot) × ((List TSlot) × (List TSlot)))) (k : Int) (i : Int) (j : Int) (open_ : TSlot) : l14_FoldTells (n + 1) c s k i j open_ =
  obind (l14_Small n s) fun r0 =>
  tif ((decide (r0 = (0 : Int)))) (
  obind (l14_lives n ) fun r1 =>
  some r1) (
  obind (fold_Made n c s k i) fun r2 =>
  obind (r14_Made n c s k i) fun r3 =>
  obind (fold_Up n c s i j) fun r4 =>
  obind (r14_Up n c s i j) fun r5 =>
  obind (fold_Close n c s open_ j) fun r6 =>
  obind (r14_Close n c s open_ j) fun r7 =>
  obind (l14_lives n ) fun r8 =>
  tif (r8) (
  obind (fold_Check n c s) fun r9 =>
  obind (r14_Check n c s) fun r10 =>
  tif ((decide (r9 = r10))) (
  tif (((decide (r2.1.1 = r3.1.1)) && ((decide (r2.1.2.1.1 = r3.1.2.1.1)) && ((decide (r2.1.2.1.2.1 = r3.1.2.1.2.1)) && ((decide (r2.1.2.1.2.2.1 = r3.1.2.1.2.2.1)) && ((r2.1.2.1.2.2.2 == r3.1.2.1.2.2.2) && ((decide (r2.1.2.2.1.1 = r3.1.2.2.1.1)) && ((decide (r2.1.2.2.1.2.1 = r3.1.2.2.1.2.1)) && ((decide (r2.1.2.2.1.2.2.1 = r3.1.2.2.1.2.2.1)) && ((r2.1.2.2.1.2.2.2 == r3.1.2.2.1.2.2.2) && ((decide (r2.1.2.2.2.1.1 = r3.1.2.2.2.1.1)) && ((decide (r2.1.2.2.2.1.2 = r3.1.2.2.2.1.2)) && ((decide (r2.1.2.2.2.2.1 = r3.1.2.2.2.2.1)) && ((decide (r2.1.2.2.2.2.2.1 = r3.1.2.2.2.2.2.1)) && (decide (r2.1.2.2.2.2.2.2 = r3.1.2.2.2.2.2.2)))))))))))))))) (
  tif ((decide (r2.2 = r3.2))) (
  obind (r14_Same n r4.1 r5.1) fun r11 =>
  tif (r11) (
  tif ((decide (r4.2 = r5.2))) (
  obind (r14_Same n r6.1 r7.1) fun r12 =>
  tif (r12) (
  tif ((decide (r6.2 = r7.2))) (
  tif ((decide ((200 : Int) < (IntKind.wrap .i64 ((IntKind.wrap .i64 (c.2.2.1.1 + c.2.2.1.2.1)) + c.2.2.1.2.2))))) (
  some true) (
  obind (fold_Empty n c) fun r13 =>
  obind (r14_Empty n c) fun r14 =>
  obind (r14_Same n r13 r14) fun r15 =>
  some r15)) (
  some false)) (
  some false)) (
  some false)) (
  some false)) (
  some false)) (
  some false)) (
  some false)) (
  some false)) := by kernel_rfl

theorem l14_FoldTiers_eq (n : Nat) (c : TConfig) (l : (List TEvent)) : l14_FoldTiers (n + 1) c l =
  obind (l14_lives n ) fun r0 =>
  tif ((!r0)) (
  some false) (
  obind (fold_Empty n c) fun r1 =>
  obind (fold_Check n c r1) fun r2 =>
  tif ((!(decide (r2 = (0 : Int))))) (
  some true) (
  obind (l14_Small n r1) fun r3 =>
  tif ((decide (r3 = (0 : Int)))) (
  some true) (
  tif ((decide ((60 : Int) < (((List.length l) : Nat) : Int)))) (
  some true) (
  tif ((decide ((((List.length l) : Nat) : Int) = (0 : Int)))) (
  some true) (
  obind (cell_Of n l) fun r4 =>
  tif ((!(decide (r4.2 = (0 : Int))))) (
  some true) (
  obind (l14_FoldTiers_l11 n loopFuel (l, (c, (r1, (((0 : Int), ((0 : Int), (((0 : Int), ((0 : Int), ((0 : Int), false))), (((0 : Int), ((0 : Int), ((0 : Int), false))), (((0 : Int), (0 : Int)), ((0 : Int), ((0 : Int), (0 : Int)))))))), (l, ((((List.length l) : Nat) : Int), ((0 : Int), ())))))))) fun r5 =>
  selim (fun y6 =>
  obind (at? y6.1 (IntKind.wrap .i64 ((((List.length y6.1) : Nat) : Int) - (1 : Int)))) fun r7 =>
  obind (l14_FoldTiers_l26 n loopFuel (y6.1, (y6.2.1, (y6.2.2.1, (r7.1, ((0 : Int), ())))))) fun r8 =>
  selim (fun y9 =>
  obind (fold_Check n y9.1 y9.2.1) fun r10 =>
  some (decide (r10 = (0 : Int)))) (fun z11 =>
  some z11) r8) (fun z12 =>
  some z12) r5)))))) := by kernel_rfl
theorem l14_FoldTiers_l11_eq (n f : Nat) (l : (List TEvent)) (c_ : TConfig) (s : ((List TSlot) × ((List TSlot) × (List TSlot)))) (open_ : TSlot) (s56 : (List TEvent)) (s57 : Int) (s58 : Int) : l14_FoldTiers_l11 n (f + 1) (l, c_, s, open_, s56, s57, s58, ()) =
  tif ((decide (s58 < s57))) (
  obind (at? s56 s58) fun r0 =>
  tif ((decide (c_.2.1.1 = (0 : Int)))) (
  none) (
  tif ((decide ((0 : Int) < open_.2.1))) (
  tif ((!(decide (open_.1 = (IntKind.wrap .i64 (Int.tdiv r0.1 c_.2.1.1)))))) (
  obind (fold_Close n c_ s open_ (IntKind.wrap .i64 (Int.tdiv r0.1 c_.2.1.1))) fun r1 =>
  tif ((!(decide (r1.2 = (0 : Int))))) (
  some (.inr false)) (
  obind (cell_Add n ((0 : Int), (((0 : Int), ((0 : Int), ((0 : Int), false))), (((0 : Int), ((0 : Int), ((0 : Int), false))), (((0 : Int), (0 : Int)), ((0 : Int), ((0 : Int), (0 : Int))))))) r0) fun r2 =>
  tif ((!(decide (r2.2 = (0 : Int))))) (
  some (.inr false)) (
  l14_FoldTiers_l11 n f (l, (c_, (r1.1, (((IntKind.wrap .i64 (Int.tdiv r0.1 c_.2.1.1)), r2.1), (s56, (s57, ((IntKind.wrap .i64 (s58 + (1 : Int))), ())))))))))) (
  obind (cell_Add n open_.2 r0) fun r3 =>
  tif ((!(decide (r3.2 = (0 : Int))))) (
  some (.inr false)) (
  l14_FoldTiers_l11 n f (l, (c_, (s, (((IntKind.wrap .i64 (Int.tdiv r0.1 c_.2.1.1)), r3.1), (s56, (s57, ((IntKind.wrap .i64 (s58 + (1 : Int))), ())))))))))) (
  obind (cell_Add n open_.2 r0) fun r4 =>
  tif ((!(decide (r4.2 = (0 : Int))))) (
  some (.inr false)) (
  l14_FoldTiers_l11 n f (l, (c_, (s, (((IntKind.wrap .i64 (Int.tdiv r0.1 c_.2.1.1)), r4.1), (s56, (s57, ((IntKind.wrap .i64 (s58 + (1 : Int))), ()))))))))))) (
  some (.inl (l, (c_, (s, ()))))) := by kernel_rfl
theorem l14_FoldTiers_l11_zero (n : Nat) (x : ((List TEvent) × (TConfig × (((List TSlot) × ((List TSlot) × (List TSlot))) × (TSlot × ((List TEvent) × (Int × (Int × Unit)))))))) : l14_FoldTiers_l11 n 0 x = none := by kernel_rfl
theorem l14_FoldTiers_l26_eq (n f : Nat) (l : (List TEvent)) (c_ : TConfig) (s : ((List TSlot) × ((List TSlot) × (List TSlot)))) (last : Int) (s110 : Int) : l14_FoldTiers_l26 n (f + 1) (l, c_, s, last, s110, ()) =
  tif ((decide (s110 < (3 : Int)))) (
  obind (l14_FoldTiers_l29 n loopFuel (l, (c_, (s, (last, (s110, (s110, (l, ((((List.length l) : Nat) : Int), ((0 : Int), ())))))))))) fun r0 =>
  selim (fun y1 =>
  l14_FoldTiers_l26 n f (y1.1, (y1.2.1, (y1.2.2.1, (y1.2.2.2.1, ((IntKind.wrap .i64 (y1.2.2.2.2.1 + (1 : Int))), ())))))) (fun z2 =>
  some (.inr z2)) r0) (
  some (.inl (c_, (s, ())))) := by kernel_rfl
theorem l14_FoldTiers_l26_zero (n : Nat) (x : ((List TEvent) × (TConfig × (((List TSlot) × ((List TSlot) × (List TSlot))) × (Int × (Int × Unit)))))) : l14_FoldTiers_l26 n 0 x = none := by kernel_rfl
theorem l14_FoldTiers_l29_eq_0 (n f : Nat) (l : (List TEvent)) (c_ : TConfig) (s : ((List TSlot) × ((List TSlot) × (List TSlot)))) (last : Int) (s110 : Int) (s113 : (List TEvent)) (s114 : Int) (s115 : Int) : l14_FoldTiers_l29 n (f + 1) (l, c_, s, last, (0 : Int), s110, s113, s114, s115, ()) =
  tif ((decide (s115 < s114))) (
  obind (at? s113 s115) fun r0 =>
  tif ((decide (c_.2.1.1 = (0 : Int)))) (
  none) (
  tif ((decide (c_.2.1.1 = (0 : Int)))) (
  none) (
  tif ((decide ((IntKind.wrap .i64 (Int.tdiv r0.1 c_.2.1.1)) = (IntKind.wrap .i64 (Int.tdiv last c_.2.1.1))))) (
  l14_FoldTiers_l29 n f (l, (c_, (s, (last, ((0 : Int), (s110, (s113, (s114, ((IntKind.wrap .i64 (s115 + (1 : Int))), ())))))))))) (
  tif ((decide (c_.2.1.1 = (0 : Int)))) (
  none) (
  tif ((decide ((IntKind.wrap .i64 (Int.tdiv r0.1 c_.2.1.1)) ≤ (IntKind.wrap .i64 ((IntKind.wrap .i64 (Int.tdiv last c_.2.1.1)) - c_.2.2.1.1))))) (
  l14_FoldTiers_l29 n f (l, (c_, (s, (last, ((0 : Int), (s110, (s113, (s114, ((IntKind.wrap .i64 (s115 + (1 : Int))), ())))))))))) (
  obind (l14_FoldTiers_l35 n loopFuel (l, (c_, (s, (last, ((0 : Int), ((IntKind.wrap .i64 (Int.tdiv r0.1 c_.2.1.1)), ([], (s110, (s113, (s114, (s115, (l, ((((List.length l) : Nat) : Int), ((0 : Int), ()))))))))))))))) fun r1 =>
  selim (fun y2 =>
  obind (cell_Of n y2.2.2.2.2.2.2.1) fun r3 =>
  tif ((!(decide (r3.2 = (0 : Int))))) (
  some (.inr false)) (
  tif ((decide (y2.2.2.2.2.1 = (0 : Int)))) (
  obind (tier_Get n y2.2.2.1.1 y2.2.2.2.2.2.1) fun r4 =>
  tif ((!((decide (r4.1 = r3.1.1)) && ((decide (r4.2.1.1 = r3.1.2.1.1)) && ((decide (r4.2.1.2.1 = r3.1.2.1.2.1)) && ((decide (r4.2.1.2.2.1 = r3.1.2.1.2.2.1)) && ((r4.2.1.2.2.2 == r3.1.2.1.2.2.2) && ((decide (r4.2.2.1.1 = r3.1.2.2.1.1)) && ((decide (r4.2.2.1.2.1 = r3.1.2.2.1.2.1)) && ((decide (r4.2.2.1.2.2.1 = r3.1.2.2.1.2.2.1)) && ((r4.2.2.1.2.2.2 == r3.1.2.2.1.2.2.2) && ((decide (r4.2.2.2.1.1 = r3.1.2.2.2.1.1)) && ((decide (r4.2.2.2.1.2 = r3.1.2.2.2.1.2)) && ((decide (r4.2.2.2.2.1 = r3.1.2.2.2.2.1)) && ((decide (r4.2.2.2.2.2.1 = r3.1.2.2.2.2.2.1)) && (decide (r4.2.2.2.2.2.2 = r3.1.2.2.2.2.2.2))))))))))))))))) (
  some (.inr false)) (
  l14_FoldTiers_l29 n f (y2.1, (y2.2.1, (y2.2.2.1, (y2.2.2.2.1, (y2.2.2.2.2.1, (y2.2.2.2.2.2.2.2.1, (y2.2.2.2.2.2.2.2.2.1, (y2.2.2.2.2.2.2.2.2.2.1, ((IntKind.wrap .i64 (y2.2.2.2.2.2.2.2.2.2.2.1 + (1 : Int))), ()))))))))))) (
  tif ((decide (y2.2.2.2.2.1 = (1 : Int)))) (
  obind (tier_Get n y2.2.2.1.2.1 y2.2.2.2.2.2.1) fun r5 =>
  tif ((!((decide (r5.1 = r3.1.1)) && ((decide (r5.2.1.1 = r3.1.2.1.1)) && ((decide (r5.2.1.2.1 = r3.1.2.1.2.1)) && ((decide (r5.2.1.2.2.1 = r3.1.2.1.2.2.1)) && ((r5.2.1.2.2.2 == r3.1.2.1.2.2.2) && ((decide (r5.2.2.1.1 = r3.1.2.2.1.1)) && ((decide (r5.2.2.1.2.1 = r3.1.2.2.1.2.1)) && ((decide (r5.2.2.1.2.2.1 = r3.1.2.2.1.2.2.1)) && ((r5.2.2.1.2.2.2 == r3.1.2.2.1.2.2.2) && ((decide (r5.2.2.2.1.1 = r3.1.2.2.2.1.1)) && ((decide (r5.2.2.2.1.2 = r3.1.2.2.2.1.2)) && ((decide (r5.2.2.2.2.1 = r3.1.2.2.2.2.1)) && ((decide (r5.2.2.2.2.2.1 = r3.1.2.2.2.2.2.1)) && (decide (r5.2.2.2.2.2.2 = r3.1.2.2.2.2.2.2))))))))))))))))) (
  some (.inr false)) (
  l14_FoldTiers_l29 n f (y2.1, (y2.2.1, (y2.2.2.1, (y2.2.2.2.1, (y2.2.2.2.2.1, (y2.2.2.2.2.2.2.2.1, (y2.2.2.2.2.2.2.2.2.1, (y2.2.2.2.2.2.2.2.2.2.1, ((IntKind.wrap .i64 (y2.2.2.2.2.2.2.2.2.2.2.1 + (1 : Int))), ()))))))))))) (
  tif ((decide (y2.2.2.2.2.1 = (2 : Int)))) (
  obind (tier_Get n y2.2.2.1.2.2 y2.2.2.2.2.2.1) fun r6 =>
  tif ((!((decide (r6.1 = r3.1.1)) && ((decide (r6.2.1.1 = r3.1.2.1.1)) && ((decide (r6.2.1.2.1 = r3.1.2.1.2.1)) && ((decide (r6.2.1.2.2.1 = r3.1.2.1.2.2.1)) && ((r6.2.1.2.2.2 == r3.1.2.1.2.2.2) && ((decide (r6.2.2.1.1 = r3.1.2.2.1.1)) && ((decide (r6.2.2.1.2.1 = r3.1.2.2.1.2.1)) && ((decide (r6.2.2.1.2.2.1 = r3.1.2.2.1.2.2.1)) && ((r6.2.2.1.2.2.2 == r3.1.2.2.1.2.2.2) && ((decide (r6.2.2.2.1.1 = r3.1.2.2.2.1.1)) && ((decide (r6.2.2.2.1.2 = r3.1.2.2.2.1.2)) && ((decide (r6.2.2.2.2.1 = r3.1.2.2.2.2.1)) && ((decide (r6.2.2.2.2.2.1 = r3.1.2.2.2.2.2.1)) && (decide (r6.2.2.2.2.2.2 = r3.1.2.2.2.2.2.2))))))))))))))))) (
  some (.inr false)) (
  l14_FoldTiers_l29 n f (y2.1, (y2.2.1, (y2.2.2.1, (y2.2.2.2.1, (y2.2.2.2.2.1, (y2.2.2.2.2.2.2.2.1, (y2.2.2.2.2.2.2.2.2.1, (y2.2.2.2.2.2.2.2.2.2.1, ((IntKind.wrap .i64 (y2.2.2.2.2.2.2.2.2.2.2.1 + (1 : Int))), ()))))))))))) (
  none))))) (fun z7 =>
  some (.inr z7)) r1)))))) (
  some (.inl (l, (c_, (s, (last, (s110, ()))))))) := by kernel_rfl
theorem l14_FoldTiers_l29_eq_1 (n f : Nat) (l : (List TEvent)) (c_ : TConfig) (s : ((List TSlot) × ((List TSlot) × (List TSlot)))) (last : Int) (s110 : Int) (s113 : (List TEvent)) (s114 : Int) (s115 : Int) : l14_FoldTiers_l29 n (f + 1) (l, c_, s, last, (1 : Int), s110, s113, s114, s115, ()) =
  tif ((decide (s115 < s114))) (
  obind (at? s113 s115) fun r0 =>
  tif ((decide (c_.2.1.2.1 = (0 : Int)))) (
  none) (
  tif ((decide (c_.2.1.2.1 = (0 : Int)))) (
  none) (
  tif ((decide ((IntKind.wrap .i64 (Int.tdiv r0.1 c_.2.1.2.1)) = (IntKind.wrap .i64 (Int.tdiv last c_.2.1.2.1))))) (
  l14_FoldTiers_l29 n f (l, (c_, (s, (last, ((1 : Int), (s110, (s113, (s114, ((IntKind.wrap .i64 (s115 + (1 : Int))), ())))))))))) (
  tif ((decide (c_.2.1.2.1 = (0 : Int)))) (
  none) (
  tif ((decide ((IntKind.wrap .i64 (Int.tdiv r0.1 c_.2.1.2.1)) ≤ (IntKind.wrap .i64 ((IntKind.wrap .i64 (Int.tdiv last c_.2.1.2.1)) - c_.2.2.1.2.1))))) (
  l14_FoldTiers_l29 n f (l, (c_, (s, (last, ((1 : Int), (s110, (s113, (s114, ((IntKind.wrap .i64 (s115 + (1 : Int))), ())))))))))) (
  obind (l14_FoldTiers_l35 n loopFuel (l, (c_, (s, (last, ((1 : Int), ((IntKind.wrap .i64 (Int.tdiv r0.1 c_.2.1.2.1)), ([], (s110, (s113, (s114, (s115, (l, ((((List.length l) : Nat) : Int), ((0 : Int), ()))))))))))))))) fun r1 =>
  selim (fun y2 =>
  obind (cell_Of n y2.2.2.2.2.2.2.1) fun r3 =>
  tif ((!(decide (r3.2 = (0 : Int))))) (
  some (.inr false)) (
  tif ((decide (y2.2.2.2.2.1 = (0 : Int)))) (
  obind (tier_Get n y2.2.2.1.1 y2.2.2.2.2.2.1) fun r4 =>
  tif ((!((decide (r4.1 = r3.1.1)) && ((decide (r4.2.1.1 = r3.1.2.1.1)) && ((decide (r4.2.1.2.1 = r3.1.2.1.2.1)) && ((decide (r4.2.1.2.2.1 = r3.1.2.1.2.2.1)) && ((r4.2.1.2.2.2 == r3.1.2.1.2.2.2) && ((decide (r4.2.2.1.1 = r3.1.2.2.1.1)) && ((decide (r4.2.2.1.2.1 = r3.1.2.2.1.2.1)) && ((decide (r4.2.2.1.2.2.1 = r3.1.2.2.1.2.2.1)) && ((r4.2.2.1.2.2.2 == r3.1.2.2.1.2.2.2) && ((decide (r4.2.2.2.1.1 = r3.1.2.2.2.1.1)) && ((decide (r4.2.2.2.1.2 = r3.1.2.2.2.1.2)) && ((decide (r4.2.2.2.2.1 = r3.1.2.2.2.2.1)) && ((decide (r4.2.2.2.2.2.1 = r3.1.2.2.2.2.2.1)) && (decide (r4.2.2.2.2.2.2 = r3.1.2.2.2.2.2.2))))))))))))))))) (
  some (.inr false)) (
  l14_FoldTiers_l29 n f (y2.1, (y2.2.1, (y2.2.2.1, (y2.2.2.2.1, (y2.2.2.2.2.1, (y2.2.2.2.2.2.2.2.1, (y2.2.2.2.2.2.2.2.2.1, (y2.2.2.2.2.2.2.2.2.2.1, ((IntKind.wrap .i64 (y2.2.2.2.2.2.2.2.2.2.2.1 + (1 : Int))), ()))))))))))) (
  tif ((decide (y2.2.2.2.2.1 = (1 : Int)))) (
  obind (tier_Get n y2.2.2.1.2.1 y2.2.2.2.2.2.1) fun r5 =>
  tif ((!((decide (r5.1 = r3.1.1)) && ((decide (r5.2.1.1 = r3.1.2.1.1)) && ((decide (r5.2.1.2.1 = r3.1.2.1.2.1)) && ((decide (r5.2.1.2.2.1 = r3.1.2.1.2.2.1)) && ((r5.2.1.2.2.2 == r3.1.2.1.2.2.2) && ((decide (r5.2.2.1.1 = r3.1.2.2.1.1)) && ((decide (r5.2.2.1.2.1 = r3.1.2.2.1.2.1)) && ((decide (r5.2.2.1.2.2.1 = r3.1.2.2.1.2.2.1)) && ((r5.2.2.1.2.2.2 == r3.1.2.2.1.2.2.2) && ((decide (r5.2.2.2.1.1 = r3.1.2.2.2.1.1)) && ((decide (r5.2.2.2.1.2 = r3.1.2.2.2.1.2)) && ((decide (r5.2.2.2.2.1 = r3.1.2.2.2.2.1)) && ((decide (r5.2.2.2.2.2.1 = r3.1.2.2.2.2.2.1)) && (decide (r5.2.2.2.2.2.2 = r3.1.2.2.2.2.2.2))))))))))))))))) (
  some (.inr false)) (
  l14_FoldTiers_l29 n f (y2.1, (y2.2.1, (y2.2.2.1, (y2.2.2.2.1, (y2.2.2.2.2.1, (y2.2.2.2.2.2.2.2.1, (y2.2.2.2.2.2.2.2.2.1, (y2.2.2.2.2.2.2.2.2.2.1, ((IntKind.wrap .i64 (y2.2.2.2.2.2.2.2.2.2.2.1 + (1 : Int))), ()))))))))))) (
  tif ((decide (y2.2.2.2.2.1 = (2 : Int)))) (
  obind (tier_Get n y2.2.2.1.2.2 y2.2.2.2.2.2.1) fun r6 =>
  tif ((!((decide (r6.1 = r3.1.1)) && ((decide (r6.2.1.1 = r3.1.2.1.1)) && ((decide (r6.2.1.2.1 = r3.1.2.1.2.1)) && ((decide (r6.2.1.2.2.1 = r3.1.2.1.2.2.1)) && ((r6.2.1.2.2.2 == r3.1.2.1.2.2.2) && ((decide (r6.2.2.1.1 = r3.1.2.2.1.1)) && ((decide (r6.2.2.1.2.1 = r3.1.2.2.1.2.1)) && ((decide (r6.2.2.1.2.2.1 = r3.1.2.2.1.2.2.1)) && ((r6.2.2.1.2.2.2 == r3.1.2.2.1.2.2.2) && ((decide (r6.2.2.2.1.1 = r3.1.2.2.2.1.1)) && ((decide (r6.2.2.2.1.2 = r3.1.2.2.2.1.2)) && ((decide (r6.2.2.2.2.1 = r3.1.2.2.2.2.1)) && ((decide (r6.2.2.2.2.2.1 = r3.1.2.2.2.2.2.1)) && (decide (r6.2.2.2.2.2.2 = r3.1.2.2.2.2.2.2))))))))))))))))) (
  some (.inr false)) (
  l14_FoldTiers_l29 n f (y2.1, (y2.2.1, (y2.2.2.1, (y2.2.2.2.1, (y2.2.2.2.2.1, (y2.2.2.2.2.2.2.2.1, (y2.2.2.2.2.2.2.2.2.1, (y2.2.2.2.2.2.2.2.2.2.1, ((IntKind.wrap .i64 (y2.2.2.2.2.2.2.2.2.2.2.1 + (1 : Int))), ()))))))))))) (
  none))))) (fun z7 =>
  some (.inr z7)) r1)))))) (
  some (.inl (l, (c_, (s, (last, (s110, ()))))))) := by kernel_rfl
theorem l14_FoldTiers_l29_eq_2 (n f : Nat) (l : (List TEvent)) (c_ : TConfig) (s : ((List TSlot) × ((List TSlot) × (List TSlot)))) (last : Int) (s110 : Int) (s113 : (List TEvent)) (s114 : Int) (s115 : Int) : l14_FoldTiers_l29 n (f + 1) (l, c_, s, last, (2 : Int), s110, s113, s114, s115, ()) =
  tif ((decide (s115 < s114))) (
  obind (at? s113 s115) fun r0 =>
  tif ((decide (c_.2.1.2.2 = (0 : Int)))) (
  none) (
  tif ((decide (c_.2.1.2.2 = (0 : Int)))) (
  none) (
  tif ((decide ((IntKind.wrap .i64 (Int.tdiv r0.1 c_.2.1.2.2)) = (IntKind.wrap .i64 (Int.tdiv last c_.2.1.2.2))))) (
  l14_FoldTiers_l29 n f (l, (c_, (s, (last, ((2 : Int), (s110, (s113, (s114, ((IntKind.wrap .i64 (s115 + (1 : Int))), ())))))))))) (
  tif ((decide (c_.2.1.2.2 = (0 : Int)))) (
  none) (
  tif ((decide ((IntKind.wrap .i64 (Int.tdiv r0.1 c_.2.1.2.2)) ≤ (IntKind.wrap .i64 ((IntKind.wrap .i64 (Int.tdiv last c_.2.1.2.2)) - c_.2.2.1.2.2))))) (
  l14_FoldTiers_l29 n f (l, (c_, (s, (last, ((2 : Int), (s110, (s113, (s114, ((IntKind.wrap .i64 (s115 + (1 : Int))), ())))))))))) (
  obind (l14_FoldTiers_l35 n loopFuel (l, (c_, (s, (last, ((2 : Int), ((IntKind.wrap .i64 (Int.tdiv r0.1 c_.2.1.2.2)), ([], (s110, (s113, (s114, (s115, (l, ((((List.length l) : Nat) : Int), ((0 : Int), ()))))))))))))))) fun r1 =>
  selim (fun y2 =>
  obind (cell_Of n y2.2.2.2.2.2.2.1) fun r3 =>
  tif ((!(decide (r3.2 = (0 : Int))))) (
  some (.inr false)) (
  tif ((decide (y2.2.2.2.2.1 = (0 : Int)))) (
  obind (tier_Get n y2.2.2.1.1 y2.2.2.2.2.2.1) fun r4 =>
  tif ((!((decide (r4.1 = r3.1.1)) && ((decide (r4.2.1.1 = r3.1.2.1.1)) && ((decide (r4.2.1.2.1 = r3.1.2.1.2.1)) && ((decide (r4.2.1.2.2.1 = r3.1.2.1.2.2.1)) && ((r4.2.1.2.2.2 == r3.1.2.1.2.2.2) && ((decide (r4.2.2.1.1 = r3.1.2.2.1.1)) && ((decide (r4.2.2.1.2.1 = r3.1.2.2.1.2.1)) && ((decide (r4.2.2.1.2.2.1 = r3.1.2.2.1.2.2.1)) && ((r4.2.2.1.2.2.2 == r3.1.2.2.1.2.2.2) && ((decide (r4.2.2.2.1.1 = r3.1.2.2.2.1.1)) && ((decide (r4.2.2.2.1.2 = r3.1.2.2.2.1.2)) && ((decide (r4.2.2.2.2.1 = r3.1.2.2.2.2.1)) && ((decide (r4.2.2.2.2.2.1 = r3.1.2.2.2.2.2.1)) && (decide (r4.2.2.2.2.2.2 = r3.1.2.2.2.2.2.2))))))))))))))))) (
  some (.inr false)) (
  l14_FoldTiers_l29 n f (y2.1, (y2.2.1, (y2.2.2.1, (y2.2.2.2.1, (y2.2.2.2.2.1, (y2.2.2.2.2.2.2.2.1, (y2.2.2.2.2.2.2.2.2.1, (y2.2.2.2.2.2.2.2.2.2.1, ((IntKind.wrap .i64 (y2.2.2.2.2.2.2.2.2.2.2.1 + (1 : Int))), ()))))))))))) (
  tif ((decide (y2.2.2.2.2.1 = (1 : Int)))) (
  obind (tier_Get n y2.2.2.1.2.1 y2.2.2.2.2.2.1) fun r5 =>
  tif ((!((decide (r5.1 = r3.1.1)) && ((decide (r5.2.1.1 = r3.1.2.1.1)) && ((decide (r5.2.1.2.1 = r3.1.2.1.2.1)) && ((decide (r5.2.1.2.2.1 = r3.1.2.1.2.2.1)) && ((r5.2.1.2.2.2 == r3.1.2.1.2.2.2) && ((decide (r5.2.2.1.1 = r3.1.2.2.1.1)) && ((decide (r5.2.2.1.2.1 = r3.1.2.2.1.2.1)) && ((decide (r5.2.2.1.2.2.1 = r3.1.2.2.1.2.2.1)) && ((r5.2.2.1.2.2.2 == r3.1.2.2.1.2.2.2) && ((decide (r5.2.2.2.1.1 = r3.1.2.2.2.1.1)) && ((decide (r5.2.2.2.1.2 = r3.1.2.2.2.1.2)) && ((decide (r5.2.2.2.2.1 = r3.1.2.2.2.2.1)) && ((decide (r5.2.2.2.2.2.1 = r3.1.2.2.2.2.2.1)) && (decide (r5.2.2.2.2.2.2 = r3.1.2.2.2.2.2.2))))))))))))))))) (
  some (.inr false)) (
  l14_FoldTiers_l29 n f (y2.1, (y2.2.1, (y2.2.2.1, (y2.2.2.2.1, (y2.2.2.2.2.1, (y2.2.2.2.2.2.2.2.1, (y2.2.2.2.2.2.2.2.2.1, (y2.2.2.2.2.2.2.2.2.2.1, ((IntKind.wrap .i64 (y2.2.2.2.2.2.2.2.2.2.2.1 + (1 : Int))), ()))))))))))) (
  tif ((decide (y2.2.2.2.2.1 = (2 : Int)))) (
  obind (tier_Get n y2.2.2.1.2.2 y2.2.2.2.2.2.1) fun r6 =>
  tif ((!((decide (r6.1 = r3.1.1)) && ((decide (r6.2.1.1 = r3.1.2.1.1)) && ((decide (r6.2.1.2.1 = r3.1.2.1.2.1)) && ((decide (r6.2.1.2.2.1 = r3.1.2.1.2.2.1)) && ((r6.2.1.2.2.2 == r3.1.2.1.2.2.2) && ((decide (r6.2.2.1.1 = r3.1.2.2.1.1)) && ((decide (r6.2.2.1.2.1 = r3.1.2.2.1.2.1)) && ((decide (r6.2.2.1.2.2.1 = r3.1.2.2.1.2.2.1)) && ((r6.2.2.1.2.2.2 == r3.1.2.2.1.2.2.2) && ((decide (r6.2.2.2.1.1 = r3.1.2.2.2.1.1)) && ((decide (r6.2.2.2.1.2 = r3.1.2.2.2.1.2)) && ((decide (r6.2.2.2.2.1 = r3.1.2.2.2.2.1)) && ((decide (r6.2.2.2.2.2.1 = r3.1.2.2.2.2.2.1)) && (decide (r6.2.2.2.2.2.2 = r3.1.2.2.2.2.2.2))))))))))))))))) (
  some (.inr false)) (
  l14_FoldTiers_l29 n f (y2.1, (y2.2.1, (y2.2.2.1, (y2.2.2.2.1, (y2.2.2.2.2.1, (y2.2.2.2.2.2.2.2.1, (y2.2.2.2.2.2.2.2.2.1, (y2.2.2.2.2.2.2.2.2.2.1, ((IntKind.wrap .i64 (y2.2.2.2.2.2.2.2.2.2.2.1 + (1 : Int))), ()))))))))))) (
  none))))) (fun z7 =>
  some (.inr z7)) r1)))))) (
  some (.inl (l, (c_, (s, (last, (s110, ()))))))) := by kernel_rfl
theorem l14_FoldTiers_l29_zero (n : Nat) (x : ((List TEvent) × (TConfig × (((List TSlot) × ((List TSlot) × (List TSlot))) × (Int × (Int × (Int × ((List TEvent) × (Int × (Int × Unit)))))))))) : l14_FoldTiers_l29 n 0 x = none := by kernel_rfl
theorem l14_FoldTiers_l35_eq (n f : Nat) (l : (List TEvent)) (c_ : TConfig) (s : ((List TSlot) × ((List TSlot) × (List TSlot)))) (last : Int) (k : Int) (i_ : Int) (some_ : (List TEvent)) (s110 : Int) (s113 : (List TEvent)) (s114 : Int) (s115 : Int) (s149 : (List TEvent)) (s150 : Int) (s151 : Int) : l14_FoldTiers_l35 n (f + 1) (l, c_, s, last, k, i_, some_, s110, s113, s114, s115, s149, s150, s151, ()) =
  tif ((decide (s151 < s150))) (
  obind (at? s149 s151) fun r0 =>
  tif ((decide (k = (0 : Int)))) (
  tif ((decide (c_.2.1.1 = (0 : Int)))) (
  none) (
  tif ((decide ((IntKind.wrap .i64 (Int.tdiv r0.1 c_.2.1.1)) = i_))) (
  tif ((decide ((((List.length some_) + 1) * 32) ≤ 140737488355328))) (
  l14_FoldTiers_l35 n f (l, (c_, (s, (last, (k, (i_, ((some_ ++ (r0 :: [])), (s110, (s113, (s114, (s115, (s149, (s150, ((IntKind.wrap .i64 (s151 + (1 : Int))), ()))))))))))))))) (
  none)) (
  l14_FoldTiers_l35 n f (l, (c_, (s, (last, (k, (i_, (some_, (s110, (s113, (s114, (s115, (s149, (s150, ((IntKind.wrap .i64 (s151 + (1 : Int))), ()))))))))))))))))) (
  tif ((decide (k = (1 : Int)))) (
  tif ((decide (c_.2.1.2.1 = (0 : Int)))) (
  none) (
  tif ((decide ((IntKind.wrap .i64 (Int.tdiv r0.1 c_.2.1.2.1)) = i_))) (
  tif ((decide ((((List.length some_) + 1) * 32) ≤ 140737488355328))) (
  l14_FoldTiers_l35 n f (l, (c_, (s, (last, (k, (i_, ((some_ ++ (r0 :: [])), (s110, (s113, (s114, (s115, (s149, (s150, ((IntKind.wrap .i64 (s151 + (1 : Int))), ()))))))))))))))) (
  none)) (
  l14_FoldTiers_l35 n f (l, (c_, (s, (last, (k, (i_, (some_, (s110, (s113, (s114, (s115, (s149, (s150, ((IntKind.wrap .i64 (s151 + (1 : Int))), ()))))))))))))))))) (
  tif ((decide (k = (2 : Int)))) (
  tif ((decide (c_.2.1.2.2 = (0 : Int)))) (
  none) (
  tif ((decide ((IntKind.wrap .i64 (Int.tdiv r0.1 c_.2.1.2.2)) = i_))) (
  tif ((decide ((((List.length some_) + 1) * 32) ≤ 140737488355328))) (
  l14_FoldTiers_l35 n f (l, (c_, (s, (last, (k, (i_, ((some_ ++ (r0 :: [])), (s110, (s113, (s114, (s115, (s149, (s150, ((IntKind.wrap .i64 (s151 + (1 : Int))), ()))))))))))))))) (
  none)) (
  l14_FoldTiers_l35 n f (l, (c_, (s, (last, (k, (i_, (some_, (s110, (s113, (s114, (s115, (s149, (s150, ((IntKind.wrap .i64 (s151 + (1 : Int))), ()))))))))))))))))) (
  none)))) (
  some (.inl (l, (c_, (s, (last, (k, (i_, (some_, (s110, (s113, (s114, (s115, ()))))))))))))) := by kernel_rfl
theorem l14_FoldTiers_l35_zero (n : Nat) (x : ((List TEvent) × (TConfig × (((List TSlot) × ((List TSlot) × (List TSlot))) × (Int × (Int × (Int × ((List TEvent) × (Int × ((List TEvent) × (Int × (Int × ((List TEvent) × (Int × (Int × Unit))))))))))))))) : l14_FoldTiers_l35 n 0 x = none := by kernel_rfl

theorem r13_Check_eq (n : Nat) (l : (List TSlot)) (w : Int) : r13_Check (n + 1) l w =
  tif ((decide ((((List.length l) : Nat) : Int) < (1 : Int)))) (
  some (2 : Int)) (
  tif ((decide ((4096 : Int) < (((List.length l) : Nat) : Int)))) (
  some (2 : Int)) (
  tif ((decide (w < (1 : Int)))) (
  some (2 : Int)) (
  tif ((decide ((1099511627776 : Int) < w))) (
  some (2 : Int)) (
  obind (r13_Check_l4 n loopFuel (l, (w, (l, ((((List.length l) : Nat) : Int), ((0 : Int), ())))))) fun r0 =>
  selim (fun y1 =>
  some (0 : Int)) (fun z2 =>
  some z2) r0)))) := by kernel_rfl
theorem r13_Check_l4_eq (n f : Nat) (l : (List TSlot)) (w : Int) (s23 : (List TSlot)) (s24 : Int) (s25 : Int) : r13_Check_l4 n (f + 1) (l, w, s23, s24, s25, ()) =
  tif ((decide (s25 < s24))) (
  obind (at? s23 s25) fun r0 =>
  tif (((decide (r0.1 = (0 : Int))) && ((decide (r0.2.1 = (0 : Int))) && ((decide (r0.2.2.1.1 = (0 : Int))) && ((decide (r0.2.2.1.2.1 = (0 : Int))) && ((decide (r0.2.2.1.2.2.1 = (0 : Int))) && ((r0.2.2.1.2.2.2 == false) && ((decide (r0.2.2.2.1.1 = (0 : Int))) && ((decide (r0.2.2.2.1.2.1 = (0 : Int))) && ((decide (r0.2.2.2.1.2.2.1 = (0 : Int))) && ((r0.2.2.2.1.2.2.2 == false) && ((decide (r0.2.2.2.2.1.1 = (0 : Int))) && ((decide (r0.2.2.2.2.1.2 = (0 : Int))) && ((decide (r0.2.2.2.2.2.1 = (0 : Int))) && ((decide (r0.2.2.2.2.2.2.1 = (0 : Int))) && (decide (r0.2.2.2.2.2.2.2 = (0 : Int)))))))))))))))))) (
  r13_Check_l4 n f (l, (w, (s23, (s24, ((IntKind.wrap .i64 (s25 + (1 : Int))), ())))))) (
  obind (r13_Fits n r0.2 w r0.1) fun r1 =>
  tif ((!r1)) (
  some (.inr (2 : Int))) (
  obind (r09_Slot n r0.1 (((List.length l) : Nat) : Int)) fun r2 =>
  tif ((!(decide (r2 = s25)))) (
  some (.inr (2 : Int))) (
  r13_Check_l4 n f (l, (w, (s23, (s24, ((IntKind.wrap .i64 (s25 + (1 : Int))), ()))))))))) (
  some (.inl ())) := by kernel_rfl
theorem r13_Check_l4_zero (n : Nat) (x : ((List TSlot) × (Int × ((List TSlot) × (Int × (Int × Unit)))))) : r13_Check_l4 n 0 x = none := by kernel_rfl

theorem tier_Fold_eq (n : Nat) (l : (List TSlot)) (i : Int) (k : Int) : tier_Fold (n + 1) l i k =
  tif ((decide (i < (0 : Int)))) (
  some (((0 : Int), (((0 : Int), ((0 : Int), ((0 : Int), false))), (((0 : Int), ((0 : Int), ((0 : Int), false))), (((0 : Int), (0 : Int)), ((0 : Int), ((0 : Int), (0 : Int))))))), (1 : Int))) (
  tif ((decide (k < i))) (
  some (((0 : Int), (((0 : Int), ((0 : Int), ((0 : Int), false))), (((0 : Int), ((0 : Int), ((0 : Int), false))), (((0 : Int), (0 : Int)), ((0 : Int), ((0 : Int), (0 : Int))))))), (1 : Int))) (
  obind (tier_All n l) fun r0 =>
  obind (tier_Fold_l5 n loopFuel (i, (k, (((0 : Int), (((0 : Int), ((0 : Int), ((0 : Int), false))), (((0 : Int), ((0 : Int), ((0 : Int), false))), (((0 : Int), (0 : Int)), ((0 : Int), ((0 : Int), (0 : Int))))))), ([], (r0, ((((List.length r0) : Nat) : Int), ((0 : Int), ())))))))) fun r1 =>
  selim (fun y2 =>
  obind (cell_All n y2.2.1) fun r3 =>
  some r3) (fun z4 =>
  some z4) r1)) := by kernel_rfl
theorem tier_Fold_l5_eq (n f : Nat) (i : Int) (k : Int) (s6 : TCell) (cells : (List TCell)) (s20 : (List TSlot)) (s21 : Int) (s22 : Int) : tier_Fold_l5 n (f + 1) (i, k, s6, cells, s20, s21, s22, ()) =
  tif ((decide (s22 < s21))) (
  obind (at? s20 s22) fun r0 =>
  tif ((decide (i ≤ r0.1))) (
  tif ((decide (r0.1 < k))) (
  tif ((decide ((((List.length cells) + 1) * 112) ≤ 140737488355328))) (
  tier_Fold_l5 n f (i, (k, (s6, ((cells ++ (r0.2 :: [])), (s20, (s21, ((IntKind.wrap .i64 (s22 + (1 : Int))), ())))))))) (
  none)) (
  tier_Fold_l5 n f (i, (k, (s6, (cells, (s20, (s21, ((IntKind.wrap .i64 (s22 + (1 : Int))), ()))))))))) (
  tier_Fold_l5 n f (i, (k, (s6, (cells, (s20, (s21, ((IntKind.wrap .i64 (s22 + (1 : Int))), ()))))))))) (
  some (.inl (s6, (cells, ())))) := by kernel_rfl
theorem tier_Fold_l5_zero (n : Nat) (x : (Int × (Int × (TCell × ((List TCell) × ((List TSlot) × (Int × (Int × Unit)))))))) : tier_Fold_l5 n 0 x = none := by kernel_rfl

theorem r13_Fold_eq (n : Nat) (l : (List TSlot)) (i : Int) (k : Int) : r13_Fold (n + 1) l i k =
  tif ((decide (i < (0 : Int)))) (
  some (((0 : Int), (((0 : Int), ((0 : Int), ((0 : Int), false))), (((0 : Int), ((0 : Int), ((0 : Int), false))), (((0 : Int), (0 : Int)), ((0 : Int), ((0 : Int), (0 : Int))))))), (1 : Int))) (
  tif ((decide (k < i))) (
  some (((0 : Int), (((0 : Int), ((0 : Int), ((0 : Int), false))), (((0 : Int), ((0 : Int), ((0 : Int), false))), (((0 : Int), (0 : Int)), ((0 : Int), ((0 : Int), (0 : Int))))))), (1 : Int))) (
  obind (r13_All n l) fun r0 =>
  obind (r13_Fold_l5 n loopFuel (l, (i, (k, (((0 : Int), (((0 : Int), ((0 : Int), ((0 : Int), false))), (((0 : Int), ((0 : Int), ((0 : Int), false))), (((0 : Int), (0 : Int)), ((0 : Int), ((0 : Int), (0 : Int))))))), ([], (r0, ((((List.length r0) : Nat) : Int), ((0 : Int), ()))))))))) fun r1 =>
  selim (fun y2 =>
  obind (r08_All n y2.2.1) fun r3 =>
  some r3) (fun z4 =>
  some z4) r1)) := by kernel_rfl
theorem r13_Fold_l5_eq (n f : Nat) (l : (List TSlot)) (i : Int) (k : Int) (s6 : TCell) (cells : (List TCell)) (s20 : (List TSlot)) (s21 : Int) (s22 : Int) : r13_Fold_l5 n (f + 1) (l, i, k, s6, cells, s20, s21, s22, ()) =
  tif ((decide (s22 < s21))) (
  obind (at? s20 s22) fun r0 =>
  tif ((decide (i ≤ r0.1))) (
  tif ((decide (r0.1 < k))) (
  obind (r13_Get n l r0.1) fun r1 =>
  tif (((decide (r1.1 = r0.2.1)) && ((decide (r1.2.1.1 = r0.2.2.1.1)) && ((decide (r1.2.1.2.1 = r0.2.2.1.2.1)) && ((decide (r1.2.1.2.2.1 = r0.2.2.1.2.2.1)) && ((r1.2.1.2.2.2 == r0.2.2.1.2.2.2) && ((decide (r1.2.2.1.1 = r0.2.2.2.1.1)) && ((decide (r1.2.2.1.2.1 = r0.2.2.2.1.2.1)) && ((decide (r1.2.2.1.2.2.1 = r0.2.2.2.1.2.2.1)) && ((r1.2.2.1.2.2.2 == r0.2.2.2.1.2.2.2) && ((decide (r1.2.2.2.1.1 = r0.2.2.2.2.1.1)) && ((decide (r1.2.2.2.1.2 = r0.2.2.2.2.1.2)) && ((decide (r1.2.2.2.2.1 = r0.2.2.2.2.2.1)) && ((decide (r1.2.2.2.2.2.1 = r0.2.2.2.2.2.2.1)) && (decide (r1.2.2.2.2.2.2 = r0.2.2.2.2.2.2.2)))))))))))))))) (
  tif ((decide ((((List.length cells) + 1) * 112) ≤ 140737488355328))) (
  r13_Fold_l5 n f (l, (i, (k, (s6, ((cells ++ (r0.2 :: [])), (s20, (s21, ((IntKind.wrap .i64 (s22 + (1 : Int))), ()))))))))) (
  none)) (
  r13_Fold_l5 n f (l, (i, (k, (s6, (cells, (s20, (s21, ((IntKind.wrap .i64 (s22 + (1 : Int))), ())))))))))) (
  r13_Fold_l5 n f (l, (i, (k, (s6, (cells, (s20, (s21, ((IntKind.wrap .i64 (s22 + (1 : Int))), ())))))))))) (
  r13_Fold_l5 n f (l, (i, (k, (s6, (cells, (s20, (s21, ((IntKind.wrap .i64 (s22 + (1 : Int))), ())))))))))) (
  some (.inl (s6, (cells, ())))) := by kernel_rfl
theorem r13_Fold_l5_zero (n : Nat) (x : ((List TSlot) × (Int × (Int × (TCell × ((List TCell) × ((List TSlot) × (Int × (Int × Unit))))))))) : r13_Fold_l5 n 0 x = none := by kernel_rfl

theorem cell_Of_eq (n : Nat) (l : (List TEvent)) : cell_Of (n + 1) l =
  obind (cell_Of_l2 n loopFuel (l, (((0 : Int), (((0 : Int), ((0 : Int), ((0 : Int), false))), (((0 : Int), ((0 : Int), ((0 : Int), false))), (((0 : Int), (0 : Int)), ((0 : Int), ((0 : Int), (0 : Int))))))), (l, ((((List.length l) : Nat) : Int), ((0 : Int), ())))))) fun r0 =>
  selim (fun y1 =>
  obind (cell_Of_l10 n loopFuel (y1.2.1, (((0 : Int), (((0 : Int), ((0 : Int), ((0 : Int), false))), (((0 : Int), ((0 : Int), ((0 : Int), false))), (((0 : Int), (0 : Int)), ((0 : Int), ((0 : Int), (0 : Int))))))), (y1.1, ((((List.length y1.1) : Nat) : Int), ((0 : Int), ())))))) fun r2 =>
  selim (fun y3 =>
  some (y3.2.1, (0 : Int))) (fun z4 =>
  some z4) r2) (fun z5 =>
  some z5) r0 := by kernel_rfl
theorem cell_Of_l2_eq (n f : Nat) (l : (List TEvent)) (s2 : TCell) (s12 : (List TEvent)) (s13 : Int) (s14 : Int) : cell_Of_l2 n (f + 1) (l, s2, s12, s13, s14, ()) =
  tif ((decide (s14 < s13))) (
  obind (at? s12 s14) fun r0 =>
  obind (event_Check n r0) fun r1 =>
  tif ((!(decide (r1 = (0 : Int))))) (
  some (.inr (((0 : Int), (((0 : Int), ((0 : Int), ((0 : Int), false))), (((0 : Int), ((0 : Int), ((0 : Int), false))), (((0 : Int), (0 : Int)), ((0 : Int), ((0 : Int), (0 : Int))))))), r1))) (
  cell_Of_l2 n f (l, (s2, (s12, (s13, ((IntKind.wrap .i64 (s14 + (1 : Int))), ()))))))) (
  some (.inl (l, (s2, ())))) := by kernel_rfl
theorem cell_Of_l2_zero (n : Nat) (x : ((List TEvent) × (TCell × ((List TEvent) × (Int × (Int × Unit)))))) : cell_Of_l2 n 0 x = none := by kernel_rfl
theorem cell_Of_l10_eq (n f : Nat) (s2 : TCell) (c : TCell) (s25 : (List TEvent)) (s26 : Int) (s27 : Int) : cell_Of_l10 n (f + 1) (s2, c, s25, s26, s27, ()) =
  tif ((decide (s27 < s26))) (
  obind (at? s25 s27) fun r0 =>
  obind (cell_one n r0) fun r1 =>
  obind (cell_Merge n c r1) fun r2 =>
  tif ((!(decide (r2.2 = (0 : Int))))) (
  some (.inr (((0 : Int), (((0 : Int), ((0 : Int), ((0 : Int), false))), (((0 : Int), ((0 : Int), ((0 : Int), false))), (((0 : Int), (0 : Int)), ((0 : Int), ((0 : Int), (0 : Int))))))), r2.2))) (
  cell_Of_l10 n f (s2, (r2.1, (s25, (s26, ((IntKind.wrap .i64 (s27 + (1 : Int))), ()))))))) (
  some (.inl (s2, (c, ())))) := by kernel_rfl
theorem cell_Of_l10_zero (n : Nat) (x : (TCell × (TCell × ((List TEvent) × (Int × (Int × Unit)))))) : cell_Of_l10 n 0 x = none := by kernel_rfl

theorem tier_New_eq (n : Nat) (n_ : Int) : tier_New (n + 1) n_ =
  tif ((decide (n_ < (1 : Int)))) (
  some []) (
  tif ((decide ((4096 : Int) < n_))) (
  some []) (
  tif (((decide ((0 : Int) ≤ n_)) && ((decide (n_ ≤ n_)) && (decide ((n_ * (120 : Int)) ≤ (140737488355328 : Int)))))) (
  some (List.replicate (Int.toNat n_) ((0 : Int), ((0 : Int), (((0 : Int), ((0 : Int), ((0 : Int), false))), (((0 : Int), ((0 : Int), ((0 : Int), false))), (((0 : Int), (0 : Int)), ((0 : Int), ((0 : Int), (0 : Int)))))))))) (
  none))) := by kernel_rfl

theorem cell_Add_eq (n : Nat) (c : TCell) (e : TEvent) : cell_Add (n + 1) c e =
  obind (event_Check n e) fun r0 =>
  tif ((!(decide (r0 = (0 : Int))))) (
  some (((0 : Int), (((0 : Int), ((0 : Int), ((0 : Int), false))), (((0 : Int), ((0 : Int), ((0 : Int), false))), (((0 : Int), (0 : Int)), ((0 : Int), ((0 : Int), (0 : Int))))))), r0)) (
  obind (cell_one n e) fun r1 =>
  obind (cell_Merge n c r1) fun r2 =>
  some r2) := by kernel_rfl

theorem tier_Get_eq (n : Nat) (l : (List TSlot)) (i : Int) : tier_Get (n + 1) l i =
  tif ((decide (i < (0 : Int)))) (
  some ((0 : Int), (((0 : Int), ((0 : Int), ((0 : Int), false))), (((0 : Int), ((0 : Int), ((0 : Int), false))), (((0 : Int), (0 : Int)), ((0 : Int), ((0 : Int), (0 : Int)))))))) (
  tif ((decide ((((List.length l) : Nat) : Int) = (0 : Int)))) (
  some ((0 : Int), (((0 : Int), ((0 : Int), ((0 : Int), false))), (((0 : Int), ((0 : Int), ((0 : Int), false))), (((0 : Int), (0 : Int)), ((0 : Int), ((0 : Int), (0 : Int)))))))) (
  obind (window_Slot n i (((List.length l) : Nat) : Int)) fun r0 =>
  obind (at? l r0) fun r1 =>
  tif ((decide (r1.1 = i))) (
  some r1.2) (
  some ((0 : Int), (((0 : Int), ((0 : Int), ((0 : Int), false))), (((0 : Int), ((0 : Int), ((0 : Int), false))), (((0 : Int), (0 : Int)), ((0 : Int), ((0 : Int), (0 : Int)))))))))) := by kernel_rfl

theorem tier_Put_eq (n : Nat) (l : (List TSlot)) (w : Int) (i : Int) (c : TCell) : tier_Put (n + 1) l w i c =
  obind (tier_Check n l w) fun r0 =>
  tif ((!(decide (r0 = (0 : Int))))) (
  some ([], (2 : Int))) (
  obind (tier_Fits n c w i) fun r1 =>
  tif ((!r1)) (
  some ([], (2 : Int))) (
  obind (slices_Clone_Slot n l) fun r2 =>
  obind (window_Slot n i (((List.length r2) : Nat) : Int)) fun r3 =>
  obind (at? r2 r3) fun r4 =>
  obind ((r2)[(Int.toNat r3)]?) fun r5 =>
  some ((List.set r2 (Int.toNat r3) (i, c)), (0 : Int)))) := by kernel_rfl

theorem tier_Check_eq (n : Nat) (l : (List TSlot)) (w : Int) : tier_Check (n + 1) l w =
  tif ((decide ((((List.length l) : Nat) : Int) = (0 : Int)))) (
  some (2 : Int)) (
  tif ((decide ((4096 : Int) < (((List.length l) : Nat) : Int)))) (
  some (2 : Int)) (
  tif ((decide (w < (1 : Int)))) (
  some (2 : Int)) (
  tif ((decide ((1099511627776 : Int) < w))) (
  some (2 : Int)) (
  obind (tier_Check_l4 n loopFuel (l, (w, (l, ((((List.length l) : Nat) : Int), ((0 : Int), ())))))) fun r0 =>
  selim (fun y1 =>
  some (0 : Int)) (fun z2 =>
  some z2) r0)))) := by kernel_rfl
theorem tier_Check_l4_eq (n f : Nat) (l : (List TSlot)) (w : Int) (s23 : (List TSlot)) (s24 : Int) (s25 : Int) : tier_Check_l4 n (f + 1) (l, w, s23, s24, s25, ()) =
  tif ((decide (s25 < s24))) (
  obind (at? s23 s25) fun r0 =>
  obind (tier_none n r0) fun r1 =>
  tif ((!r1)) (
  obind (window_Slot n r0.1 (((List.length l) : Nat) : Int)) fun r2 =>
  tif ((!(decide (r2 = s25)))) (
  some (.inr (2 : Int))) (
  obind (tier_Fits n r0.2 w r0.1) fun r3 =>
  tif ((!r3)) (
  some (.inr (2 : Int))) (
  tier_Check_l4 n f (l, (w, (s23, (s24, ((IntKind.wrap .i64 (s25 + (1 : Int))), ())))))))) (
  tier_Check_l4 n f (l, (w, (s23, (s24, ((IntKind.wrap .i64 (s25 + (1 : Int))), ()))))))) (
  some (.inl ())) := by kernel_rfl
theorem tier_Check_l4_zero (n : Nat) (x : ((List TSlot) × (Int × ((List TSlot) × (Int × (Int × Unit)))))) : tier_Check_l4 n 0 x = none := by kernel_rfl

theorem l14_Small_eq (n : Nat) (s : ((List TSlot) × ((List TSlot) × (List TSlot)))) : l14_Small (n + 1) s =
  obind (l14_Small_l2 n loopFuel (s, ((0 : Int), ()))) fun r0 =>
  selim (fun y1 =>
  some (1 : Int)) (fun z2 =>
  some z2) r0 := by kernel_rfl
theorem l14_Small_l2_eq (n f : Nat) (s_ : ((List TSlot) × ((List TSlot) × (List TSlot)))) (s4 : Int) : l14_Small_l2 n (f + 1) (s_, s4, ()) =
  tif ((decide (s4 < (3 : Int)))) (
  tif ((decide (s4 = (0 : Int)))) (
  tif ((decide ((40 : Int) < (((List.length s_.1) : Nat) : Int)))) (
  some (.inr (0 : Int))) (
  l14_Small_l2 n f (s_, ((IntKind.wrap .i64 (s4 + (1 : Int))), ())))) (
  tif ((decide (s4 = (1 : Int)))) (
  tif ((decide ((40 : Int) < (((List.length s_.2.1) : Nat) : Int)))) (
  some (.inr (0 : Int))) (
  l14_Small_l2 n f (s_, ((IntKind.wrap .i64 (s4 + (1 : Int))), ())))) (
  tif ((decide (s4 = (2 : Int)))) (
  tif ((decide ((40 : Int) < (((List.length s_.2.2) : Nat) : Int)))) (
  some (.inr (0 : Int))) (
  l14_Small_l2 n f (s_, ((IntKind.wrap .i64 (s4 + (1 : Int))), ())))) (
  none)))) (
  some (.inl ())) := by kernel_rfl
theorem l14_Small_l2_zero (n : Nat) (x : (((List TSlot) × ((List TSlot) × (List TSlot))) × (Int × Unit))) : l14_Small_l2 n 0 x = none := by kernel_rfl

theorem fold_Made_eq (n : Nat) (c : TConfig) (s : ((List TSlot) × ((List TSlot) × (List TSlot)))) (k : Int) (i : Int) : fold_Made (n + 1) c s k i =
  obind (fold_open n c s) fun r0 =>
  oelim (r0.1) (
  tif ((!(decide (r0.2 = (0 : Int))))) (
  some (((0 : Int), (((0 : Int), ((0 : Int), ((0 : Int), false))), (((0 : Int), ((0 : Int), ((0 : Int), false))), (((0 : Int), (0 : Int)), ((0 : Int), ((0 : Int), (0 : Int))))))), r0.2)) (
  tif ((decide (k < (1 : Int)))) (
  some (((0 : Int), (((0 : Int), ((0 : Int), ((0 : Int), false))), (((0 : Int), ((0 : Int), ((0 : Int), false))), (((0 : Int), (0 : Int)), ((0 : Int), ((0 : Int), (0 : Int))))))), (1 : Int))) (
  tif ((decide ((3 : Int) ≤ k))) (
  some (((0 : Int), (((0 : Int), ((0 : Int), ((0 : Int), false))), (((0 : Int), ((0 : Int), ((0 : Int), false))), (((0 : Int), (0 : Int)), ((0 : Int), ((0 : Int), (0 : Int))))))), (1 : Int))) (
  none)))) fun r1 =>
  tif ((!(decide (r0.2 = (0 : Int))))) (
  some (((0 : Int), (((0 : Int), ((0 : Int), ((0 : Int), false))), (((0 : Int), ((0 : Int), ((0 : Int), false))), (((0 : Int), (0 : Int)), ((0 : Int), ((0 : Int), (0 : Int))))))), r0.2)) (
  tif ((decide (k < (1 : Int)))) (
  some (((0 : Int), (((0 : Int), ((0 : Int), ((0 : Int), false))), (((0 : Int), ((0 : Int), ((0 : Int), false))), (((0 : Int), (0 : Int)), ((0 : Int), ((0 : Int), (0 : Int))))))), (1 : Int))) (
  tif ((decide ((3 : Int) ≤ k))) (
  some (((0 : Int), (((0 : Int), ((0 : Int), ((0 : Int), false))), (((0 : Int), ((0 : Int), ((0 : Int), false))), (((0 : Int), (0 : Int)), ((0 : Int), ((0 : Int), (0 : Int))))))), (1 : Int))) (
  obind (fold_stack_begins n r1 k i) fun r2 =>
  tif ((!r2.1)) (
  some (((0 : Int), (((0 : Int), ((0 : Int), ((0 : Int), false))), (((0 : Int), ((0 : Int), ((0 : Int), false))), (((0 : Int), (0 : Int)), ((0 : Int), ((0 : Int), (0 : Int))))))), (1 : Int))) (
  obind (fold_stack_made n r2.2 k i) fun r3 =>
  some (r3.1, r3.2.1))))) := by kernel_rfl

theorem r14_Made_eq (n : Nat) (c : TConfig) (s : ((List TSlot) × ((List TSlot) × (List TSlot)))) (k : Int) (i : Int) : r14_Made (n + 1) c s k i =
  obind (r14_Check n c s) fun r0 =>
  tif ((!(decide (r0 = (0 : Int))))) (
  some (((0 : Int), (((0 : Int), ((0 : Int), ((0 : Int), false))), (((0 : Int), ((0 : Int), ((0 : Int), false))), (((0 : Int), (0 : Int)), ((0 : Int), ((0 : Int), (0 : Int))))))), (2 : Int))) (
  tif ((decide (k < (1 : Int)))) (
  some (((0 : Int), (((0 : Int), ((0 : Int), ((0 : Int), false))), (((0 : Int), ((0 : Int), ((0 : Int), false))), (((0 : Int), (0 : Int)), ((0 : Int), ((0 : Int), (0 : Int))))))), (1 : Int))) (
  tif ((decide ((2 : Int) < k))) (
  some (((0 : Int), (((0 : Int), ((0 : Int), ((0 : Int), false))), (((0 : Int), ((0 : Int), ((0 : Int), false))), (((0 : Int), (0 : Int)), ((0 : Int), ((0 : Int), (0 : Int))))))), (1 : Int))) (
  tif ((decide (k = (0 : Int)))) (
  obind (r14_begins n i c.2.1.1) fun r1 =>
  tif ((!r1)) (
  some (((0 : Int), (((0 : Int), ((0 : Int), ((0 : Int), false))), (((0 : Int), ((0 : Int), ((0 : Int), false))), (((0 : Int), (0 : Int)), ((0 : Int), ((0 : Int), (0 : Int))))))), (1 : Int))) (
  obind (r14_made n c s k i) fun r2 =>
  some r2)) (
  tif ((decide (k = (1 : Int)))) (
  obind (r14_begins n i c.2.1.2.1) fun r3 =>
  tif ((!r3)) (
  some (((0 : Int), (((0 : Int), ((0 : Int), ((0 : Int), false))), (((0 : Int), ((0 : Int), ((0 : Int), false))), (((0 : Int), (0 : Int)), ((0 : Int), ((0 : Int), (0 : Int))))))), (1 : Int))) (
  obind (r14_made n c s k i) fun r4 =>
  some r4)) (
  tif ((decide (k = (2 : Int)))) (
  obind (r14_begins n i c.2.1.2.2) fun r5 =>
  tif ((!r5)) (
  some (((0 : Int), (((0 : Int), ((0 : Int), ((0 : Int), false))), (((0 : Int), ((0 : Int), ((0 : Int), false))), (((0 : Int), (0 : Int)), ((0 : Int), ((0 : Int), (0 : Int))))))), (1 : Int))) (
  obind (r14_made n c s k i) fun r6 =>
  some r6)) (
  none)))))) := by kernel_rfl

theorem fold_Up_eq (n : Nat) (c : TConfig) (s : ((List TSlot) × ((List TSlot) × (List TSlot)))) (i : Int) (j : Int) : fold_Up (n + 1) c s i j =
  obind (fold_open n c s) fun r0 =>
  oelim (r0.1) (
  tif ((!(decide (r0.2 = (0 : Int))))) (
  some (([], ([], [])), r0.2)) (
  tif ((decide (i < (0 : Int)))) (
  some (([], ([], [])), (1 : Int))) (
  tif ((decide (j < i))) (
  some (([], ([], [])), (1 : Int))) (
  none)))) fun r1 =>
  tif ((!(decide (r0.2 = (0 : Int))))) (
  some (([], ([], [])), r0.2)) (
  tif ((decide (i < (0 : Int)))) (
  some (([], ([], [])), (1 : Int))) (
  tif ((decide (j < i))) (
  some (([], ([], [])), (1 : Int))) (
  obind (fold_stack_begins n r1 (0 : Int) j) fun r2 =>
  tif ((!r2.1)) (
  some (([], ([], [])), (1 : Int))) (
  obind (fold_stack_up n r2.2 i j) fun r3 =>
  some (r3.2, (0 : Int)))))) := by kernel_rfl

theorem r14_Up_eq (n : Nat) (c : TConfig) (s : ((List TSlot) × ((List TSlot) × (List TSlot)))) (i : Int) (j : Int) : r14_Up (n + 1) c s i j =
  obind (r14_Check n c s) fun r0 =>
  tif ((!(decide (r0 = (0 : Int))))) (
  some (([], ([], [])), (2 : Int))) (
  tif ((decide (i < (0 : Int)))) (
  some (([], ([], [])), (1 : Int))) (
  tif ((decide (j < i))) (
  some (([], ([], [])), (1 : Int))) (
  obind (r14_begins n j c.2.1.1) fun r1 =>
  tif ((!r1)) (
  some (([], ([], [])), (1 : Int))) (
  obind (r14_up n c s i j) fun r2 =>
  some (r2, (0 : Int)))))) := by kernel_rfl

theorem fold_Close_eq (n : Nat) (c : TConfig) (s : ((List TSlot) × ((List TSlot) × (List TSlot)))) (was : TSlot) (j : Int) : fold_Close (n + 1) c s was j =
  obind (fold_open n c s) fun r0 =>
  oelim (r0.1) (
  tif ((!(decide (r0.2 = (0 : Int))))) (
  some (([], ([], [])), r0.2)) (
  tif ((!((decide (was.1 = (0 : Int))) && ((decide (was.2.1 = (0 : Int))) && ((decide (was.2.2.1.1 = (0 : Int))) && ((decide (was.2.2.1.2.1 = (0 : Int))) && ((decide (was.2.2.1.2.2.1 = (0 : Int))) && ((was.2.2.1.2.2.2 == false) && ((decide (was.2.2.2.1.1 = (0 : Int))) && ((decide (was.2.2.2.1.2.1 = (0 : Int))) && ((decide (was.2.2.2.1.2.2.1 = (0 : Int))) && ((was.2.2.2.1.2.2.2 == false) && ((decide (was.2.2.2.2.1.1 = (0 : Int))) && ((decide (was.2.2.2.2.1.2 = (0 : Int))) && ((decide (was.2.2.2.2.2.1 = (0 : Int))) && ((decide (was.2.2.2.2.2.2.1 = (0 : Int))) && (decide (was.2.2.2.2.2.2.2 = (0 : Int))))))))))))))))))) (
  obind (tier_Fits n was.2 c.2.1.1 was.1) fun r1 =>
  tif ((!r1)) (
  some (([], ([], [])), (2 : Int))) (
  tif (((decide (was.1 = (0 : Int))) && ((decide (was.2.1 = (0 : Int))) && ((decide (was.2.2.1.1 = (0 : Int))) && ((decide (was.2.2.1.2.1 = (0 : Int))) && ((decide (was.2.2.1.2.2.1 = (0 : Int))) && ((was.2.2.1.2.2.2 == false) && ((decide (was.2.2.2.1.1 = (0 : Int))) && ((decide (was.2.2.2.1.2.1 = (0 : Int))) && ((decide (was.2.2.2.1.2.2.1 = (0 : Int))) && ((was.2.2.2.1.2.2.2 == false) && ((decide (was.2.2.2.2.1.1 = (0 : Int))) && ((decide (was.2.2.2.2.1.2 = (0 : Int))) && ((decide (was.2.2.2.2.2.1 = (0 : Int))) && ((decide (was.2.2.2.2.2.2.1 = (0 : Int))) && (decide (was.2.2.2.2.2.2.2 = (0 : Int)))))))))))))))))) (
  some (s, (0 : Int))) (
  tif ((decide (was.1 = j))) (
  some (s, (0 : Int))) (
  tif ((decide (j < was.1))) (
  some (([], ([], [])), (1 : Int))) (
  none))))) (
  tif (((decide (was.1 = (0 : Int))) && ((decide (was.2.1 = (0 : Int))) && ((decide (was.2.2.1.1 = (0 : Int))) && ((decide (was.2.2.1.2.1 = (0 : Int))) && ((decide (was.2.2.1.2.2.1 = (0 : Int))) && ((was.2.2.1.2.2.2 == false) && ((decide (was.2.2.2.1.1 = (0 : Int))) && ((decide (was.2.2.2.1.2.1 = (0 : Int))) && ((decide (was.2.2.2.1.2.2.1 = (0 : Int))) && ((was.2.2.2.1.2.2.2 == false) && ((decide (was.2.2.2.2.1.1 = (0 : Int))) && ((decide (was.2.2.2.2.1.2 = (0 : Int))) && ((decide (was.2.2.2.2.2.1 = (0 : Int))) && ((decide (was.2.2.2.2.2.2.1 = (0 : Int))) && (decide (was.2.2.2.2.2.2.2 = (0 : Int)))))))))))))))))) (
  some (s, (0 : Int))) (
  tif ((decide (was.1 = j))) (
  some (s, (0 : Int))) (
  tif ((decide (j < was.1))) (
  some (([], ([], [])), (1 : Int))) (
  none)))))) fun r2 =>
  tif ((!(decide (r0.2 = (0 : Int))))) (
  some (([], ([], [])), r0.2)) (
  tif ((!((decide (was.1 = (0 : Int))) && ((decide (was.2.1 = (0 : Int))) && ((decide (was.2.2.1.1 = (0 : Int))) && ((decide (was.2.2.1.2.1 = (0 : Int))) && ((decide (was.2.2.1.2.2.1 = (0 : Int))) && ((was.2.2.1.2.2.2 == false) && ((decide (was.2.2.2.1.1 = (0 : Int))) && ((decide (was.2.2.2.1.2.1 = (0 : Int))) && ((decide (was.2.2.2.1.2.2.1 = (0 : Int))) && ((was.2.2.2.1.2.2.2 == false) && ((decide (was.2.2.2.2.1.1 = (0 : Int))) && ((decide (was.2.2.2.2.1.2 = (0 : Int))) && ((decide (was.2.2.2.2.2.1 = (0 : Int))) && ((decide (was.2.2.2.2.2.2.1 = (0 : Int))) && (decide (was.2.2.2.2.2.2.2 = (0 : Int))))))))))))))))))) (
  obind (tier_Fits n was.2 c.2.1.1 was.1) fun r3 =>
  tif ((!r3)) (
  some (([], ([], [])), (2 : Int))) (
  tif (((decide (was.1 = (0 : Int))) && ((decide (was.2.1 = (0 : Int))) && ((decide (was.2.2.1.1 = (0 : Int))) && ((decide (was.2.2.1.2.1 = (0 : Int))) && ((decide (was.2.2.1.2.2.1 = (0 : Int))) && ((was.2.2.1.2.2.2 == false) && ((decide (was.2.2.2.1.1 = (0 : Int))) && ((decide (was.2.2.2.1.2.1 = (0 : Int))) && ((decide (was.2.2.2.1.2.2.1 = (0 : Int))) && ((was.2.2.2.1.2.2.2 == false) && ((decide (was.2.2.2.2.1.1 = (0 : Int))) && ((decide (was.2.2.2.2.1.2 = (0 : Int))) && ((decide (was.2.2.2.2.2.1 = (0 : Int))) && ((decide (was.2.2.2.2.2.2.1 = (0 : Int))) && (decide (was.2.2.2.2.2.2.2 = (0 : Int)))))))))))))))))) (
  some (s, (0 : Int))) (
  tif ((decide (was.1 = j))) (
  some (s, (0 : Int))) (
  tif ((decide (j < was.1))) (
  some (([], ([], [])), (1 : Int))) (
  obind (fold_stack_begins n r2 (0 : Int) j) fun r4 =>
  tif ((!r4.1)) (
  some (([], ([], [])), (1 : Int))) (
  obind (fold_stack_put n r4.2 (0 : Int) was.1 was.2) fun r5 =>
  tif ((!(decide (r5.1 = (0 : Int))))) (
  some (([], ([], [])), r5.1)) (
  obind (fold_stack_up n r5.2 was.1 j) fun r6 =>
  some (r6.2, (0 : Int))))))))) (
  tif (((decide (was.1 = (0 : Int))) && ((decide (was.2.1 = (0 : Int))) && ((decide (was.2.2.1.1 = (0 : Int))) && ((decide (was.2.2.1.2.1 = (0 : Int))) && ((decide (was.2.2.1.2.2.1 = (0 : Int))) && ((was.2.2.1.2.2.2 == false) && ((decide (was.2.2.2.1.1 = (0 : Int))) && ((decide (was.2.2.2.1.2.1 = (0 : Int))) && ((decide (was.2.2.2.1.2.2.1 = (0 : Int))) && ((was.2.2.2.1.2.2.2 == false) && ((decide (was.2.2.2.2.1.1 = (0 : Int))) && ((decide (was.2.2.2.2.1.2 = (0 : Int))) && ((decide (was.2.2.2.2.2.1 = (0 : Int))) && ((decide (was.2.2.2.2.2.2.1 = (0 : Int))) && (decide (was.2.2.2.2.2.2.2 = (0 : Int)))))))))))))))))) (
  some (s, (0 : Int))) (
  tif ((decide (was.1 = j))) (
  some (s, (0 : Int))) (
  tif ((decide (j < was.1))) (
  some (([], ([], [])), (1 : Int))) (
  obind (fold_stack_begins n r2 (0 : Int) j) fun r7 =>
  tif ((!r7.1)) (
  some (([], ([], [])), (1 : Int))) (
  obind (fold_stack_put n r7.2 (0 : Int) was.1 was.2) fun r8 =>
  tif ((!(decide (r8.1 = (0 : Int))))) (
  some (([], ([], [])), r8.1)) (
  obind (fold_stack_up n r8.2 was.1 j) fun r9 =>
  some (r9.2, (0 : Int))))))))) := by kernel_rfl

theorem r14_Close_eq (n : Nat) (c : TConfig) (s : ((List TSlot) × ((List TSlot) × (List TSlot)))) (open_ : TSlot) (j : Int) : r14_Close (n + 1) c s open_ j =
  obind (r14_Check n c s) fun r0 =>
  tif ((!(decide (r0 = (0 : Int))))) (
  some (([], ([], [])), (2 : Int))) (
  tif ((!((decide (open_.1 = (0 : Int))) && ((decide (open_.2.1 = (0 : Int))) && ((decide (open_.2.2.1.1 = (0 : Int))) && ((decide (open_.2.2.1.2.1 = (0 : Int))) && ((decide (open_.2.2.1.2.2.1 = (0 : Int))) && ((open_.2.2.1.2.2.2 == false) && ((decide (open_.2.2.2.1.1 = (0 : Int))) && ((decide (open_.2.2.2.1.2.1 = (0 : Int))) && ((decide (open_.2.2.2.1.2.2.1 = (0 : Int))) && ((open_.2.2.2.1.2.2.2 == false) && ((decide (open_.2.2.2.2.1.1 = (0 : Int))) && ((decide (open_.2.2.2.2.1.2 = (0 : Int))) && ((decide (open_.2.2.2.2.2.1 = (0 : Int))) && ((decide (open_.2.2.2.2.2.2.1 = (0 : Int))) && (decide (open_.2.2.2.2.2.2.2 = (0 : Int))))))))))))))))))) (
  obind (r13_Fits n open_.2 c.2.1.1 open_.1) fun r1 =>
  tif ((!r1)) (
  some (([], ([], [])), (2 : Int))) (
  tif (((decide (open_.1 = (0 : Int))) && ((decide (open_.2.1 = (0 : Int))) && ((decide (open_.2.2.1.1 = (0 : Int))) && ((decide (open_.2.2.1.2.1 = (0 : Int))) && ((decide (open_.2.2.1.2.2.1 = (0 : Int))) && ((open_.2.2.1.2.2.2 == false) && ((decide (open_.2.2.2.1.1 = (0 : Int))) && ((decide (open_.2.2.2.1.2.1 = (0 : Int))) && ((decide (open_.2.2.2.1.2.2.1 = (0 : Int))) && ((open_.2.2.2.1.2.2.2 == false) && ((decide (open_.2.2.2.2.1.1 = (0 : Int))) && ((decide (open_.2.2.2.2.1.2 = (0 : Int))) && ((decide (open_.2.2.2.2.2.1 = (0 : Int))) && ((decide (open_.2.2.2.2.2.2.1 = (0 : Int))) && (decide (open_.2.2.2.2.2.2.2 = (0 : Int)))))))))))))))))) (
  some (s, (0 : Int))) (
  tif ((decide (open_.1 = j))) (
  some (s, (0 : Int))) (
  tif ((decide (j < open_.1))) (
  some (([], ([], [])), (1 : Int))) (
  obind (r14_begins n j c.2.1.1) fun r2 =>
  tif ((!r2)) (
  some (([], ([], [])), (1 : Int))) (
  obind (r13_Put n s.1 c.2.1.1 open_.1 open_.2) fun r3 =>
  obind (r14_up n c (r3.1, s.2) open_.1 j) fun r4 =>
  some (r4, (0 : Int)))))))) (
  tif (((decide (open_.1 = (0 : Int))) && ((decide (open_.2.1 = (0 : Int))) && ((decide (open_.2.2.1.1 = (0 : Int))) && ((decide (open_.2.2.1.2.1 = (0 : Int))) && ((decide (open_.2.2.1.2.2.1 = (0 : Int))) && ((open_.2.2.1.2.2.2 == false) && ((decide (open_.2.2.2.1.1 = (0 : Int))) && ((decide (open_.2.2.2.1.2.1 = (0 : Int))) && ((decide (open_.2.2.2.1.2.2.1 = (0 : Int))) && ((open_.2.2.2.1.2.2.2 == false) && ((decide (open_.2.2.2.2.1.1 = (0 : Int))) && ((decide (open_.2.2.2.2.1.2 = (0 : Int))) && ((decide (open_.2.2.2.2.2.1 = (0 : Int))) && ((decide (open_.2.2.2.2.2.2.1 = (0 : Int))) && (decide (open_.2.2.2.2.2.2.2 = (0 : Int)))))))))))))))))) (
  some (s, (0 : Int))) (
  tif ((decide (open_.1 = j))) (
  some (s, (0 : Int))) (
  tif ((decide (j < open_.1))) (
  some (([], ([], [])), (1 : Int))) (
  obind (r14_begins n j c.2.1.1) fun r5 =>
  tif ((!r5)) (
  some (([], ([], [])), (1 : Int))) (
  obind (r13_Put n s.1 c.2.1.1 open_.1 open_.2) fun r6 =>
  obind (r14_up n c (r6.1, s.2) open_.1 j) fun r7 =>
  some (r7, (0 : Int)))))))) := by kernel_rfl

theorem fold_Check_eq (n : Nat) (c : TConfig) (s : ((List TSlot) × ((List TSlot) × (List TSlot)))) : fold_Check (n + 1) c s =
  obind (fold_open n c s) fun r0 =>
  oelim (r0.1) (
  some r0.2) fun r1 =>
  some r0.2 := by kernel_rfl

theorem r14_Check_eq (n : Nat) (c : TConfig) (s : ((List TSlot) × ((List TSlot) × (List TSlot)))) : r14_Check (n + 1) c s =
  obind (r10_Check n c) fun r0 =>
  tif ((!(decide (r0 = (0 : Int))))) (
  some (2 : Int)) (
  tif ((!(decide ((((List.length s.1) : Nat) : Int) = c.2.2.1.1)))) (
  some (2 : Int)) (
  obind (r13_Check n s.1 c.2.1.1) fun r1 =>
  tif ((!(decide (r1 = (0 : Int))))) (
  some (2 : Int)) (
  tif ((!(decide ((((List.length s.2.1) : Nat) : Int) = c.2.2.1.2.1)))) (
  some (2 : Int)) (
  obind (r13_Check n s.2.1 c.2.1.2.1) fun r2 =>
  tif ((!(decide (r2 = (0 : Int))))) (
  some (2 : Int)) (
  tif ((!(decide ((((List.length s.2.2) : Nat) : Int) = c.2.2.1.2.2)))) (
  some (2 : Int)) (
  obind (r13_Check n s.2.2 c.2.1.2.2) fun r3 =>
  tif ((!(decide (r3 = (0 : Int))))) (
  some (2 : Int)) (
  some (0 : Int)))))))) := by kernel_rfl

theorem r14_Same_eq (n : Nat) (a : ((List TSlot) × ((List TSlot) × (List TSlot)))) (b : ((List TSlot) × ((List TSlot) × (List TSlot)))) : r14_Same (n + 1) a b =
  obind (r13_Same n a.1 b.1) fun r0 =>
  tif ((!r0)) (
  some false) (
  obind (r13_Same n a.2.1 b.2.1) fun r1 =>
  tif ((!r1)) (
  some false) (
  obind (r13_Same n a.2.2 b.2.2) fun r2 =>
  tif ((!r2)) (
  some false) (
  some true))) := by kernel_rfl

theorem fold_Empty_eq (n : Nat) (c : TConfig) : fold_Empty (n + 1) c =
  obind (conf_Check n c) fun r0 =>
  tif ((!(decide (r0 = (0 : Int))))) (
  some ([], ([], []))) (
  obind (tier_New n c.2.2.1.1) fun r1 =>
  obind (tier_New n c.2.2.1.2.1) fun r2 =>
  obind (tier_New n c.2.2.1.2.2) fun r3 =>
  some (r1, (r2, r3))) := by kernel_rfl

theorem r14_Empty_eq (n : Nat) (c : TConfig) : r14_Empty (n + 1) c =
  obind (r10_Check n c) fun r0 =>
  tif ((!(decide (r0 = (0 : Int))))) (
  some ([], ([], []))) (
  obind (r13_New n c.2.2.1.1) fun r1 =>
  obind (r13_New n c.2.2.1.2.1) fun r2 =>
  obind (r13_New n c.2.2.1.2.2) fun r3 =>
  some (r1, (r2, r3))) := by kernel_rfl

theorem r13_Fits_eq (n : Nat) (c : TCell) (w : Int) (i : Int) : r13_Fits (n + 1) c w i =
  obind (r08_Check n c) fun r0 =>
  tif ((!(decide (r0 = (0 : Int))))) (
  some false) (
  tif ((decide (c.1 = (0 : Int)))) (
  some false) (
  obind (r09_Of n c.2.1.1 w) fun r1 =>
  obind (r09_Of n c.2.2.1.1 w) fun r2 =>
  tif ((decide (r1.2 = (0 : Int)))) (
  tif ((decide (r2.2 = (0 : Int)))) (
  tif ((decide (r1.1 = i))) (
  some (decide (r2.1 = i))) (
  some false)) (
  some false)) (
  some false))) := by kernel_rfl

theorem r09_Slot_eq (n : Nat) (i : Int) (n_ : Int) : r09_Slot (n + 1) i n_ =
  tif ((decide (i < (0 : Int)))) (
  some (0 : Int)) (
  tif ((decide (n_ < (1 : Int)))) (
  some (0 : Int)) (
  tif ((decide (n_ = (0 : Int)))) (
  none) (
  some (Int.tmod i n_)))) := by kernel_rfl

theorem l13_one_eq (n : Nat) (t : Int) : l13_one (n + 1) t =
  some ((1 : Int), ((t, ((IntKind.wrap .u64 t), ((0 : Int), false))), ((t, ((IntKind.wrap .u64 t), ((0 : Int), false))), (((0 : Int), (0 : Int)), ((0 : Int), ((0 : Int), (0 : Int))))))) := by kernel_rfl

theorem tier_All_eq (n : Nat) (l : (List TSlot)) : tier_All (n + 1) l =
  obind (slices_Clone_Slot n l) fun r0 =>
  obind (slices_DeleteFunc_Slot n r0 (fun y1 => tier_none n y1.1)) fun r2 =>
  obind (slices_SortStableFunc_Slot n r2 (fun y3 => tier_All_1 n y3.1 y3.2.1)) fun r4 =>
  some r4 := by kernel_rfl

theorem tier_Fits_eq (n : Nat) (c : TCell) (w : Int) (i : Int) : tier_Fits (n + 1) c w i =
  tif ((decide (c.1 = (0 : Int)))) (
  some false) (
  obind (cell_Check n c) fun r0 =>
  tif ((!(decide (r0 = (0 : Int))))) (
  some false) (
  obind (tier_Fits_l4 n loopFuel (w, (i, ((c.2.1.1, c.2.2.1.1), ((0 : Int), ()))))) fun r1 =>
  selim (fun y2 =>
  some true) (fun z3 =>
  some z3) r1)) := by kernel_rfl
theorem tier_Fits_l4_eq (n f : Nat) (w : Int) (i : Int) (s25 : (Int × Int)) (s26 : Int) : tier_Fits_l4 n (f + 1) (w, i, s25, s26, ()) =
  tif ((decide (s26 < (2 : Int)))) (
  tif ((decide (s26 = (0 : Int)))) (
  obind (window_Of n s25.1 w) fun r0 =>
  tif ((!(decide (r0.2 = (0 : Int))))) (
  some (.inr false)) (
  tif ((!(decide (r0.1 = i)))) (
  some (.inr false)) (
  tier_Fits_l4 n f (w, (i, (s25, ((IntKind.wrap .i64 (s26 + (1 : Int))), ()))))))) (
  tif ((decide (s26 = (1 : Int)))) (
  obind (window_Of n s25.2 w) fun r1 =>
  tif ((!(decide (r1.2 = (0 : Int))))) (
  some (.inr false)) (
  tif ((!(decide (r1.1 = i)))) (
  some (.inr false)) (
  tier_Fits_l4 n f (w, (i, (s25, ((IntKind.wrap .i64 (s26 + (1 : Int))), ()))))))) (
  none))) (
  some (.inl ())) := by kernel_rfl
theorem tier_Fits_l4_zero (n : Nat) (x : (Int × (Int × ((Int × Int) × (Int × Unit))))) : tier_Fits_l4 n 0 x = none := by kernel_rfl

theorem cell_All_eq (n : Nat) (l : (List TCell)) : cell_All (n + 1) l =
  obind (cell_All_l3 n loopFuel (((0 : Int), (((0 : Int), ((0 : Int), ((0 : Int), false))), (((0 : Int), ((0 : Int), ((0 : Int), false))), (((0 : Int), (0 : Int)), ((0 : Int), ((0 : Int), (0 : Int))))))), (((0 : Int), (((0 : Int), ((0 : Int), ((0 : Int), false))), (((0 : Int), ((0 : Int), ((0 : Int), false))), (((0 : Int), (0 : Int)), ((0 : Int), ((0 : Int), (0 : Int))))))), (l, ((((List.length l) : Nat) : Int), ((0 : Int), ())))))) fun r0 =>
  selim (fun y1 =>
  some (y1.2.1, (0 : Int))) (fun z2 =>
  some z2) r0 := by kernel_rfl
theorem cell_All_l3_eq (n f : Nat) (s2 : TCell) (c : TCell) (s9 : (List TCell)) (s10 : Int) (s11 : Int) : cell_All_l3 n (f + 1) (s2, c, s9, s10, s11, ()) =
  tif ((decide (s11 < s10))) (
  obind (at? s9 s11) fun r0 =>
  obind (cell_Merge n c r0) fun r1 =>
  tif ((!(decide (r1.2 = (0 : Int))))) (
  some (.inr (((0 : Int), (((0 : Int), ((0 : Int), ((0 : Int), false))), (((0 : Int), ((0 : Int), ((0 : Int), false))), (((0 : Int), (0 : Int)), ((0 : Int), ((0 : Int), (0 : Int))))))), r1.2))) (
  cell_All_l3 n f (s2, (r1.1, (s9, (s10, ((IntKind.wrap .i64 (s11 + (1 : Int))), ()))))))) (
  some (.inl (s2, (c, ())))) := by kernel_rfl
theorem cell_All_l3_zero (n : Nat) (x : (TCell × (TCell × ((List TCell) × (Int × (Int × Unit)))))) : cell_All_l3 n 0 x = none := by kernel_rfl

theorem r13_All_eq (n : Nat) (l : (List TSlot)) : r13_All (n + 1) l =
  obind (r13_All_l3 n loopFuel ([], (l, ((((List.length l) : Nat) : Int), ((0 : Int), ()))))) fun r0 =>
  selim (fun y1 =>
  some y1.1) (fun z2 =>
  some z2) r0 := by kernel_rfl
theorem r13_All_l3_eq (n f : Nat) (out : (List TSlot)) (s8 : (List TSlot)) (s9 : Int) (s10 : Int) : r13_All_l3 n (f + 1) (out, s8, s9, s10, ()) =
  tif ((decide (s10 < s9))) (
  obind (at? s8 s10) fun r0 =>
  tif (((decide (r0.1 = (0 : Int))) && ((decide (r0.2.1 = (0 : Int))) && ((decide (r0.2.2.1.1 = (0 : Int))) && ((decide (r0.2.2.1.2.1 = (0 : Int))) && ((decide (r0.2.2.1.2.2.1 = (0 : Int))) && ((r0.2.2.1.2.2.2 == false) && ((decide (r0.2.2.2.1.1 = (0 : Int))) && ((decide (r0.2.2.2.1.2.1 = (0 : Int))) && ((decide (r0.2.2.2.1.2.2.1 = (0 : Int))) && ((r0.2.2.2.1.2.2.2 == false) && ((decide (r0.2.2.2.2.1.1 = (0 : Int))) && ((decide (r0.2.2.2.2.1.2 = (0 : Int))) && ((decide (r0.2.2.2.2.2.1 = (0 : Int))) && ((decide (r0.2.2.2.2.2.2.1 = (0 : Int))) && (decide (r0.2.2.2.2.2.2.2 = (0 : Int)))))))))))))))))) (
  r13_All_l3 n f (out, (s8, (s9, ((IntKind.wrap .i64 (s10 + (1 : Int))), ()))))) (
  obind (r13_All_l7 n loopFuel (out, (r0, ((((List.length out) : Nat) : Int), (s8, (s9, (s10, ()))))))) fun r1 =>
  selim (fun y2 =>
  tif (((decide ((0 : Int) ≤ y2.2.2.1)) && (decide (y2.2.2.1 ≤ (((List.length y2.1) : Nat) : Int))))) (
  tif ((decide (((0 + (List.length (List.take ((Int.toNat y2.2.2.1) - 0) (List.drop 0 y2.1)))) * 120) ≤ 140737488355328))) (
  tif ((decide ((((List.length ([] ++ (List.take ((Int.toNat y2.2.2.1) - 0) (List.drop 0 y2.1)))) + 1) * 120) ≤ 140737488355328))) (
  tif ((decide ((0 : Int) ≤ y2.2.2.1))) (
  tif ((decide ((Int.toNat y2.2.2.1) ≤ (List.length y2.1)))) (
  tif ((decide ((((List.length (([] ++ (List.take ((Int.toNat y2.2.2.1) - 0) (List.drop 0 y2.1))) ++ (y2.2.1 :: []))) + (List.length (List.take ((List.length y2.1) - (Int.toNat y2.2.2.1)) (List.drop (Int.toNat y2.2.2.1) y2.1)))) * 120) ≤ 140737488355328))) (
  r13_All_l3 n f (((([] ++ (List.take ((Int.toNat y2.2.2.1) - 0) (List.drop 0 y2.1))) ++ (y2.2.1 :: [])) ++ (List.take ((List.length y2.1) - (Int.toNat y2.2.2.1)) (List.drop (Int.toNat y2.2.2.1) y2.1))), (y2.2.2.2.1, (y2.2.2.2.2.1, ((IntKind.wrap .i64 (y2.2.2.2.2.2.1 + (1 : Int))), ()))))) (
  none)) (
  none)) (
  none)) (
  none)) (
  none)) (
  none)) (fun z3 =>
  some (.inr z3)) r1)) (
  some (.inl (out, ()))) := by kernel_rfl
theorem r13_All_l3_zero (n : Nat) (x : ((List TSlot) × ((List TSlot) × (Int × (Int × Unit))))) : r13_All_l3 n 0 x = none := by kernel_rfl
theorem r13_All_l7_eq (n f : Nat) (out : (List TSlot)) (s : TSlot) (at_ : Int) (s8 : (List TSlot)) (s9 : Int) (s10 : Int) : r13_All_l7 n (f + 1) (out, s, at_, s8, s9, s10, ()) =
  tif ((decide ((0 : Int) < at_))) (
  obind (at? out (IntKind.wrap .i64 (at_ - (1 : Int)))) fun r0 =>
  obind ((out)[(Int.toNat (IntKind.wrap .i64 (at_ - (1 : Int))))]?) fun r1 =>
  tif ((decide (s.1 < r1.1))) (
  r13_All_l7 n f (out, (s, ((IntKind.wrap .i64 (at_ - (1 : Int))), (s8, (s9, (s10, ()))))))) (
  some (.inl (out, (s, (at_, (s8, (s9, (s10, ()))))))))) (
  some (.inl (out, (s, (at_, (s8, (s9, (s10, ())))))))) := by kernel_rfl
theorem r13_All_l7_zero (n : Nat) (x : ((List TSlot) × (TSlot × (Int × ((List TSlot) × (Int × (Int × Unit))))))) : r13_All_l7 n 0 x = none := by kernel_rfl

theorem r13_Get_eq (n : Nat) (l : (List TSlot)) (i : Int) : r13_Get (n + 1) l i =
  tif ((decide (i < (0 : Int)))) (
  some ((0 : Int), (((0 : Int), ((0 : Int), ((0 : Int), false))), (((0 : Int), ((0 : Int), ((0 : Int), false))), (((0 : Int), (0 : Int)), ((0 : Int), ((0 : Int), (0 : Int)))))))) (
  tif ((decide ((((List.length l) : Nat) : Int) = (0 : Int)))) (
  some ((0 : Int), (((0 : Int), ((0 : Int), ((0 : Int), false))), (((0 : Int), ((0 : Int), ((0 : Int), false))), (((0 : Int), (0 : Int)), ((0 : Int), ((0 : Int), (0 : Int)))))))) (
  obind (r09_Slot n i (((List.length l) : Nat) : Int)) fun r0 =>
  obind (at? l r0) fun r1 =>
  tif ((!(decide (r1.1 = i)))) (
  some ((0 : Int), (((0 : Int), ((0 : Int), ((0 : Int), false))), (((0 : Int), ((0 : Int), ((0 : Int), false))), (((0 : Int), (0 : Int)), ((0 : Int), ((0 : Int), (0 : Int)))))))) (
  some r1.2))) := by kernel_rfl

theorem r08_All_eq (n : Nat) (l : (List TCell)) : r08_All (n + 1) l =
  obind (r08_All_l3 n loopFuel (((0 : Int), (((0 : Int), ((0 : Int), ((0 : Int), false))), (((0 : Int), ((0 : Int), ((0 : Int), false))), (((0 : Int), (0 : Int)), ((0 : Int), ((0 : Int), (0 : Int))))))), (((0 : Int), (((0 : Int), ((0 : Int), ((0 : Int), false))), (((0 : Int), ((0 : Int), ((0 : Int), false))), (((0 : Int), (0 : Int)), ((0 : Int), ((0 : Int), (0 : Int))))))), (l, ((((List.length l) : Nat) : Int), ((0 : Int), ())))))) fun r0 =>
  selim (fun y1 =>
  some (y1.2.1, (0 : Int))) (fun z2 =>
  some z2) r0 := by kernel_rfl
theorem r08_All_l3_eq (n f : Nat) (s2 : TCell) (c : TCell) (s9 : (List TCell)) (s10 : Int) (s11 : Int) : r08_All_l3 n (f + 1) (s2, c, s9, s10, s11, ()) =
  tif ((decide (s11 < s10))) (
  obind (at? s9 s11) fun r0 =>
  obind (r08_Merge n c r0) fun r1 =>
  tif ((!(decide (r1.2 = (0 : Int))))) (
  some (.inr (((0 : Int), (((0 : Int), ((0 : Int), ((0 : Int), false))), (((0 : Int), ((0 : Int), ((0 : Int), false))), (((0 : Int), (0 : Int)), ((0 : Int), ((0 : Int), (0 : Int))))))), r1.2))) (
  r08_All_l3 n f (s2, (r1.1, (s9, (s10, ((IntKind.wrap .i64 (s11 + (1 : Int))), ()))))))) (
  some (.inl (s2, (c, ())))) := by kernel_rfl
theorem r08_All_l3_zero (n : Nat) (x : (TCell × (TCell × ((List TCell) × (Int × (Int × Unit)))))) : r08_All_l3 n 0 x = none := by kernel_rfl

theorem event_Check_eq (n : Nat) (e : TEvent) : event_Check (n + 1) e =
  tif ((decide (e.1 < (0 : Int)))) (
  some (2 : Int)) (
  tif ((decide ((35184372088832 : Int) ≤ e.1))) (
  some (2 : Int)) (
  tif ((decide (e.2.2.1 < (0 : Int)))) (
  some (2 : Int)) (
  tif ((decide (e.1 < e.2.2.1))) (
  some (2 : Int)) (
  tif (e.2.2.2) (
  tif ((!((decide (e.1 = e.1)) && ((decide (e.2.1 = (0 : Int))) && ((decide (e.2.2.1 = (0 : Int))) && (e.2.2.2 == true)))))) (
  some (2 : Int)) (
  some (0 : Int))) (
  some (0 : Int)))))) := by kernel_rfl

theorem cell_Merge_eq (n : Nat) (a : TCell) (b : TCell) : cell_Merge (n + 1) a b =
  obind (cell_Check n a) fun r0 =>
  tif ((!(decide (r0 = (0 : Int))))) (
  some (((0 : Int), (((0 : Int), ((0 : Int), ((0 : Int), false))), (((0 : Int), ((0 : Int), ((0 : Int), false))), (((0 : Int), (0 : Int)), ((0 : Int), ((0 : Int), (0 : Int))))))), (2 : Int))) (
  obind (cell_Check n b) fun r1 =>
  tif ((!(decide (r1 = (0 : Int))))) (
  some (((0 : Int), (((0 : Int), ((0 : Int), ((0 : Int), false))), (((0 : Int), ((0 : Int), ((0 : Int), false))), (((0 : Int), (0 : Int)), ((0 : Int), ((0 : Int), (0 : Int))))))), (2 : Int))) (
  obind (cell_none n a) fun r2 =>
  tif (r2) (
  some (b, (0 : Int))) (
  obind (cell_none n b) fun r3 =>
  tif (r3) (
  some (a, (0 : Int))) (
  obind (cell_join n a b) fun r4 =>
  some r4)))) := by kernel_rfl

theorem cell_one_eq (n : Nat) (e : TEvent) : cell_one (n + 1) e =
  some ((1 : Int), (e, (e, (((0 : Int), (0 : Int)), ((0 : Int), ((0 : Int), (0 : Int))))))) := by kernel_rfl

theorem window_Slot_eq (n : Nat) (i : Int) (n_ : Int) : window_Slot (n + 1) i n_ =
  tif ((decide (i < (0 : Int)))) (
  some (0 : Int)) (
  tif ((decide (n_ < (1 : Int)))) (
  some (0 : Int)) (
  tif ((decide (n_ = (0 : Int)))) (
  none) (
  some (Int.tmod i n_)))) := by kernel_rfl

theorem slices_Clone_Slot_eq (n : Nat) (s : (List TSlot)) : slices_Clone_Slot (n + 1) s =
  tif ((decide ((List.length s) = 0))) (
  both (
  some []) (
  tif ((decide (((0 + (List.length s)) * 120) ≤ 140737488355328))) (
  some ([] ++ s)) (
  none))) (
  tif ((decide (((0 + (List.length s)) * 120) ≤ 140737488355328))) (
  some ([] ++ s)) (
  none)) := by kernel_rfl

theorem tier_none_eq (n : Nat) (s : TSlot) : tier_none (n + 1) s =
  some ((decide (s.1 = (0 : Int))) && ((decide (s.2.1 = (0 : Int))) && ((decide (s.2.2.1.1 = (0 : Int))) && ((decide (s.2.2.1.2.1 = (0 : Int))) && ((decide (s.2.2.1.2.2.1 = (0 : Int))) && ((s.2.2.1.2.2.2 == false) && ((decide (s.2.2.2.1.1 = (0 : Int))) && ((decide (s.2.2.2.1.2.1 = (0 : Int))) && ((decide (s.2.2.2.1.2.2.1 = (0 : Int))) && ((s.2.2.2.1.2.2.2 == false) && ((decide (s.2.2.2.2.1.1 = (0 : Int))) && ((decide (s.2.2.2.2.1.2 = (0 : Int))) && ((decide (s.2.2.2.2.2.1 = (0 : Int))) && ((decide (s.2.2.2.2.2.2.1 = (0 : Int))) && (decide (s.2.2.2.2.2.2.2 = (0 : Int))))))))))))))))) := by kernel_rfl

theorem l10_Fit_eq (n : Nat)  : l10_Fit (n + 1)  =
  some ((20 : Int), (((10 : Int), ((20 : Int), (60 : Int))), (((4 : Int), ((5 : Int), (6 : Int))), ((3 : Int), (9 : Int))))) := by kernel_rfl

theorem l14_one_eq (n : Nat) (t : Int) : l14_one (n + 1) t =
  some ((IntKind.wrap .i64 (Int.tdiv t (10 : Int))), ((1 : Int), ((t, ((IntKind.wrap .u64 t), ((0 : Int), false))), ((t, ((IntKind.wrap .u64 t), ((0 : Int), false))), (((0 : Int), (0 : Int)), ((0 : Int), ((0 : Int), (0 : Int)))))))) := by kernel_rfl

theorem fold_open_eq (n : Nat) (c : TConfig) (s : ((List TSlot) × ((List TSlot) × (List TSlot)))) : fold_open (n + 1) c s =
  obind (conf_Check n c) fun r0 =>
  tif ((!(decide (r0 = (0 : Int))))) (
  some (none, r0)) (
  tif ((!(decide ((((List.length s.1) : Nat) : Int) = c.2.2.1.1)))) (
  some (none, (2 : Int))) (
  obind (tier_Check n s.1 c.2.1.1) fun r1 =>
  tif ((!(decide (r1 = (0 : Int))))) (
  some (none, (2 : Int))) (
  tif ((!(decide ((((List.length s.2.1) : Nat) : Int) = c.2.2.1.2.1)))) (
  some (none, (2 : Int))) (
  obind (tier_Check n s.2.1 c.2.1.2.1) fun r2 =>
  tif ((!(decide (r2 = (0 : Int))))) (
  some (none, (2 : Int))) (
  tif ((!(decide ((((List.length s.2.2) : Nat) : Int) = c.2.2.1.2.2)))) (
  some (none, (2 : Int))) (
  obind (tier_Check n s.2.2 c.2.1.2.2) fun r3 =>
  tif ((!(decide (r3 = (0 : Int))))) (
  some (none, (2 : Int))) (
  some ((some (c, s)), (0 : Int))))))))) := by kernel_rfl

theorem fold_stack_begins_eq_0 (n : Nat) (s : Tfold_stack) (i : Int) : fold_stack_begins (n + 1) s (0 : Int) i =
  tif ((decide ((0 : Int) ≤ i))) (
  tif ((decide (s.1.2.1.1 = (0 : Int)))) (
  none) (
  some ((decide (i ≤ (IntKind.wrap .i64 (Int.tdiv (35184372088831 : Int) s.1.2.1.1)))), s))) (
  some (false, s)) := by kernel_rfl
theorem fold_stack_begins_eq_1 (n : Nat) (s : Tfold_stack) (i : Int) : fold_stack_begins (n + 1) s (1 : Int) i =
  tif ((decide ((0 : Int) ≤ i))) (
  tif ((decide (s.1.2.1.2.1 = (0 : Int)))) (
  none) (
  some ((decide (i ≤ (IntKind.wrap .i64 (Int.tdiv (35184372088831 : Int) s.1.2.1.2.1)))), s))) (
  some (false, s)) := by kernel_rfl
theorem fold_stack_begins_eq_2 (n : Nat) (s : Tfold_stack) (i : Int) : fold_stack_begins (n + 1) s (2 : Int) i =
  tif ((decide ((0 : Int) ≤ i))) (
  tif ((decide (s.1.2.1.2.2 = (0 : Int)))) (
  none) (
  some ((decide (i ≤ (IntKind.wrap .i64 (Int.tdiv (35184372088831 : Int) s.1.2.1.2.2)))), s))) (
  some (false, s)) := by kernel_rfl

theorem fold_stack_made_eq_1 (n : Nat) (s : Tfold_stack) (i : Int) : fold_stack_made (n + 1) s (1 : Int) i =
  tif ((decide (s.1.2.1.1 = (0 : Int)))) (
  none) (
  obind (tier_Fold n s.2.1 (IntKind.wrap .i64 (i * (IntKind.wrap .i64 (Int.tdiv s.1.2.1.2.1 s.1.2.1.1)))) (IntKind.wrap .i64 ((IntKind.wrap .i64 (i + (1 : Int))) * (IntKind.wrap .i64 (Int.tdiv s.1.2.1.2.1 s.1.2.1.1))))) fun r0 =>
  some (r0.1, (r0.2, s))) := by kernel_rfl
theorem fold_stack_made_eq_2 (n : Nat) (s : Tfold_stack) (i : Int) : fold_stack_made (n + 1) s (2 : Int) i =
  tif ((decide (s.1.2.1.2.1 = (0 : Int)))) (
  none) (
  obind (tier_Fold n s.2.2.1 (IntKind.wrap .i64 (i * (IntKind.wrap .i64 (Int.tdiv s.1.2.1.2.2 s.1.2.1.2.1)))) (IntKind.wrap .i64 ((IntKind.wrap .i64 (i + (1 : Int))) * (IntKind.wrap .i64 (Int.tdiv s.1.2.1.2.2 s.1.2.1.2.1))))) fun r0 =>
  some (r0.1, (r0.2, s))) := by kernel_rfl

theorem r14_begins_eq (n : Nat) (i : Int) (w : Int) : r14_begins (n + 1) i w =
  tif ((decide ((0 : Int) ≤ i))) (
  tif ((decide (w = (0 : Int)))) (
  none) (
  some (decide (i ≤ (IntKind.wrap .i64 (Int.tdiv (35184372088831 : Int) w)))))) (
  some false) := by kernel_rfl

theorem r14_made_eq_1 (n : Nat) (c : TConfig) (s : ((List TSlot) × ((List TSlot) × (List TSlot)))) (i : Int) : r14_made (n + 1) c s (1 : Int) i =
  obind (r10_Factor n c (1 : Int)) fun r0 =>
  obind (r13_Fold n s.1 (IntKind.wrap .i64 (i * r0)) (IntKind.wrap .i64 ((IntKind.wrap .i64 (i + (1 : Int))) * r0))) fun r1 =>
  some r1 := by kernel_rfl
theorem r14_made_eq_2 (n : Nat) (c : TConfig) (s : ((List TSlot) × ((List TSlot) × (List TSlot)))) (i : Int) : r14_made (n + 1) c s (2 : Int) i =
  obind (r10_Factor n c (2 : Int)) fun r0 =>
  obind (r13_Fold n s.2.1 (IntKind.wrap .i64 (i * r0)) (IntKind.wrap .i64 ((IntKind.wrap .i64 (i + (1 : Int))) * r0))) fun r1 =>
  some r1 := by kernel_rfl

theorem fold_stack_up_eq (n : Nat) (s : Tfold_stack) (i : Int) (j : Int) : fold_stack_up (n + 1) s i j =
  tif ((decide (s.1.2.1.2.1 = (0 : Int)))) (
  none) (
  tif ((decide (s.1.2.1.2.1 = (0 : Int)))) (
  none) (
  tif ((decide ((IntKind.wrap .i64 (Int.tdiv (IntKind.wrap .i64 (i * s.1.2.1.1)) s.1.2.1.2.1)) = (IntKind.wrap .i64 (Int.tdiv (IntKind.wrap .i64 (j * s.1.2.1.1)) s.1.2.1.2.1))))) (
  tif ((decide (s.1.2.1.2.2 = (0 : Int)))) (
  none) (
  tif ((decide (s.1.2.1.2.2 = (0 : Int)))) (
  none) (
  tif ((decide ((IntKind.wrap .i64 (Int.tdiv (IntKind.wrap .i64 (i * s.1.2.1.1)) s.1.2.1.2.2)) = (IntKind.wrap .i64 (Int.tdiv (IntKind.wrap .i64 (j * s.1.2.1.1)) s.1.2.1.2.2))))) (
  some s) (
  obind (fold_stack_made n s (2 : Int) (IntKind.wrap .i64 (Int.tdiv (IntKind.wrap .i64 (i * s.1.2.1.1)) s.1.2.1.2.2))) fun r0 =>
  tif ((decide (r0.2.1 = (0 : Int)))) (
  tif ((decide ((0 : Int) < r0.1.1))) (
  obind (fold_stack_put n r0.2.2 (2 : Int) (IntKind.wrap .i64 (Int.tdiv (IntKind.wrap .i64 (i * s.1.2.1.1)) s.1.2.1.2.2)) r0.1) fun r1 =>
  some r1.2) (
  some r0.2.2)) (
  some r0.2.2))))) (
  obind (fold_stack_made n s (1 : Int) (IntKind.wrap .i64 (Int.tdiv (IntKind.wrap .i64 (i * s.1.2.1.1)) s.1.2.1.2.1))) fun r2 =>
  tif ((decide (r2.2.1 = (0 : Int)))) (
  tif ((decide ((0 : Int) < r2.1.1))) (
  obind (fold_stack_put n r2.2.2 (1 : Int) (IntKind.wrap .i64 (Int.tdiv (IntKind.wrap .i64 (i * s.1.2.1.1)) s.1.2.1.2.1)) r2.1) fun r3 =>
  tif ((decide (r3.2.1.2.1.2.2 = (0 : Int)))) (
  none) (
  tif ((decide (r3.2.1.2.1.2.2 = (0 : Int)))) (
  none) (
  tif ((decide ((IntKind.wrap .i64 (Int.tdiv (IntKind.wrap .i64 (i * r3.2.1.2.1.1)) r3.2.1.2.1.2.2)) = (IntKind.wrap .i64 (Int.tdiv (IntKind.wrap .i64 (j * r3.2.1.2.1.1)) r3.2.1.2.1.2.2))))) (
  some r3.2) (
  obind (fold_stack_made n r3.2 (2 : Int) (IntKind.wrap .i64 (Int.tdiv (IntKind.wrap .i64 (i * r3.2.1.2.1.1)) r3.2.1.2.1.2.2))) fun r4 =>
  tif ((decide (r4.2.1 = (0 : Int)))) (
  tif ((decide ((0 : Int) < r4.1.1))) (
  obind (fold_stack_put n r4.2.2 (2 : Int) (IntKind.wrap .i64 (Int.tdiv (IntKind.wrap .i64 (i * r3.2.1.2.1.1)) r3.2.1.2.1.2.2)) r4.1) fun r5 =>
  some r5.2) (
  some r4.2.2)) (
  some r4.2.2))))) (
  tif ((decide (r2.2.2.1.2.1.2.2 = (0 : Int)))) (
  none) (
  tif ((decide (r2.2.2.1.2.1.2.2 = (0 : Int)))) (
  none) (
  tif ((decide ((IntKind.wrap .i64 (Int.tdiv (IntKind.wrap .i64 (i * r2.2.2.1.2.1.1)) r2.2.2.1.2.1.2.2)) = (IntKind.wrap .i64 (Int.tdiv (IntKind.wrap .i64 (j * r2.2.2.1.2.1.1)) r2.2.2.1.2.1.2.2))))) (
  some r2.2.2) (
  obind (fold_stack_made n r2.2.2 (2 : Int) (IntKind.wrap .i64 (Int.tdiv (IntKind.wrap .i64 (i * r2.2.2.1.2.1.1)) r2.2.2.1.2.1.2.2))) fun r6 =>
  tif ((decide (r6.2.1 = (0 : Int)))) (
  tif ((decide ((0 : Int) < r6.1.1))) (
  obind (fold_stack_put n r6.2.2 (2 : Int) (IntKind.wrap .i64 (Int.tdiv (IntKind.wrap .i64 (i * r2.2.2.1.2.1.1)) r2.2.2.1.2.1.2.2)) r6.1) fun r7 =>
  some r7.2) (
  some r6.2.2)) (
  some r6.2.2)))))) (
  tif ((decide (r2.2.2.1.2.1.2.2 = (0 : Int)))) (
  none) (
  tif ((decide (r2.2.2.1.2.1.2.2 = (0 : Int)))) (
  none) (
  tif ((decide ((IntKind.wrap .i64 (Int.tdiv (IntKind.wrap .i64 (i * r2.2.2.1.2.1.1)) r2.2.2.1.2.1.2.2)) = (IntKind.wrap .i64 (Int.tdiv (IntKind.wrap .i64 (j * r2.2.2.1.2.1.1)) r2.2.2.1.2.1.2.2))))) (
  some r2.2.2) (
  obind (fold_stack_made n r2.2.2 (2 : Int) (IntKind.wrap .i64 (Int.tdiv (IntKind.wrap .i64 (i * r2.2.2.1.2.1.1)) r2.2.2.1.2.1.2.2))) fun r8 =>
  tif ((decide (r8.2.1 = (0 : Int)))) (
  tif ((decide ((0 : Int) < r8.1.1))) (
  obind (fold_stack_put n r8.2.2 (2 : Int) (IntKind.wrap .i64 (Int.tdiv (IntKind.wrap .i64 (i * r2.2.2.1.2.1.1)) r2.2.2.1.2.1.2.2)) r8.1) fun r9 =>
  some r9.2) (
  some r8.2.2)) (
  some r8.2.2)))))))) := by kernel_rfl

theorem r14_up_eq (n : Nat) (c : TConfig) (s : ((List TSlot) × ((List TSlot) × (List TSlot)))) (i : Int) (j : Int) : r14_up (n + 1) c s i j =
  tif ((decide (c.2.1.2.1 = (0 : Int)))) (
  none) (
  tif ((decide (c.2.1.2.1 = (0 : Int)))) (
  none) (
  tif ((decide ((IntKind.wrap .i64 (Int.tdiv (IntKind.wrap .i64 (i * c.2.1.1)) c.2.1.2.1)) = (IntKind.wrap .i64 (Int.tdiv (IntKind.wrap .i64 (j * c.2.1.1)) c.2.1.2.1))))) (
  tif ((decide (c.2.1.2.2 = (0 : Int)))) (
  none) (
  tif ((decide (c.2.1.2.2 = (0 : Int)))) (
  none) (
  tif ((decide ((IntKind.wrap .i64 (Int.tdiv (IntKind.wrap .i64 (i * c.2.1.1)) c.2.1.2.2)) = (IntKind.wrap .i64 (Int.tdiv (IntKind.wrap .i64 (j * c.2.1.1)) c.2.1.2.2))))) (
  some s) (
  obind (r14_made n c s (2 : Int) (IntKind.wrap .i64 (Int.tdiv (IntKind.wrap .i64 (i * c.2.1.1)) c.2.1.2.2))) fun r0 =>
  tif ((decide (r0.2 = (0 : Int)))) (
  tif ((decide ((0 : Int) < r0.1.1))) (
  obind (r13_Put n s.2.2 c.2.1.2.2 (IntKind.wrap .i64 (Int.tdiv (IntKind.wrap .i64 (i * c.2.1.1)) c.2.1.2.2)) r0.1) fun r1 =>
  tif ((decide (r1.2 = (0 : Int)))) (
  some (s.1, (s.2.1, r1.1))) (
  some s)) (
  some s)) (
  some s))))) (
  obind (r14_made n c s (1 : Int) (IntKind.wrap .i64 (Int.tdiv (IntKind.wrap .i64 (i * c.2.1.1)) c.2.1.2.1))) fun r2 =>
  tif ((decide (r2.2 = (0 : Int)))) (
  tif ((decide ((0 : Int) < r2.1.1))) (
  obind (r13_Put n s.2.1 c.2.1.2.1 (IntKind.wrap .i64 (Int.tdiv (IntKind.wrap .i64 (i * c.2.1.1)) c.2.1.2.1)) r2.1) fun r3 =>
  tif ((decide (r3.2 = (0 : Int)))) (
  tif ((decide (c.2.1.2.2 = (0 : Int)))) (
  none) (
  tif ((decide (c.2.1.2.2 = (0 : Int)))) (
  none) (
  tif ((decide ((IntKind.wrap .i64 (Int.tdiv (IntKind.wrap .i64 (i * c.2.1.1)) c.2.1.2.2)) = (IntKind.wrap .i64 (Int.tdiv (IntKind.wrap .i64 (j * c.2.1.1)) c.2.1.2.2))))) (
  some (s.1, (r3.1, s.2.2))) (
  obind (r14_made n c (s.1, (r3.1, s.2.2)) (2 : Int) (IntKind.wrap .i64 (Int.tdiv (IntKind.wrap .i64 (i * c.2.1.1)) c.2.1.2.2))) fun r4 =>
  tif ((decide (r4.2 = (0 : Int)))) (
  tif ((decide ((0 : Int) < r4.1.1))) (
  obind (r13_Put n s.2.2 c.2.1.2.2 (IntKind.wrap .i64 (Int.tdiv (IntKind.wrap .i64 (i * c.2.1.1)) c.2.1.2.2)) r4.1) fun r5 =>
  tif ((decide (r5.2 = (0 : Int)))) (
  some (s.1, (r3.1, r5.1))) (
  some (s.1, (r3.1, s.2.2)))) (
  some (s.1, (r3.1, s.2.2)))) (
  some (s.1, (r3.1, s.2.2))))))) (
  tif ((decide (c.2.1.2.2 = (0 : Int)))) (
  none) (
  tif ((decide (c.2.1.2.2 = (0 : Int)))) (
  none) (
  tif ((decide ((IntKind.wrap .i64 (Int.tdiv (IntKind.wrap .i64 (i * c.2.1.1)) c.2.1.2.2)) = (IntKind.wrap .i64 (Int.tdiv (IntKind.wrap .i64 (j * c.2.1.1)) c.2.1.2.2))))) (
  some s) (
  obind (r14_made n c s (2 : Int) (IntKind.wrap .i64 (Int.tdiv (IntKind.wrap .i64 (i * c.2.1.1)) c.2.1.2.2))) fun r6 =>
  tif ((decide (r6.2 = (0 : Int)))) (
  tif ((decide ((0 : Int) < r6.1.1))) (
  obind (r13_Put n s.2.2 c.2.1.2.2 (IntKind.wrap .i64 (Int.tdiv (IntKind.wrap .i64 (i * c.2.1.1)) c.2.1.2.2)) r6.1) fun r7 =>
  tif ((decide (r7.2 = (0 : Int)))) (
  some (s.1, (s.2.1, r7.1))) (
  some s)) (
  some s)) (
  some s)))))) (
  tif ((decide (c.2.1.2.2 = (0 : Int)))) (
  none) (
  tif ((decide (c.2.1.2.2 = (0 : Int)))) (
  none) (
  tif ((decide ((IntKind.wrap .i64 (Int.tdiv (IntKind.wrap .i64 (i * c.2.1.1)) c.2.1.2.2)) = (IntKind.wrap .i64 (Int.tdiv (IntKind.wrap .i64 (j * c.2.1.1)) c.2.1.2.2))))) (
  some s) (
  obind (r14_made n c s (2 : Int) (IntKind.wrap .i64 (Int.tdiv (IntKind.wrap .i64 (i * c.2.1.1)) c.2.1.2.2))) fun r8 =>
  tif ((decide (r8.2 = (0 : Int)))) (
  tif ((decide ((0 : Int) < r8.1.1))) (
  obind (r13_Put n s.2.2 c.2.1.2.2 (IntKind.wrap .i64 (Int.tdiv (IntKind.wrap .i64 (i * c.2.1.1)) c.2.1.2.2)) r8.1) fun r9 =>
  tif ((decide (r9.2 = (0 : Int)))) (
  some (s.1, (s.2.1, r9.1))) (
  some s)) (
  some s)) (
  some s)))))) (
  tif ((decide (c.2.1.2.2 = (0 : Int)))) (
  none) (
  tif ((decide (c.2.1.2.2 = (0 : Int)))) (
  none) (
  tif ((decide ((IntKind.wrap .i64 (Int.tdiv (IntKind.wrap .i64 (i * c.2.1.1)) c.2.1.2.2)) = (IntKind.wrap .i64 (Int.tdiv (IntKind.wrap .i64 (j * c.2.1.1)) c.2.1.2.2))))) (
  some s) (
  obind (r14_made n c s (2 : Int) (IntKind.wrap .i64 (Int.tdiv (IntKind.wrap .i64 (i * c.2.1.1)) c.2.1.2.2))) fun r10 =>
  tif ((decide (r10.2 = (0 : Int)))) (
  tif ((decide ((0 : Int) < r10.1.1))) (
  obind (r13_Put n s.2.2 c.2.1.2.2 (IntKind.wrap .i64 (Int.tdiv (IntKind.wrap .i64 (i * c.2.1.1)) c.2.1.2.2)) r10.1) fun r11 =>
  tif ((decide (r11.2 = (0 : Int)))) (
  some (s.1, (s.2.1, r11.1))) (
  some s)) (
  some s)) (
  some s)))))))) := by kernel_rfl

theorem fold_stack_put_eq_0 (n : Nat) (s : Tfold_stack) (i : Int) (c : TCell) : fold_stack_put (n + 1) s (0 : Int) i c =
  obind (tier_Put n s.2.1 s.1.2.1.1 i c) fun r0 =>
  tif ((decide (r0.2 = (0 : Int)))) (
  some (r0.2, (s.1, (r0.1, s.2.2)))) (
  some (r0.2, s)) := by kernel_rfl
theorem fold_stack_put_eq_1 (n : Nat) (s : Tfold_stack) (i : Int) (c : TCell) : fold_stack_put (n + 1) s (1 : Int) i c =
  obind (tier_Put n s.2.2.1 s.1.2.1.2.1 i c) fun r0 =>
  tif ((decide (r0.2 = (0 : Int)))) (
  some (r0.2, (s.1, (s.2.1, (r0.1, s.2.2.2))))) (
  some (r0.2, s)) := by kernel_rfl
theorem fold_stack_put_eq_2 (n : Nat) (s : Tfold_stack) (i : Int) (c : TCell) : fold_stack_put (n + 1) s (2 : Int) i c =
  obind (tier_Put n s.2.2.2 s.1.2.1.2.2 i c) fun r0 =>
  tif ((decide (r0.2 = (0 : Int)))) (
  some (r0.2, (s.1, (s.2.1, (s.2.2.1, r0.1))))) (
  some (r0.2, s)) := by kernel_rfl

theorem r13_Put_eq (n : Nat) (l : (List TSlot)) (w : Int) (i : Int) (c : TCell) : r13_Put (n + 1) l w i c =
  obind (r13_Check n l w) fun r0 =>
  tif ((!(decide (r0 = (0 : Int))))) (
  some ([], (2 : Int))) (
  obind (r13_Fits n c w i) fun r1 =>
  tif ((!r1)) (
  some ([], (2 : Int))) (
  tif ((decide (((0 + (List.length l)) * 120) ≤ 140737488355328))) (
  obind (r09_Slot n i (((List.length l) : Nat) : Int)) fun r2 =>
  obind (at? ([] ++ l) r2) fun r3 =>
  obind ((([] ++ l))[(Int.toNat r2)]?) fun r4 =>
  some ((List.set ([] ++ l) (Int.toNat r2) (i, c)), (0 : Int))) (
  none))) := by kernel_rfl

theorem r10_Check_eq (n : Nat) (c : TConfig) : r10_Check (n + 1) c =
  tif ((decide (c.1 < (1 : Int)))) (
  some (2 : Int)) (
  tif ((decide ((4096 : Int) < c.1))) (
  some (2 : Int)) (
  tif ((decide (c.2.2.2.1 < (1 : Int)))) (
  some (2 : Int)) (
  tif ((decide ((65536 : Int) < c.2.2.2.1))) (
  some (2 : Int)) (
  tif ((decide (c.2.2.2.2 < (1 : Int)))) (
  some (2 : Int)) (
  tif ((decide ((8192 : Int) < c.2.2.2.2))) (
  some (2 : Int)) (
  tif ((decide (c.2.1.1 < (1 : Int)))) (
  some (2 : Int)) (
  tif ((decide ((1099511627776 : Int) < c.2.1.1))) (
  some (2 : Int)) (
  tif ((decide (c.2.2.1.1 < (1 : Int)))) (
  some (2 : Int)) (
  tif ((decide ((4096 : Int) < c.2.2.1.1))) (
  some (2 : Int)) (
  tif ((decide (c.2.1.2.1 < (1 : Int)))) (
  some (2 : Int)) (
  tif ((decide ((1099511627776 : Int) < c.2.1.2.1))) (
  some (2 : Int)) (
  tif ((decide (c.2.2.1.2.1 < (1 : Int)))) (
  some (2 : Int)) (
  tif ((decide ((4096 : Int) < c.2.2.1.2.1))) (
  some (2 : Int)) (
  tif ((decide (c.2.1.1 = (0 : Int)))) (
  none) (
  tif ((!(decide ((Int.tmod c.2.1.2.1 c.2.1.1) = (0 : Int))))) (
  some (2 : Int)) (
  tif ((decide (c.2.1.1 = (0 : Int)))) (
  none) (
  tif ((decide (c.2.2.1.1 < (IntKind.wrap .i64 (Int.tdiv c.2.1.2.1 c.2.1.1))))) (
  some (2 : Int)) (
  tif ((decide (c.2.1.2.2 < (1 : Int)))) (
  some (2 : Int)) (
  tif ((decide ((1099511627776 : Int) < c.2.1.2.2))) (
  some (2 : Int)) (
  tif ((decide (c.2.2.1.2.2 < (1 : Int)))) (
  some (2 : Int)) (
  tif ((decide ((4096 : Int) < c.2.2.1.2.2))) (
  some (2 : Int)) (
  tif ((decide (c.2.1.2.1 = (0 : Int)))) (
  none) (
  tif ((!(decide ((Int.tmod c.2.1.2.2 c.2.1.2.1) = (0 : Int))))) (
  some (2 : Int)) (
  tif ((decide (c.2.1.2.1 = (0 : Int)))) (
  none) (
  tif ((decide (c.2.2.1.2.1 < (IntKind.wrap .i64 (Int.tdiv c.2.1.2.2 c.2.1.2.1))))) (
  some (2 : Int)) (
  obind (r10_place n c) fun r0 =>
  tif ((decide (c.2.2.2.2 ≤ r0))) (
  some (2 : Int)) (
  some (0 : Int)))))))))))))))))))))))))))) := by kernel_rfl

theorem r13_Same_eq (n : Nat) (a : (List TSlot)) (b : (List TSlot)) : r13_Same (n + 1) a b =
  tif ((!(decide ((((List.length a) : Nat) : Int) = (((List.length b) : Nat) : Int))))) (
  some false) (
  obind (r13_Same_l4 n loopFuel (a, (b, ((((List.length a) : Nat) : Int), ((0 : Int), ()))))) fun r0 =>
  selim (fun y1 =>
  some true) (fun z2 =>
  some z2) r0) := by kernel_rfl
theorem r13_Same_l4_eq (n f : Nat) (a : (List TSlot)) (b : (List TSlot)) (s12 : Int) (s13 : Int) : r13_Same_l4 n (f + 1) (a, b, s12, s13, ()) =
  tif ((decide (s13 < s12))) (
  obind (at? a s13) fun r0 =>
  obind (at? b s13) fun r1 =>
  tif ((!((decide (r0.1 = r1.1)) && ((decide (r0.2.1 = r1.2.1)) && ((decide (r0.2.2.1.1 = r1.2.2.1.1)) && ((decide (r0.2.2.1.2.1 = r1.2.2.1.2.1)) && ((decide (r0.2.2.1.2.2.1 = r1.2.2.1.2.2.1)) && ((r0.2.2.1.2.2.2 == r1.2.2.1.2.2.2) && ((decide (r0.2.2.2.1.1 = r1.2.2.2.1.1)) && ((decide (r0.2.2.2.1.2.1 = r1.2.2.2.1.2.1)) && ((decide (r0.2.2.2.1.2.2.1 = r1.2.2.2.1.2.2.1)) && ((r0.2.2.2.1.2.2.2 == r1.2.2.2.1.2.2.2) && ((decide (r0.2.2.2.2.1.1 = r1.2.2.2.2.1.1)) && ((decide (r0.2.2.2.2.1.2 = r1.2.2.2.2.1.2)) && ((decide (r0.2.2.2.2.2.1 = r1.2.2.2.2.2.1)) && ((decide (r0.2.2.2.2.2.2.1 = r1.2.2.2.2.2.2.1)) && (decide (r0.2.2.2.2.2.2.2 = r1.2.2.2.2.2.2.2)))))))))))))))))) (
  some (.inr false)) (
  r13_Same_l4 n f (a, (b, (s12, ((IntKind.wrap .i64 (s13 + (1 : Int))), ())))))) (
  some (.inl ())) := by kernel_rfl
theorem r13_Same_l4_zero (n : Nat) (x : ((List TSlot) × ((List TSlot) × (Int × (Int × Unit))))) : r13_Same_l4 n 0 x = none := by kernel_rfl

theorem conf_Check_eq (n : Nat) (c : TConfig) : conf_Check (n + 1) c =
  obind (conf_in_int n c.1 (1 : Int) (4096 : Int)) fun r0 =>
  tif (r0) (
  obind (conf_in_int n c.2.2.2.1 (1 : Int) (65536 : Int)) fun r1 =>
  tif (r1) (
  obind (conf_in_int n c.2.2.2.2 (1 : Int) (8192 : Int)) fun r2 =>
  tif (r2) (
  obind (conf_in_int64 n c.2.1.1 (1 : Int) (1099511627776 : Int)) fun r3 =>
  tif (r3) (
  obind (conf_in_int n c.2.2.1.1 (1 : Int) (4096 : Int)) fun r4 =>
  tif (r4) (
  obind (conf_in_int64 n c.2.1.2.1 (1 : Int) (1099511627776 : Int)) fun r5 =>
  tif (r5) (
  obind (conf_in_int n c.2.2.1.2.1 (1 : Int) (4096 : Int)) fun r6 =>
  tif (r6) (
  obind (conf_in_int64 n c.2.1.2.2 (1 : Int) (1099511627776 : Int)) fun r7 =>
  tif (r7) (
  obind (conf_in_int n c.2.2.1.2.2 (1 : Int) (4096 : Int)) fun r8 =>
  tif (r8) (
  tif ((decide (c.2.1.1 = (0 : Int)))) (
  none) (
  tif ((decide ((Int.tmod c.2.1.2.1 c.2.1.1) = (0 : Int)))) (
  tif ((decide (c.2.1.1 = (0 : Int)))) (
  none) (
  tif ((decide ((IntKind.wrap .i64 (Int.tdiv c.2.1.2.1 c.2.1.1)) ≤ c.2.2.1.1))) (
  tif ((decide (c.2.1.2.1 = (0 : Int)))) (
  none) (
  tif ((decide ((Int.tmod c.2.1.2.2 c.2.1.2.1) = (0 : Int)))) (
  tif ((decide (c.2.1.2.1 = (0 : Int)))) (
  none) (
  tif ((decide ((IntKind.wrap .i64 (Int.tdiv c.2.1.2.2 c.2.1.2.1)) ≤ c.2.2.1.2.1))) (
  tif ((!(decide ((IntKind.wrap .i64 (Int.tdiv c.2.1.2.2 c.2.1.2.1)) ≤ c.2.2.1.2.1)))) (
  some (2 : Int)) (
  obind (conf_place n c) fun r9 =>
  tif ((decide (c.2.2.2.2 ≤ r9))) (
  some (2 : Int)) (
  some (0 : Int)))) (
  tif ((!(decide ((IntKind.wrap .i64 (Int.tdiv c.2.1.2.2 c.2.1.2.1)) ≤ c.2.2.1.2.1)))) (
  some (2 : Int)) (
  obind (conf_place n c) fun r10 =>
  tif ((decide (c.2.2.2.2 ≤ r10))) (
  some (2 : Int)) (
  some (0 : Int)))))) (
  some (2 : Int)))) (
  tif ((!(decide ((IntKind.wrap .i64 (Int.tdiv c.2.1.2.1 c.2.1.1)) ≤ c.2.2.1.1)))) (
  some (2 : Int)) (
  obind (conf_place n c) fun r11 =>
  tif ((decide (c.2.2.2.2 ≤ r11))) (
  some (2 : Int)) (
  some (0 : Int)))))) (
  some (2 : Int)))) (
  tif ((!r8)) (
  some (2 : Int)) (
  obind (conf_place n c) fun r12 =>
  tif ((decide (c.2.2.2.2 ≤ r12))) (
  some (2 : Int)) (
  some (0 : Int))))) (
  some (2 : Int))) (
  some (2 : Int))) (
  some (2 : Int))) (
  some (2 : Int))) (
  some (2 : Int))) (
  some (2 : Int))) (
  some (2 : Int))) (
  some (2 : Int)) := by kernel_rfl

theorem r13_New_eq (n : Nat) (n_ : Int) : r13_New (n + 1) n_ =
  tif ((decide (n_ < (1 : Int)))) (
  some []) (
  tif ((decide ((4096 : Int) < n_))) (
  some []) (
  tif (((decide ((0 : Int) ≤ n_)) && ((decide (n_ ≤ n_)) && (decide ((n_ * (120 : Int)) ≤ (140737488355328 : Int)))))) (
  some (List.replicate (Int.toNat n_) ((0 : Int), ((0 : Int), (((0 : Int), ((0 : Int), ((0 : Int), false))), (((0 : Int), ((0 : Int), ((0 : Int), false))), (((0 : Int), (0 : Int)), ((0 : Int), ((0 : Int), (0 : Int)))))))))) (
  none))) := by kernel_rfl

theorem r08_Check_eq (n : Nat) (c : TCell) : r08_Check (n + 1) c =
  tif (((decide (c.1 = (0 : Int))) && ((decide (c.2.1.1 = (0 : Int))) && ((decide (c.2.1.2.1 = (0 : Int))) && ((decide (c.2.1.2.2.1 = (0 : Int))) && ((c.2.1.2.2.2 == false) && ((decide (c.2.2.1.1 = (0 : Int))) && ((decide (c.2.2.1.2.1 = (0 : Int))) && ((decide (c.2.2.1.2.2.1 = (0 : Int))) && ((c.2.2.1.2.2.2 == false) && ((decide (c.2.2.2.1.1 = (0 : Int))) && ((decide (c.2.2.2.1.2 = (0 : Int))) && ((decide (c.2.2.2.2.1 = (0 : Int))) && ((decide (c.2.2.2.2.2.1 = (0 : Int))) && (decide (c.2.2.2.2.2.2 = (0 : Int))))))))))))))))) (
  some (0 : Int)) (
  tif ((decide (c.1 < (1 : Int)))) (
  some (2 : Int)) (
  obind (r07_Check n c.2.1) fun r0 =>
  tif ((!(decide (r0 = (0 : Int))))) (
  some (2 : Int)) (
  obind (r07_Check n c.2.2.1) fun r1 =>
  tif ((!(decide (r1 = (0 : Int))))) (
  some (2 : Int)) (
  tif ((decide (c.2.2.1.1 < c.2.1.1))) (
  some (2 : Int)) (
  tif ((decide ((IntKind.wrap .i64 ((IntKind.wrap .i64 (c.2.2.1.1 - c.2.1.1)) + (1 : Int))) < c.1))) (
  some (2 : Int)) (
  tif ((decide (c.1 = (1 : Int)))) (
  tif ((!((decide (c.2.1.1 = c.2.2.1.1)) && ((decide (c.2.1.2.1 = c.2.2.1.2.1)) && ((decide (c.2.1.2.2.1 = c.2.2.1.2.2.1)) && (c.2.1.2.2.2 == c.2.2.1.2.2.2)))))) (
  some (2 : Int)) (
  tif ((decide ((1 : Int) < c.1))) (
  tif ((decide (c.2.1.1 = c.2.2.1.1))) (
  some (2 : Int)) (
  tif ((decide (c.2.2.2.2.1 < (0 : Int)))) (
  some (2 : Int)) (
  tif ((decide (c.2.2.2.2.2.1 < (0 : Int)))) (
  some (2 : Int)) (
  tif ((decide (c.2.2.2.2.2.2 < (0 : Int)))) (
  some (2 : Int)) (
  tif ((decide (c.1 ≤ c.2.2.2.2.1))) (
  some (2 : Int)) (
  tif ((decide (c.1 ≤ c.2.2.2.2.2.1))) (
  some (2 : Int)) (
  tif ((decide (c.1 ≤ (IntKind.wrap .i64 (c.2.2.2.2.1 + c.2.2.2.2.2.1))))) (
  some (2 : Int)) (
  tif ((decide ((IntKind.wrap .i64 (c.2.2.1.1 - c.2.1.1)) < c.2.2.2.2.2.2))) (
  some (2 : Int)) (
  obind (r01_Times n ((0 : Int), (18446744073709551615 : Int)) (IntKind.wrap .u64 (IntKind.wrap .i64 (c.1 - (1 : Int))))) fun r2 =>
  obind (r01_Less n r2.1 c.2.2.2.1) fun r3 =>
  tif (r3) (
  some (2 : Int)) (
  some (0 : Int))))))))))) (
  tif ((decide (c.2.2.2.2.1 < (0 : Int)))) (
  some (2 : Int)) (
  tif ((decide (c.2.2.2.2.2.1 < (0 : Int)))) (
  some (2 : Int)) (
  tif ((decide (c.2.2.2.2.2.2 < (0 : Int)))) (
  some (2 : Int)) (
  tif ((decide (c.1 ≤ c.2.2.2.2.1))) (
  some (2 : Int)) (
  tif ((decide (c.1 ≤ c.2.2.2.2.2.1))) (
  some (2 : Int)) (
  tif ((decide (c.1 ≤ (IntKind.wrap .i64 (c.2.2.2.2.1 + c.2.2.2.2.2.1))))) (
  some (2 : Int)) (
  tif ((decide ((IntKind.wrap .i64 (c.2.2.1.1 - c.2.1.1)) < c.2.2.2.2.2.2))) (
  some (2 : Int)) (
  obind (r01_Times n ((0 : Int), (18446744073709551615 : Int)) (IntKind.wrap .u64 (IntKind.wrap .i64 (c.1 - (1 : Int))))) fun r4 =>
  obind (r01_Less n r4.1 c.2.2.2.1) fun r5 =>
  tif (r5) (
  some (2 : Int)) (
  some (0 : Int)))))))))))) (
  tif ((decide ((1 : Int) < c.1))) (
  tif ((decide (c.2.1.1 = c.2.2.1.1))) (
  some (2 : Int)) (
  tif ((decide (c.2.2.2.2.1 < (0 : Int)))) (
  some (2 : Int)) (
  tif ((decide (c.2.2.2.2.2.1 < (0 : Int)))) (
  some (2 : Int)) (
  tif ((decide (c.2.2.2.2.2.2 < (0 : Int)))) (
  some (2 : Int)) (
  tif ((decide (c.1 ≤ c.2.2.2.2.1))) (
  some (2 : Int)) (
  tif ((decide (c.1 ≤ c.2.2.2.2.2.1))) (
  some (2 : Int)) (
  tif ((decide (c.1 ≤ (IntKind.wrap .i64 (c.2.2.2.2.1 + c.2.2.2.2.2.1))))) (
  some (2 : Int)) (
  tif ((decide ((IntKind.wrap .i64 (c.2.2.1.1 - c.2.1.1)) < c.2.2.2.2.2.2))) (
  some (2 : Int)) (
  obind (r01_Times n ((0 : Int), (18446744073709551615 : Int)) (IntKind.wrap .u64 (IntKind.wrap .i64 (c.1 - (1 : Int))))) fun r6 =>
  obind (r01_Less n r6.1 c.2.2.2.1) fun r7 =>
  tif (r7) (
  some (2 : Int)) (
  some (0 : Int))))))))))) (
  tif ((decide (c.2.2.2.2.1 < (0 : Int)))) (
  some (2 : Int)) (
  tif ((decide (c.2.2.2.2.2.1 < (0 : Int)))) (
  some (2 : Int)) (
  tif ((decide (c.2.2.2.2.2.2 < (0 : Int)))) (
  some (2 : Int)) (
  tif ((decide (c.1 ≤ c.2.2.2.2.1))) (
  some (2 : Int)) (
  tif ((decide (c.1 ≤ c.2.2.2.2.2.1))) (
  some (2 : Int)) (
  tif ((decide (c.1 ≤ (IntKind.wrap .i64 (c.2.2.2.2.1 + c.2.2.2.2.2.1))))) (
  some (2 : Int)) (
  tif ((decide ((IntKind.wrap .i64 (c.2.2.1.1 - c.2.1.1)) < c.2.2.2.2.2.2))) (
  some (2 : Int)) (
  obind (r01_Times n ((0 : Int), (18446744073709551615 : Int)) (IntKind.wrap .u64 (IntKind.wrap .i64 (c.1 - (1 : Int))))) fun r8 =>
  obind (r01_Less n r8.1 c.2.2.2.1) fun r9 =>
  tif (r9) (
  some (2 : Int)) (
  some (0 : Int))))))))))))))))) := by kernel_rfl

theorem r09_Of_eq (n : Nat) (t : Int) (w : Int) : r09_Of (n + 1) t w =
  tif ((decide (t < (0 : Int)))) (
  some ((0 : Int), (1 : Int))) (
  tif ((decide ((35184372088832 : Int) ≤ t))) (
  some ((0 : Int), (1 : Int))) (
  obind (r09_width n w) fun r0 =>
  tif ((!r0)) (
  some ((0 : Int), (1 : Int))) (
  tif ((decide (w = (0 : Int)))) (
  none) (
  tif ((decide (w = (0 : Int)))) (
  none) (
  some ((IntKind.wrap .i64 (Int.tdiv (IntKind.wrap .i64 (t - (Int.tmod t w))) w)), (0 : Int))))))) := by kernel_rfl

theorem slices_DeleteFunc_Slot_eq (n : Nat) (s : (List TSlot)) (del : ((TSlot × Unit) → Option Bool)) : slices_DeleteFunc_Slot (n + 1) s del =
  obind (slices_IndexFunc_Slot n s del) fun r0 =>
  tif ((decide (r0 = ((-1) : Int)))) (
  some s) (
  obind (slices_DeleteFunc_Slot_l5 n loopFuel (s, (del, (r0, ((IntKind.wrap .i64 (r0 + (1 : Int))), ()))))) fun r1 =>
  selim (fun y2 =>
  tif ((decide ((0 : Int) ≤ y2.2.1))) (
  tif ((decide ((Int.toNat y2.2.1) ≤ (List.length y2.1)))) (
  tif ((decide (((Int.toNat y2.2.1) + ((List.length y2.1) - (Int.toNat y2.2.1))) ≤ (List.length y2.1)))) (
  tif (((decide ((0 : Int) ≤ y2.2.1)) && (decide (y2.2.1 ≤ (((List.length (Go.Flat.putRow y2.1 (Int.toNat y2.2.1) (List.replicate ((List.length y2.1) - (Int.toNat y2.2.1)) ((0 : Int), ((0 : Int), (((0 : Int), ((0 : Int), ((0 : Int), false))), (((0 : Int), ((0 : Int), ((0 : Int), false))), (((0 : Int), (0 : Int)), ((0 : Int), ((0 : Int), (0 : Int))))))))))) : Nat) : Int))))) (
  some (List.take ((Int.toNat y2.2.1) - 0) (Go.Flat.putRow y2.1 (Int.toNat y2.2.1) (List.replicate ((List.length y2.1) - (Int.toNat y2.2.1)) ((0 : Int), ((0 : Int), (((0 : Int), ((0 : Int), ((0 : Int), false))), (((0 : Int), ((0 : Int), ((0 : Int), false))), (((0 : Int), (0 : Int)), ((0 : Int), ((0 : Int), (0 : Int)))))))))))) (
  none)) (
  none)) (
  none)) (
  none)) (fun z3 =>
  some z3) r1) := by kernel_rfl
theorem slices_DeleteFunc_Slot_l5_eq (n f : Nat) (s : (List TSlot)) (del : ((TSlot × Unit) → Option Bool)) (i : Int) (j : Int) : slices_DeleteFunc_Slot_l5 n (f + 1) (s, del, i, j, ()) =
  tif ((decide (j < (((List.length s) : Nat) : Int)))) (
  obind (at? s j) fun r0 =>
  obind ((s)[(Int.toNat j)]?) fun r1 =>
  obind (del (r1, ())) fun r2 =>
  tif ((!r2)) (
  obind (at? s i) fun r3 =>
  obind ((s)[(Int.toNat i)]?) fun r4 =>
  slices_DeleteFunc_Slot_l5 n f ((List.set s (Int.toNat i) r1), (del, ((IntKind.wrap .i64 (i + (1 : Int))), ((IntKind.wrap .i64 (j + (1 : Int))), ()))))) (
  slices_DeleteFunc_Slot_l5 n f (s, (del, (i, ((IntKind.wrap .i64 (j + (1 : Int))), ())))))) (
  some (.inl (s, (i, ())))) := by kernel_rfl
theorem slices_DeleteFunc_Slot_l5_zero (n : Nat) (x : ((List TSlot) × (((TSlot × Unit) → Option Bool) × (Int × (Int × Unit))))) : slices_DeleteFunc_Slot_l5 n 0 x = none := by kernel_rfl

theorem slices_SortStableFunc_Slot_eq (n : Nat) (x : (List TSlot)) (cmp : ((TSlot × (TSlot × Unit)) → Option Int)) : slices_SortStableFunc_Slot (n + 1) x cmp =
  obind (slices_stableCmpFunc_Slot n x (((List.length x) : Nat) : Int) cmp) fun r0 =>
  some r0 := by kernel_rfl

theorem tier_All_1_eq (n : Nat) (a : TSlot) (b : TSlot) : tier_All_1 (n + 1) a b =
  obind (cmp_Compare_int64 n a.1 b.1) fun r0 =>
  some r0 := by kernel_rfl

theorem cmp_Compare_int64_eq (n : Nat) (x : Int) (y : Int) : cmp_Compare_int64 (n + 1) x y =
  obind (cmp_isNaN_int64 n x) fun r0 =>
  obind (cmp_isNaN_int64 n y) fun r1 =>
  tif (r0) (
  tif (r1) (
  some (0 : Int)) (
  some ((-1) : Int))) (
  tif (r1) (
  some (1 : Int)) (
  tif ((decide (x < y))) (
  some ((-1) : Int)) (
  tif ((decide (y < x))) (
  some (1 : Int)) (
  some (0 : Int))))) := by kernel_rfl

theorem cell_Check_eq (n : Nat) (c : TCell) : cell_Check (n + 1) c =
  obind (cell_none n c) fun r0 =>
  tif (r0) (
  some (0 : Int)) (
  obind (cell_spans n c) fun r1 =>
  tif ((!r1)) (
  some (2 : Int)) (
  obind (wide_Of n (18446744073709551615 : Int)) fun r2 =>
  obind (wide_Times n r2 (IntKind.wrap .u64 (IntKind.wrap .i64 (c.1 - (1 : Int))))) fun r3 =>
  tif ((!(decide (r3.2 = (0 : Int))))) (
  some (2 : Int)) (
  obind (wide_Less n r3.1 c.2.2.2.1) fun r4 =>
  tif (r4) (
  some (2 : Int)) (
  obind (cell_in n c.2.2.2.2.2.1 (IntKind.wrap .i64 (c.1 - (1 : Int)))) fun r5 =>
  tif ((!r5)) (
  some (2 : Int)) (
  obind (cell_in n c.2.2.2.2.1 (IntKind.wrap .i64 ((IntKind.wrap .i64 (c.1 - (1 : Int))) - c.2.2.2.2.2.1))) fun r6 =>
  tif ((!r6)) (
  some (2 : Int)) (
  obind (cell_in n c.2.2.2.2.2.2 (IntKind.wrap .i64 (c.2.2.1.1 - c.2.1.1))) fun r7 =>
  tif ((!r7)) (
  some (2 : Int)) (
  some (0 : Int)))))))) := by kernel_rfl

theorem window_Of_eq (n : Nat) (t : Int) (w : Int) : window_Of (n + 1) t w =
  obind (window_in_int64 n t (0 : Int) (35184372088831 : Int)) fun r0 =>
  tif ((!r0)) (
  some ((0 : Int), (1 : Int))) (
  obind (window_width n w) fun r1 =>
  tif ((!r1)) (
  some ((0 : Int), (1 : Int))) (
  tif ((decide (w = (0 : Int)))) (
  none) (
  some ((IntKind.wrap .i64 (Int.tdiv t w)), (0 : Int))))) := by kernel_rfl

theorem r08_Merge_eq (n : Nat) (a : TCell) (b : TCell) : r08_Merge (n + 1) a b =
  obind (r08_Check n a) fun r0 =>
  tif ((!(decide (r0 = (0 : Int))))) (
  some (((0 : Int), (((0 : Int), ((0 : Int), ((0 : Int), false))), (((0 : Int), ((0 : Int), ((0 : Int), false))), (((0 : Int), (0 : Int)), ((0 : Int), ((0 : Int), (0 : Int))))))), (2 : Int))) (
  obind (r08_Check n b) fun r1 =>
  tif ((!(decide (r1 = (0 : Int))))) (
  some (((0 : Int), (((0 : Int), ((0 : Int), ((0 : Int), false))), (((0 : Int), ((0 : Int), ((0 : Int), false))), (((0 : Int), (0 : Int)), ((0 : Int), ((0 : Int), (0 : Int))))))), (2 : Int))) (
  tif ((decide (a.1 = (0 : Int)))) (
  some (b, (0 : Int))) (
  tif ((decide (b.1 = (0 : Int)))) (
  some (a, (0 : Int))) (
  tif ((decide (b.2.1.1 ≤ a.2.2.1.1))) (
  some (((0 : Int), (((0 : Int), ((0 : Int), ((0 : Int), false))), (((0 : Int), ((0 : Int), ((0 : Int), false))), (((0 : Int), (0 : Int)), ((0 : Int), ((0 : Int), (0 : Int))))))), (9 : Int))) (
  obind (r07_Between n a.2.2.1 b.2.1) fun r2 =>
  obind (r01_Sum n (a.2.2.2.1 :: (r2.1.2.2.2.1 :: (b.2.2.2.1 :: [])))) fun r3 =>
  some (((IntKind.wrap .i64 (a.1 + b.1)), (a.2.1, (b.2.2.1, (r3.1, ((IntKind.wrap .i64 ((IntKind.wrap .i64 (a.2.2.2.2.1 + r2.1.2.2.2.2.1)) + b.2.2.2.2.1)), ((IntKind.wrap .i64 ((IntKind.wrap .i64 (a.2.2.2.2.2.1 + r2.1.2.2.2.2.2.1)) + b.2.2.2.2.2.1)), (IntKind.wrap .i64 ((IntKind.wrap .i64 (a.2.2.2.2.2.2 + r2.1.2.2.2.2.2.2)) + b.2.2.2.2.2.2)))))))), (0 : Int))))))) := by kernel_rfl

theorem cell_none_eq (n : Nat) (c : TCell) : cell_none (n + 1) c =
  some ((decide (c.1 = (0 : Int))) && ((decide (c.2.1.1 = (0 : Int))) && ((decide (c.2.1.2.1 = (0 : Int))) && ((decide (c.2.1.2.2.1 = (0 : Int))) && ((c.2.1.2.2.2 == false) && ((decide (c.2.2.1.1 = (0 : Int))) && ((decide (c.2.2.1.2.1 = (0 : Int))) && ((decide (c.2.2.1.2.2.1 = (0 : Int))) && ((c.2.2.1.2.2.2 == false) && ((decide (c.2.2.2.1.1 = (0 : Int))) && ((decide (c.2.2.2.1.2 = (0 : Int))) && ((decide (c.2.2.2.2.1 = (0 : Int))) && ((decide (c.2.2.2.2.2.1 = (0 : Int))) && (decide (c.2.2.2.2.2.2 = (0 : Int)))))))))))))))) := by kernel_rfl

theorem cell_join_eq (n : Nat) (a : TCell) (b : TCell) : cell_join (n + 1) a b =
  obind (event_Between n a.2.2.1 b.2.1) fun r0 =>
  tif ((!(decide (r0.2 = (0 : Int))))) (
  some (((0 : Int), (((0 : Int), ((0 : Int), ((0 : Int), false))), (((0 : Int), ((0 : Int), ((0 : Int), false))), (((0 : Int), (0 : Int)), ((0 : Int), ((0 : Int), (0 : Int))))))), r0.2)) (
  obind (wide_Sum n (a.2.2.2.1 :: (r0.1.2.2.2.1 :: (b.2.2.2.1 :: [])))) fun r1 =>
  some (((IntKind.wrap .i64 (a.1 + b.1)), (a.2.1, (b.2.2.1, (r1.1, ((IntKind.wrap .i64 (r0.1.2.2.2.2.1 + (IntKind.wrap .i64 (a.2.2.2.2.1 + b.2.2.2.2.1)))), ((IntKind.wrap .i64 (r0.1.2.2.2.2.2.1 + (IntKind.wrap .i64 (a.2.2.2.2.2.1 + b.2.2.2.2.2.1)))), (IntKind.wrap .i64 (r0.1.2.2.2.2.2.2 + (IntKind.wrap .i64 (a.2.2.2.2.2.2 + b.2.2.2.2.2.2)))))))))), r1.2)) := by kernel_rfl

theorem r10_Factor_eq (n : Nat) (c : TConfig) (tier : Int) : r10_Factor (n + 1) c tier =
  obind (r10_Check n c) fun r0 =>
  tif ((!(decide (r0 = (0 : Int))))) (
  some (0 : Int)) (
  tif ((decide (tier < (1 : Int)))) (
  some (0 : Int)) (
  tif ((decide ((2 : Int) < tier))) (
  some (0 : Int)) (
  tif ((decide (tier = (0 : Int)))) (
  tif ((decide ((IntKind.wrap .i64 (tier - (1 : Int))) = (0 : Int)))) (
  tif ((decide (c.2.1.1 = (0 : Int)))) (
  none) (
  some (IntKind.wrap .i64 (Int.tdiv c.2.1.1 c.2.1.1)))) (
  tif ((decide ((IntKind.wrap .i64 (tier - (1 : Int))) = (1 : Int)))) (
  tif ((decide (c.2.1.2.1 = (0 : Int)))) (
  none) (
  some (IntKind.wrap .i64 (Int.tdiv c.2.1.1 c.2.1.2.1)))) (
  tif ((decide ((IntKind.wrap .i64 (tier - (1 : Int))) = (2 : Int)))) (
  tif ((decide (c.2.1.2.2 = (0 : Int)))) (
  none) (
  some (IntKind.wrap .i64 (Int.tdiv c.2.1.1 c.2.1.2.2)))) (
  none)))) (
  tif ((decide (tier = (1 : Int)))) (
  tif ((decide ((IntKind.wrap .i64 (tier - (1 : Int))) = (0 : Int)))) (
  tif ((decide (c.2.1.1 = (0 : Int)))) (
  none) (
  some (IntKind.wrap .i64 (Int.tdiv c.2.1.2.1 c.2.1.1)))) (
  tif ((decide ((IntKind.wrap .i64 (tier - (1 : Int))) = (1 : Int)))) (
  tif ((decide (c.2.1.2.1 = (0 : Int)))) (
  none) (
  some (IntKind.wrap .i64 (Int.tdiv c.2.1.2.1 c.2.1.2.1)))) (
  tif ((decide ((IntKind.wrap .i64 (tier - (1 : Int))) = (2 : Int)))) (
  tif ((decide (c.2.1.2.2 = (0 : Int)))) (
  none) (
  some (IntKind.wrap .i64 (Int.tdiv c.2.1.2.1 c.2.1.2.2)))) (
  none)))) (
  tif ((decide (tier = (2 : Int)))) (
  tif ((decide ((IntKind.wrap .i64 (tier - (1 : Int))) = (0 : Int)))) (
  tif ((decide (c.2.1.1 = (0 : Int)))) (
  none) (
  some (IntKind.wrap .i64 (Int.tdiv c.2.1.2.2 c.2.1.1)))) (
  tif ((decide ((IntKind.wrap .i64 (tier - (1 : Int))) = (1 : Int)))) (
  tif ((decide (c.2.1.2.1 = (0 : Int)))) (
  none) (
  some (IntKind.wrap .i64 (Int.tdiv c.2.1.2.2 c.2.1.2.1)))) (
  tif ((decide ((IntKind.wrap .i64 (tier - (1 : Int))) = (2 : Int)))) (
  tif ((decide (c.2.1.2.2 = (0 : Int)))) (
  none) (
  some (IntKind.wrap .i64 (Int.tdiv c.2.1.2.2 c.2.1.2.2)))) (
  none)))) (
  none)))))) := by kernel_rfl

theorem r10_place_eq (n : Nat) (c : TConfig) : r10_place (n + 1) c =
  obind (r10_parts n c.1 (16 : Int)) fun r0 =>
  obind (r10_parts n c.2.2.1.1 (4 : Int)) fun r1 =>
  obind (r10_parts n c.2.2.1.2.1 (4 : Int)) fun r2 =>
  obind (r10_parts n c.2.2.1.2.2 (4 : Int)) fun r3 =>
  some (IntKind.wrap .i64 ((IntKind.wrap .i64 ((IntKind.wrap .i64 ((IntKind.wrap .i64 ((1 : Int) + r0)) + r1)) + r2)) + r3)) := by kernel_rfl

theorem conf_in_int_eq (n : Nat) (n_ : Int) (low : Int) (high : Int) : conf_in_int (n + 1) n_ low high =
  tif ((decide (low ≤ n_))) (
  some (decide (n_ ≤ high))) (
  some false) := by kernel_rfl

theorem conf_in_int64_eq (n : Nat) (n_ : Int) (low : Int) (high : Int) : conf_in_int64 (n + 1) n_ low high =
  tif ((decide (low ≤ n_))) (
  some (decide (n_ ≤ high))) (
  some false) := by kernel_rfl

theorem conf_place_eq (n : Nat) (c : TConfig) : conf_place (n + 1) c =
  obind (conf_parts n c.1 (16 : Int)) fun r0 =>
  obind (conf_parts n c.2.2.1.1 (4 : Int)) fun r1 =>
  obind (conf_parts n c.2.2.1.2.1 (4 : Int)) fun r2 =>
  obind (conf_parts n c.2.2.1.2.2 (4 : Int)) fun r3 =>
  some (IntKind.wrap .i64 ((IntKind.wrap .i64 ((IntKind.wrap .i64 ((IntKind.wrap .i64 ((1 : Int) + r0)) + r1)) + r2)) + r3)) := by kernel_rfl

theorem r07_Check_eq (n : Nat) (e : TEvent) : r07_Check (n + 1) e =
  tif ((decide (e.1 < (0 : Int)))) (
  some (2 : Int)) (
  tif ((decide ((35184372088832 : Int) ≤ e.1))) (
  some (2 : Int)) (
  tif ((decide (e.2.2.1 < (0 : Int)))) (
  some (2 : Int)) (
  tif ((decide (e.1 < e.2.2.1))) (
  some (2 : Int)) (
  tif (e.2.2.2) (
  tif ((!(decide (e.2.1 = (0 : Int))))) (
  some (2 : Int)) (
  tif ((!(decide (e.2.2.1 = (0 : Int))))) (
  some (2 : Int)) (
  some (0 : Int)))) (
  some (0 : Int)))))) := by kernel_rfl

theorem r01_Times_eq (n : Nat) (a : (Int × Int)) (n_ : Int) : r01_Times (n + 1) a n_ =
  obind (r01_Times_l4 n loopFuel (n_, (a, (((0 : Int), (0 : Int)), (((0 : Int), (0 : Int)), (false, ())))))) fun r0 =>
  selim (fun y1 =>
  some (y1.2.1, (0 : Int))) (fun z2 =>
  some z2) r0 := by kernel_rfl
theorem r01_Times_l4_eq (n f : Nat) (n_ : Int) (a_ : (Int × Int)) (s4 : (Int × Int)) (out : (Int × Int)) (over : Bool) : r01_Times_l4 n (f + 1) (n_, a_, s4, out, over, ()) =
  tif ((decide ((0 : Int) < n_))) (
  tif ((decide ((Int.tmod n_ (2 : Int)) = (1 : Int)))) (
  tif (over) (
  some (.inr (((0 : Int), (0 : Int)), (1 : Int)))) (
  obind (r01_Add n out a_) fun r0 =>
  tif ((!(decide (r0.2 = (0 : Int))))) (
  some (.inr (((0 : Int), (0 : Int)), r0.2))) (
  obind (r01_Add n a_ a_) fun r1 =>
  tif (over) (
  r01_Times_l4 n f ((IntKind.wrap .u64 (Int.tdiv n_ (2 : Int))), (r1.1, (s4, (r0.1, (true, ())))))) (
  r01_Times_l4 n f ((IntKind.wrap .u64 (Int.tdiv n_ (2 : Int))), (r1.1, (s4, (r0.1, ((!(decide (r1.2 = (0 : Int)))), ()))))))))) (
  obind (r01_Add n a_ a_) fun r2 =>
  tif (over) (
  r01_Times_l4 n f ((IntKind.wrap .u64 (Int.tdiv n_ (2 : Int))), (r2.1, (s4, (out, (true, ())))))) (
  r01_Times_l4 n f ((IntKind.wrap .u64 (Int.tdiv n_ (2 : Int))), (r2.1, (s4, (out, ((!(decide (r2.2 = (0 : Int)))), ())))))))) (
  some (.inl (s4, (out, ())))) := by kernel_rfl
theorem r01_Times_l4_zero (n : Nat) (x : (Int × ((Int × Int) × ((Int × Int) × ((Int × Int) × (Bool × Unit)))))) : r01_Times_l4 n 0 x = none := by kernel_rfl

theorem r01_Less_eq (n : Nat) (a : (Int × Int)) (b : (Int × Int)) : r01_Less (n + 1) a b =
  obind (r01_Bytes n a) fun r0 =>
  obind (r01_Bytes n b) fun r1 =>
  tif ((!(decide (r0.2.2.2.2.2.2.2.2.2.2.2.2.2.2.2 = r1.2.2.2.2.2.2.2.2.2.2.2.2.2.2.2)))) (
  some (decide (r0.2.2.2.2.2.2.2.2.2.2.2.2.2.2.2 < r1.2.2.2.2.2.2.2.2.2.2.2.2.2.2.2))) (
  tif ((!(decide (r0.2.2.2.2.2.2.2.2.2.2.2.2.2.2.1 = r1.2.2.2.2.2.2.2.2.2.2.2.2.2.2.1)))) (
  some (decide (r0.2.2.2.2.2.2.2.2.2.2.2.2.2.2.1 < r1.2.2.2.2.2.2.2.2.2.2.2.2.2.2.1))) (
  tif ((!(decide (r0.2.2.2.2.2.2.2.2.2.2.2.2.2.1 = r1.2.2.2.2.2.2.2.2.2.2.2.2.2.1)))) (
  some (decide (r0.2.2.2.2.2.2.2.2.2.2.2.2.2.1 < r1.2.2.2.2.2.2.2.2.2.2.2.2.2.1))) (
  tif ((!(decide (r0.2.2.2.2.2.2.2.2.2.2.2.2.1 = r1.2.2.2.2.2.2.2.2.2.2.2.2.1)))) (
  some (decide (r0.2.2.2.2.2.2.2.2.2.2.2.2.1 < r1.2.2.2.2.2.2.2.2.2.2.2.2.1))) (
  tif ((!(decide (r0.2.2.2.2.2.2.2.2.2.2.2.1 = r1.2.2.2.2.2.2.2.2.2.2.2.1)))) (
  some (decide (r0.2.2.2.2.2.2.2.2.2.2.2.1 < r1.2.2.2.2.2.2.2.2.2.2.2.1))) (
  tif ((!(decide (r0.2.2.2.2.2.2.2.2.2.2.1 = r1.2.2.2.2.2.2.2.2.2.2.1)))) (
  some (decide (r0.2.2.2.2.2.2.2.2.2.2.1 < r1.2.2.2.2.2.2.2.2.2.2.1))) (
  tif ((!(decide (r0.2.2.2.2.2.2.2.2.2.1 = r1.2.2.2.2.2.2.2.2.2.1)))) (
  some (decide (r0.2.2.2.2.2.2.2.2.2.1 < r1.2.2.2.2.2.2.2.2.2.1))) (
  tif ((!(decide (r0.2.2.2.2.2.2.2.2.1 = r1.2.2.2.2.2.2.2.2.1)))) (
  some (decide (r0.2.2.2.2.2.2.2.2.1 < r1.2.2.2.2.2.2.2.2.1))) (
  tif ((!(decide (r0.2.2.2.2.2.2.2.1 = r1.2.2.2.2.2.2.2.1)))) (
  some (decide (r0.2.2.2.2.2.2.2.1 < r1.2.2.2.2.2.2.2.1))) (
  tif ((!(decide (r0.2.2.2.2.2.2.1 = r1.2.2.2.2.2.2.1)))) (
  some (decide (r0.2.2.2.2.2.2.1 < r1.2.2.2.2.2.2.1))) (
  tif ((!(decide (r0.2.2.2.2.2.1 = r1.2.2.2.2.2.1)))) (
  some (decide (r0.2.2.2.2.2.1 < r1.2.2.2.2.2.1))) (
  tif ((!(decide (r0.2.2.2.2.1 = r1.2.2.2.2.1)))) (
  some (decide (r0.2.2.2.2.1 < r1.2.2.2.2.1))) (
  tif ((!(decide (r0.2.2.2.1 = r1.2.2.2.1)))) (
  some (decide (r0.2.2.2.1 < r1.2.2.2.1))) (
  tif ((!(decide (r0.2.2.1 = r1.2.2.1)))) (
  some (decide (r0.2.2.1 < r1.2.2.1))) (
  tif ((!(decide (r0.2.1 = r1.2.1)))) (
  some (decide (r0.2.1 < r1.2.1))) (
  tif ((!(decide (r0.1 = r1.1)))) (
  some (decide (r0.1 < r1.1))) (
  some false)))))))))))))))) := by kernel_rfl

theorem r09_width_eq (n : Nat) (w : Int) : r09_width (n + 1) w =
  tif ((decide ((1 : Int) ≤ w))) (
  some (decide (w ≤ (1099511627776 : Int)))) (
  some false) := by kernel_rfl

theorem slices_IndexFunc_Slot_eq (n : Nat) (s : (List TSlot)) (f_ : ((TSlot × Unit) → Option Bool)) : slices_IndexFunc_Slot (n + 1) s f_ =
  obind (slices_IndexFunc_Slot_l2 n loopFuel (s, (f_, ((((List.length s) : Nat) : Int), ((0 : Int), ()))))) fun r0 =>
  selim (fun y1 =>
  some ((-1) : Int)) (fun z2 =>
  some z2) r0 := by kernel_rfl
theorem slices_IndexFunc_Slot_l2_eq (n f : Nat) (s : (List TSlot)) (f_ : ((TSlot × Unit) → Option Bool)) (s7 : Int) (s8 : Int) : slices_IndexFunc_Slot_l2 n (f + 1) (s, f_, s7, s8, ()) =
  tif ((decide (s8 < s7))) (
  obind (at? s s8) fun r0 =>
  obind (f_ (r0, ())) fun r1 =>
  tif (r1) (
  some (.inr s8)) (
  slices_IndexFunc_Slot_l2 n f (s, (f_, (s7, ((IntKind.wrap .i64 (s8 + (1 : Int))), ())))))) (
  some (.inl ())) := by kernel_rfl
theorem slices_IndexFunc_Slot_l2_zero (n : Nat) (x : ((List TSlot) × (((TSlot × Unit) → Option Bool) × (Int × (Int × Unit))))) : slices_IndexFunc_Slot_l2 n 0 x = none := by kernel_rfl

theorem slices_stableCmpFunc_Slot_eq (n : Nat) (data : (List TSlot)) (n_ : Int) (cmp : ((TSlot × (TSlot × Unit)) → Option Int)) : slices_stableCmpFunc_Slot (n + 1) data n_ cmp =
  obind (slices_stableCmpFunc_Slot_l2 n loopFuel (data, (n_, (cmp, ((20 : Int), ((0 : Int), ((20 : Int), ()))))))) fun r0 =>
  selim (fun y1 =>
  obind (slices_insertionSortCmpFunc_Slot n y1.1 y1.2.2.2.2.1 y1.2.1 y1.2.2.1) fun r2 =>
  obind (slices_stableCmpFunc_Slot_l7 n loopFuel (r2, (y1.2.1, (y1.2.2.1, (y1.2.2.2.1, ()))))) fun r3 =>
  selim (fun y4 =>
  some y4.1) (fun z5 =>
  some z5) r3) (fun z6 =>
  some z6) r0 := by kernel_rfl
theorem slices_stableCmpFunc_Slot_l2_eq (n f : Nat) (data : (List TSlot)) (n_ : Int) (cmp : ((TSlot × (TSlot × Unit)) → Option Int)) (blockSize : Int) (a : Int) (b : Int) : slices_stableCmpFunc_Slot_l2 n (f + 1) (data, n_, cmp, blockSize, a, b, ()) =
  tif ((decide (b ≤ n_))) (
  obind (slices_insertionSortCmpFunc_Slot n data a b cmp) fun r0 =>
  slices_stableCmpFunc_Slot_l2 n f (r0, (n_, (cmp, (blockSize, (b, ((IntKind.wrap .i64 (b + blockSize)), ()))))))) (
  some (.inl (data, (n_, (cmp, (blockSize, (a, ()))))))) := by kernel_rfl
theorem slices_stableCmpFunc_Slot_l2_zero (n : Nat) (x : ((List TSlot) × (Int × (((TSlot × (TSlot × Unit)) → Option Int) × (Int × (Int × (Int × Unit))))))) : slices_stableCmpFunc_Slot_l2 n 0 x = none := by kernel_rfl
theorem slices_stableCmpFunc_Slot_l7_eq (n f : Nat) (data : (List TSlot)) (n_ : Int) (cmp : ((TSlot × (TSlot × Unit)) → Option Int)) (blockSize : Int) : slices_stableCmpFunc_Slot_l7 n (f + 1) (data, n_, cmp, blockSize, ()) =
  tif ((decide (blockSize < n_))) (
  obind (slices_stableCmpFunc_Slot_l9 n loopFuel (data, (n_, (cmp, (blockSize, ((0 : Int), ((IntKind.wrap .i64 ((2 : Int) * blockSize)), ()))))))) fun r0 =>
  selim (fun y1 =>
  tif ((decide ((IntKind.wrap .i64 (y1.2.2.2.2.1 + y1.2.2.2.1)) < y1.2.1))) (
  obind (slices_symMergeCmpFunc_Slot n y1.1 y1.2.2.2.2.1 (IntKind.wrap .i64 (y1.2.2.2.2.1 + y1.2.2.2.1)) y1.2.1 y1.2.2.1) fun r2 =>
  slices_stableCmpFunc_Slot_l7 n f (r2, (y1.2.1, (y1.2.2.1, ((IntKind.wrap .i64 (y1.2.2.2.1 * (2 : Int))), ()))))) (
  slices_stableCmpFunc_Slot_l7 n f (y1.1, (y1.2.1, (y1.2.2.1, ((IntKind.wrap .i64 (y1.2.2.2.1 * (2 : Int))), ())))))) (fun z3 =>
  some (.inr z3)) r0) (
  some (.inl (data, ()))) := by kernel_rfl
theorem slices_stableCmpFunc_Slot_l7_zero (n : Nat) (x : ((List TSlot) × (Int × (((TSlot × (TSlot × Unit)) → Option Int) × (Int × Unit))))) : slices_stableCmpFunc_Slot_l7 n 0 x = none := by kernel_rfl
theorem slices_stableCmpFunc_Slot_l9_eq (n f : Nat) (data : (List TSlot)) (n_ : Int) (cmp : ((TSlot × (TSlot × Unit)) → Option Int)) (blockSize : Int) (a : Int) (b : Int) : slices_stableCmpFunc_Slot_l9 n (f + 1) (data, n_, cmp, blockSize, a, b, ()) =
  tif ((decide (b ≤ n_))) (
  obind (slices_symMergeCmpFunc_Slot n data a (IntKind.wrap .i64 (a + blockSize)) b cmp) fun r0 =>
  slices_stableCmpFunc_Slot_l9 n f (r0, (n_, (cmp, (blockSize, (b, ((IntKind.wrap .i64 (b + (IntKind.wrap .i64 ((2 : Int) * blockSize)))), ()))))))) (
  some (.inl (data, (n_, (cmp, (blockSize, (a, ()))))))) := by kernel_rfl
theorem slices_stableCmpFunc_Slot_l9_zero (n : Nat) (x : ((List TSlot) × (Int × (((TSlot × (TSlot × Unit)) → Option Int) × (Int × (Int × (Int × Unit))))))) : slices_stableCmpFunc_Slot_l9 n 0 x = none := by kernel_rfl

theorem cmp_isNaN_int64_eq (n : Nat) (x : Int) : cmp_isNaN_int64 (n + 1) x =
  some (!(decide (x = x))) := by kernel_rfl

theorem cell_spans_eq (n : Nat) (c : TCell) : cell_spans (n + 1) c =
  tif ((decide (c.1 = (1 : Int)))) (
  tif (((decide (c.2.1.1 = c.2.2.1.1)) && ((decide (c.2.1.2.1 = c.2.2.1.2.1)) && ((decide (c.2.1.2.2.1 = c.2.2.1.2.2.1)) && (c.2.1.2.2.2 == c.2.2.1.2.2.2))))) (
  obind (event_Check n c.2.1) fun r0 =>
  some (decide (r0 = (0 : Int)))) (
  some false)) (
  tif ((decide ((1 : Int) < c.1))) (
  obind (event_Follow n c.2.1 c.2.2.1) fun r1 =>
  tif (r1) (
  some (decide ((IntKind.wrap .i64 (c.1 - (1 : Int))) ≤ (IntKind.wrap .i64 (c.2.2.1.1 - c.2.1.1))))) (
  some false)) (
  some false)) := by kernel_rfl

theorem wide_Times_eq (n : Nat) (a : (Int × Int)) (n_ : Int) : wide_Times (n + 1) a n_ =
  obind (math_bits_Mul64 n a.2 n_) fun r0 =>
  obind (math_bits_Mul64 n a.1 n_) fun r1 =>
  tif (((decide ((0 : Int) ≤ r1.2)) && ((decide ((0 : Int) ≤ r0.1)) && true))) (
  obind (wide_sure n ((((r1.2 + r0.1) + (0 : Int)) % (18446744073709551616 : Int)), r0.2) (orI .u64 r1.1 (((r1.2 + r0.1) + (0 : Int)) / (18446744073709551616 : Int)))) fun r2 =>
  some r2) (
  none) := by kernel_rfl

theorem wide_Of_eq (n : Nat) (n_ : Int) : wide_Of (n + 1) n_ =
  some ((0 : Int), n_) := by kernel_rfl

theorem wide_Less_eq (n : Nat) (a : (Int × Int)) (b : (Int × Int)) : wide_Less (n + 1) a b =
  tif ((decide (a.1 < b.1))) (
  some true) (
  tif ((decide (a.1 = b.1))) (
  some (decide (a.2 < b.2))) (
  some false)) := by kernel_rfl

theorem cell_in_eq (n : Nat) (n_ : Int) (most : Int) : cell_in (n + 1) n_ most =
  tif ((decide ((0 : Int) ≤ n_))) (
  some (decide (n_ ≤ most))) (
  some false) := by kernel_rfl

theorem window_in_int64_eq (n : Nat) (n_ : Int) (low : Int) (high : Int) : window_in_int64 (n + 1) n_ low high =
  tif ((decide (low ≤ n_))) (
  some (decide (n_ ≤ high))) (
  some false) := by kernel_rfl

theorem window_width_eq (n : Nat) (w : Int) : window_width (n + 1) w =
  obind (window_in_int64 n w (1 : Int) (1099511627776 : Int)) fun r0 =>
  some r0 := by kernel_rfl

theorem r07_Between_eq (n : Nat) (p : TEvent) (c : TEvent) : r07_Between (n + 1) p c =
  obind (r07_Check n p) fun r0 =>
  tif ((!(decide (r0 = (0 : Int))))) (
  some (((0 : Int), (((0 : Int), ((0 : Int), ((0 : Int), false))), (((0 : Int), ((0 : Int), ((0 : Int), false))), (((0 : Int), (0 : Int)), ((0 : Int), ((0 : Int), (0 : Int))))))), (2 : Int))) (
  obind (r07_Check n c) fun r1 =>
  tif ((!(decide (r1 = (0 : Int))))) (
  some (((0 : Int), (((0 : Int), ((0 : Int), ((0 : Int), false))), (((0 : Int), ((0 : Int), ((0 : Int), false))), (((0 : Int), (0 : Int)), ((0 : Int), ((0 : Int), (0 : Int))))))), (2 : Int))) (
  tif ((decide (c.1 ≤ p.1))) (
  some (((0 : Int), (((0 : Int), ((0 : Int), ((0 : Int), false))), (((0 : Int), ((0 : Int), ((0 : Int), false))), (((0 : Int), (0 : Int)), ((0 : Int), ((0 : Int), (0 : Int))))))), (9 : Int))) (
  tif (c.2.2.2) (
  some (((0 : Int), (((0 : Int), ((0 : Int), ((0 : Int), false))), (((0 : Int), ((0 : Int), ((0 : Int), false))), (((0 : Int), (0 : Int)), ((0 : Int), ((0 : Int), (0 : Int))))))), (0 : Int))) (
  tif ((decide (p.1 < c.2.2.1))) (
  some (((0 : Int), (((0 : Int), ((0 : Int), ((0 : Int), false))), (((0 : Int), ((0 : Int), ((0 : Int), false))), (((0 : Int), c.2.1), ((1 : Int), ((0 : Int), (IntKind.wrap .i64 (c.1 - c.2.2.1)))))))), (0 : Int))) (
  tif (p.2.2.2) (
  some (((0 : Int), (((0 : Int), ((0 : Int), ((0 : Int), false))), (((0 : Int), ((0 : Int), ((0 : Int), false))), (((0 : Int), (0 : Int)), ((0 : Int), ((1 : Int), (0 : Int))))))), (0 : Int))) (
  tif ((decide (c.2.1 < p.2.1))) (
  some (((0 : Int), (((0 : Int), ((0 : Int), ((0 : Int), false))), (((0 : Int), ((0 : Int), ((0 : Int), false))), (((0 : Int), c.2.1), ((1 : Int), ((0 : Int), (IntKind.wrap .i64 (c.1 - p.1)))))))), (0 : Int))) (
  some (((0 : Int), (((0 : Int), ((0 : Int), ((0 : Int), false))), (((0 : Int), ((0 : Int), ((0 : Int), false))), (((0 : Int), (IntKind.wrap .u64 (c.2.1 - p.2.1))), ((0 : Int), ((0 : Int), (IntKind.wrap .i64 (c.1 - p.1)))))))), (0 : Int))))))))) := by kernel_rfl

end Go.Proofs.Ytapadkjknnfifaa
