/-
  What each function comes to by one step of the flat reading. Printed by program; the kernel looks at each.
-/
import Derived.Test.YtapadkjknnfifaaGreatTr0
import Derived.KernelRfl
set_option linter.unusedVariables false
namespace Go.Proofs.YtapadkjknnfifaaGreat
open Go.Flat
theorem r15_Same_eq (n : Nat) (a : TSeries) (b : TSeries) : r15_Same (n + 1) a b =
  obind (r05_Same n a.1 b.1) fun r0 =>
  tif (r0) (
  tif ((decide (a.2.1 = b.2.1))) (
  obind (r12_Same n a.2.2.1 b.2.2.1) fun r1 =>
  tif (r1) (
  obind (r14_Same n a.2.2.2.1 b.2.2.2.1) fun r2 =>
  tif (r2) (
  some ((decide (a.2.2.2.2.1 = b.2.2.2.2.1)) && ((decide (a.2.2.2.2.2.1 = b.2.2.2.2.2.1)) && ((decide (a.2.2.2.2.2.2.1.1 = b.2.2.2.2.2.2.1.1)) && ((decide (a.2.2.2.2.2.2.1.2.1 = b.2.2.2.2.2.2.1.2.1)) && ((decide (a.2.2.2.2.2.2.1.2.2.1 = b.2.2.2.2.2.2.1.2.2.1)) && ((a.2.2.2.2.2.2.1.2.2.2 == b.2.2.2.2.2.2.1.2.2.2) && ((decide (a.2.2.2.2.2.2.2.1.1 = b.2.2.2.2.2.2.2.1.1)) && ((decide (a.2.2.2.2.2.2.2.1.2.1 = b.2.2.2.2.2.2.2.1.2.1)) && ((decide (a.2.2.2.2.2.2.2.1.2.2.1 = b.2.2.2.2.2.2.2.1.2.2.1)) && ((a.2.2.2.2.2.2.2.1.2.2.2 == b.2.2.2.2.2.2.2.1.2.2.2) && ((decide (a.2.2.2.2.2.2.2.2.1.1 = b.2.2.2.2.2.2.2.2.1.1)) && ((decide (a.2.2.2.2.2.2.2.2.1.2 = b.2.2.2.2.2.2.2.2.1.2)) && ((decide (a.2.2.2.2.2.2.2.2.2.1 = b.2.2.2.2.2.2.2.2.2.1)) && ((decide (a.2.2.2.2.2.2.2.2.2.2.1 = b.2.2.2.2.2.2.2.2.2.2.1)) && (decide (a.2.2.2.2.2.2.2.2.2.2.2 = b.2.2.2.2.2.2.2.2.2.2.2))))))))))))))))) (
  some false)) (
  some false)) (
  some false)) (
  some false) := by kernel_rfl
theorem l05_Small_eq (n : Nat) (l : (List (List UInt8 × List UInt8))) : l05_Small (n + 1) l =
  obind (l05_Small_l2 n loopFuel (l, ((((List.length l) : Nat) : Int), ((0 : Int), ())))) fun r0 =>
  selim (fun y1 =>
  some (1 : Int)) (fun z2 =>
  some z2) r0 := by kernel_rfl
theorem l05_Small_l2_eq (n f : Nat) (s5 : (List (List UInt8 × List UInt8))) (s6 : Int) (s7 : Int) : l05_Small_l2 n (f + 1) (s5, s6, s7, ()) =
  tif ((decide (s7 < s6))) (
  obind (at? s5 s7) fun r0 =>
  tif ((decide (s7 = (40 : Int)))) (
  some (.inr (0 : Int))) (
  tif ((decide ((1000 : Int) < (((List.length r0.1) : Nat) : Int)))) (
  some (.inr (0 : Int))) (
  tif ((decide ((1000 : Int) < (((List.length r0.2) : Nat) : Int)))) (
  some (.inr (0 : Int))) (
  l05_Small_l2 n f (s5, (s6, ((IntKind.wrap .i64 (s7 + (1 : Int))), ()))))))) (
  some (.inl ())) := by kernel_rfl
theorem series_New_eq (n : Nat) (c : TConfig) (l : (List (List UInt8 × List UInt8))) : series_New (n + 1) c l =
  obind (conf_Check n c) fun r0 =>
  tif ((!(decide (r0 = (0 : Int))))) (
  some (([], ((0 : Int), (((0 : Int), ((0 : Int), [])), (([], ([], [])), ((0 : Int), ((0 : Int), (((0 : Int), ((0 : Int), ((0 : Int), false))), (((0 : Int), ((0 : Int), ((0 : Int), false))), (((0 : Int), (0 : Int)), ((0 : Int), ((0 : Int), (0 : Int)))))))))))), r0)) (
  obind (label_Check n l) fun r1 =>
  tif ((!(decide (r1 = (0 : Int))))) (
  some (([], ((0 : Int), (((0 : Int), ((0 : Int), [])), (([], ([], [])), ((0 : Int), ((0 : Int), (((0 : Int), ((0 : Int), ((0 : Int), false))), (((0 : Int), ((0 : Int), ((0 : Int), false))), (((0 : Int), (0 : Int)), ((0 : Int), ((0 : Int), (0 : Int)))))))))))), r1)) (
  obind (slices_Clone_Label n l) fun r2 =>
  obind (fold_Empty n c) fun r3 =>
  some ((r2, (((-1) : Int), (((0 : Int), ((0 : Int), [])), (r3, ((0 : Int), ((0 : Int), (((0 : Int), ((0 : Int), ((0 : Int), false))), (((0 : Int), ((0 : Int), ((0 : Int), false))), (((0 : Int), (0 : Int)), ((0 : Int), ((0 : Int), (0 : Int)))))))))))), (0 : Int)))) := by kernel_rfl
theorem r15_New_eq (n : Nat) (c : TConfig) (l : (List (List UInt8 × List UInt8))) : r15_New (n + 1) c l =
  obind (r10_Check n c) fun r0 =>
  tif ((!(decide (r0 = (0 : Int))))) (
  some (([], ((0 : Int), (((0 : Int), ((0 : Int), [])), (([], ([], [])), ((0 : Int), ((0 : Int), (((0 : Int), ((0 : Int), ((0 : Int), false))), (((0 : Int), ((0 : Int), ((0 : Int), false))), (((0 : Int), (0 : Int)), ((0 : Int), ((0 : Int), (0 : Int)))))))))))), (2 : Int))) (
  obind (r05_Check n l) fun r1 =>
  tif ((!(decide (r1 = (0 : Int))))) (
  some (([], ((0 : Int), (((0 : Int), ((0 : Int), [])), (([], ([], [])), ((0 : Int), ((0 : Int), (((0 : Int), ((0 : Int), ((0 : Int), false))), (((0 : Int), ((0 : Int), ((0 : Int), false))), (((0 : Int), (0 : Int)), ((0 : Int), ((0 : Int), (0 : Int)))))))))))), (8 : Int))) (
  tif ((decide (((0 + (List.length l)) * 32) ≤ 140737488355328))) (
  obind (r14_Empty n c) fun r2 =>
  some ((([] ++ l), (((-1) : Int), (((0 : Int), ((0 : Int), [])), (r2, ((0 : Int), ((0 : Int), (((0 : Int), ((0 : Int), ((0 : Int), false))), (((0 : Int), ((0 : Int), ((0 : Int), false))), (((0 : Int), (0 : Int)), ((0 : Int), ((0 : Int), (0 : Int)))))))))))), (0 : Int))) (
  none))) := by kernel_rfl
theorem series_Same_eq (n : Nat) (a : TSeries) (b : TSeries) : series_Same (n + 1) a b =
  obind (label_Same n a.1 b.1) fun r0 =>
  tif (r0) (
  tif ((decide (a.2.1 = b.2.1))) (
  obind (raw_Same n a.2.2.1 b.2.2.1) fun r1 =>
  tif (r1) (
  tif (((decide (a.2.2.2.2.1 = b.2.2.2.2.1)) && ((decide (a.2.2.2.2.2.1 = b.2.2.2.2.2.1)) && ((decide (a.2.2.2.2.2.2.1.1 = b.2.2.2.2.2.2.1.1)) && ((decide (a.2.2.2.2.2.2.1.2.1 = b.2.2.2.2.2.2.1.2.1)) && ((decide (a.2.2.2.2.2.2.1.2.2.1 = b.2.2.2.2.2.2.1.2.2.1)) && ((a.2.2.2.2.2.2.1.2.2.2 == b.2.2.2.2.2.2.1.2.2.2) && ((decide (a.2.2.2.2.2.2.2.1.1 = b.2.2.2.2.2.2.2.1.1)) && ((decide (a.2.2.2.2.2.2.2.1.2.1 = b.2.2.2.2.2.2.2.1.2.1)) && ((decide (a.2.2.2.2.2.2.2.1.2.2.1 = b.2.2.2.2.2.2.2.1.2.2.1)) && ((a.2.2.2.2.2.2.2.1.2.2.2 == b.2.2.2.2.2.2.2.1.2.2.2) && ((decide (a.2.2.2.2.2.2.2.2.1.1 = b.2.2.2.2.2.2.2.2.1.1)) && ((decide (a.2.2.2.2.2.2.2.2.1.2 = b.2.2.2.2.2.2.2.2.1.2)) && ((decide (a.2.2.2.2.2.2.2.2.2.1 = b.2.2.2.2.2.2.2.2.2.1)) && ((decide (a.2.2.2.2.2.2.2.2.2.2.1 = b.2.2.2.2.2.2.2.2.2.2.1)) && (decide (a.2.2.2.2.2.2.2.2.2.2.2 = b.2.2.2.2.2.2.2.2.2.2.2))))))))))))))))) (
  obind (slices_Equal_Slot n a.2.2.2.1.1 b.2.2.2.1.1) fun r2 =>
  tif (r2) (
  obind (slices_Equal_Slot n a.2.2.2.1.2.1 b.2.2.2.1.2.1) fun r3 =>
  tif (r3) (
  obind (slices_Equal_Slot n a.2.2.2.1.2.2 b.2.2.2.1.2.2) fun r4 =>
  some r4) (
  some false)) (
  some false)) (
  some false)) (
  some false)) (
  some false)) (
  some false) := by kernel_rfl
theorem series_Dead_eq (n : Nat) (c : TConfig) (last : Int) (now : Int) : series_Dead (n + 1) c last now =
  obind (conf_Check n c) fun r0 =>
  tif ((decide (r0 = (0 : Int)))) (
  obind (window_Gone n last now c.2.1.1 c.2.2.1.1) fun r1 =>
  tif (r1) (
  obind (window_Gone n last now c.2.1.2.1 c.2.2.1.2.1) fun r2 =>
  tif (r2) (
  obind (window_Gone n last now c.2.1.2.2 c.2.2.1.2.2) fun r3 =>
  tif (r3) (
  some r3) (
  some r3)) (
  some r2)) (
  some r1)) (
  some (decide (r0 = (0 : Int)))) := by kernel_rfl
theorem r15_Dead_eq (n : Nat) (c : TConfig) (last : Int) (now : Int) : r15_Dead (n + 1) c last now =
  obind (r10_Check n c) fun r0 =>
  tif ((!(decide (r0 = (0 : Int))))) (
  some false) (
  obind (r09_Gone n last now c.2.1.1 c.2.2.1.1) fun r1 =>
  tif ((!r1)) (
  some false) (
  obind (r09_Gone n last now c.2.1.2.1 c.2.2.1.2.1) fun r2 =>
  tif ((!r2)) (
  some false) (
  obind (r09_Gone n last now c.2.1.2.2 c.2.2.1.2.2) fun r3 =>
  tif ((!r3)) (
  some false) (
  some true)))) := by kernel_rfl
theorem r12_SameList_eq (n : Nat) (a : (List TEvent)) (b : (List TEvent)) : r12_SameList (n + 1) a b =
  tif ((!(decide ((((List.length a) : Nat) : Int) = (((List.length b) : Nat) : Int))))) (
  some false) (
  obind (r12_SameList_l4 n loopFuel (a, (b, ((((List.length a) : Nat) : Int), ((0 : Int), ()))))) fun r0 =>
  selim (fun y1 =>
  some true) (fun z2 =>
  some z2) r0) := by kernel_rfl
theorem r12_SameList_l4_eq (n f : Nat) (a : (List TEvent)) (b : (List TEvent)) (s12 : Int) (s13 : Int) : r12_SameList_l4 n (f + 1) (a, b, s12, s13, ()) =
  tif ((decide (s13 < s12))) (
  obind (at? a s13) fun r0 =>
  obind (at? b s13) fun r1 =>
  tif ((!((decide (r0.1 = r1.1)) && ((decide (r0.2.1 = r1.2.1)) && ((decide (r0.2.2.1 = r1.2.2.1)) && (r0.2.2.2 == r1.2.2.2)))))) (
  some (.inr false)) (
  r12_SameList_l4 n f (a, (b, (s12, ((IntKind.wrap .i64 (s13 + (1 : Int))), ())))))) (
  some (.inl ())) := by kernel_rfl
theorem l10_Fit_eq (n : Nat)  : l10_Fit (n + 1)  =
  some ((20 : Int), (((10 : Int), ((20 : Int), (60 : Int))), (((4 : Int), ((5 : Int), (6 : Int))), ((3 : Int), (9 : Int))))) := by kernel_rfl
theorem window_Oldest_eq (n : Nat) (now : Int) (w : Int) (n_ : Int) : window_Oldest (n + 1) now w n_ =
  obind (window_Of n now w) fun r0 =>
  tif ((!(decide (r0.2 = (0 : Int))))) (
  some ((0 : Int), (1 : Int))) (
  obind (window_in_int n n_ (1 : Int) (4096 : Int)) fun r1 =>
  tif ((!r1)) (
  some ((0 : Int), (1 : Int))) (
  some ((if (0 : Int) < (IntKind.wrap .i64 ((IntKind.wrap .i64 (r0.1 + (1 : Int))) - n_)) then (IntKind.wrap .i64 ((IntKind.wrap .i64 (r0.1 + (1 : Int))) - n_)) else (0 : Int)), (0 : Int)))) := by kernel_rfl
theorem r09_Oldest_eq (n : Nat) (now : Int) (w : Int) (n_ : Int) : r09_Oldest (n + 1) now w n_ =
  obind (r09_Of n now w) fun r0 =>
  tif ((!(decide (r0.2 = (0 : Int))))) (
  some ((0 : Int), (1 : Int))) (
  tif ((decide (n_ < (1 : Int)))) (
  some ((0 : Int), (1 : Int))) (
  tif ((decide ((4096 : Int) < n_))) (
  some ((0 : Int), (1 : Int))) (
  some ((if (IntKind.wrap .i64 ((IntKind.wrap .i64 (r0.1 - n_)) + (1 : Int))) < (0 : Int) then (0 : Int) else (IntKind.wrap .i64 ((IntKind.wrap .i64 (r0.1 - n_)) + (1 : Int)))), (0 : Int))))) := by kernel_rfl
theorem r09_Of_eq (n : Nat) (t : Int) (w : Int) : r09_Of (n + 1) t w =
  tif ((decide (t < (0 : Int)))) (
  some ((0 : Int), (1 : Int))) (
  tif ((decide ((35184372088832 : Int) ≤ t))) (
  some ((0 : Int), (1 : Int))) (
  obind (r09_width n w) fun r0 =>
  tif ((!r0)) (
  some ((0 : Int), (1 : Int))) (
  tif ((decide (w = (0 : Int)))) (
  none) (
  tif ((decide (w = (0 : Int)))) (
  none) (
  some ((IntKind.wrap .i64 (Int.tdiv (IntKind.wrap .i64 (t - (Int.tmod t w))) w)), (0 : Int))))))) := by kernel_rfl
theorem l14_Small_eq (n : Nat) (s : ((List TSlot) × ((List TSlot) × (List TSlot)))) : l14_Small (n + 1) s =
  obind (l14_Small_l2 n loopFuel (s, ((0 : Int), ()))) fun r0 =>
  selim (fun y1 =>
  some (1 : Int)) (fun z2 =>
  some z2) r0 := by kernel_rfl
theorem l14_Small_l2_eq (n f : Nat) (s_ : ((List TSlot) × ((List TSlot) × (List TSlot)))) (s4 : Int) : l14_Small_l2 n (f + 1) (s_, s4, ()) =
  tif ((decide (s4 < (3 : Int)))) (
  tif ((decide (s4 = (0 : Int)))) (
  tif ((decide ((40 : Int) < (((List.length s_.1) : Nat) : Int)))) (
  some (.inr (0 : Int))) (
  l14_Small_l2 n f (s_, ((IntKind.wrap .i64 (s4 + (1 : Int))), ())))) (
  tif ((decide (s4 = (1 : Int)))) (
  tif ((decide ((40 : Int) < (((List.length s_.2.1) : Nat) : Int)))) (
  some (.inr (0 : Int))) (
  l14_Small_l2 n f (s_, ((IntKind.wrap .i64 (s4 + (1 : Int))), ())))) (
  tif ((decide (s4 = (2 : Int)))) (
  tif ((decide ((40 : Int) < (((List.length s_.2.2) : Nat) : Int)))) (
  some (.inr (0 : Int))) (
  l14_Small_l2 n f (s_, ((IntKind.wrap .i64 (s4 + (1 : Int))), ())))) (
  none)))) (
  some (.inl ())) := by kernel_rfl
theorem r10_Check_eq (n : Nat) (c : TConfig) : r10_Check (n + 1) c =
  tif ((decide (c.1 < (1 : Int)))) (
  some (2 : Int)) (
  tif ((decide ((4096 : Int) < c.1))) (
  some (2 : Int)) (
  tif ((decide (c.2.2.2.1 < (1 : Int)))) (
  some (2 : Int)) (
  tif ((decide ((65536 : Int) < c.2.2.2.1))) (
  some (2 : Int)) (
  tif ((decide (c.2.2.2.2 < (1 : Int)))) (
  some (2 : Int)) (
  tif ((decide ((8192 : Int) < c.2.2.2.2))) (
  some (2 : Int)) (
  tif ((decide (c.2.1.1 < (1 : Int)))) (
  some (2 : Int)) (
  tif ((decide ((1099511627776 : Int) < c.2.1.1))) (
  some (2 : Int)) (
  tif ((decide (c.2.2.1.1 < (1 : Int)))) (
  some (2 : Int)) (
  tif ((decide ((4096 : Int) < c.2.2.1.1))) (
  some (2 : Int)) (
  tif ((decide (c.2.1.2.1 < (1 : Int)))) (
  some (2 : Int)) (
  tif ((decide ((1099511627776 : Int) < c.2.1.2.1))) (
  some (2 : Int)) (
  tif ((decide (c.2.2.1.2.1 < (1 : Int)))) (
  some (2 : Int)) (
  tif ((decide ((4096 : Int) < c.2.2.1.2.1))) (
  some (2 : Int)) (
  tif ((decide (c.2.1.1 = (0 : Int)))) (
  none) (
  tif ((!(decide ((Int.tmod c.2.1.2.1 c.2.1.1) = (0 : Int))))) (
  some (2 : Int)) (
  tif ((decide (c.2.1.1 = (0 : Int)))) (
  none) (
  tif ((decide (c.2.2.1.1 < (IntKind.wrap .i64 (Int.tdiv c.2.1.2.1 c.2.1.1))))) (
  some (2 : Int)) (
  tif ((decide (c.2.1.2.2 < (1 : Int)))) (
  some (2 : Int)) (
  tif ((decide ((1099511627776 : Int) < c.2.1.2.2))) (
  some (2 : Int)) (
  tif ((decide (c.2.2.1.2.2 < (1 : Int)))) (
  some (2 : Int)) (
  tif ((decide ((4096 : Int) < c.2.2.1.2.2))) (
  some (2 : Int)) (
  tif ((decide (c.2.1.2.1 = (0 : Int)))) (
  none) (
  tif ((!(decide ((Int.tmod c.2.1.2.2 c.2.1.2.1) = (0 : Int))))) (
  some (2 : Int)) (
  tif ((decide (c.2.1.2.1 = (0 : Int)))) (
  none) (
  tif ((decide (c.2.2.1.2.1 < (IntKind.wrap .i64 (Int.tdiv c.2.1.2.2 c.2.1.2.1))))) (
  some (2 : Int)) (
  obind (r10_place n c) fun r0 =>
  tif ((decide (c.2.2.2.2 ≤ r0))) (
  some (2 : Int)) (
  some (0 : Int)))))))))))))))))))))))))))) := by kernel_rfl
theorem r05_Check_eq (n : Nat) (l : (List (List UInt8 × List UInt8))) : r05_Check (n + 1) l =
  tif ((decide ((((List.length l) : Nat) : Int) < (1 : Int)))) (
  some (8 : Int)) (
  tif ((decide ((16 : Int) < (((List.length l) : Nat) : Int)))) (
  some (8 : Int)) (
  obind (r05_Check_l5 n loopFuel (l, ((0 : Int), (l, ((((List.length l) : Nat) : Int), ((0 : Int), ())))))) fun r0 =>
  selim (fun y1 =>
  tif ((decide ((256 : Int) < y1.1))) (
  some (8 : Int)) (
  some (0 : Int))) (fun z2 =>
  some z2) r0)) := by kernel_rfl
theorem r05_Check_l5_eq (n f : Nat) (l : (List (List UInt8 × List UInt8))) (all : Int) (s14 : (List (List UInt8 × List UInt8))) (s15 : Int) (s16 : Int) : r05_Check_l5 n (f + 1) (l, all, s14, s15, s16, ()) =
  tif ((decide (s16 < s15))) (
  obind (at? s14 s16) fun r0 =>
  obind (r05_name n r0.1) fun r1 =>
  tif ((!r1)) (
  some (.inr (8 : Int))) (
  tif ((decide ((128 : Int) < (((List.length r0.2) : Nat) : Int)))) (
  some (.inr (8 : Int))) (
  tif ((decide ((0 : Int) < s16))) (
  obind (at? l (IntKind.wrap .i64 (s16 - (1 : Int)))) fun r2 =>
  tif ((!(Go.Op.bytesLess r2.1 r0.1))) (
  some (.inr (8 : Int))) (
  r05_Check_l5 n f (l, ((IntKind.wrap .i64 (all + (IntKind.wrap .i64 ((((List.length r0.1) : Nat) : Int) + (((List.length r0.2) : Nat) : Int))))), (s14, (s15, ((IntKind.wrap .i64 (s16 + (1 : Int))), ()))))))) (
  r05_Check_l5 n f (l, ((IntKind.wrap .i64 (all + (IntKind.wrap .i64 ((((List.length r0.1) : Nat) : Int) + (((List.length r0.2) : Nat) : Int))))), (s14, (s15, ((IntKind.wrap .i64 (s16 + (1 : Int))), ()))))))))) (
  some (.inl (all, ()))) := by kernel_rfl
theorem r05_Same_eq (n : Nat) (a : (List (List UInt8 × List UInt8))) (b : (List (List UInt8 × List UInt8))) : r05_Same (n + 1) a b =
  tif ((!(decide ((((List.length a) : Nat) : Int) = (((List.length b) : Nat) : Int))))) (
  some false) (
  obind (r05_Same_l4 n loopFuel (a, (b, ((((List.length a) : Nat) : Int), ((0 : Int), ()))))) fun r0 =>
  selim (fun y1 =>
  some true) (fun z2 =>
  some z2) r0) := by kernel_rfl
theorem r05_Same_l4_eq (n f : Nat) (a : (List (List UInt8 × List UInt8))) (b : (List (List UInt8 × List UInt8))) (s12 : Int) (s13 : Int) : r05_Same_l4 n (f + 1) (a, b, s12, s13, ()) =
  tif ((decide (s13 < s12))) (
  obind (at? a s13) fun r0 =>
  obind (at? b s13) fun r1 =>
  tif ((!((r0.1 == r1.1) && (r0.2 == r1.2)))) (
  some (.inr false)) (
  r05_Same_l4 n f (a, (b, (s12, ((IntKind.wrap .i64 (s13 + (1 : Int))), ())))))) (
  some (.inl ())) := by kernel_rfl
theorem r12_Same_eq (n : Nat) (a : (Int × (Int × (List TEvent)))) (b : (Int × (Int × (List TEvent)))) : r12_Same (n + 1) a b =
  tif ((decide (a.1 = b.1))) (
  tif ((decide (a.2.1 = b.2.1))) (
  obind (r12_SameList n a.2.2 b.2.2) fun r0 =>
  some r0) (
  some false)) (
  some false) := by kernel_rfl
theorem r14_Same_eq (n : Nat) (a : ((List TSlot) × ((List TSlot) × (List TSlot)))) (b : ((List TSlot) × ((List TSlot) × (List TSlot)))) : r14_Same (n + 1) a b =
  obind (r13_Same n a.1 b.1) fun r0 =>
  tif ((!r0)) (
  some false) (
  obind (r13_Same n a.2.1 b.2.1) fun r1 =>
  tif ((!r1)) (
  some false) (
  obind (r13_Same n a.2.2 b.2.2) fun r2 =>
  tif ((!r2)) (
  some false) (
  some true))) := by kernel_rfl
theorem conf_Check_eq (n : Nat) (c : TConfig) : conf_Check (n + 1) c =
  obind (conf_in_int n c.1 (1 : Int) (4096 : Int)) fun r0 =>
  tif (r0) (
  obind (conf_in_int n c.2.2.2.1 (1 : Int) (65536 : Int)) fun r1 =>
  tif (r1) (
  obind (conf_in_int n c.2.2.2.2 (1 : Int) (8192 : Int)) fun r2 =>
  tif (r2) (
  obind (conf_in_int64 n c.2.1.1 (1 : Int) (1099511627776 : Int)) fun r3 =>
  tif (r3) (
  obind (conf_in_int n c.2.2.1.1 (1 : Int) (4096 : Int)) fun r4 =>
  tif (r4) (
  obind (conf_in_int64 n c.2.1.2.1 (1 : Int) (1099511627776 : Int)) fun r5 =>
  tif (r5) (
  obind (conf_in_int n c.2.2.1.2.1 (1 : Int) (4096 : Int)) fun r6 =>
  tif (r6) (
  obind (conf_in_int64 n c.2.1.2.2 (1 : Int) (1099511627776 : Int)) fun r7 =>
  tif (r7) (
  obind (conf_in_int n c.2.2.1.2.2 (1 : Int) (4096 : Int)) fun r8 =>
  tif (r8) (
  tif ((decide (c.2.1.1 = (0 : Int)))) (
  none) (
  tif ((decide ((Int.tmod c.2.1.2.1 c.2.1.1) = (0 : Int)))) (
  tif ((decide (c.2.1.1 = (0 : Int)))) (
  none) (
  tif ((decide ((IntKind.wrap .i64 (Int.tdiv c.2.1.2.1 c.2.1.1)) ≤ c.2.2.1.1))) (
  tif ((decide (c.2.1.2.1 = (0 : Int)))) (
  none) (
  tif ((decide ((Int.tmod c.2.1.2.2 c.2.1.2.1) = (0 : Int)))) (
  tif ((decide (c.2.1.2.1 = (0 : Int)))) (
  none) (
  tif ((decide ((IntKind.wrap .i64 (Int.tdiv c.2.1.2.2 c.2.1.2.1)) ≤ c.2.2.1.2.1))) (
  tif ((!(decide ((IntKind.wrap .i64 (Int.tdiv c.2.1.2.2 c.2.1.2.1)) ≤ c.2.2.1.2.1)))) (
  some (2 : Int)) (
  obind (conf_place n c) fun r9 =>
  tif ((decide (c.2.2.2.2 ≤ r9))) (
  some (2 : Int)) (
  some (0 : Int)))) (
  tif ((!(decide ((IntKind.wrap .i64 (Int.tdiv c.2.1.2.2 c.2.1.2.1)) ≤ c.2.2.1.2.1)))) (
  some (2 : Int)) (
  obind (conf_place n c) fun r10 =>
  tif ((decide (c.2.2.2.2 ≤ r10))) (
  some (2 : Int)) (
  some (0 : Int)))))) (
  some (2 : Int)))) (
  tif ((!(decide ((IntKind.wrap .i64 (Int.tdiv c.2.1.2.1 c.2.1.1)) ≤ c.2.2.1.1)))) (
  some (2 : Int)) (
  obind (conf_place n c) fun r11 =>
  tif ((decide (c.2.2.2.2 ≤ r11))) (
  some (2 : Int)) (
  some (0 : Int)))))) (
  some (2 : Int)))) (
  tif ((!r8)) (
  some (2 : Int)) (
  obind (conf_place n c) fun r12 =>
  tif ((decide (c.2.2.2.2 ≤ r12))) (
  some (2 : Int)) (
  some (0 : Int))))) (
  some (2 : Int))) (
  some (2 : Int))) (
  some (2 : Int))) (
  some (2 : Int))) (
  some (2 : Int))) (
  some (2 : Int))) (
  some (2 : Int))) (
  some (2 : Int)) := by kernel_rfl
theorem label_Check_eq (n : Nat) (l : (List (List UInt8 × List UInt8))) : label_Check (n + 1) l =
  tif ((decide ((((List.length l) : Nat) : Int) = (0 : Int)))) (
  some (8 : Int)) (
  tif ((decide ((16 : Int) < (((List.length l) : Nat) : Int)))) (
  some (8 : Int)) (
  obind (label_Check_l5 n loopFuel (l, ((256 : Int), (l, ((((List.length l) : Nat) : Int), ((0 : Int), ())))))) fun r0 =>
  selim (fun y1 =>
  some (0 : Int)) (fun z2 =>
  some z2) r0)) := by kernel_rfl
theorem label_Check_l5_eq (n f : Nat) (l : (List (List UInt8 × List UInt8))) (left : Int) (s14 : (List (List UInt8 × List UInt8))) (s15 : Int) (s16 : Int) : label_Check_l5 n (f + 1) (l, left, s14, s15, s16, ()) =
  tif ((decide (s16 < s15))) (
  obind (at? s14 s16) fun r0 =>
  obind (label_name n r0.1) fun r1 =>
  tif ((!r1)) (
  some (.inr (8 : Int))) (
  tif ((decide ((128 : Int) < (((List.length r0.2) : Nat) : Int)))) (
  some (.inr (8 : Int))) (
  tif ((decide ((IntKind.wrap .i64 (left - (IntKind.wrap .i64 ((((List.length r0.1) : Nat) : Int) + (((List.length r0.2) : Nat) : Int))))) < (0 : Int)))) (
  some (.inr (8 : Int))) (
  tif ((decide ((0 : Int) < s16))) (
  obind (at? l (IntKind.wrap .i64 (s16 - (1 : Int)))) fun r2 =>
  tif ((!(Go.Op.bytesLess r2.1 r0.1))) (
  some (.inr (8 : Int))) (
  label_Check_l5 n f (l, ((IntKind.wrap .i64 (left - (IntKind.wrap .i64 ((((List.length r0.1) : Nat) : Int) + (((List.length r0.2) : Nat) : Int))))), (s14, (s15, ((IntKind.wrap .i64 (s16 + (1 : Int))), ()))))))) (
  label_Check_l5 n f (l, ((IntKind.wrap .i64 (left - (IntKind.wrap .i64 ((((List.length r0.1) : Nat) : Int) + (((List.length r0.2) : Nat) : Int))))), (s14, (s15, ((IntKind.wrap .i64 (s16 + (1 : Int))), ())))))))))) (
  some (.inl ())) := by kernel_rfl
theorem slices_Clone_Label_eq (n : Nat) (s : (List (List UInt8 × List UInt8))) : slices_Clone_Label (n + 1) s =
  tif ((decide ((List.length s) = 0))) (
  both (
  some []) (
  tif ((decide (((0 + (List.length s)) * 32) ≤ 140737488355328))) (
  some ([] ++ s)) (
  none))) (
  tif ((decide (((0 + (List.length s)) * 32) ≤ 140737488355328))) (
  some ([] ++ s)) (
  none)) := by kernel_rfl
theorem fold_Empty_eq (n : Nat) (c : TConfig) : fold_Empty (n + 1) c =
  obind (conf_Check n c) fun r0 =>
  tif ((!(decide (r0 = (0 : Int))))) (
  some ([], ([], []))) (
  obind (tier_New n c.2.2.1.1) fun r1 =>
  obind (tier_New n c.2.2.1.2.1) fun r2 =>
  obind (tier_New n c.2.2.1.2.2) fun r3 =>
  some (r1, (r2, r3))) := by kernel_rfl
theorem r14_Empty_eq (n : Nat) (c : TConfig) : r14_Empty (n + 1) c =
  obind (r10_Check n c) fun r0 =>
  tif ((!(decide (r0 = (0 : Int))))) (
  some ([], ([], []))) (
  obind (r13_New n c.2.2.1.1) fun r1 =>
  obind (r13_New n c.2.2.1.2.1) fun r2 =>
  obind (r13_New n c.2.2.1.2.2) fun r3 =>
  some (r1, (r2, r3))) := by kernel_rfl
theorem label_Same_eq (n : Nat) (a : (List (List UInt8 × List UInt8))) (b : (List (List UInt8 × List UInt8))) : label_Same (n + 1) a b =
  obind (slices_Equal_Label n a b) fun r0 =>
  some r0 := by kernel_rfl
theorem raw_Same_eq (n : Nat) (a : (Int × (Int × (List TEvent)))) (b : (Int × (Int × (List TEvent)))) : raw_Same (n + 1) a b =
  tif ((decide (a.1 = b.1))) (
  tif ((decide (a.2.1 = b.2.1))) (
  obind (slices_Equal_Event n a.2.2 b.2.2) fun r0 =>
  some r0) (
  some false)) (
  some false) := by kernel_rfl
theorem slices_Equal_Slot_eq (n : Nat) (s1 : (List TSlot)) (s2 : (List TSlot)) : slices_Equal_Slot (n + 1) s1 s2 =
  tif ((!(decide ((((List.length s1) : Nat) : Int) = (((List.length s2) : Nat) : Int))))) (
  some false) (
  obind (slices_Equal_Slot_l4 n loopFuel (s1, (s2, ((((List.length s1) : Nat) : Int), ((0 : Int), ()))))) fun r0 =>
  selim (fun y1 =>
  some true) (fun z2 =>
  some z2) r0) := by kernel_rfl
theorem slices_Equal_Slot_l4_eq (n f : Nat) (s1 : (List TSlot)) (s2 : (List TSlot)) (s12 : Int) (s13 : Int) : slices_Equal_Slot_l4 n (f + 1) (s1, s2, s12, s13, ()) =
  tif ((decide (s13 < s12))) (
  obind (at? s1 s13) fun r0 =>
  obind (at? s2 s13) fun r1 =>
  tif ((!((decide (r0.1 = r1.1)) && ((decide (r0.2.1 = r1.2.1)) && ((decide (r0.2.2.1.1 = r1.2.2.1.1)) && ((decide (r0.2.2.1.2.1 = r1.2.2.1.2.1)) && ((decide (r0.2.2.1.2.2.1 = r1.2.2.1.2.2.1)) && ((r0.2.2.1.2.2.2 == r1.2.2.1.2.2.2) && ((decide (r0.2.2.2.1.1 = r1.2.2.2.1.1)) && ((decide (r0.2.2.2.1.2.1 = r1.2.2.2.1.2.1)) && ((decide (r0.2.2.2.1.2.2.1 = r1.2.2.2.1.2.2.1)) && ((r0.2.2.2.1.2.2.2 == r1.2.2.2.1.2.2.2) && ((decide (r0.2.2.2.2.1.1 = r1.2.2.2.2.1.1)) && ((decide (r0.2.2.2.2.1.2 = r1.2.2.2.2.1.2)) && ((decide (r0.2.2.2.2.2.1 = r1.2.2.2.2.2.1)) && ((decide (r0.2.2.2.2.2.2.1 = r1.2.2.2.2.2.2.1)) && (decide (r0.2.2.2.2.2.2.2 = r1.2.2.2.2.2.2.2)))))))))))))))))) (
  some (.inr false)) (
  slices_Equal_Slot_l4 n f (s1, (s2, (s12, ((IntKind.wrap .i64 (s13 + (1 : Int))), ())))))) (
  some (.inl ())) := by kernel_rfl
theorem window_Gone_eq (n : Nat) (t : Int) (now : Int) (w : Int) (n_ : Int) : window_Gone (n + 1) t now w n_ =
  obind (window_Of n t w) fun r0 =>
  obind (window_Oldest n now w n_) fun r1 =>
  tif ((decide (r0.2 = (0 : Int)))) (
  tif ((decide (r1.2 = (0 : Int)))) (
  some (decide (r0.1 < r1.1))) (
  some false)) (
  some false) := by kernel_rfl
theorem r09_Gone_eq (n : Nat) (t : Int) (now : Int) (w : Int) (n_ : Int) : r09_Gone (n + 1) t now w n_ =
  obind (r09_Of n t w) fun r0 =>
  obind (r09_Oldest n now w n_) fun r1 =>
  tif ((decide (r0.2 = (0 : Int)))) (
  tif ((decide (r1.2 = (0 : Int)))) (
  some (decide (r0.1 < r1.1))) (
  some false)) (
  some false) := by kernel_rfl
theorem window_Of_eq (n : Nat) (t : Int) (w : Int) : window_Of (n + 1) t w =
  obind (window_in_int64 n t (0 : Int) (35184372088831 : Int)) fun r0 =>
  tif ((!r0)) (
  some ((0 : Int), (1 : Int))) (
  obind (window_width n w) fun r1 =>
  tif ((!r1)) (
  some ((0 : Int), (1 : Int))) (
  tif ((decide (w = (0 : Int)))) (
  none) (
  some ((IntKind.wrap .i64 (Int.tdiv t w)), (0 : Int))))) := by kernel_rfl
theorem window_in_int_eq (n : Nat) (n_ : Int) (low : Int) (high : Int) : window_in_int (n + 1) n_ low high =
  tif ((decide (low ≤ n_))) (
  some (decide (n_ ≤ high))) (
  some false) := by kernel_rfl
theorem r09_width_eq (n : Nat) (w : Int) : r09_width (n + 1) w =
  tif ((decide ((1 : Int) ≤ w))) (
  some (decide (w ≤ (1099511627776 : Int)))) (
  some false) := by kernel_rfl
end Go.Proofs.YtapadkjknnfifaaGreat
