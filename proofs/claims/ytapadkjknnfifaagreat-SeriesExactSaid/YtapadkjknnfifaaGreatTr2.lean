/-
  What each function comes to by one step of the flat reading. Printed by program; the kernel looks at each.
-/
import Derived.Test.YtapadkjknnfifaaGreatTr0
import Derived.KernelRfl
set_option linter.unusedVariables false
namespace Go.Proofs.YtapadkjknnfifaaGreat
open Go.Flat
theorem r15_Cell_eq (n : Nat) (c : TConfig) (s : TSeries) (k : Int) (i : Int) : r15_Cell (n + 1) c s k i =
  obind (r15_Check n c s) fun r0 =>
  tif ((!(decide (r0 = (0 : Int))))) (
  some (((0 : Int), (((0 : Int), ((0 : Int), ((0 : Int), false))), (((0 : Int), ((0 : Int), ((0 : Int), false))), (((0 : Int), (0 : Int)), ((0 : Int), ((0 : Int), (0 : Int))))))), (2 : Int))) (
  tif ((decide (k < (0 : Int)))) (
  some (((0 : Int), (((0 : Int), ((0 : Int), ((0 : Int), false))), (((0 : Int), ((0 : Int), ((0 : Int), false))), (((0 : Int), (0 : Int)), ((0 : Int), ((0 : Int), (0 : Int))))))), (1 : Int))) (
  tif ((decide ((2 : Int) < k))) (
  some (((0 : Int), (((0 : Int), ((0 : Int), ((0 : Int), false))), (((0 : Int), ((0 : Int), ((0 : Int), false))), (((0 : Int), (0 : Int)), ((0 : Int), ((0 : Int), (0 : Int))))))), (1 : Int))) (
  tif ((decide (i < (0 : Int)))) (
  some (((0 : Int), (((0 : Int), ((0 : Int), ((0 : Int), false))), (((0 : Int), ((0 : Int), ((0 : Int), false))), (((0 : Int), (0 : Int)), ((0 : Int), ((0 : Int), (0 : Int))))))), (1 : Int))) (
  obind (r15_one n c s k i) fun r1 =>
  some r1)))) := by kernel_rfl
theorem series_Range_eq (n : Nat) (c : TConfig) (s : TSeries) (k : Int) (i : Int) (j : Int) : series_Range (n + 1) c s k i j =
  obind (series_open n c s) fun r0 =>
  oelim (r0.1) (
  tif ((!(decide (r0.2 = (0 : Int))))) (
  some (((0 : Int), (((0 : Int), ((0 : Int), ((0 : Int), false))), (((0 : Int), ((0 : Int), ((0 : Int), false))), (((0 : Int), (0 : Int)), ((0 : Int), ((0 : Int), (0 : Int))))))), r0.2)) (
  tif ((decide (k < (0 : Int)))) (
  some (((0 : Int), (((0 : Int), ((0 : Int), ((0 : Int), false))), (((0 : Int), ((0 : Int), ((0 : Int), false))), (((0 : Int), (0 : Int)), ((0 : Int), ((0 : Int), (0 : Int))))))), (1 : Int))) (
  tif ((decide ((3 : Int) ≤ k))) (
  some (((0 : Int), (((0 : Int), ((0 : Int), ((0 : Int), false))), (((0 : Int), ((0 : Int), ((0 : Int), false))), (((0 : Int), (0 : Int)), ((0 : Int), ((0 : Int), (0 : Int))))))), (1 : Int))) (
  tif ((decide (i < (0 : Int)))) (
  some (((0 : Int), (((0 : Int), ((0 : Int), ((0 : Int), false))), (((0 : Int), ((0 : Int), ((0 : Int), false))), (((0 : Int), (0 : Int)), ((0 : Int), ((0 : Int), (0 : Int))))))), (1 : Int))) (
  tif ((decide (j < i))) (
  some (((0 : Int), (((0 : Int), ((0 : Int), ((0 : Int), false))), (((0 : Int), ((0 : Int), ((0 : Int), false))), (((0 : Int), (0 : Int)), ((0 : Int), ((0 : Int), (0 : Int))))))), (1 : Int))) (
  none)))))) fun r1 =>
  tif ((!(decide (r0.2 = (0 : Int))))) (
  some (((0 : Int), (((0 : Int), ((0 : Int), ((0 : Int), false))), (((0 : Int), ((0 : Int), ((0 : Int), false))), (((0 : Int), (0 : Int)), ((0 : Int), ((0 : Int), (0 : Int))))))), r0.2)) (
  tif ((decide (k < (0 : Int)))) (
  some (((0 : Int), (((0 : Int), ((0 : Int), ((0 : Int), false))), (((0 : Int), ((0 : Int), ((0 : Int), false))), (((0 : Int), (0 : Int)), ((0 : Int), ((0 : Int), (0 : Int))))))), (1 : Int))) (
  tif ((decide ((3 : Int) ≤ k))) (
  some (((0 : Int), (((0 : Int), ((0 : Int), ((0 : Int), false))), (((0 : Int), ((0 : Int), ((0 : Int), false))), (((0 : Int), (0 : Int)), ((0 : Int), ((0 : Int), (0 : Int))))))), (1 : Int))) (
  tif ((decide (i < (0 : Int)))) (
  some (((0 : Int), (((0 : Int), ((0 : Int), ((0 : Int), false))), (((0 : Int), ((0 : Int), ((0 : Int), false))), (((0 : Int), (0 : Int)), ((0 : Int), ((0 : Int), (0 : Int))))))), (1 : Int))) (
  tif ((decide (j < i))) (
  some (((0 : Int), (((0 : Int), ((0 : Int), ((0 : Int), false))), (((0 : Int), ((0 : Int), ((0 : Int), false))), (((0 : Int), (0 : Int)), ((0 : Int), ((0 : Int), (0 : Int))))))), (1 : Int))) (
  obind (series_kept_span n r1 k i j) fun r2 =>
  some r2))))) := by kernel_rfl
theorem series_Check_eq (n : Nat) (c : TConfig) (s : TSeries) : series_Check (n + 1) c s =
  obind (series_open n c s) fun r0 =>
  oelim (r0.1) (
  some r0.2) fun r1 =>
  some r0.2 := by kernel_rfl
theorem r15_Check_eq (n : Nat) (c : TConfig) (s : TSeries) : r15_Check (n + 1) c s =
  obind (r10_Check n c) fun r0 =>
  tif ((!(decide (r0 = (0 : Int))))) (
  some (2 : Int)) (
  obind (r05_Check n s.1) fun r1 =>
  tif ((!(decide (r1 = (0 : Int))))) (
  some (2 : Int)) (
  obind (r12_Check n s.2.2.1 c.1) fun r2 =>
  tif ((!(decide (r2 = (0 : Int))))) (
  some (2 : Int)) (
  obind (r14_Check n c s.2.2.2.1) fun r3 =>
  tif ((!(decide (r3 = (0 : Int))))) (
  some (2 : Int)) (
  tif ((decide (s.2.1 = ((-1) : Int)))) (
  tif ((decide ((0 : Int) < (((List.length s.2.2.1.2.2) : Nat) : Int)))) (
  some (2 : Int)) (
  tif ((!((decide (s.2.2.2.2.1 = (0 : Int))) && ((decide (s.2.2.2.2.2.1 = (0 : Int))) && ((decide (s.2.2.2.2.2.2.1.1 = (0 : Int))) && ((decide (s.2.2.2.2.2.2.1.2.1 = (0 : Int))) && ((decide (s.2.2.2.2.2.2.1.2.2.1 = (0 : Int))) && ((s.2.2.2.2.2.2.1.2.2.2 == false) && ((decide (s.2.2.2.2.2.2.2.1.1 = (0 : Int))) && ((decide (s.2.2.2.2.2.2.2.1.2.1 = (0 : Int))) && ((decide (s.2.2.2.2.2.2.2.1.2.2.1 = (0 : Int))) && ((s.2.2.2.2.2.2.2.1.2.2.2 == false) && ((decide (s.2.2.2.2.2.2.2.2.1.1 = (0 : Int))) && ((decide (s.2.2.2.2.2.2.2.2.1.2 = (0 : Int))) && ((decide (s.2.2.2.2.2.2.2.2.2.1 = (0 : Int))) && ((decide (s.2.2.2.2.2.2.2.2.2.2.1 = (0 : Int))) && (decide (s.2.2.2.2.2.2.2.2.2.2.2 = (0 : Int))))))))))))))))))) (
  some (2 : Int)) (
  obind (r15_Check_l7 n loopFuel (s, ((0 : Int), ()))) fun r4 =>
  selim (fun y5 =>
  some (0 : Int)) (fun z6 =>
  some z6) r4))) (
  obind (r12_Last n s.2.2.1) fun r7 =>
  tif ((!(decide (r7.2 = (0 : Int))))) (
  some (2 : Int)) (
  tif ((!(decide (r7.1.1 = s.2.1)))) (
  some (2 : Int)) (
  obind (r13_Fits n s.2.2.2.2.2 c.2.1.1 s.2.2.2.2.1) fun r8 =>
  tif ((!r8)) (
  some (2 : Int)) (
  tif ((!(decide (s.2.2.2.2.2.2.2.1.1 = s.2.1)))) (
  some (2 : Int)) (
  obind (r15_Check_l16 n loopFuel (c, (s, ((0 : Int), ())))) fun r9 =>
  selim (fun y10 =>
  some (0 : Int)) (fun z11 =>
  some z11) r9))))))))) := by kernel_rfl
theorem r15_Check_l7_eq (n f : Nat) (s_ : TSeries) (k : Int) : r15_Check_l7 n (f + 1) (s_, k, ()) =
  tif ((decide (k < (3 : Int)))) (
  tif ((decide (k = (0 : Int)))) (
  obind (r13_All n s_.2.2.2.1.1) fun r0 =>
  tif ((decide ((0 : Int) < (((List.length r0) : Nat) : Int)))) (
  some (.inr (2 : Int))) (
  r15_Check_l7 n f (s_, ((IntKind.wrap .i64 (k + (1 : Int))), ())))) (
  tif ((decide (k = (1 : Int)))) (
  obind (r13_All n s_.2.2.2.1.2.1) fun r1 =>
  tif ((decide ((0 : Int) < (((List.length r1) : Nat) : Int)))) (
  some (.inr (2 : Int))) (
  r15_Check_l7 n f (s_, ((IntKind.wrap .i64 (k + (1 : Int))), ())))) (
  tif ((decide (k = (2 : Int)))) (
  obind (r13_All n s_.2.2.2.1.2.2) fun r2 =>
  tif ((decide ((0 : Int) < (((List.length r2) : Nat) : Int)))) (
  some (.inr (2 : Int))) (
  r15_Check_l7 n f (s_, ((IntKind.wrap .i64 (k + (1 : Int))), ())))) (
  none)))) (
  some (.inl ())) := by kernel_rfl
theorem r15_Check_l16_eq (n f : Nat) (c_ : TConfig) (s_ : TSeries) (k_ : Int) : r15_Check_l16 n (f + 1) (c_, s_, k_, ()) =
  tif ((decide (k_ < (3 : Int)))) (
  tif ((decide (k_ = (0 : Int)))) (
  obind (r13_All n s_.2.2.2.1.1) fun r0 =>
  obind (r15_Check_l19 n loopFuel (c_, (s_, (k_, (r0, ((((List.length r0) : Nat) : Int), ((0 : Int), ()))))))) fun r1 =>
  selim (fun y2 =>
  r15_Check_l16 n f (y2.1, (y2.2.1, ((IntKind.wrap .i64 (y2.2.2.1 + (1 : Int))), ())))) (fun z3 =>
  some (.inr z3)) r1) (
  tif ((decide (k_ = (1 : Int)))) (
  obind (r13_All n s_.2.2.2.1.2.1) fun r4 =>
  obind (r15_Check_l19 n loopFuel (c_, (s_, (k_, (r4, ((((List.length r4) : Nat) : Int), ((0 : Int), ()))))))) fun r5 =>
  selim (fun y6 =>
  r15_Check_l16 n f (y6.1, (y6.2.1, ((IntKind.wrap .i64 (y6.2.2.1 + (1 : Int))), ())))) (fun z7 =>
  some (.inr z7)) r5) (
  tif ((decide (k_ = (2 : Int)))) (
  obind (r13_All n s_.2.2.2.1.2.2) fun r8 =>
  obind (r15_Check_l19 n loopFuel (c_, (s_, (k_, (r8, ((((List.length r8) : Nat) : Int), ((0 : Int), ()))))))) fun r9 =>
  selim (fun y10 =>
  r15_Check_l16 n f (y10.1, (y10.2.1, ((IntKind.wrap .i64 (y10.2.2.1 + (1 : Int))), ())))) (fun z11 =>
  some (.inr z11)) r9) (
  none)))) (
  some (.inl ())) := by kernel_rfl
theorem r15_Check_l19_eq (n f : Nat) (c_ : TConfig) (s_ : TSeries) (k_ : Int) (s106 : (List TSlot)) (s107 : Int) (s108 : Int) : r15_Check_l19 n (f + 1) (c_, s_, k_, s106, s107, s108, ()) =
  tif ((decide (s108 < s107))) (
  obind (at? s106 s108) fun r0 =>
  tif ((decide (k_ = (0 : Int)))) (
  tif ((decide (c_.2.1.1 = (0 : Int)))) (
  none) (
  tif ((decide ((IntKind.wrap .i64 (Int.tdiv s_.2.1 c_.2.1.1)) ≤ r0.1))) (
  some (.inr (2 : Int))) (
  r15_Check_l19 n f (c_, (s_, (k_, (s106, (s107, ((IntKind.wrap .i64 (s108 + (1 : Int))), ()))))))))) (
  tif ((decide (k_ = (1 : Int)))) (
  tif ((decide (c_.2.1.2.1 = (0 : Int)))) (
  none) (
  tif ((decide ((IntKind.wrap .i64 (Int.tdiv s_.2.1 c_.2.1.2.1)) ≤ r0.1))) (
  some (.inr (2 : Int))) (
  r15_Check_l19 n f (c_, (s_, (k_, (s106, (s107, ((IntKind.wrap .i64 (s108 + (1 : Int))), ()))))))))) (
  tif ((decide (k_ = (2 : Int)))) (
  tif ((decide (c_.2.1.2.2 = (0 : Int)))) (
  none) (
  tif ((decide ((IntKind.wrap .i64 (Int.tdiv s_.2.1 c_.2.1.2.2)) ≤ r0.1))) (
  some (.inr (2 : Int))) (
  r15_Check_l19 n f (c_, (s_, (k_, (s106, (s107, ((IntKind.wrap .i64 (s108 + (1 : Int))), ()))))))))) (
  none)))) (
  some (.inl (c_, (s_, (k_, ()))))) := by kernel_rfl
theorem l05_Small_eq (n : Nat) (l : (List (List UInt8 × List UInt8))) : l05_Small (n + 1) l =
  obind (l05_Small_l2 n loopFuel (l, ((((List.length l) : Nat) : Int), ((0 : Int), ())))) fun r0 =>
  selim (fun y1 =>
  some (1 : Int)) (fun z2 =>
  some z2) r0 := by kernel_rfl
theorem l05_Small_l2_eq (n f : Nat) (s5 : (List (List UInt8 × List UInt8))) (s6 : Int) (s7 : Int) : l05_Small_l2 n (f + 1) (s5, s6, s7, ()) =
  tif ((decide (s7 < s6))) (
  obind (at? s5 s7) fun r0 =>
  tif ((decide (s7 = (40 : Int)))) (
  some (.inr (0 : Int))) (
  tif ((decide ((1000 : Int) < (((List.length r0.1) : Nat) : Int)))) (
  some (.inr (0 : Int))) (
  tif ((decide ((1000 : Int) < (((List.length r0.2) : Nat) : Int)))) (
  some (.inr (0 : Int))) (
  l05_Small_l2 n f (s5, (s6, ((IntKind.wrap .i64 (s7 + (1 : Int))), ()))))))) (
  some (.inl ())) := by kernel_rfl
theorem series_New_eq (n : Nat) (c : TConfig) (l : (List (List UInt8 × List UInt8))) : series_New (n + 1) c l =
  obind (conf_Check n c) fun r0 =>
  tif ((!(decide (r0 = (0 : Int))))) (
  some (([], ((0 : Int), (((0 : Int), ((0 : Int), [])), (([], ([], [])), ((0 : Int), ((0 : Int), (((0 : Int), ((0 : Int), ((0 : Int), false))), (((0 : Int), ((0 : Int), ((0 : Int), false))), (((0 : Int), (0 : Int)), ((0 : Int), ((0 : Int), (0 : Int)))))))))))), r0)) (
  obind (label_Check n l) fun r1 =>
  tif ((!(decide (r1 = (0 : Int))))) (
  some (([], ((0 : Int), (((0 : Int), ((0 : Int), [])), (([], ([], [])), ((0 : Int), ((0 : Int), (((0 : Int), ((0 : Int), ((0 : Int), false))), (((0 : Int), ((0 : Int), ((0 : Int), false))), (((0 : Int), (0 : Int)), ((0 : Int), ((0 : Int), (0 : Int)))))))))))), r1)) (
  obind (slices_Clone_Label n l) fun r2 =>
  obind (fold_Empty n c) fun r3 =>
  some ((r2, (((-1) : Int), (((0 : Int), ((0 : Int), [])), (r3, ((0 : Int), ((0 : Int), (((0 : Int), ((0 : Int), ((0 : Int), false))), (((0 : Int), ((0 : Int), ((0 : Int), false))), (((0 : Int), (0 : Int)), ((0 : Int), ((0 : Int), (0 : Int)))))))))))), (0 : Int)))) := by kernel_rfl
theorem cell_Of_eq (n : Nat) (l : (List TEvent)) : cell_Of (n + 1) l =
  obind (cell_Of_l2 n loopFuel (l, (((0 : Int), (((0 : Int), ((0 : Int), ((0 : Int), false))), (((0 : Int), ((0 : Int), ((0 : Int), false))), (((0 : Int), (0 : Int)), ((0 : Int), ((0 : Int), (0 : Int))))))), (l, ((((List.length l) : Nat) : Int), ((0 : Int), ())))))) fun r0 =>
  selim (fun y1 =>
  obind (cell_Of_l10 n loopFuel (y1.2.1, (((0 : Int), (((0 : Int), ((0 : Int), ((0 : Int), false))), (((0 : Int), ((0 : Int), ((0 : Int), false))), (((0 : Int), (0 : Int)), ((0 : Int), ((0 : Int), (0 : Int))))))), (y1.1, ((((List.length y1.1) : Nat) : Int), ((0 : Int), ())))))) fun r2 =>
  selim (fun y3 =>
  some (y3.2.1, (0 : Int))) (fun z4 =>
  some z4) r2) (fun z5 =>
  some z5) r0 := by kernel_rfl
theorem cell_Of_l2_eq (n f : Nat) (l : (List TEvent)) (s2 : TCell) (s12 : (List TEvent)) (s13 : Int) (s14 : Int) : cell_Of_l2 n (f + 1) (l, s2, s12, s13, s14, ()) =
  tif ((decide (s14 < s13))) (
  obind (at? s12 s14) fun r0 =>
  obind (event_Check n r0) fun r1 =>
  tif ((!(decide (r1 = (0 : Int))))) (
  some (.inr (((0 : Int), (((0 : Int), ((0 : Int), ((0 : Int), false))), (((0 : Int), ((0 : Int), ((0 : Int), false))), (((0 : Int), (0 : Int)), ((0 : Int), ((0 : Int), (0 : Int))))))), r1))) (
  cell_Of_l2 n f (l, (s2, (s12, (s13, ((IntKind.wrap .i64 (s14 + (1 : Int))), ()))))))) (
  some (.inl (l, (s2, ())))) := by kernel_rfl
theorem cell_Of_l10_eq (n f : Nat) (s2 : TCell) (c : TCell) (s25 : (List TEvent)) (s26 : Int) (s27 : Int) : cell_Of_l10 n (f + 1) (s2, c, s25, s26, s27, ()) =
  tif ((decide (s27 < s26))) (
  obind (at? s25 s27) fun r0 =>
  obind (cell_one n r0) fun r1 =>
  obind (cell_Merge n c r1) fun r2 =>
  tif ((!(decide (r2.2 = (0 : Int))))) (
  some (.inr (((0 : Int), (((0 : Int), ((0 : Int), ((0 : Int), false))), (((0 : Int), ((0 : Int), ((0 : Int), false))), (((0 : Int), (0 : Int)), ((0 : Int), ((0 : Int), (0 : Int))))))), r2.2))) (
  cell_Of_l10 n f (s2, (r2.1, (s25, (s26, ((IntKind.wrap .i64 (s27 + (1 : Int))), ()))))))) (
  some (.inl (s2, (c, ())))) := by kernel_rfl
theorem r12_SameList_eq (n : Nat) (a : (List TEvent)) (b : (List TEvent)) : r12_SameList (n + 1) a b =
  tif ((!(decide ((((List.length a) : Nat) : Int) = (((List.length b) : Nat) : Int))))) (
  some false) (
  obind (r12_SameList_l4 n loopFuel (a, (b, ((((List.length a) : Nat) : Int), ((0 : Int), ()))))) fun r0 =>
  selim (fun y1 =>
  some true) (fun z2 =>
  some z2) r0) := by kernel_rfl
theorem r12_SameList_l4_eq (n f : Nat) (a : (List TEvent)) (b : (List TEvent)) (s12 : Int) (s13 : Int) : r12_SameList_l4 n (f + 1) (a, b, s12, s13, ()) =
  tif ((decide (s13 < s12))) (
  obind (at? a s13) fun r0 =>
  obind (at? b s13) fun r1 =>
  tif ((!((decide (r0.1 = r1.1)) && ((decide (r0.2.1 = r1.2.1)) && ((decide (r0.2.2.1 = r1.2.2.1)) && (r0.2.2.2 == r1.2.2.2)))))) (
  some (.inr false)) (
  r12_SameList_l4 n f (a, (b, (s12, ((IntKind.wrap .i64 (s13 + (1 : Int))), ())))))) (
  some (.inl ())) := by kernel_rfl
theorem l10_Fit_eq (n : Nat)  : l10_Fit (n + 1)  =
  some ((20 : Int), (((10 : Int), ((20 : Int), (60 : Int))), (((4 : Int), ((5 : Int), (6 : Int))), ((3 : Int), (9 : Int))))) := by kernel_rfl
theorem r09_Of_eq (n : Nat) (t : Int) (w : Int) : r09_Of (n + 1) t w =
  tif ((decide (t < (0 : Int)))) (
  some ((0 : Int), (1 : Int))) (
  tif ((decide ((35184372088832 : Int) ≤ t))) (
  some ((0 : Int), (1 : Int))) (
  obind (r09_width n w) fun r0 =>
  tif ((!r0)) (
  some ((0 : Int), (1 : Int))) (
  tif ((decide (w = (0 : Int)))) (
  none) (
  tif ((decide (w = (0 : Int)))) (
  none) (
  some ((IntKind.wrap .i64 (Int.tdiv (IntKind.wrap .i64 (t - (Int.tmod t w))) w)), (0 : Int))))))) := by kernel_rfl
theorem l14_Small_eq (n : Nat) (s : ((List TSlot) × ((List TSlot) × (List TSlot)))) : l14_Small (n + 1) s =
  obind (l14_Small_l2 n loopFuel (s, ((0 : Int), ()))) fun r0 =>
  selim (fun y1 =>
  some (1 : Int)) (fun z2 =>
  some z2) r0 := by kernel_rfl
theorem l14_Small_l2_eq (n f : Nat) (s_ : ((List TSlot) × ((List TSlot) × (List TSlot)))) (s4 : Int) : l14_Small_l2 n (f + 1) (s_, s4, ()) =
  tif ((decide (s4 < (3 : Int)))) (
  tif ((decide (s4 = (0 : Int)))) (
  tif ((decide ((40 : Int) < (((List.length s_.1) : Nat) : Int)))) (
  some (.inr (0 : Int))) (
  l14_Small_l2 n f (s_, ((IntKind.wrap .i64 (s4 + (1 : Int))), ())))) (
  tif ((decide (s4 = (1 : Int)))) (
  tif ((decide ((40 : Int) < (((List.length s_.2.1) : Nat) : Int)))) (
  some (.inr (0 : Int))) (
  l14_Small_l2 n f (s_, ((IntKind.wrap .i64 (s4 + (1 : Int))), ())))) (
  tif ((decide (s4 = (2 : Int)))) (
  tif ((decide ((40 : Int) < (((List.length s_.2.2) : Nat) : Int)))) (
  some (.inr (0 : Int))) (
  l14_Small_l2 n f (s_, ((IntKind.wrap .i64 (s4 + (1 : Int))), ())))) (
  none)))) (
  some (.inl ())) := by kernel_rfl
theorem series_open_eq (n : Nat) (c : TConfig) (s : TSeries) : series_open (n + 1) c s =
  obind (fold_Check n c s.2.2.2.1) fun r0 =>
  tif ((!(decide (r0 = (0 : Int))))) (
  some (none, (2 : Int))) (
  obind (label_Check n s.1) fun r1 =>
  tif ((!(decide (r1 = (0 : Int))))) (
  some (none, (2 : Int))) (
  obind (raw_Check n s.2.2.1 c.1) fun r2 =>
  tif ((!(decide (r2 = (0 : Int))))) (
  some (none, (2 : Int))) (
  tif ((decide (s.2.1 = ((-1) : Int)))) (
  obind (series_kept_fresh n (c, s)) fun r3 =>
  tif (r3) (
  some ((some (c, s)), (0 : Int))) (
  tif ((!(decide (s.2.1 = ((-1) : Int))))) (
  obind (series_kept_ends n (c, s)) fun r4 =>
  tif (r4) (
  some ((some (c, s)), (0 : Int))) (
  some (none, (2 : Int)))) (
  some (none, (2 : Int))))) (
  tif ((!(decide (s.2.1 = ((-1) : Int))))) (
  obind (series_kept_ends n (c, s)) fun r5 =>
  tif (r5) (
  some ((some (c, s)), (0 : Int))) (
  some (none, (2 : Int)))) (
  some (none, (2 : Int))))))) := by kernel_rfl
theorem event_Check_eq (n : Nat) (e : TEvent) : event_Check (n + 1) e =
  tif ((decide (e.1 < (0 : Int)))) (
  some (2 : Int)) (
  tif ((decide ((35184372088832 : Int) ≤ e.1))) (
  some (2 : Int)) (
  tif ((decide (e.2.2.1 < (0 : Int)))) (
  some (2 : Int)) (
  tif ((decide (e.1 < e.2.2.1))) (
  some (2 : Int)) (
  tif (e.2.2.2) (
  tif ((!((decide (e.1 = e.1)) && ((decide (e.2.1 = (0 : Int))) && ((decide (e.2.2.1 = (0 : Int))) && (e.2.2.2 == true)))))) (
  some (2 : Int)) (
  some (0 : Int))) (
  some (0 : Int)))))) := by kernel_rfl
theorem series_kept_turn_eq (n : Nat) (s : Tseries_kept) (i : Int) : series_kept_turn (n + 1) s i =
  tif ((decide (s.2.2.2.2.2.1 = i))) (
  some ((0 : Int), s)) (
  tif ((decide (s.2.2.2.2.2.2.1 = (0 : Int)))) (
  some ((0 : Int), s)) (
  obind (fold_Close n s.1 s.2.2.2.2.1 s.2.2.2.2.2 i) fun r0 =>
  tif ((decide (r0.2 = (0 : Int)))) (
  some (r0.2, (s.1, (s.2.1, (s.2.2.1, (s.2.2.2.1, (r0.1, ((0 : Int), ((0 : Int), (((0 : Int), ((0 : Int), ((0 : Int), false))), (((0 : Int), ((0 : Int), ((0 : Int), false))), (((0 : Int), (0 : Int)), ((0 : Int), ((0 : Int), (0 : Int))))))))))))))) (
  some (r0.2, s)))) := by kernel_rfl
theorem series_kept_add_eq (n : Nat) (s : Tseries_kept) (i : Int) (e : TEvent) : series_kept_add (n + 1) s i e =
  obind (raw_Put n s.2.2.2.1 s.1.1 e) fun r0 =>
  obind (cell_Add n s.2.2.2.2.2.2 e) fun r1 =>
  tif ((!(decide (r0.2 = (0 : Int))))) (
  some (r0.2, s)) (
  some (r1.2, (s.1, (s.2.1, (e.1, (r0.1, (s.2.2.2.2.1, (i, r1.1)))))))) := by kernel_rfl
theorem r07_Check_eq (n : Nat) (e : TEvent) : r07_Check (n + 1) e =
  tif ((decide (e.1 < (0 : Int)))) (
  some (2 : Int)) (
  tif ((decide ((35184372088832 : Int) ≤ e.1))) (
  some (2 : Int)) (
  tif ((decide (e.2.2.1 < (0 : Int)))) (
  some (2 : Int)) (
  tif ((decide (e.1 < e.2.2.1))) (
  some (2 : Int)) (
  tif (e.2.2.2) (
  tif ((!(decide (e.2.1 = (0 : Int))))) (
  some (2 : Int)) (
  tif ((!(decide (e.2.2.1 = (0 : Int))))) (
  some (2 : Int)) (
  some (0 : Int)))) (
  some (0 : Int)))))) := by kernel_rfl
theorem series_kept_now_eq_0 (n : Nat) (s : Tseries_kept) : series_kept_now (n + 1) s (0 : Int) =
  some (s.2.2.2.2.2.2, (0 : Int)) := by kernel_rfl
theorem series_kept_now_eq_1 (n : Nat) (s : Tseries_kept) : series_kept_now (n + 1) s (1 : Int) =
  tif ((decide (s.1.2.1.2.1 = (0 : Int)))) (
  none) (
  tif ((decide (s.1.2.1.1 = (0 : Int)))) (
  none) (
  tif ((decide (s.1.2.1.1 = (0 : Int)))) (
  none) (
  obind (tier_Fold n s.2.2.2.2.1.1 (IntKind.wrap .i64 ((IntKind.wrap .i64 (Int.tdiv s.2.2.1 s.1.2.1.2.1)) * (IntKind.wrap .i64 (Int.tdiv s.1.2.1.2.1 s.1.2.1.1)))) (IntKind.wrap .i64 (Int.tdiv s.2.2.1 s.1.2.1.1))) fun r0 =>
  obind (series_kept_now n s (0 : Int)) fun r1 =>
  tif ((!(decide (r0.2 = (0 : Int))))) (
  some (((0 : Int), (((0 : Int), ((0 : Int), ((0 : Int), false))), (((0 : Int), ((0 : Int), ((0 : Int), false))), (((0 : Int), (0 : Int)), ((0 : Int), ((0 : Int), (0 : Int))))))), (if r0.2 < r1.2 then r1.2 else r0.2))) (
  tif ((!(decide (r1.2 = (0 : Int))))) (
  some (((0 : Int), (((0 : Int), ((0 : Int), ((0 : Int), false))), (((0 : Int), ((0 : Int), ((0 : Int), false))), (((0 : Int), (0 : Int)), ((0 : Int), ((0 : Int), (0 : Int))))))), (if r0.2 < r1.2 then r1.2 else r0.2))) (
  obind (cell_Merge n r0.1 r1.1) fun r2 =>
  some r2))))) := by kernel_rfl
theorem series_kept_now_eq_2 (n : Nat) (s : Tseries_kept) : series_kept_now (n + 1) s (2 : Int) =
  tif ((decide (s.1.2.1.2.2 = (0 : Int)))) (
  none) (
  tif ((decide (s.1.2.1.2.1 = (0 : Int)))) (
  none) (
  tif ((decide (s.1.2.1.2.1 = (0 : Int)))) (
  none) (
  obind (tier_Fold n s.2.2.2.2.1.2.1 (IntKind.wrap .i64 ((IntKind.wrap .i64 (Int.tdiv s.2.2.1 s.1.2.1.2.2)) * (IntKind.wrap .i64 (Int.tdiv s.1.2.1.2.2 s.1.2.1.2.1)))) (IntKind.wrap .i64 (Int.tdiv s.2.2.1 s.1.2.1.2.1))) fun r0 =>
  obind (series_kept_now n s (1 : Int)) fun r1 =>
  tif ((!(decide (r0.2 = (0 : Int))))) (
  some (((0 : Int), (((0 : Int), ((0 : Int), ((0 : Int), false))), (((0 : Int), ((0 : Int), ((0 : Int), false))), (((0 : Int), (0 : Int)), ((0 : Int), ((0 : Int), (0 : Int))))))), (if r0.2 < r1.2 then r1.2 else r0.2))) (
  tif ((!(decide (r1.2 = (0 : Int))))) (
  some (((0 : Int), (((0 : Int), ((0 : Int), ((0 : Int), false))), (((0 : Int), ((0 : Int), ((0 : Int), false))), (((0 : Int), (0 : Int)), ((0 : Int), ((0 : Int), (0 : Int))))))), (if r0.2 < r1.2 then r1.2 else r0.2))) (
  obind (cell_Merge n r0.1 r1.1) fun r2 =>
  some r2))))) := by kernel_rfl
theorem tier_Get_eq (n : Nat) (l : (List TSlot)) (i : Int) : tier_Get (n + 1) l i =
  tif ((decide (i < (0 : Int)))) (
  some ((0 : Int), (((0 : Int), ((0 : Int), ((0 : Int), false))), (((0 : Int), ((0 : Int), ((0 : Int), false))), (((0 : Int), (0 : Int)), ((0 : Int), ((0 : Int), (0 : Int)))))))) (
  tif ((decide ((((List.length l) : Nat) : Int) = (0 : Int)))) (
  some ((0 : Int), (((0 : Int), ((0 : Int), ((0 : Int), false))), (((0 : Int), ((0 : Int), ((0 : Int), false))), (((0 : Int), (0 : Int)), ((0 : Int), ((0 : Int), (0 : Int)))))))) (
  obind (window_Slot n i (((List.length l) : Nat) : Int)) fun r0 =>
  obind (at? l r0) fun r1 =>
  tif ((decide (r1.1 = i))) (
  some r1.2) (
  some ((0 : Int), (((0 : Int), ((0 : Int), ((0 : Int), false))), (((0 : Int), ((0 : Int), ((0 : Int), false))), (((0 : Int), (0 : Int)), ((0 : Int), ((0 : Int), (0 : Int)))))))))) := by kernel_rfl
theorem r15_one_eq_0 (n : Nat) (c : TConfig) (s : TSeries) (i : Int) : r15_one (n + 1) c s (0 : Int) i =
  tif ((decide (s.2.1 = ((-1) : Int)))) (
  some (((0 : Int), (((0 : Int), ((0 : Int), ((0 : Int), false))), (((0 : Int), ((0 : Int), ((0 : Int), false))), (((0 : Int), (0 : Int)), ((0 : Int), ((0 : Int), (0 : Int))))))), (0 : Int))) (
  tif ((decide (c.2.1.1 = (0 : Int)))) (
  none) (
  tif ((decide ((IntKind.wrap .i64 (Int.tdiv s.2.1 c.2.1.1)) < i))) (
  some (((0 : Int), (((0 : Int), ((0 : Int), ((0 : Int), false))), (((0 : Int), ((0 : Int), ((0 : Int), false))), (((0 : Int), (0 : Int)), ((0 : Int), ((0 : Int), (0 : Int))))))), (0 : Int))) (
  tif ((decide (c.2.1.1 = (0 : Int)))) (
  none) (
  tif ((decide (i < (IntKind.wrap .i64 (Int.tdiv s.2.1 c.2.1.1))))) (
  obind (r13_Get n s.2.2.2.1.1 i) fun r0 =>
  some (r0, (0 : Int))) (
  some (s.2.2.2.2.2, (0 : Int))))))) := by kernel_rfl
theorem r15_one_eq_1 (n : Nat) (c : TConfig) (s : TSeries) (i : Int) : r15_one (n + 1) c s (1 : Int) i =
  tif ((decide (s.2.1 = ((-1) : Int)))) (
  some (((0 : Int), (((0 : Int), ((0 : Int), ((0 : Int), false))), (((0 : Int), ((0 : Int), ((0 : Int), false))), (((0 : Int), (0 : Int)), ((0 : Int), ((0 : Int), (0 : Int))))))), (0 : Int))) (
  tif ((decide (c.2.1.2.1 = (0 : Int)))) (
  none) (
  tif ((decide ((IntKind.wrap .i64 (Int.tdiv s.2.1 c.2.1.2.1)) < i))) (
  some (((0 : Int), (((0 : Int), ((0 : Int), ((0 : Int), false))), (((0 : Int), ((0 : Int), ((0 : Int), false))), (((0 : Int), (0 : Int)), ((0 : Int), ((0 : Int), (0 : Int))))))), (0 : Int))) (
  tif ((decide (c.2.1.2.1 = (0 : Int)))) (
  none) (
  tif ((decide (i < (IntKind.wrap .i64 (Int.tdiv s.2.1 c.2.1.2.1))))) (
  obind (r13_Get n s.2.2.2.1.2.1 i) fun r0 =>
  some (r0, (0 : Int))) (
  tif ((decide (c.2.1.1 = (0 : Int)))) (
  none) (
  obind (r10_Factor n c (1 : Int)) fun r1 =>
  obind (r13_Fold n s.2.2.2.1.1 (IntKind.wrap .i64 (i * r1)) (IntKind.wrap .i64 (Int.tdiv s.2.1 c.2.1.1))) fun r2 =>
  tif ((!(decide (r2.2 = (0 : Int))))) (
  some (((0 : Int), (((0 : Int), ((0 : Int), ((0 : Int), false))), (((0 : Int), ((0 : Int), ((0 : Int), false))), (((0 : Int), (0 : Int)), ((0 : Int), ((0 : Int), (0 : Int))))))), r2.2)) (
  obind (r15_one n c s (0 : Int) (IntKind.wrap .i64 (Int.tdiv s.2.1 c.2.1.1))) fun r3 =>
  tif ((!(decide (r3.2 = (0 : Int))))) (
  some (((0 : Int), (((0 : Int), ((0 : Int), ((0 : Int), false))), (((0 : Int), ((0 : Int), ((0 : Int), false))), (((0 : Int), (0 : Int)), ((0 : Int), ((0 : Int), (0 : Int))))))), r3.2)) (
  obind (r08_Merge n r2.1 r3.1) fun r4 =>
  some r4)))))))) := by kernel_rfl
theorem series_kept_span_eq_0 (n : Nat) (s : Tseries_kept) (i : Int) (j : Int) : series_kept_span (n + 1) s (0 : Int) i j =
  tif ((decide (s.2.2.1 = ((-1) : Int)))) (
  some (((0 : Int), (((0 : Int), ((0 : Int), ((0 : Int), false))), (((0 : Int), ((0 : Int), ((0 : Int), false))), (((0 : Int), (0 : Int)), ((0 : Int), ((0 : Int), (0 : Int))))))), (0 : Int))) (
  tif ((decide (s.1.2.1.1 = (0 : Int)))) (
  none) (
  obind (tier_Fold n s.2.2.2.2.1.1 i j) fun r0 =>
  tif ((!(decide (r0.2 = (0 : Int))))) (
  some r0) (
  tif ((decide ((IntKind.wrap .i64 (Int.tdiv s.2.2.1 s.1.2.1.1)) < i))) (
  some r0) (
  tif ((decide (j ≤ (IntKind.wrap .i64 (Int.tdiv s.2.2.1 s.1.2.1.1))))) (
  some r0) (
  obind (series_kept_now n s (0 : Int)) fun r1 =>
  tif ((!(decide (r1.2 = (0 : Int))))) (
  some (((0 : Int), (((0 : Int), ((0 : Int), ((0 : Int), false))), (((0 : Int), ((0 : Int), ((0 : Int), false))), (((0 : Int), (0 : Int)), ((0 : Int), ((0 : Int), (0 : Int))))))), r1.2)) (
  obind (cell_Merge n r0.1 r1.1) fun r2 =>
  some r2)))))) := by kernel_rfl
theorem series_kept_span_eq_1 (n : Nat) (s : Tseries_kept) (i : Int) (j : Int) : series_kept_span (n + 1) s (1 : Int) i j =
  tif ((decide (s.2.2.1 = ((-1) : Int)))) (
  some (((0 : Int), (((0 : Int), ((0 : Int), ((0 : Int), false))), (((0 : Int), ((0 : Int), ((0 : Int), false))), (((0 : Int), (0 : Int)), ((0 : Int), ((0 : Int), (0 : Int))))))), (0 : Int))) (
  tif ((decide (s.1.2.1.2.1 = (0 : Int)))) (
  none) (
  obind (tier_Fold n s.2.2.2.2.1.2.1 i j) fun r0 =>
  tif ((!(decide (r0.2 = (0 : Int))))) (
  some r0) (
  tif ((decide ((IntKind.wrap .i64 (Int.tdiv s.2.2.1 s.1.2.1.2.1)) < i))) (
  some r0) (
  tif ((decide (j ≤ (IntKind.wrap .i64 (Int.tdiv s.2.2.1 s.1.2.1.2.1))))) (
  some r0) (
  obind (series_kept_now n s (1 : Int)) fun r1 =>
  tif ((!(decide (r1.2 = (0 : Int))))) (
  some (((0 : Int), (((0 : Int), ((0 : Int), ((0 : Int), false))), (((0 : Int), ((0 : Int), ((0 : Int), false))), (((0 : Int), (0 : Int)), ((0 : Int), ((0 : Int), (0 : Int))))))), r1.2)) (
  obind (cell_Merge n r0.1 r1.1) fun r2 =>
  some r2)))))) := by kernel_rfl
theorem series_kept_span_eq_2 (n : Nat) (s : Tseries_kept) (i : Int) (j : Int) : series_kept_span (n + 1) s (2 : Int) i j =
  tif ((decide (s.2.2.1 = ((-1) : Int)))) (
  some (((0 : Int), (((0 : Int), ((0 : Int), ((0 : Int), false))), (((0 : Int), ((0 : Int), ((0 : Int), false))), (((0 : Int), (0 : Int)), ((0 : Int), ((0 : Int), (0 : Int))))))), (0 : Int))) (
  tif ((decide (s.1.2.1.2.2 = (0 : Int)))) (
  none) (
  obind (tier_Fold n s.2.2.2.2.1.2.2 i j) fun r0 =>
  tif ((!(decide (r0.2 = (0 : Int))))) (
  some r0) (
  tif ((decide ((IntKind.wrap .i64 (Int.tdiv s.2.2.1 s.1.2.1.2.2)) < i))) (
  some r0) (
  tif ((decide (j ≤ (IntKind.wrap .i64 (Int.tdiv s.2.2.1 s.1.2.1.2.2))))) (
  some r0) (
  obind (series_kept_now n s (2 : Int)) fun r1 =>
  tif ((!(decide (r1.2 = (0 : Int))))) (
  some (((0 : Int), (((0 : Int), ((0 : Int), ((0 : Int), false))), (((0 : Int), ((0 : Int), ((0 : Int), false))), (((0 : Int), (0 : Int)), ((0 : Int), ((0 : Int), (0 : Int))))))), r1.2)) (
  obind (cell_Merge n r0.1 r1.1) fun r2 =>
  some r2)))))) := by kernel_rfl
theorem r13_Fold_eq (n : Nat) (l : (List TSlot)) (i : Int) (k : Int) : r13_Fold (n + 1) l i k =
  tif ((decide (i < (0 : Int)))) (
  some (((0 : Int), (((0 : Int), ((0 : Int), ((0 : Int), false))), (((0 : Int), ((0 : Int), ((0 : Int), false))), (((0 : Int), (0 : Int)), ((0 : Int), ((0 : Int), (0 : Int))))))), (1 : Int))) (
  tif ((decide (k < i))) (
  some (((0 : Int), (((0 : Int), ((0 : Int), ((0 : Int), false))), (((0 : Int), ((0 : Int), ((0 : Int), false))), (((0 : Int), (0 : Int)), ((0 : Int), ((0 : Int), (0 : Int))))))), (1 : Int))) (
  obind (r13_All n l) fun r0 =>
  obind (r13_Fold_l5 n loopFuel (l, (i, (k, (((0 : Int), (((0 : Int), ((0 : Int), ((0 : Int), false))), (((0 : Int), ((0 : Int), ((0 : Int), false))), (((0 : Int), (0 : Int)), ((0 : Int), ((0 : Int), (0 : Int))))))), ([], (r0, ((((List.length r0) : Nat) : Int), ((0 : Int), ()))))))))) fun r1 =>
  selim (fun y2 =>
  obind (r08_All n y2.2.1) fun r3 =>
  some r3) (fun z4 =>
  some z4) r1)) := by kernel_rfl
theorem r13_Fold_l5_eq (n f : Nat) (l : (List TSlot)) (i : Int) (k : Int) (s6 : TCell) (cells : (List TCell)) (s20 : (List TSlot)) (s21 : Int) (s22 : Int) : r13_Fold_l5 n (f + 1) (l, i, k, s6, cells, s20, s21, s22, ()) =
  tif ((decide (s22 < s21))) (
  obind (at? s20 s22) fun r0 =>
  tif ((decide (i ≤ r0.1))) (
  tif ((decide (r0.1 < k))) (
  obind (r13_Get n l r0.1) fun r1 =>
  tif (((decide (r1.1 = r0.2.1)) && ((decide (r1.2.1.1 = r0.2.2.1.1)) && ((decide (r1.2.1.2.1 = r0.2.2.1.2.1)) && ((decide (r1.2.1.2.2.1 = r0.2.2.1.2.2.1)) && ((r1.2.1.2.2.2 == r0.2.2.1.2.2.2) && ((decide (r1.2.2.1.1 = r0.2.2.2.1.1)) && ((decide (r1.2.2.1.2.1 = r0.2.2.2.1.2.1)) && ((decide (r1.2.2.1.2.2.1 = r0.2.2.2.1.2.2.1)) && ((r1.2.2.1.2.2.2 == r0.2.2.2.1.2.2.2) && ((decide (r1.2.2.2.1.1 = r0.2.2.2.2.1.1)) && ((decide (r1.2.2.2.1.2 = r0.2.2.2.2.1.2)) && ((decide (r1.2.2.2.2.1 = r0.2.2.2.2.2.1)) && ((decide (r1.2.2.2.2.2.1 = r0.2.2.2.2.2.2.1)) && (decide (r1.2.2.2.2.2.2 = r0.2.2.2.2.2.2.2)))))))))))))))) (
  tif ((decide ((((List.length cells) + 1) * 112) ≤ 140737488355328))) (
  r13_Fold_l5 n f (l, (i, (k, (s6, ((cells ++ (r0.2 :: [])), (s20, (s21, ((IntKind.wrap .i64 (s22 + (1 : Int))), ()))))))))) (
  none)) (
  r13_Fold_l5 n f (l, (i, (k, (s6, (cells, (s20, (s21, ((IntKind.wrap .i64 (s22 + (1 : Int))), ())))))))))) (
  r13_Fold_l5 n f (l, (i, (k, (s6, (cells, (s20, (s21, ((IntKind.wrap .i64 (s22 + (1 : Int))), ())))))))))) (
  r13_Fold_l5 n f (l, (i, (k, (s6, (cells, (s20, (s21, ((IntKind.wrap .i64 (s22 + (1 : Int))), ())))))))))) (
  some (.inl (s6, (cells, ())))) := by kernel_rfl
theorem r08_Merge_eq (n : Nat) (a : TCell) (b : TCell) : r08_Merge (n + 1) a b =
  obind (r08_Check n a) fun r0 =>
  tif ((!(decide (r0 = (0 : Int))))) (
  some (((0 : Int), (((0 : Int), ((0 : Int), ((0 : Int), false))), (((0 : Int), ((0 : Int), ((0 : Int), false))), (((0 : Int), (0 : Int)), ((0 : Int), ((0 : Int), (0 : Int))))))), (2 : Int))) (
  obind (r08_Check n b) fun r1 =>
  tif ((!(decide (r1 = (0 : Int))))) (
  some (((0 : Int), (((0 : Int), ((0 : Int), ((0 : Int), false))), (((0 : Int), ((0 : Int), ((0 : Int), false))), (((0 : Int), (0 : Int)), ((0 : Int), ((0 : Int), (0 : Int))))))), (2 : Int))) (
  tif ((decide (a.1 = (0 : Int)))) (
  some (b, (0 : Int))) (
  tif ((decide (b.1 = (0 : Int)))) (
  some (a, (0 : Int))) (
  tif ((decide (b.2.1.1 ≤ a.2.2.1.1))) (
  some (((0 : Int), (((0 : Int), ((0 : Int), ((0 : Int), false))), (((0 : Int), ((0 : Int), ((0 : Int), false))), (((0 : Int), (0 : Int)), ((0 : Int), ((0 : Int), (0 : Int))))))), (9 : Int))) (
  obind (r07_Between n a.2.2.1 b.2.1) fun r2 =>
  obind (r01_Sum n (a.2.2.2.1 :: (r2.1.2.2.2.1 :: (b.2.2.2.1 :: [])))) fun r3 =>
  some (((IntKind.wrap .i64 (a.1 + b.1)), (a.2.1, (b.2.2.1, (r3.1, ((IntKind.wrap .i64 ((IntKind.wrap .i64 (a.2.2.2.2.1 + r2.1.2.2.2.2.1)) + b.2.2.2.2.1)), ((IntKind.wrap .i64 ((IntKind.wrap .i64 (a.2.2.2.2.2.1 + r2.1.2.2.2.2.2.1)) + b.2.2.2.2.2.1)), (IntKind.wrap .i64 ((IntKind.wrap .i64 (a.2.2.2.2.2.2 + r2.1.2.2.2.2.2.2)) + b.2.2.2.2.2.2)))))))), (0 : Int))))))) := by kernel_rfl
theorem r10_Check_eq (n : Nat) (c : TConfig) : r10_Check (n + 1) c =
  tif ((decide (c.1 < (1 : Int)))) (
  some (2 : Int)) (
  tif ((decide ((4096 : Int) < c.1))) (
  some (2 : Int)) (
  tif ((decide (c.2.2.2.1 < (1 : Int)))) (
  some (2 : Int)) (
  tif ((decide ((65536 : Int) < c.2.2.2.1))) (
  some (2 : Int)) (
  tif ((decide (c.2.2.2.2 < (1 : Int)))) (
  some (2 : Int)) (
  tif ((decide ((8192 : Int) < c.2.2.2.2))) (
  some (2 : Int)) (
  tif ((decide (c.2.1.1 < (1 : Int)))) (
  some (2 : Int)) (
  tif ((decide ((1099511627776 : Int) < c.2.1.1))) (
  some (2 : Int)) (
  tif ((decide (c.2.2.1.1 < (1 : Int)))) (
  some (2 : Int)) (
  tif ((decide ((4096 : Int) < c.2.2.1.1))) (
  some (2 : Int)) (
  tif ((decide (c.2.1.2.1 < (1 : Int)))) (
  some (2 : Int)) (
  tif ((decide ((1099511627776 : Int) < c.2.1.2.1))) (
  some (2 : Int)) (
  tif ((decide (c.2.2.1.2.1 < (1 : Int)))) (
  some (2 : Int)) (
  tif ((decide ((4096 : Int) < c.2.2.1.2.1))) (
  some (2 : Int)) (
  tif ((decide (c.2.1.1 = (0 : Int)))) (
  none) (
  tif ((!(decide ((Int.tmod c.2.1.2.1 c.2.1.1) = (0 : Int))))) (
  some (2 : Int)) (
  tif ((decide (c.2.1.1 = (0 : Int)))) (
  none) (
  tif ((decide (c.2.2.1.1 < (IntKind.wrap .i64 (Int.tdiv c.2.1.2.1 c.2.1.1))))) (
  some (2 : Int)) (
  tif ((decide (c.2.1.2.2 < (1 : Int)))) (
  some (2 : Int)) (
  tif ((decide ((1099511627776 : Int) < c.2.1.2.2))) (
  some (2 : Int)) (
  tif ((decide (c.2.2.1.2.2 < (1 : Int)))) (
  some (2 : Int)) (
  tif ((decide ((4096 : Int) < c.2.2.1.2.2))) (
  some (2 : Int)) (
  tif ((decide (c.2.1.2.1 = (0 : Int)))) (
  none) (
  tif ((!(decide ((Int.tmod c.2.1.2.2 c.2.1.2.1) = (0 : Int))))) (
  some (2 : Int)) (
  tif ((decide (c.2.1.2.1 = (0 : Int)))) (
  none) (
  tif ((decide (c.2.2.1.2.1 < (IntKind.wrap .i64 (Int.tdiv c.2.1.2.2 c.2.1.2.1))))) (
  some (2 : Int)) (
  obind (r10_place n c) fun r0 =>
  tif ((decide (c.2.2.2.2 ≤ r0))) (
  some (2 : Int)) (
  some (0 : Int)))))))))))))))))))))))))))) := by kernel_rfl
theorem r05_Check_eq (n : Nat) (l : (List (List UInt8 × List UInt8))) : r05_Check (n + 1) l =
  tif ((decide ((((List.length l) : Nat) : Int) < (1 : Int)))) (
  some (8 : Int)) (
  tif ((decide ((16 : Int) < (((List.length l) : Nat) : Int)))) (
  some (8 : Int)) (
  obind (r05_Check_l5 n loopFuel (l, ((0 : Int), (l, ((((List.length l) : Nat) : Int), ((0 : Int), ())))))) fun r0 =>
  selim (fun y1 =>
  tif ((decide ((256 : Int) < y1.1))) (
  some (8 : Int)) (
  some (0 : Int))) (fun z2 =>
  some z2) r0)) := by kernel_rfl
theorem r05_Check_l5_eq (n f : Nat) (l : (List (List UInt8 × List UInt8))) (all : Int) (s14 : (List (List UInt8 × List UInt8))) (s15 : Int) (s16 : Int) : r05_Check_l5 n (f + 1) (l, all, s14, s15, s16, ()) =
  tif ((decide (s16 < s15))) (
  obind (at? s14 s16) fun r0 =>
  obind (r05_name n r0.1) fun r1 =>
  tif ((!r1)) (
  some (.inr (8 : Int))) (
  tif ((decide ((128 : Int) < (((List.length r0.2) : Nat) : Int)))) (
  some (.inr (8 : Int))) (
  tif ((decide ((0 : Int) < s16))) (
  obind (at? l (IntKind.wrap .i64 (s16 - (1 : Int)))) fun r2 =>
  tif ((!(Go.Op.bytesLess r2.1 r0.1))) (
  some (.inr (8 : Int))) (
  r05_Check_l5 n f (l, ((IntKind.wrap .i64 (all + (IntKind.wrap .i64 ((((List.length r0.1) : Nat) : Int) + (((List.length r0.2) : Nat) : Int))))), (s14, (s15, ((IntKind.wrap .i64 (s16 + (1 : Int))), ()))))))) (
  r05_Check_l5 n f (l, ((IntKind.wrap .i64 (all + (IntKind.wrap .i64 ((((List.length r0.1) : Nat) : Int) + (((List.length r0.2) : Nat) : Int))))), (s14, (s15, ((IntKind.wrap .i64 (s16 + (1 : Int))), ()))))))))) (
  some (.inl (all, ()))) := by kernel_rfl
theorem r12_Check_eq (n : Nat) (r : (Int × (Int × (List TEvent)))) (room : Int) : r12_Check (n + 1) r room =
  tif ((decide (room < (1 : Int)))) (
  some (2 : Int)) (
  tif ((decide ((4096 : Int) < room))) (
  some (2 : Int)) (
  tif ((decide (room < (((List.length r.2.2) : Nat) : Int)))) (
  some (2 : Int)) (
  tif ((decide (r.1 < (0 : Int)))) (
  some (2 : Int)) (
  tif ((decide ((70368744177664 : Int) < r.1))) (
  some (2 : Int)) (
  obind (r12_Check_l4 n loopFuel (room, (r, (r.2.2, ((((List.length r.2.2) : Nat) : Int), ((0 : Int), ())))))) fun r0 =>
  selim (fun y1 =>
  tif ((decide (y1.2.1.1 = (0 : Int)))) (
  tif ((!(decide (y1.2.1.2.1 = (0 : Int))))) (
  some (2 : Int)) (
  some (0 : Int))) (
  tif ((decide (y1.2.1.2.1 < (0 : Int)))) (
  some (2 : Int)) (
  tif ((decide ((35184372088832 : Int) ≤ y1.2.1.2.1))) (
  some (2 : Int)) (
  tif ((!(decide ((((List.length y1.2.1.2.2) : Nat) : Int) = y1.1)))) (
  some (2 : Int)) (
  obind (at? y1.2.1.2.2 (0 : Int)) fun r2 =>
  tif ((decide (r2.1 ≤ y1.2.1.2.1))) (
  some (2 : Int)) (
  some (0 : Int))))))) (fun z3 =>
  some z3) r0))))) := by kernel_rfl
theorem r12_Check_l4_eq (n f : Nat) (room : Int) (r_ : (Int × (Int × (List TEvent)))) (s31 : (List TEvent)) (s32 : Int) (s33 : Int) : r12_Check_l4 n (f + 1) (room, r_, s31, s32, s33, ()) =
  tif ((decide (s33 < s32))) (
  obind (at? s31 s33) fun r0 =>
  obind (r07_Check n r0) fun r1 =>
  tif ((!(decide (r1 = (0 : Int))))) (
  some (.inr (2 : Int))) (
  tif ((decide ((0 : Int) < s33))) (
  obind (at? r_.2.2 (IntKind.wrap .i64 (s33 - (1 : Int)))) fun r2 =>
  tif ((decide (r0.1 ≤ r2.1))) (
  some (.inr (2 : Int))) (
  r12_Check_l4 n f (room, (r_, (s31, (s32, ((IntKind.wrap .i64 (s33 + (1 : Int))), ()))))))) (
  r12_Check_l4 n f (room, (r_, (s31, (s32, ((IntKind.wrap .i64 (s33 + (1 : Int))), ())))))))) (
  some (.inl (room, (r_, ())))) := by kernel_rfl
theorem r14_Check_eq (n : Nat) (c : TConfig) (s : ((List TSlot) × ((List TSlot) × (List TSlot)))) : r14_Check (n + 1) c s =
  obind (r10_Check n c) fun r0 =>
  tif ((!(decide (r0 = (0 : Int))))) (
  some (2 : Int)) (
  tif ((!(decide ((((List.length s.1) : Nat) : Int) = c.2.2.1.1)))) (
  some (2 : Int)) (
  obind (r13_Check n s.1 c.2.1.1) fun r1 =>
  tif ((!(decide (r1 = (0 : Int))))) (
  some (2 : Int)) (
  tif ((!(decide ((((List.length s.2.1) : Nat) : Int) = c.2.2.1.2.1)))) (
  some (2 : Int)) (
  obind (r13_Check n s.2.1 c.2.1.2.1) fun r2 =>
  tif ((!(decide (r2 = (0 : Int))))) (
  some (2 : Int)) (
  tif ((!(decide ((((List.length s.2.2) : Nat) : Int) = c.2.2.1.2.2)))) (
  some (2 : Int)) (
  obind (r13_Check n s.2.2 c.2.1.2.2) fun r3 =>
  tif ((!(decide (r3 = (0 : Int))))) (
  some (2 : Int)) (
  some (0 : Int)))))))) := by kernel_rfl
theorem r13_All_eq (n : Nat) (l : (List TSlot)) : r13_All (n + 1) l =
  obind (r13_All_l3 n loopFuel ([], (l, ((((List.length l) : Nat) : Int), ((0 : Int), ()))))) fun r0 =>
  selim (fun y1 =>
  some y1.1) (fun z2 =>
  some z2) r0 := by kernel_rfl
theorem r13_All_l3_eq (n f : Nat) (out : (List TSlot)) (s8 : (List TSlot)) (s9 : Int) (s10 : Int) : r13_All_l3 n (f + 1) (out, s8, s9, s10, ()) =
  tif ((decide (s10 < s9))) (
  obind (at? s8 s10) fun r0 =>
  tif (((decide (r0.1 = (0 : Int))) && ((decide (r0.2.1 = (0 : Int))) && ((decide (r0.2.2.1.1 = (0 : Int))) && ((decide (r0.2.2.1.2.1 = (0 : Int))) && ((decide (r0.2.2.1.2.2.1 = (0 : Int))) && ((r0.2.2.1.2.2.2 == false) && ((decide (r0.2.2.2.1.1 = (0 : Int))) && ((decide (r0.2.2.2.1.2.1 = (0 : Int))) && ((decide (r0.2.2.2.1.2.2.1 = (0 : Int))) && ((r0.2.2.2.1.2.2.2 == false) && ((decide (r0.2.2.2.2.1.1 = (0 : Int))) && ((decide (r0.2.2.2.2.1.2 = (0 : Int))) && ((decide (r0.2.2.2.2.2.1 = (0 : Int))) && ((decide (r0.2.2.2.2.2.2.1 = (0 : Int))) && (decide (r0.2.2.2.2.2.2.2 = (0 : Int)))))))))))))))))) (
  r13_All_l3 n f (out, (s8, (s9, ((IntKind.wrap .i64 (s10 + (1 : Int))), ()))))) (
  obind (r13_All_l7 n loopFuel (out, (r0, ((((List.length out) : Nat) : Int), (s8, (s9, (s10, ()))))))) fun r1 =>
  selim (fun y2 =>
  tif (((decide ((0 : Int) ≤ y2.2.2.1)) && (decide (y2.2.2.1 ≤ (((List.length y2.1) : Nat) : Int))))) (
  tif ((decide (((0 + (List.length (List.take ((Int.toNat y2.2.2.1) - 0) (List.drop 0 y2.1)))) * 120) ≤ 140737488355328))) (
  tif ((decide ((((List.length ([] ++ (List.take ((Int.toNat y2.2.2.1) - 0) (List.drop 0 y2.1)))) + 1) * 120) ≤ 140737488355328))) (
  tif ((decide ((0 : Int) ≤ y2.2.2.1))) (
  tif ((decide ((Int.toNat y2.2.2.1) ≤ (List.length y2.1)))) (
  tif ((decide ((((List.length (([] ++ (List.take ((Int.toNat y2.2.2.1) - 0) (List.drop 0 y2.1))) ++ (y2.2.1 :: []))) + (List.length (List.take ((List.length y2.1) - (Int.toNat y2.2.2.1)) (List.drop (Int.toNat y2.2.2.1) y2.1)))) * 120) ≤ 140737488355328))) (
  r13_All_l3 n f (((([] ++ (List.take ((Int.toNat y2.2.2.1) - 0) (List.drop 0 y2.1))) ++ (y2.2.1 :: [])) ++ (List.take ((List.length y2.1) - (Int.toNat y2.2.2.1)) (List.drop (Int.toNat y2.2.2.1) y2.1))), (y2.2.2.2.1, (y2.2.2.2.2.1, ((IntKind.wrap .i64 (y2.2.2.2.2.2.1 + (1 : Int))), ()))))) (
  none)) (
  none)) (
  none)) (
  none)) (
  none)) (
  none)) (fun z3 =>
  some (.inr z3)) r1)) (
  some (.inl (out, ()))) := by kernel_rfl
theorem r13_All_l7_eq (n f : Nat) (out : (List TSlot)) (s : TSlot) (at_ : Int) (s8 : (List TSlot)) (s9 : Int) (s10 : Int) : r13_All_l7 n (f + 1) (out, s, at_, s8, s9, s10, ()) =
  tif ((decide ((0 : Int) < at_))) (
  obind (at? out (IntKind.wrap .i64 (at_ - (1 : Int)))) fun r0 =>
  obind ((out)[(Int.toNat (IntKind.wrap .i64 (at_ - (1 : Int))))]?) fun r1 =>
  tif ((decide (s.1 < r1.1))) (
  r13_All_l7 n f (out, (s, ((IntKind.wrap .i64 (at_ - (1 : Int))), (s8, (s9, (s10, ()))))))) (
  some (.inl (out, (s, (at_, (s8, (s9, (s10, ()))))))))) (
  some (.inl (out, (s, (at_, (s8, (s9, (s10, ())))))))) := by kernel_rfl
theorem r12_Last_eq (n : Nat) (r : (Int × (Int × (List TEvent)))) : r12_Last (n + 1) r =
  tif ((decide ((((List.length r.2.2) : Nat) : Int) = (0 : Int)))) (
  some (((0 : Int), ((0 : Int), ((0 : Int), false))), (3 : Int))) (
  obind (at? r.2.2 (IntKind.wrap .i64 ((((List.length r.2.2) : Nat) : Int) - (1 : Int)))) fun r0 =>
  some (r0, (0 : Int))) := by kernel_rfl
theorem r13_Fits_eq (n : Nat) (c : TCell) (w : Int) (i : Int) : r13_Fits (n + 1) c w i =
  obind (r08_Check n c) fun r0 =>
  tif ((!(decide (r0 = (0 : Int))))) (
  some false) (
  tif ((decide (c.1 = (0 : Int)))) (
  some false) (
  obind (r09_Of n c.2.1.1 w) fun r1 =>
  obind (r09_Of n c.2.2.1.1 w) fun r2 =>
  tif ((decide (r1.2 = (0 : Int)))) (
  tif ((decide (r2.2 = (0 : Int)))) (
  tif ((decide (r1.1 = i))) (
  some (decide (r2.1 = i))) (
  some false)) (
  some false)) (
  some false))) := by kernel_rfl
theorem r05_Same_l4_eq (n f : Nat) (a : (List (List UInt8 × List UInt8))) (b : (List (List UInt8 × List UInt8))) (s12 : Int) (s13 : Int) : r05_Same_l4 n (f + 1) (a, b, s12, s13, ()) =
  tif ((decide (s13 < s12))) (
  obind (at? a s13) fun r0 =>
  obind (at? b s13) fun r1 =>
  tif ((!((r0.1 == r1.1) && (r0.2 == r1.2)))) (
  some (.inr false)) (
  r05_Same_l4 n f (a, (b, (s12, ((IntKind.wrap .i64 (s13 + (1 : Int))), ())))))) (
  some (.inl ())) := by kernel_rfl
theorem conf_Check_eq (n : Nat) (c : TConfig) : conf_Check (n + 1) c =
  obind (conf_in_int n c.1 (1 : Int) (4096 : Int)) fun r0 =>
  tif (r0) (
  obind (conf_in_int n c.2.2.2.1 (1 : Int) (65536 : Int)) fun r1 =>
  tif (r1) (
  obind (conf_in_int n c.2.2.2.2 (1 : Int) (8192 : Int)) fun r2 =>
  tif (r2) (
  obind (conf_in_int64 n c.2.1.1 (1 : Int) (1099511627776 : Int)) fun r3 =>
  tif (r3) (
  obind (conf_in_int n c.2.2.1.1 (1 : Int) (4096 : Int)) fun r4 =>
  tif (r4) (
  obind (conf_in_int64 n c.2.1.2.1 (1 : Int) (1099511627776 : Int)) fun r5 =>
  tif (r5) (
  obind (conf_in_int n c.2.2.1.2.1 (1 : Int) (4096 : Int)) fun r6 =>
  tif (r6) (
  obind (conf_in_int64 n c.2.1.2.2 (1 : Int) (1099511627776 : Int)) fun r7 =>
  tif (r7) (
  obind (conf_in_int n c.2.2.1.2.2 (1 : Int) (4096 : Int)) fun r8 =>
  tif (r8) (
  tif ((decide (c.2.1.1 = (0 : Int)))) (
  none) (
  tif ((decide ((Int.tmod c.2.1.2.1 c.2.1.1) = (0 : Int)))) (
  tif ((decide (c.2.1.1 = (0 : Int)))) (
  none) (
  tif ((decide ((IntKind.wrap .i64 (Int.tdiv c.2.1.2.1 c.2.1.1)) ≤ c.2.2.1.1))) (
  tif ((decide (c.2.1.2.1 = (0 : Int)))) (
  none) (
  tif ((decide ((Int.tmod c.2.1.2.2 c.2.1.2.1) = (0 : Int)))) (
  tif ((decide (c.2.1.2.1 = (0 : Int)))) (
  none) (
  tif ((decide ((IntKind.wrap .i64 (Int.tdiv c.2.1.2.2 c.2.1.2.1)) ≤ c.2.2.1.2.1))) (
  tif ((!(decide ((IntKind.wrap .i64 (Int.tdiv c.2.1.2.2 c.2.1.2.1)) ≤ c.2.2.1.2.1)))) (
  some (2 : Int)) (
  obind (conf_place n c) fun r9 =>
  tif ((decide (c.2.2.2.2 ≤ r9))) (
  some (2 : Int)) (
  some (0 : Int)))) (
  tif ((!(decide ((IntKind.wrap .i64 (Int.tdiv c.2.1.2.2 c.2.1.2.1)) ≤ c.2.2.1.2.1)))) (
  some (2 : Int)) (
  obind (conf_place n c) fun r10 =>
  tif ((decide (c.2.2.2.2 ≤ r10))) (
  some (2 : Int)) (
  some (0 : Int)))))) (
  some (2 : Int)))) (
  tif ((!(decide ((IntKind.wrap .i64 (Int.tdiv c.2.1.2.1 c.2.1.1)) ≤ c.2.2.1.1)))) (
  some (2 : Int)) (
  obind (conf_place n c) fun r11 =>
  tif ((decide (c.2.2.2.2 ≤ r11))) (
  some (2 : Int)) (
  some (0 : Int)))))) (
  some (2 : Int)))) (
  tif ((!r8)) (
  some (2 : Int)) (
  obind (conf_place n c) fun r12 =>
  tif ((decide (c.2.2.2.2 ≤ r12))) (
  some (2 : Int)) (
  some (0 : Int))))) (
  some (2 : Int))) (
  some (2 : Int))) (
  some (2 : Int))) (
  some (2 : Int))) (
  some (2 : Int))) (
  some (2 : Int))) (
  some (2 : Int))) (
  some (2 : Int)) := by kernel_rfl
theorem label_Check_eq (n : Nat) (l : (List (List UInt8 × List UInt8))) : label_Check (n + 1) l =
  tif ((decide ((((List.length l) : Nat) : Int) = (0 : Int)))) (
  some (8 : Int)) (
  tif ((decide ((16 : Int) < (((List.length l) : Nat) : Int)))) (
  some (8 : Int)) (
  obind (label_Check_l5 n loopFuel (l, ((256 : Int), (l, ((((List.length l) : Nat) : Int), ((0 : Int), ())))))) fun r0 =>
  selim (fun y1 =>
  some (0 : Int)) (fun z2 =>
  some z2) r0)) := by kernel_rfl
theorem label_Check_l5_eq (n f : Nat) (l : (List (List UInt8 × List UInt8))) (left : Int) (s14 : (List (List UInt8 × List UInt8))) (s15 : Int) (s16 : Int) : label_Check_l5 n (f + 1) (l, left, s14, s15, s16, ()) =
  tif ((decide (s16 < s15))) (
  obind (at? s14 s16) fun r0 =>
  obind (label_name n r0.1) fun r1 =>
  tif ((!r1)) (
  some (.inr (8 : Int))) (
  tif ((decide ((128 : Int) < (((List.length r0.2) : Nat) : Int)))) (
  some (.inr (8 : Int))) (
  tif ((decide ((IntKind.wrap .i64 (left - (IntKind.wrap .i64 ((((List.length r0.1) : Nat) : Int) + (((List.length r0.2) : Nat) : Int))))) < (0 : Int)))) (
  some (.inr (8 : Int))) (
  tif ((decide ((0 : Int) < s16))) (
  obind (at? l (IntKind.wrap .i64 (s16 - (1 : Int)))) fun r2 =>
  tif ((!(Go.Op.bytesLess r2.1 r0.1))) (
  some (.inr (8 : Int))) (
  label_Check_l5 n f (l, ((IntKind.wrap .i64 (left - (IntKind.wrap .i64 ((((List.length r0.1) : Nat) : Int) + (((List.length r0.2) : Nat) : Int))))), (s14, (s15, ((IntKind.wrap .i64 (s16 + (1 : Int))), ()))))))) (
  label_Check_l5 n f (l, ((IntKind.wrap .i64 (left - (IntKind.wrap .i64 ((((List.length r0.1) : Nat) : Int) + (((List.length r0.2) : Nat) : Int))))), (s14, (s15, ((IntKind.wrap .i64 (s16 + (1 : Int))), ())))))))))) (
  some (.inl ())) := by kernel_rfl
theorem slices_Clone_Label_eq (n : Nat) (s : (List (List UInt8 × List UInt8))) : slices_Clone_Label (n + 1) s =
  tif ((decide ((List.length s) = 0))) (
  both (
  some []) (
  tif ((decide (((0 + (List.length s)) * 32) ≤ 140737488355328))) (
  some ([] ++ s)) (
  none))) (
  tif ((decide (((0 + (List.length s)) * 32) ≤ 140737488355328))) (
  some ([] ++ s)) (
  none)) := by kernel_rfl
theorem fold_Empty_eq (n : Nat) (c : TConfig) : fold_Empty (n + 1) c =
  obind (conf_Check n c) fun r0 =>
  tif ((!(decide (r0 = (0 : Int))))) (
  some ([], ([], []))) (
  obind (tier_New n c.2.2.1.1) fun r1 =>
  obind (tier_New n c.2.2.1.2.1) fun r2 =>
  obind (tier_New n c.2.2.1.2.2) fun r3 =>
  some (r1, (r2, r3))) := by kernel_rfl
theorem cell_Merge_eq (n : Nat) (a : TCell) (b : TCell) : cell_Merge (n + 1) a b =
  obind (cell_Check n a) fun r0 =>
  tif ((!(decide (r0 = (0 : Int))))) (
  some (((0 : Int), (((0 : Int), ((0 : Int), ((0 : Int), false))), (((0 : Int), ((0 : Int), ((0 : Int), false))), (((0 : Int), (0 : Int)), ((0 : Int), ((0 : Int), (0 : Int))))))), (2 : Int))) (
  obind (cell_Check n b) fun r1 =>
  tif ((!(decide (r1 = (0 : Int))))) (
  some (((0 : Int), (((0 : Int), ((0 : Int), ((0 : Int), false))), (((0 : Int), ((0 : Int), ((0 : Int), false))), (((0 : Int), (0 : Int)), ((0 : Int), ((0 : Int), (0 : Int))))))), (2 : Int))) (
  obind (cell_none n a) fun r2 =>
  tif (r2) (
  some (b, (0 : Int))) (
  obind (cell_none n b) fun r3 =>
  tif (r3) (
  some (a, (0 : Int))) (
  obind (cell_join n a b) fun r4 =>
  some r4)))) := by kernel_rfl
theorem cell_one_eq (n : Nat) (e : TEvent) : cell_one (n + 1) e =
  some ((1 : Int), (e, (e, (((0 : Int), (0 : Int)), ((0 : Int), ((0 : Int), (0 : Int))))))) := by kernel_rfl
theorem window_Of_eq (n : Nat) (t : Int) (w : Int) : window_Of (n + 1) t w =
  obind (window_in_int64 n t (0 : Int) (35184372088831 : Int)) fun r0 =>
  tif ((!r0)) (
  some ((0 : Int), (1 : Int))) (
  obind (window_width n w) fun r1 =>
  tif ((!r1)) (
  some ((0 : Int), (1 : Int))) (
  tif ((decide (w = (0 : Int)))) (
  none) (
  some ((IntKind.wrap .i64 (Int.tdiv t w)), (0 : Int))))) := by kernel_rfl
theorem r09_width_eq (n : Nat) (w : Int) : r09_width (n + 1) w =
  tif ((decide ((1 : Int) ≤ w))) (
  some (decide (w ≤ (1099511627776 : Int)))) (
  some false) := by kernel_rfl
theorem fold_Check_eq (n : Nat) (c : TConfig) (s : ((List TSlot) × ((List TSlot) × (List TSlot)))) : fold_Check (n + 1) c s =
  obind (fold_open n c s) fun r0 =>
  oelim (r0.1) (
  some r0.2) fun r1 =>
  some r0.2 := by kernel_rfl
theorem raw_Check_eq (n : Nat) (r : (Int × (Int × (List TEvent)))) (room : Int) : raw_Check (n + 1) r room =
  tif ((decide (room < (1 : Int)))) (
  some (2 : Int)) (
  tif ((decide ((4096 : Int) < room))) (
  some (2 : Int)) (
  tif ((decide (room < (((List.length r.2.2) : Nat) : Int)))) (
  some (2 : Int)) (
  tif ((decide (r.1 < (0 : Int)))) (
  some (2 : Int)) (
  tif ((decide ((70368744177664 : Int) < r.1))) (
  some (2 : Int)) (
  obind (raw_rising n r.2.2) fun r0 =>
  tif ((!r0)) (
  some (2 : Int)) (
  obind (raw_marked n r room) fun r1 =>
  tif ((!r1)) (
  some (2 : Int)) (
  some (0 : Int)))))))) := by kernel_rfl
theorem series_kept_fresh_eq (n : Nat) (s : Tseries_kept) : series_kept_fresh (n + 1) s =
  tif ((decide ((((List.length s.2.2.2.1.2.2) : Nat) : Int) = (0 : Int)))) (
  tif (((decide (s.2.2.2.2.2.1 = (0 : Int))) && ((decide (s.2.2.2.2.2.2.1 = (0 : Int))) && ((decide (s.2.2.2.2.2.2.2.1.1 = (0 : Int))) && ((decide (s.2.2.2.2.2.2.2.1.2.1 = (0 : Int))) && ((decide (s.2.2.2.2.2.2.2.1.2.2.1 = (0 : Int))) && ((s.2.2.2.2.2.2.2.1.2.2.2 == false) && ((decide (s.2.2.2.2.2.2.2.2.1.1 = (0 : Int))) && ((decide (s.2.2.2.2.2.2.2.2.1.2.1 = (0 : Int))) && ((decide (s.2.2.2.2.2.2.2.2.1.2.2.1 = (0 : Int))) && ((s.2.2.2.2.2.2.2.2.1.2.2.2 == false) && ((decide (s.2.2.2.2.2.2.2.2.2.1.1 = (0 : Int))) && ((decide (s.2.2.2.2.2.2.2.2.2.1.2 = (0 : Int))) && ((decide (s.2.2.2.2.2.2.2.2.2.2.1 = (0 : Int))) && ((decide (s.2.2.2.2.2.2.2.2.2.2.2.1 = (0 : Int))) && (decide (s.2.2.2.2.2.2.2.2.2.2.2.2 = (0 : Int)))))))))))))))))) (
  obind (series_behind n s.2.2.2.2.1.1 (0 : Int)) fun r0 =>
  tif ((!r0)) (
  obind (series_behind n s.2.2.2.2.1.2.1 (0 : Int)) fun r1 =>
  tif ((!r1)) (
  obind (series_behind n s.2.2.2.2.1.2.2 (0 : Int)) fun r2 =>
  some (!r2)) (
  some false)) (
  some false)) (
  some false)) (
  some false) := by kernel_rfl
theorem series_kept_ends_eq (n : Nat) (s : Tseries_kept) : series_kept_ends (n + 1) s =
  obind (raw_Last n s.2.2.2.1) fun r0 =>
  tif ((decide (r0.2 = (0 : Int)))) (
  tif ((decide (r0.1.1 = s.2.2.1))) (
  tif ((decide (s.2.2.2.2.2.2.2.2.1.1 = s.2.2.1))) (
  obind (tier_Fits n s.2.2.2.2.2.2 s.1.2.1.1 s.2.2.2.2.2.1) fun r1 =>
  tif (r1) (
  tif ((decide (s.1.2.1.1 = (0 : Int)))) (
  none) (
  obind (series_behind n s.2.2.2.2.1.1 (IntKind.wrap .i64 (Int.tdiv s.2.2.1 s.1.2.1.1))) fun r2 =>
  tif ((!r2)) (
  tif ((decide (s.1.2.1.2.1 = (0 : Int)))) (
  none) (
  obind (series_behind n s.2.2.2.2.1.2.1 (IntKind.wrap .i64 (Int.tdiv s.2.2.1 s.1.2.1.2.1))) fun r3 =>
  tif ((!r3)) (
  tif ((decide (s.1.2.1.2.2 = (0 : Int)))) (
  none) (
  obind (series_behind n s.2.2.2.2.1.2.2 (IntKind.wrap .i64 (Int.tdiv s.2.2.1 s.1.2.1.2.2))) fun r4 =>
  some (!r4))) (
  some false))) (
  some false))) (
  some false)) (
  some false)) (
  some false)) (
  some false) := by kernel_rfl
theorem fold_Close_eq (n : Nat) (c : TConfig) (s : ((List TSlot) × ((List TSlot) × (List TSlot)))) (was : TSlot) (j : Int) : fold_Close (n + 1) c s was j =
  obind (fold_open n c s) fun r0 =>
  oelim (r0.1) (
  tif ((!(decide (r0.2 = (0 : Int))))) (
  some (([], ([], [])), r0.2)) (
  tif ((!((decide (was.1 = (0 : Int))) && ((decide (was.2.1 = (0 : Int))) && ((decide (was.2.2.1.1 = (0 : Int))) && ((decide (was.2.2.1.2.1 = (0 : Int))) && ((decide (was.2.2.1.2.2.1 = (0 : Int))) && ((was.2.2.1.2.2.2 == false) && ((decide (was.2.2.2.1.1 = (0 : Int))) && ((decide (was.2.2.2.1.2.1 = (0 : Int))) && ((decide (was.2.2.2.1.2.2.1 = (0 : Int))) && ((was.2.2.2.1.2.2.2 == false) && ((decide (was.2.2.2.2.1.1 = (0 : Int))) && ((decide (was.2.2.2.2.1.2 = (0 : Int))) && ((decide (was.2.2.2.2.2.1 = (0 : Int))) && ((decide (was.2.2.2.2.2.2.1 = (0 : Int))) && (decide (was.2.2.2.2.2.2.2 = (0 : Int))))))))))))))))))) (
  obind (tier_Fits n was.2 c.2.1.1 was.1) fun r1 =>
  tif ((!r1)) (
  some (([], ([], [])), (2 : Int))) (
  tif (((decide (was.1 = (0 : Int))) && ((decide (was.2.1 = (0 : Int))) && ((decide (was.2.2.1.1 = (0 : Int))) && ((decide (was.2.2.1.2.1 = (0 : Int))) && ((decide (was.2.2.1.2.2.1 = (0 : Int))) && ((was.2.2.1.2.2.2 == false) && ((decide (was.2.2.2.1.1 = (0 : Int))) && ((decide (was.2.2.2.1.2.1 = (0 : Int))) && ((decide (was.2.2.2.1.2.2.1 = (0 : Int))) && ((was.2.2.2.1.2.2.2 == false) && ((decide (was.2.2.2.2.1.1 = (0 : Int))) && ((decide (was.2.2.2.2.1.2 = (0 : Int))) && ((decide (was.2.2.2.2.2.1 = (0 : Int))) && ((decide (was.2.2.2.2.2.2.1 = (0 : Int))) && (decide (was.2.2.2.2.2.2.2 = (0 : Int)))))))))))))))))) (
  some (s, (0 : Int))) (
  tif ((decide (was.1 = j))) (
  some (s, (0 : Int))) (
  tif ((decide (j < was.1))) (
  some (([], ([], [])), (1 : Int))) (
  none))))) (
  tif (((decide (was.1 = (0 : Int))) && ((decide (was.2.1 = (0 : Int))) && ((decide (was.2.2.1.1 = (0 : Int))) && ((decide (was.2.2.1.2.1 = (0 : Int))) && ((decide (was.2.2.1.2.2.1 = (0 : Int))) && ((was.2.2.1.2.2.2 == false) && ((decide (was.2.2.2.1.1 = (0 : Int))) && ((decide (was.2.2.2.1.2.1 = (0 : Int))) && ((decide (was.2.2.2.1.2.2.1 = (0 : Int))) && ((was.2.2.2.1.2.2.2 == false) && ((decide (was.2.2.2.2.1.1 = (0 : Int))) && ((decide (was.2.2.2.2.1.2 = (0 : Int))) && ((decide (was.2.2.2.2.2.1 = (0 : Int))) && ((decide (was.2.2.2.2.2.2.1 = (0 : Int))) && (decide (was.2.2.2.2.2.2.2 = (0 : Int)))))))))))))))))) (
  some (s, (0 : Int))) (
  tif ((decide (was.1 = j))) (
  some (s, (0 : Int))) (
  tif ((decide (j < was.1))) (
  some (([], ([], [])), (1 : Int))) (
  none)))))) fun r2 =>
  tif ((!(decide (r0.2 = (0 : Int))))) (
  some (([], ([], [])), r0.2)) (
  tif ((!((decide (was.1 = (0 : Int))) && ((decide (was.2.1 = (0 : Int))) && ((decide (was.2.2.1.1 = (0 : Int))) && ((decide (was.2.2.1.2.1 = (0 : Int))) && ((decide (was.2.2.1.2.2.1 = (0 : Int))) && ((was.2.2.1.2.2.2 == false) && ((decide (was.2.2.2.1.1 = (0 : Int))) && ((decide (was.2.2.2.1.2.1 = (0 : Int))) && ((decide (was.2.2.2.1.2.2.1 = (0 : Int))) && ((was.2.2.2.1.2.2.2 == false) && ((decide (was.2.2.2.2.1.1 = (0 : Int))) && ((decide (was.2.2.2.2.1.2 = (0 : Int))) && ((decide (was.2.2.2.2.2.1 = (0 : Int))) && ((decide (was.2.2.2.2.2.2.1 = (0 : Int))) && (decide (was.2.2.2.2.2.2.2 = (0 : Int))))))))))))))))))) (
  obind (tier_Fits n was.2 c.2.1.1 was.1) fun r3 =>
  tif ((!r3)) (
  some (([], ([], [])), (2 : Int))) (
  tif (((decide (was.1 = (0 : Int))) && ((decide (was.2.1 = (0 : Int))) && ((decide (was.2.2.1.1 = (0 : Int))) && ((decide (was.2.2.1.2.1 = (0 : Int))) && ((decide (was.2.2.1.2.2.1 = (0 : Int))) && ((was.2.2.1.2.2.2 == false) && ((decide (was.2.2.2.1.1 = (0 : Int))) && ((decide (was.2.2.2.1.2.1 = (0 : Int))) && ((decide (was.2.2.2.1.2.2.1 = (0 : Int))) && ((was.2.2.2.1.2.2.2 == false) && ((decide (was.2.2.2.2.1.1 = (0 : Int))) && ((decide (was.2.2.2.2.1.2 = (0 : Int))) && ((decide (was.2.2.2.2.2.1 = (0 : Int))) && ((decide (was.2.2.2.2.2.2.1 = (0 : Int))) && (decide (was.2.2.2.2.2.2.2 = (0 : Int)))))))))))))))))) (
  some (s, (0 : Int))) (
  tif ((decide (was.1 = j))) (
  some (s, (0 : Int))) (
  tif ((decide (j < was.1))) (
  some (([], ([], [])), (1 : Int))) (
  obind (fold_stack_begins n r2 (0 : Int) j) fun r4 =>
  tif ((!r4.1)) (
  some (([], ([], [])), (1 : Int))) (
  obind (fold_stack_put n r4.2 (0 : Int) was.1 was.2) fun r5 =>
  tif ((!(decide (r5.1 = (0 : Int))))) (
  some (([], ([], [])), r5.1)) (
  obind (fold_stack_up n r5.2 was.1 j) fun r6 =>
  some (r6.2, (0 : Int))))))))) (
  tif (((decide (was.1 = (0 : Int))) && ((decide (was.2.1 = (0 : Int))) && ((decide (was.2.2.1.1 = (0 : Int))) && ((decide (was.2.2.1.2.1 = (0 : Int))) && ((decide (was.2.2.1.2.2.1 = (0 : Int))) && ((was.2.2.1.2.2.2 == false) && ((decide (was.2.2.2.1.1 = (0 : Int))) && ((decide (was.2.2.2.1.2.1 = (0 : Int))) && ((decide (was.2.2.2.1.2.2.1 = (0 : Int))) && ((was.2.2.2.1.2.2.2 == false) && ((decide (was.2.2.2.2.1.1 = (0 : Int))) && ((decide (was.2.2.2.2.1.2 = (0 : Int))) && ((decide (was.2.2.2.2.2.1 = (0 : Int))) && ((decide (was.2.2.2.2.2.2.1 = (0 : Int))) && (decide (was.2.2.2.2.2.2.2 = (0 : Int)))))))))))))))))) (
  some (s, (0 : Int))) (
  tif ((decide (was.1 = j))) (
  some (s, (0 : Int))) (
  tif ((decide (j < was.1))) (
  some (([], ([], [])), (1 : Int))) (
  obind (fold_stack_begins n r2 (0 : Int) j) fun r7 =>
  tif ((!r7.1)) (
  some (([], ([], [])), (1 : Int))) (
  obind (fold_stack_put n r7.2 (0 : Int) was.1 was.2) fun r8 =>
  tif ((!(decide (r8.1 = (0 : Int))))) (
  some (([], ([], [])), r8.1)) (
  obind (fold_stack_up n r8.2 was.1 j) fun r9 =>
  some (r9.2, (0 : Int))))))))) := by kernel_rfl
theorem raw_Put_eq (n : Nat) (r : (Int × (Int × (List TEvent)))) (room : Int) (e : TEvent) : raw_Put (n + 1) r room e =
  obind (raw_Check n r room) fun r0 =>
  tif ((!(decide (r0 = (0 : Int))))) (
  some (((0 : Int), ((0 : Int), [])), (2 : Int))) (
  obind (event_Check n e) fun r1 =>
  tif ((!(decide (r1 = (0 : Int))))) (
  some (((0 : Int), ((0 : Int), [])), (2 : Int))) (
  obind (raw_Last n r) fun r2 =>
  tif ((decide (r2.2 = (0 : Int)))) (
  obind (event_Follow n r2.1 e) fun r3 =>
  tif ((!r3)) (
  some (((0 : Int), ((0 : Int), [])), (9 : Int))) (
  tif ((decide ((((List.length r.2.2) : Nat) : Int) = room))) (
  tif ((decide (r.1 = (70368744177664 : Int)))) (
  some (((0 : Int), ((0 : Int), [])), (1 : Int))) (
  obind (raw_open n r.2.2 room) fun r4 =>
  oelim (r4.1) (
  tif ((!(decide (r4.2 = (0 : Int))))) (
  some (((0 : Int), ((0 : Int), [])), r4.2)) (
  none)) fun r5 =>
  tif ((!(decide (r4.2 = (0 : Int))))) (
  some (((0 : Int), ((0 : Int), [])), r4.2)) (
  obind (ring_Ring_Event_Put n r5 e) fun r6 =>
  tif (r6.2.1) (
  obind (ring_Ring_Event_All n r6.2.2) fun r7 =>
  some (((IntKind.wrap .i64 (r.1 + (1 : Int))), (r6.1.1, r7.1)), (0 : Int))) (
  obind (ring_Ring_Event_All n r6.2.2) fun r8 =>
  some ((r.1, (r.2.1, r8.1)), (0 : Int)))))) (
  obind (raw_open n r.2.2 room) fun r9 =>
  oelim (r9.1) (
  tif ((!(decide (r9.2 = (0 : Int))))) (
  some (((0 : Int), ((0 : Int), [])), r9.2)) (
  none)) fun r10 =>
  tif ((!(decide (r9.2 = (0 : Int))))) (
  some (((0 : Int), ((0 : Int), [])), r9.2)) (
  obind (ring_Ring_Event_Put n r10 e) fun r11 =>
  tif (r11.2.1) (
  obind (ring_Ring_Event_All n r11.2.2) fun r12 =>
  some (((IntKind.wrap .i64 (r.1 + (1 : Int))), (r11.1.1, r12.1)), (0 : Int))) (
  obind (ring_Ring_Event_All n r11.2.2) fun r13 =>
  some ((r.1, (r.2.1, r13.1)), (0 : Int))))))) (
  tif ((decide ((((List.length r.2.2) : Nat) : Int) = room))) (
  tif ((decide (r.1 = (70368744177664 : Int)))) (
  some (((0 : Int), ((0 : Int), [])), (1 : Int))) (
  obind (raw_open n r.2.2 room) fun r14 =>
  oelim (r14.1) (
  tif ((!(decide (r14.2 = (0 : Int))))) (
  some (((0 : Int), ((0 : Int), [])), r14.2)) (
  none)) fun r15 =>
  tif ((!(decide (r14.2 = (0 : Int))))) (
  some (((0 : Int), ((0 : Int), [])), r14.2)) (
  obind (ring_Ring_Event_Put n r15 e) fun r16 =>
  tif (r16.2.1) (
  obind (ring_Ring_Event_All n r16.2.2) fun r17 =>
  some (((IntKind.wrap .i64 (r.1 + (1 : Int))), (r16.1.1, r17.1)), (0 : Int))) (
  obind (ring_Ring_Event_All n r16.2.2) fun r18 =>
  some ((r.1, (r.2.1, r18.1)), (0 : Int)))))) (
  obind (raw_open n r.2.2 room) fun r19 =>
  oelim (r19.1) (
  tif ((!(decide (r19.2 = (0 : Int))))) (
  some (((0 : Int), ((0 : Int), [])), r19.2)) (
  none)) fun r20 =>
  tif ((!(decide (r19.2 = (0 : Int))))) (
  some (((0 : Int), ((0 : Int), [])), r19.2)) (
  obind (ring_Ring_Event_Put n r20 e) fun r21 =>
  tif (r21.2.1) (
  obind (ring_Ring_Event_All n r21.2.2) fun r22 =>
  some (((IntKind.wrap .i64 (r.1 + (1 : Int))), (r21.1.1, r22.1)), (0 : Int))) (
  obind (ring_Ring_Event_All n r21.2.2) fun r23 =>
  some ((r.1, (r.2.1, r23.1)), (0 : Int)))))))) := by kernel_rfl
theorem cell_Add_eq (n : Nat) (c : TCell) (e : TEvent) : cell_Add (n + 1) c e =
  obind (event_Check n e) fun r0 =>
  tif ((!(decide (r0 = (0 : Int))))) (
  some (((0 : Int), (((0 : Int), ((0 : Int), ((0 : Int), false))), (((0 : Int), ((0 : Int), ((0 : Int), false))), (((0 : Int), (0 : Int)), ((0 : Int), ((0 : Int), (0 : Int))))))), r0)) (
  obind (cell_one n e) fun r1 =>
  obind (cell_Merge n c r1) fun r2 =>
  some r2) := by kernel_rfl
theorem tier_Fold_eq (n : Nat) (l : (List TSlot)) (i : Int) (k : Int) : tier_Fold (n + 1) l i k =
  tif ((decide (i < (0 : Int)))) (
  some (((0 : Int), (((0 : Int), ((0 : Int), ((0 : Int), false))), (((0 : Int), ((0 : Int), ((0 : Int), false))), (((0 : Int), (0 : Int)), ((0 : Int), ((0 : Int), (0 : Int))))))), (1 : Int))) (
  tif ((decide (k < i))) (
  some (((0 : Int), (((0 : Int), ((0 : Int), ((0 : Int), false))), (((0 : Int), ((0 : Int), ((0 : Int), false))), (((0 : Int), (0 : Int)), ((0 : Int), ((0 : Int), (0 : Int))))))), (1 : Int))) (
  obind (tier_All n l) fun r0 =>
  obind (tier_Fold_l5 n loopFuel (i, (k, (((0 : Int), (((0 : Int), ((0 : Int), ((0 : Int), false))), (((0 : Int), ((0 : Int), ((0 : Int), false))), (((0 : Int), (0 : Int)), ((0 : Int), ((0 : Int), (0 : Int))))))), ([], (r0, ((((List.length r0) : Nat) : Int), ((0 : Int), ())))))))) fun r1 =>
  selim (fun y2 =>
  obind (cell_All n y2.2.1) fun r3 =>
  some r3) (fun z4 =>
  some z4) r1)) := by kernel_rfl
theorem tier_Fold_l5_eq (n f : Nat) (i : Int) (k : Int) (s6 : TCell) (cells : (List TCell)) (s20 : (List TSlot)) (s21 : Int) (s22 : Int) : tier_Fold_l5 n (f + 1) (i, k, s6, cells, s20, s21, s22, ()) =
  tif ((decide (s22 < s21))) (
  obind (at? s20 s22) fun r0 =>
  tif ((decide (i ≤ r0.1))) (
  tif ((decide (r0.1 < k))) (
  tif ((decide ((((List.length cells) + 1) * 112) ≤ 140737488355328))) (
  tier_Fold_l5 n f (i, (k, (s6, ((cells ++ (r0.2 :: [])), (s20, (s21, ((IntKind.wrap .i64 (s22 + (1 : Int))), ())))))))) (
  none)) (
  tier_Fold_l5 n f (i, (k, (s6, (cells, (s20, (s21, ((IntKind.wrap .i64 (s22 + (1 : Int))), ()))))))))) (
  tier_Fold_l5 n f (i, (k, (s6, (cells, (s20, (s21, ((IntKind.wrap .i64 (s22 + (1 : Int))), ()))))))))) (
  some (.inl (s6, (cells, ())))) := by kernel_rfl
end Go.Proofs.YtapadkjknnfifaaGreat
