/-
  What each function comes to by one step of the flat reading. Printed by program; the kernel looks at each.
-/
import Derived.Test.YthjnbidgliejkaaGreatTr0
import Derived.KernelRfl
set_option linter.unusedVariables false
namespace Go.Proofs.YthjnbidgliejkaaGreat
open Go.Flat
theorem state_Mark_eq (n : Nat) (s : TState) : state_Mark (n + 1) s =
  obind (state_open n s) fun r0 =>
  tif ((!(decide (r0.2 = (0 : Int))))) (
  some (0 : Int)) (
  obind (state_time n s.2.1) fun r1 =>
  tif ((!r1)) (
  some (0 : Int)) (
  obind (state_view_mark n r0.1) fun r2 =>
  some r2)) := by kernel_rfl
theorem r17_Mark_eq (n : Nat) (s : TState) : r17_Mark (n + 1) s =
  obind (r17_whole n s) fun r0 =>
  tif ((!r0)) (
  some (0 : Int)) (
  obind (r17_time n s.2.1) fun r1 =>
  tif ((!r1)) (
  some (0 : Int)) (
  tif ((decide (s.1.2.1.1 = (0 : Int)))) (
  none) (
  some (IntKind.wrap .i64 ((IntKind.wrap .i64 (Int.tdiv s.2.1 s.1.2.1.1)) * s.1.2.1.1))))) := by kernel_rfl
theorem r17_Same_eq (n : Nat) (a : TState) (b : TState) : r17_Same (n + 1) a b =
  tif ((!((decide (a.1.1 = b.1.1)) && ((decide (a.1.2.1.1 = b.1.2.1.1)) && ((decide (a.1.2.1.2.1 = b.1.2.1.2.1)) && ((decide (a.1.2.1.2.2 = b.1.2.1.2.2)) && ((decide (a.1.2.2.1.1 = b.1.2.2.1.1)) && ((decide (a.1.2.2.1.2.1 = b.1.2.2.1.2.1)) && ((decide (a.1.2.2.1.2.2 = b.1.2.2.1.2.2)) && ((decide (a.1.2.2.2.1 = b.1.2.2.2.1)) && (decide (a.1.2.2.2.2 = b.1.2.2.2.2)))))))))))) (
  some false) (
  tif ((!(decide (a.2.1 = b.2.1)))) (
  some false) (
  tif ((!(decide (a.2.2.1 = b.2.2.1)))) (
  some false) (
  tif ((!(decide ((((List.length a.2.2.2) : Nat) : Int) = (((List.length b.2.2.2) : Nat) : Int))))) (
  some false) (
  obind (r17_Same_l4 n loopFuel (a, (b, ((((List.length a.2.2.2) : Nat) : Int), ((0 : Int), ()))))) fun r0 =>
  selim (fun y1 =>
  some true) (fun z2 =>
  some z2) r0)))) := by kernel_rfl
theorem r17_Same_l4_eq (n f : Nat) (a_ : TState) (b_ : TState) (s36 : Int) (s37 : Int) : r17_Same_l4 n (f + 1) (a_, b_, s36, s37, ()) =
  tif ((decide (s37 < s36))) (
  obind (at? a_.2.2.2 s37) fun r0 =>
  obind (at? b_.2.2.2 s37) fun r1 =>
  obind (r15_Same n r0 r1) fun r2 =>
  tif ((!r2)) (
  some (.inr false)) (
  r17_Same_l4 n f (a_, (b_, (s36, ((IntKind.wrap .i64 (s37 + (1 : Int))), ())))))) (
  some (.inl ())) := by kernel_rfl
theorem write_One_eq (n : Nat) (s : TState) (l : (List (List UInt8 × List UInt8))) (e : TEvent) : write_One (n + 1) s l e =
  obind (rules_Where n s l e) fun r0 =>
  tif ((!(decide (r0.2.2 = (0 : Int))))) (
  some ((((0 : Int), (((0 : Int), ((0 : Int), (0 : Int))), (((0 : Int), ((0 : Int), (0 : Int))), ((0 : Int), (0 : Int))))), ((0 : Int), ((0 : Int), []))), r0.2.2)) (
  obind (write_place n s r0.1 r0.2.1 l) fun r1 =>
  tif ((!(decide (r1.2 = (0 : Int))))) (
  some ((((0 : Int), (((0 : Int), ((0 : Int), (0 : Int))), (((0 : Int), ((0 : Int), (0 : Int))), ((0 : Int), (0 : Int))))), ((0 : Int), ((0 : Int), []))), r1.2)) (
  obind (series_Put n s.1 r1.1 e) fun r2 =>
  tif ((!(decide (r2.2 = (0 : Int))))) (
  some ((((0 : Int), (((0 : Int), ((0 : Int), (0 : Int))), (((0 : Int), ((0 : Int), (0 : Int))), ((0 : Int), (0 : Int))))), ((0 : Int), ((0 : Int), []))), r2.2)) (
  obind (slices_Clone_Series n s.2.2.2) fun r3 =>
  obind (at? r3 r0.1) fun r4 =>
  obind ((r3)[(Int.toNat r0.1)]?) fun r5 =>
  some ((s.1, (s.2.1, (s.2.2.1, (List.set r3 (Int.toNat r0.1) r2.1)))), (0 : Int))))) := by kernel_rfl
theorem write_All_eq (n : Nat) (s : TState) (l : (List (List UInt8 × List UInt8))) (es : (List TEvent)) : write_All (n + 1) s l es =
  obind (write_All_l2 n loopFuel (l, (es, (s, ((((0 : Int), (((0 : Int), ((0 : Int), (0 : Int))), (((0 : Int), ((0 : Int), (0 : Int))), ((0 : Int), (0 : Int))))), ((0 : Int), ((0 : Int), []))), (es, ((((List.length es) : Nat) : Int), ((0 : Int), ())))))))) fun r0 =>
  selim (fun y1 =>
  some (y1.2.1, ((((List.length y1.1) : Nat) : Int), (0 : Int)))) (fun z2 =>
  some z2) r0 := by kernel_rfl
theorem write_All_l2_eq (n f : Nat) (l : (List (List UInt8 × List UInt8))) (es : (List TEvent)) (s_ : TState) (s6 : TState) (s13 : (List TEvent)) (s14 : Int) (s15 : Int) : write_All_l2 n (f + 1) (l, es, s_, s6, s13, s14, s15, ()) =
  tif ((decide (s15 < s14))) (
  obind (at? s13 s15) fun r0 =>
  obind (write_One n s_ l r0) fun r1 =>
  tif ((!(decide (r1.2 = (0 : Int))))) (
  some (.inr (s_, (s15, r1.2)))) (
  write_All_l2 n f (l, (es, (r1.1, (s6, (s13, (s14, ((IntKind.wrap .i64 (s15 + (1 : Int))), ()))))))))) (
  some (.inl (es, (s_, (s6, ()))))) := by kernel_rfl
theorem r19_All_eq (n : Nat) (s : TState) (l : (List (List UInt8 × List UInt8))) (es : (List TEvent)) : r19_All (n + 1) s l es =
  obind (r19_All_l2 n loopFuel (l, (es, (s, ((((0 : Int), (((0 : Int), ((0 : Int), (0 : Int))), (((0 : Int), ((0 : Int), (0 : Int))), ((0 : Int), (0 : Int))))), ((0 : Int), ((0 : Int), []))), (es, ((((List.length es) : Nat) : Int), ((0 : Int), ())))))))) fun r0 =>
  selim (fun y1 =>
  some (y1.2.1, ((((List.length y1.1) : Nat) : Int), (0 : Int)))) (fun z2 =>
  some z2) r0 := by kernel_rfl
theorem r19_All_l2_eq (n f : Nat) (l : (List (List UInt8 × List UInt8))) (es : (List TEvent)) (s_ : TState) (s6 : TState) (s13 : (List TEvent)) (s14 : Int) (s15 : Int) : r19_All_l2 n (f + 1) (l, es, s_, s6, s13, s14, s15, ()) =
  tif ((decide (s15 < s14))) (
  obind (at? s13 s15) fun r0 =>
  obind (r19_One n s_ l r0) fun r1 =>
  tif ((!(decide (r1.2 = (0 : Int))))) (
  some (.inr (s_, (s15, r1.2)))) (
  r19_All_l2 n f (l, (es, (r1.1, (s6, (s13, (s14, ((IntKind.wrap .i64 (s15 + (1 : Int))), ()))))))))) (
  some (.inl (es, (s_, (s6, ()))))) := by kernel_rfl
theorem r19_One_eq (n : Nat) (s : TState) (l : (List (List UInt8 × List UInt8))) (e : TEvent) : r19_One (n + 1) s l e =
  obind (r18_Where n s l e) fun r0 =>
  tif ((!(decide (r0.2.2 = (0 : Int))))) (
  some ((((0 : Int), (((0 : Int), ((0 : Int), (0 : Int))), (((0 : Int), ((0 : Int), (0 : Int))), ((0 : Int), (0 : Int))))), ((0 : Int), ((0 : Int), []))), r0.2.2)) (
  obind (at? s.2.2.2 r0.1) fun r1 =>
  tif (r0.2.1) (
  obind (r15_New n s.1 l) fun r2 =>
  obind (r15_Put n s.1 r2.1 e) fun r3 =>
  tif ((!(decide (r3.2 = (0 : Int))))) (
  some ((((0 : Int), (((0 : Int), ((0 : Int), (0 : Int))), (((0 : Int), ((0 : Int), (0 : Int))), ((0 : Int), (0 : Int))))), ((0 : Int), ((0 : Int), []))), r3.2)) (
  tif ((decide (((0 + (List.length s.2.2.2)) * 264) ≤ 140737488355328))) (
  obind (at? ([] ++ s.2.2.2) r0.1) fun r4 =>
  obind ((([] ++ s.2.2.2))[(Int.toNat r0.1)]?) fun r5 =>
  some ((s.1, (s.2.1, (s.2.2.1, (List.set ([] ++ s.2.2.2) (Int.toNat r0.1) r3.1)))), (0 : Int))) (
  none))) (
  obind (r15_Put n s.1 r1 e) fun r6 =>
  tif ((!(decide (r6.2 = (0 : Int))))) (
  some ((((0 : Int), (((0 : Int), ((0 : Int), (0 : Int))), (((0 : Int), ((0 : Int), (0 : Int))), ((0 : Int), (0 : Int))))), ((0 : Int), ((0 : Int), []))), r6.2)) (
  tif ((decide (((0 + (List.length s.2.2.2)) * 264) ≤ 140737488355328))) (
  obind (at? ([] ++ s.2.2.2) r0.1) fun r7 =>
  obind ((([] ++ s.2.2.2))[(Int.toNat r0.1)]?) fun r8 =>
  some ((s.1, (s.2.1, (s.2.2.1, (List.set ([] ++ s.2.2.2) (Int.toNat r0.1) r6.1)))), (0 : Int))) (
  none)))) := by kernel_rfl
theorem l15_Small_eq (n : Nat) (s : TSeries) : l15_Small (n + 1) s =
  obind (l05_Small n s.1) fun r0 =>
  tif ((decide (r0 = (0 : Int)))) (
  some (0 : Int)) (
  tif ((decide ((60 : Int) < (((List.length s.2.2.1.2.2) : Nat) : Int)))) (
  some (0 : Int)) (
  obind (l14_Small n s.2.2.2.1) fun r1 =>
  some r1)) := by kernel_rfl
theorem l10_Fit_eq (n : Nat)  : l10_Fit (n + 1)  =
  some ((20 : Int), (((10 : Int), ((20 : Int), (60 : Int))), (((4 : Int), ((5 : Int), (6 : Int))), ((3 : Int), (9 : Int))))) := by kernel_rfl
theorem series_New_eq (n : Nat) (c : TConfig) (l : (List (List UInt8 × List UInt8))) : series_New (n + 1) c l =
  obind (conf_Check n c) fun r0 =>
  tif ((!(decide (r0 = (0 : Int))))) (
  some (([], ((0 : Int), (((0 : Int), ((0 : Int), [])), (([], ([], [])), ((0 : Int), ((0 : Int), (((0 : Int), ((0 : Int), ((0 : Int), false))), (((0 : Int), ((0 : Int), ((0 : Int), false))), (((0 : Int), (0 : Int)), ((0 : Int), ((0 : Int), (0 : Int)))))))))))), r0)) (
  obind (label_Check n l) fun r1 =>
  tif ((!(decide (r1 = (0 : Int))))) (
  some (([], ((0 : Int), (((0 : Int), ((0 : Int), [])), (([], ([], [])), ((0 : Int), ((0 : Int), (((0 : Int), ((0 : Int), ((0 : Int), false))), (((0 : Int), ((0 : Int), ((0 : Int), false))), (((0 : Int), (0 : Int)), ((0 : Int), ((0 : Int), (0 : Int)))))))))))), r1)) (
  obind (slices_Clone_Label n l) fun r2 =>
  obind (fold_Empty n c) fun r3 =>
  some ((r2, (((-1) : Int), (((0 : Int), ((0 : Int), [])), (r3, ((0 : Int), ((0 : Int), (((0 : Int), ((0 : Int), ((0 : Int), false))), (((0 : Int), ((0 : Int), ((0 : Int), false))), (((0 : Int), (0 : Int)), ((0 : Int), ((0 : Int), (0 : Int)))))))))))), (0 : Int)))) := by kernel_rfl
theorem series_Put_eq (n : Nat) (c : TConfig) (s : TSeries) (e : TEvent) : series_Put (n + 1) c s e =
  obind (series_open n c s) fun r0 =>
  oelim (r0.1) (
  tif ((!(decide (r0.2 = (0 : Int))))) (
  some (([], ((0 : Int), (((0 : Int), ((0 : Int), [])), (([], ([], [])), ((0 : Int), ((0 : Int), (((0 : Int), ((0 : Int), ((0 : Int), false))), (((0 : Int), ((0 : Int), ((0 : Int), false))), (((0 : Int), (0 : Int)), ((0 : Int), ((0 : Int), (0 : Int)))))))))))), (2 : Int))) (
  obind (event_Check n e) fun r1 =>
  tif ((!(decide (r1 = (0 : Int))))) (
  some (([], ((0 : Int), (((0 : Int), ((0 : Int), [])), (([], ([], [])), ((0 : Int), ((0 : Int), (((0 : Int), ((0 : Int), ((0 : Int), false))), (((0 : Int), ((0 : Int), ((0 : Int), false))), (((0 : Int), (0 : Int)), ((0 : Int), ((0 : Int), (0 : Int)))))))))))), (2 : Int))) (
  tif ((decide (e.1 ≤ s.2.1))) (
  some (([], ((0 : Int), (((0 : Int), ((0 : Int), [])), (([], ([], [])), ((0 : Int), ((0 : Int), (((0 : Int), ((0 : Int), ((0 : Int), false))), (((0 : Int), ((0 : Int), ((0 : Int), false))), (((0 : Int), (0 : Int)), ((0 : Int), ((0 : Int), (0 : Int)))))))))))), (9 : Int))) (
  tif ((decide (c.2.1.1 = (0 : Int)))) (
  none) (
  none))))) fun r2 =>
  tif ((!(decide (r0.2 = (0 : Int))))) (
  some (([], ((0 : Int), (((0 : Int), ((0 : Int), [])), (([], ([], [])), ((0 : Int), ((0 : Int), (((0 : Int), ((0 : Int), ((0 : Int), false))), (((0 : Int), ((0 : Int), ((0 : Int), false))), (((0 : Int), (0 : Int)), ((0 : Int), ((0 : Int), (0 : Int)))))))))))), (2 : Int))) (
  obind (event_Check n e) fun r3 =>
  tif ((!(decide (r3 = (0 : Int))))) (
  some (([], ((0 : Int), (((0 : Int), ((0 : Int), [])), (([], ([], [])), ((0 : Int), ((0 : Int), (((0 : Int), ((0 : Int), ((0 : Int), false))), (((0 : Int), ((0 : Int), ((0 : Int), false))), (((0 : Int), (0 : Int)), ((0 : Int), ((0 : Int), (0 : Int)))))))))))), (2 : Int))) (
  tif ((decide (e.1 ≤ s.2.1))) (
  some (([], ((0 : Int), (((0 : Int), ((0 : Int), [])), (([], ([], [])), ((0 : Int), ((0 : Int), (((0 : Int), ((0 : Int), ((0 : Int), false))), (((0 : Int), ((0 : Int), ((0 : Int), false))), (((0 : Int), (0 : Int)), ((0 : Int), ((0 : Int), (0 : Int)))))))))))), (9 : Int))) (
  tif ((decide (c.2.1.1 = (0 : Int)))) (
  none) (
  obind (series_kept_turn n r2 (IntKind.wrap .i64 (Int.tdiv e.1 c.2.1.1))) fun r4 =>
  tif ((!(decide (r4.1 = (0 : Int))))) (
  some (([], ((0 : Int), (((0 : Int), ((0 : Int), [])), (([], ([], [])), ((0 : Int), ((0 : Int), (((0 : Int), ((0 : Int), ((0 : Int), false))), (((0 : Int), ((0 : Int), ((0 : Int), false))), (((0 : Int), (0 : Int)), ((0 : Int), ((0 : Int), (0 : Int)))))))))))), r4.1)) (
  obind (series_kept_add n r4.2 (IntKind.wrap .i64 (Int.tdiv e.1 c.2.1.1)) e) fun r5 =>
  tif ((!(decide (r5.1 = (0 : Int))))) (
  some (([], ((0 : Int), (((0 : Int), ((0 : Int), [])), (([], ([], [])), ((0 : Int), ((0 : Int), (((0 : Int), ((0 : Int), ((0 : Int), false))), (((0 : Int), ((0 : Int), ((0 : Int), false))), (((0 : Int), (0 : Int)), ((0 : Int), ((0 : Int), (0 : Int)))))))))))), r5.1)) (
  some (r5.2.2, (0 : Int)))))))) := by kernel_rfl
theorem state_open_eq (n : Nat) (s : TState) : state_open (n + 1) s =
  obind (conf_Check n s.1) fun r0 =>
  tif ((!(decide (r0 = (0 : Int))))) (
  some ((((0 : Int), (((0 : Int), ((0 : Int), (0 : Int))), (((0 : Int), ((0 : Int), (0 : Int))), ((0 : Int), (0 : Int))))), ((0 : Int), ((0 : Int), []))), (2 : Int))) (
  tif ((!(decide ((((List.length s.2.2.2) : Nat) : Int) = s.1.2.2.2.1)))) (
  some ((((0 : Int), (((0 : Int), ((0 : Int), (0 : Int))), (((0 : Int), ((0 : Int), (0 : Int))), ((0 : Int), (0 : Int))))), ((0 : Int), ((0 : Int), []))), (2 : Int))) (
  some (s, (0 : Int)))) := by kernel_rfl
theorem state_view_place_eq (n : Nat) (v : TState) (is : ((Int × Unit) → Option Bool)) : state_view_place (n + 1) v is =
  obind (state_view_place_l2 n loopFuel (is, ((((List.length v.2.2.2) : Nat) : Int), ((0 : Int), ())))) fun r0 =>
  selim (fun y1 =>
  some ((-1) : Int)) (fun z2 =>
  some z2) r0 := by kernel_rfl
theorem state_view_place_l2_eq (n f : Nat) (is : ((Int × Unit) → Option Bool)) (s9 : Int) (s10 : Int) : state_view_place_l2 n (f + 1) (is, s9, s10, ()) =
  tif ((decide (s10 < s9))) (
  obind (is (s10, ())) fun r0 =>
  tif (r0) (
  some (.inr s10)) (
  state_view_place_l2 n f (is, (s9, ((IntKind.wrap .i64 (s10 + (1 : Int))), ()))))) (
  some (.inl ())) := by kernel_rfl
theorem state_Find_1_eq (n : Nat) (i : Int) (p1 : TState) (p2 : (List (List UInt8 × List UInt8))) (p3 : TState) : state_Find_1 (n + 1) i p1 p2 p3 =
  obind (at? p1.2.2.2 i) fun r0 =>
  obind (label_Same n r0.1 p2) fun r1 =>
  tif (r1) (
  obind (state_view_lives n p3 i) fun r2 =>
  some r2) (
  some false) := by kernel_rfl
theorem label_Same_eq (n : Nat) (a : (List (List UInt8 × List UInt8))) (b : (List (List UInt8 × List UInt8))) : label_Same (n + 1) a b =
  obind (slices_Equal_Label n a b) fun r0 =>
  some r0 := by kernel_rfl
theorem state_view_lives_eq (n : Nat) (v : TState) (i : Int) : state_view_lives (n + 1) v i =
  obind (at? v.2.2.2 i) fun r0 =>
  obind (state_empty n r0) fun r1 =>
  tif ((!r1)) (
  tif ((decide (v.2.2.1 = ((-1) : Int)))) (
  some true) (
  obind (series_Dead n v.1 r0.2.1 v.2.2.1) fun r2 =>
  some (!r2))) (
  some false) := by kernel_rfl
theorem r17_whole_eq (n : Nat) (s : TState) : r17_whole (n + 1) s =
  obind (r10_Check n s.1) fun r0 =>
  tif ((decide (r0 = (0 : Int)))) (
  some (decide ((((List.length s.2.2.2) : Nat) : Int) = s.1.2.2.2.1))) (
  some false) := by kernel_rfl
theorem r17_lives_eq (n : Nat) (s : TState) (i : Int) : r17_lives (n + 1) s i =
  obind (at? s.2.2.2 i) fun r0 =>
  obind (r17_Empty n r0) fun r1 =>
  tif ((!r1)) (
  tif ((decide (s.2.2.1 = ((-1) : Int)))) (
  some true) (
  obind (at? s.2.2.2 i) fun r2 =>
  obind (r15_Dead n s.1 r2.2.1 s.2.2.1) fun r3 =>
  some (!r3))) (
  some false) := by kernel_rfl
theorem r05_Same_eq (n : Nat) (a : (List (List UInt8 × List UInt8))) (b : (List (List UInt8 × List UInt8))) : r05_Same (n + 1) a b =
  tif ((!(decide ((((List.length a) : Nat) : Int) = (((List.length b) : Nat) : Int))))) (
  some false) (
  obind (r05_Same_l4 n loopFuel (a, (b, ((((List.length a) : Nat) : Int), ((0 : Int), ()))))) fun r0 =>
  selim (fun y1 =>
  some true) (fun z2 =>
  some z2) r0) := by kernel_rfl
theorem r05_Same_l4_eq (n f : Nat) (a : (List (List UInt8 × List UInt8))) (b : (List (List UInt8 × List UInt8))) (s12 : Int) (s13 : Int) : r05_Same_l4 n (f + 1) (a, b, s12, s13, ()) =
  tif ((decide (s13 < s12))) (
  obind (at? a s13) fun r0 =>
  obind (at? b s13) fun r1 =>
  tif ((!((r0.1 == r1.1) && (r0.2 == r1.2)))) (
  some (.inr false)) (
  r05_Same_l4 n f (a, (b, (s12, ((IntKind.wrap .i64 (s13 + (1 : Int))), ())))))) (
  some (.inl ())) := by kernel_rfl
theorem state_Room_1_eq (n : Nat) (i : Int) (p1 : TState) : state_Room_1 (n + 1) i p1 =
  obind (state_view_lives n p1 i) fun r0 =>
  some (!r0) := by kernel_rfl
theorem state_view_clock_eq (n : Nat) (v : TState) : state_view_clock (n + 1) v =
  obind (state_time n v.2.1) fun r0 =>
  tif (r0) (
  tif ((decide (v.2.2.1 = ((-1) : Int)))) (
  some (decide (v.2.2.1 ≤ v.2.1))) (
  obind (state_time n v.2.2.1) fun r1 =>
  tif (r1) (
  some (decide (v.2.2.1 ≤ v.2.1))) (
  some false))) (
  some false) := by kernel_rfl
theorem state_Check_1_eq (n : Nat) (i : Int) (p1 : TState) : state_Check_1 (n + 1) i p1 =
  obind (state_view_right n p1 i) fun r0 =>
  some (!r0) := by kernel_rfl
theorem state_view_right_eq (n : Nat) (v : TState) (i : Int) : state_view_right (n + 1) v i =
  obind (at? v.2.2.2 i) fun r0 =>
  obind (state_empty n r0) fun r1 =>
  tif (r1) (
  some true) (
  obind (series_Check n v.1 r0) fun r2 =>
  tif ((decide (r2 = (0 : Int)))) (
  tif ((decide ((0 : Int) ≤ r0.2.1))) (
  obind (state_view_mark n v) fun r3 =>
  tif ((decide (r0.2.1 < (IntKind.wrap .i64 (r3 + v.1.2.1.1))))) (
  obind (state_view_twin n v i) fun r4 =>
  some (!r4)) (
  some false)) (
  some false)) (
  some false)) := by kernel_rfl
theorem r17_time_eq (n : Nat) (t : Int) : r17_time (n + 1) t =
  tif ((decide ((0 : Int) ≤ t))) (
  some (decide (t < (35184372088832 : Int)))) (
  some false) := by kernel_rfl
theorem r17_Empty_eq (n : Nat) (s : TSeries) : r17_Empty (n + 1) s =
  obind (r15_Same n s ([], ((0 : Int), (((0 : Int), ((0 : Int), [])), (([], ([], [])), ((0 : Int), ((0 : Int), (((0 : Int), ((0 : Int), ((0 : Int), false))), (((0 : Int), ((0 : Int), ((0 : Int), false))), (((0 : Int), (0 : Int)), ((0 : Int), ((0 : Int), (0 : Int))))))))))))) fun r0 =>
  some r0 := by kernel_rfl
theorem r15_Check_eq (n : Nat) (c : TConfig) (s : TSeries) : r15_Check (n + 1) c s =
  obind (r10_Check n c) fun r0 =>
  tif ((!(decide (r0 = (0 : Int))))) (
  some (2 : Int)) (
  obind (r05_Check n s.1) fun r1 =>
  tif ((!(decide (r1 = (0 : Int))))) (
  some (2 : Int)) (
  obind (r12_Check n s.2.2.1 c.1) fun r2 =>
  tif ((!(decide (r2 = (0 : Int))))) (
  some (2 : Int)) (
  obind (r14_Check n c s.2.2.2.1) fun r3 =>
  tif ((!(decide (r3 = (0 : Int))))) (
  some (2 : Int)) (
  tif ((decide (s.2.1 = ((-1) : Int)))) (
  tif ((decide ((0 : Int) < (((List.length s.2.2.1.2.2) : Nat) : Int)))) (
  some (2 : Int)) (
  tif ((!((decide (s.2.2.2.2.1 = (0 : Int))) && ((decide (s.2.2.2.2.2.1 = (0 : Int))) && ((decide (s.2.2.2.2.2.2.1.1 = (0 : Int))) && ((decide (s.2.2.2.2.2.2.1.2.1 = (0 : Int))) && ((decide (s.2.2.2.2.2.2.1.2.2.1 = (0 : Int))) && ((s.2.2.2.2.2.2.1.2.2.2 == false) && ((decide (s.2.2.2.2.2.2.2.1.1 = (0 : Int))) && ((decide (s.2.2.2.2.2.2.2.1.2.1 = (0 : Int))) && ((decide (s.2.2.2.2.2.2.2.1.2.2.1 = (0 : Int))) && ((s.2.2.2.2.2.2.2.1.2.2.2 == false) && ((decide (s.2.2.2.2.2.2.2.2.1.1 = (0 : Int))) && ((decide (s.2.2.2.2.2.2.2.2.1.2 = (0 : Int))) && ((decide (s.2.2.2.2.2.2.2.2.2.1 = (0 : Int))) && ((decide (s.2.2.2.2.2.2.2.2.2.2.1 = (0 : Int))) && (decide (s.2.2.2.2.2.2.2.2.2.2.2 = (0 : Int))))))))))))))))))) (
  some (2 : Int)) (
  obind (r15_Check_l7 n loopFuel (s, ((0 : Int), ()))) fun r4 =>
  selim (fun y5 =>
  some (0 : Int)) (fun z6 =>
  some z6) r4))) (
  obind (r12_Last n s.2.2.1) fun r7 =>
  tif ((!(decide (r7.2 = (0 : Int))))) (
  some (2 : Int)) (
  tif ((!(decide (r7.1.1 = s.2.1)))) (
  some (2 : Int)) (
  obind (r13_Fits n s.2.2.2.2.2 c.2.1.1 s.2.2.2.2.1) fun r8 =>
  tif ((!r8)) (
  some (2 : Int)) (
  tif ((!(decide (s.2.2.2.2.2.2.2.1.1 = s.2.1)))) (
  some (2 : Int)) (
  obind (r15_Check_l16 n loopFuel (c, (s, ((0 : Int), ())))) fun r9 =>
  selim (fun y10 =>
  some (0 : Int)) (fun z11 =>
  some z11) r9))))))))) := by kernel_rfl
theorem r15_Check_l7_eq (n f : Nat) (s_ : TSeries) (k : Int) : r15_Check_l7 n (f + 1) (s_, k, ()) =
  tif ((decide (k < (3 : Int)))) (
  tif ((decide (k = (0 : Int)))) (
  obind (r13_All n s_.2.2.2.1.1) fun r0 =>
  tif ((decide ((0 : Int) < (((List.length r0) : Nat) : Int)))) (
  some (.inr (2 : Int))) (
  r15_Check_l7 n f (s_, ((IntKind.wrap .i64 (k + (1 : Int))), ())))) (
  tif ((decide (k = (1 : Int)))) (
  obind (r13_All n s_.2.2.2.1.2.1) fun r1 =>
  tif ((decide ((0 : Int) < (((List.length r1) : Nat) : Int)))) (
  some (.inr (2 : Int))) (
  r15_Check_l7 n f (s_, ((IntKind.wrap .i64 (k + (1 : Int))), ())))) (
  tif ((decide (k = (2 : Int)))) (
  obind (r13_All n s_.2.2.2.1.2.2) fun r2 =>
  tif ((decide ((0 : Int) < (((List.length r2) : Nat) : Int)))) (
  some (.inr (2 : Int))) (
  r15_Check_l7 n f (s_, ((IntKind.wrap .i64 (k + (1 : Int))), ())))) (
  none)))) (
  some (.inl ())) := by kernel_rfl
theorem r15_Check_l16_eq (n f : Nat) (c_ : TConfig) (s_ : TSeries) (k_ : Int) : r15_Check_l16 n (f + 1) (c_, s_, k_, ()) =
  tif ((decide (k_ < (3 : Int)))) (
  tif ((decide (k_ = (0 : Int)))) (
  obind (r13_All n s_.2.2.2.1.1) fun r0 =>
  obind (r15_Check_l19 n loopFuel (c_, (s_, (k_, (r0, ((((List.length r0) : Nat) : Int), ((0 : Int), ()))))))) fun r1 =>
  selim (fun y2 =>
  r15_Check_l16 n f (y2.1, (y2.2.1, ((IntKind.wrap .i64 (y2.2.2.1 + (1 : Int))), ())))) (fun z3 =>
  some (.inr z3)) r1) (
  tif ((decide (k_ = (1 : Int)))) (
  obind (r13_All n s_.2.2.2.1.2.1) fun r4 =>
  obind (r15_Check_l19 n loopFuel (c_, (s_, (k_, (r4, ((((List.length r4) : Nat) : Int), ((0 : Int), ()))))))) fun r5 =>
  selim (fun y6 =>
  r15_Check_l16 n f (y6.1, (y6.2.1, ((IntKind.wrap .i64 (y6.2.2.1 + (1 : Int))), ())))) (fun z7 =>
  some (.inr z7)) r5) (
  tif ((decide (k_ = (2 : Int)))) (
  obind (r13_All n s_.2.2.2.1.2.2) fun r8 =>
  obind (r15_Check_l19 n loopFuel (c_, (s_, (k_, (r8, ((((List.length r8) : Nat) : Int), ((0 : Int), ()))))))) fun r9 =>
  selim (fun y10 =>
  r15_Check_l16 n f (y10.1, (y10.2.1, ((IntKind.wrap .i64 (y10.2.2.1 + (1 : Int))), ())))) (fun z11 =>
  some (.inr z11)) r9) (
  none)))) (
  some (.inl ())) := by kernel_rfl
theorem r15_Check_l19_eq (n f : Nat) (c_ : TConfig) (s_ : TSeries) (k_ : Int) (s106 : (List TSlot)) (s107 : Int) (s108 : Int) : r15_Check_l19 n (f + 1) (c_, s_, k_, s106, s107, s108, ()) =
  tif ((decide (s108 < s107))) (
  obind (at? s106 s108) fun r0 =>
  tif ((decide (k_ = (0 : Int)))) (
  tif ((decide (c_.2.1.1 = (0 : Int)))) (
  none) (
  tif ((decide ((IntKind.wrap .i64 (Int.tdiv s_.2.1 c_.2.1.1)) ≤ r0.1))) (
  some (.inr (2 : Int))) (
  r15_Check_l19 n f (c_, (s_, (k_, (s106, (s107, ((IntKind.wrap .i64 (s108 + (1 : Int))), ()))))))))) (
  tif ((decide (k_ = (1 : Int)))) (
  tif ((decide (c_.2.1.2.1 = (0 : Int)))) (
  none) (
  tif ((decide ((IntKind.wrap .i64 (Int.tdiv s_.2.1 c_.2.1.2.1)) ≤ r0.1))) (
  some (.inr (2 : Int))) (
  r15_Check_l19 n f (c_, (s_, (k_, (s106, (s107, ((IntKind.wrap .i64 (s108 + (1 : Int))), ()))))))))) (
  tif ((decide (k_ = (2 : Int)))) (
  tif ((decide (c_.2.1.2.2 = (0 : Int)))) (
  none) (
  tif ((decide ((IntKind.wrap .i64 (Int.tdiv s_.2.1 c_.2.1.2.2)) ≤ r0.1))) (
  some (.inr (2 : Int))) (
  r15_Check_l19 n f (c_, (s_, (k_, (s106, (s107, ((IntKind.wrap .i64 (s108 + (1 : Int))), ()))))))))) (
  none)))) (
  some (.inl (c_, (s_, (k_, ()))))) := by kernel_rfl
theorem state_time_eq (n : Nat) (t : Int) : state_time (n + 1) t =
  tif ((decide ((0 : Int) ≤ t))) (
  some (decide (t < (35184372088832 : Int)))) (
  some false) := by kernel_rfl
theorem state_view_mark_eq (n : Nat) (v : TState) : state_view_mark (n + 1) v =
  tif ((decide (v.1.2.1.1 = (0 : Int)))) (
  none) (
  some (IntKind.wrap .i64 (v.2.1 - (Int.tmod v.2.1 v.1.2.1.1)))) := by kernel_rfl
theorem series_Same_eq (n : Nat) (a : TSeries) (b : TSeries) : series_Same (n + 1) a b =
  obind (label_Same n a.1 b.1) fun r0 =>
  tif (r0) (
  tif ((decide (a.2.1 = b.2.1))) (
  obind (raw_Same n a.2.2.1 b.2.2.1) fun r1 =>
  tif (r1) (
  tif (((decide (a.2.2.2.2.1 = b.2.2.2.2.1)) && ((decide (a.2.2.2.2.2.1 = b.2.2.2.2.2.1)) && ((decide (a.2.2.2.2.2.2.1.1 = b.2.2.2.2.2.2.1.1)) && ((decide (a.2.2.2.2.2.2.1.2.1 = b.2.2.2.2.2.2.1.2.1)) && ((decide (a.2.2.2.2.2.2.1.2.2.1 = b.2.2.2.2.2.2.1.2.2.1)) && ((a.2.2.2.2.2.2.1.2.2.2 == b.2.2.2.2.2.2.1.2.2.2) && ((decide (a.2.2.2.2.2.2.2.1.1 = b.2.2.2.2.2.2.2.1.1)) && ((decide (a.2.2.2.2.2.2.2.1.2.1 = b.2.2.2.2.2.2.2.1.2.1)) && ((decide (a.2.2.2.2.2.2.2.1.2.2.1 = b.2.2.2.2.2.2.2.1.2.2.1)) && ((a.2.2.2.2.2.2.2.1.2.2.2 == b.2.2.2.2.2.2.2.1.2.2.2) && ((decide (a.2.2.2.2.2.2.2.2.1.1 = b.2.2.2.2.2.2.2.2.1.1)) && ((decide (a.2.2.2.2.2.2.2.2.1.2 = b.2.2.2.2.2.2.2.2.1.2)) && ((decide (a.2.2.2.2.2.2.2.2.2.1 = b.2.2.2.2.2.2.2.2.2.1)) && ((decide (a.2.2.2.2.2.2.2.2.2.2.1 = b.2.2.2.2.2.2.2.2.2.2.1)) && (decide (a.2.2.2.2.2.2.2.2.2.2.2 = b.2.2.2.2.2.2.2.2.2.2.2))))))))))))))))) (
  obind (slices_Equal_Slot n a.2.2.2.1.1 b.2.2.2.1.1) fun r2 =>
  tif (r2) (
  obind (slices_Equal_Slot n a.2.2.2.1.2.1 b.2.2.2.1.2.1) fun r3 =>
  tif (r3) (
  obind (slices_Equal_Slot n a.2.2.2.1.2.2 b.2.2.2.1.2.2) fun r4 =>
  some r4) (
  some false)) (
  some false)) (
  some false)) (
  some false)) (
  some false)) (
  some false) := by kernel_rfl
theorem r15_Same_eq (n : Nat) (a : TSeries) (b : TSeries) : r15_Same (n + 1) a b =
  obind (r05_Same n a.1 b.1) fun r0 =>
  tif (r0) (
  tif ((decide (a.2.1 = b.2.1))) (
  obind (r12_Same n a.2.2.1 b.2.2.1) fun r1 =>
  tif (r1) (
  obind (r14_Same n a.2.2.2.1 b.2.2.2.1) fun r2 =>
  tif (r2) (
  some ((decide (a.2.2.2.2.1 = b.2.2.2.2.1)) && ((decide (a.2.2.2.2.2.1 = b.2.2.2.2.2.1)) && ((decide (a.2.2.2.2.2.2.1.1 = b.2.2.2.2.2.2.1.1)) && ((decide (a.2.2.2.2.2.2.1.2.1 = b.2.2.2.2.2.2.1.2.1)) && ((decide (a.2.2.2.2.2.2.1.2.2.1 = b.2.2.2.2.2.2.1.2.2.1)) && ((a.2.2.2.2.2.2.1.2.2.2 == b.2.2.2.2.2.2.1.2.2.2) && ((decide (a.2.2.2.2.2.2.2.1.1 = b.2.2.2.2.2.2.2.1.1)) && ((decide (a.2.2.2.2.2.2.2.1.2.1 = b.2.2.2.2.2.2.2.1.2.1)) && ((decide (a.2.2.2.2.2.2.2.1.2.2.1 = b.2.2.2.2.2.2.2.1.2.2.1)) && ((a.2.2.2.2.2.2.2.1.2.2.2 == b.2.2.2.2.2.2.2.1.2.2.2) && ((decide (a.2.2.2.2.2.2.2.2.1.1 = b.2.2.2.2.2.2.2.2.1.1)) && ((decide (a.2.2.2.2.2.2.2.2.1.2 = b.2.2.2.2.2.2.2.2.1.2)) && ((decide (a.2.2.2.2.2.2.2.2.2.1 = b.2.2.2.2.2.2.2.2.2.1)) && ((decide (a.2.2.2.2.2.2.2.2.2.2.1 = b.2.2.2.2.2.2.2.2.2.2.1)) && (decide (a.2.2.2.2.2.2.2.2.2.2.2 = b.2.2.2.2.2.2.2.2.2.2.2))))))))))))))))) (
  some false)) (
  some false)) (
  some false)) (
  some false) := by kernel_rfl
theorem rules_Where_eq (n : Nat) (s : TState) (l : (List (List UInt8 × List UInt8))) (e : TEvent) : rules_Where (n + 1) s l e =
  obind (state_Check n s) fun r0 =>
  tif ((!(decide (r0 = (0 : Int))))) (
  some ((0 : Int), (false, r0))) (
  obind (label_Check n l) fun r1 =>
  tif ((!(decide (r1 = (0 : Int))))) (
  some ((0 : Int), (false, r1))) (
  obind (event_Check n e) fun r2 =>
  tif ((!(decide (r2 = (0 : Int))))) (
  some ((0 : Int), (false, r2))) (
  obind (rules_Open n s) fun r3 =>
  obind (state_Find n s l) fun r4 =>
  tif ((decide (e.1 < r3.1))) (
  some ((0 : Int), (false, (9 : Int)))) (
  tif ((decide (r3.2 ≤ e.1))) (
  some ((0 : Int), (false, (9 : Int)))) (
  tif ((decide (r4.2 = (0 : Int)))) (
  obind (at? s.2.2.2 r4.1) fun r5 =>
  tif ((decide (e.1 ≤ r5.2.1))) (
  some ((0 : Int), (false, (9 : Int)))) (
  tif ((decide (r4.2 = (0 : Int)))) (
  some (r4.1, (false, (0 : Int)))) (
  tif (e.2.2.2) (
  some ((0 : Int), (false, (3 : Int)))) (
  obind (state_Room n s) fun r6 =>
  some (r6.1, ((decide (r6.2 = (0 : Int))), r6.2)))))) (
  tif ((decide (r4.2 = (0 : Int)))) (
  some (r4.1, (false, (0 : Int)))) (
  tif (e.2.2.2) (
  some ((0 : Int), (false, (3 : Int)))) (
  obind (state_Room n s) fun r7 =>
  some (r7.1, ((decide (r7.2 = (0 : Int))), r7.2)))))))))) := by kernel_rfl
theorem write_place_eq (n : Nat) (s : TState) (i : Int) (fresh : Bool) (l : (List (List UInt8 × List UInt8))) : write_place (n + 1) s i fresh l =
  tif (fresh) (
  obind (series_New n s.1 l) fun r0 =>
  some r0) (
  obind (at? s.2.2.2 i) fun r1 =>
  some (r1, (0 : Int))) := by kernel_rfl
theorem slices_Clone_Series_eq (n : Nat) (s : (List TSeries)) : slices_Clone_Series (n + 1) s =
  tif ((decide ((List.length s) = 0))) (
  both (
  some []) (
  tif ((decide (((0 + (List.length s)) * 264) ≤ 140737488355328))) (
  some ([] ++ s)) (
  none))) (
  tif ((decide (((0 + (List.length s)) * 264) ≤ 140737488355328))) (
  some ([] ++ s)) (
  none)) := by kernel_rfl
theorem r18_Where_eq (n : Nat) (s : TState) (l : (List (List UInt8 × List UInt8))) (e : TEvent) : r18_Where (n + 1) s l e =
  obind (r18_Accept n s l e) fun r0 =>
  tif ((!(decide (r0 = (0 : Int))))) (
  some ((0 : Int), (false, r0))) (
  obind (r17_Find n s l) fun r1 =>
  tif ((decide (r1.2 = (0 : Int)))) (
  some (r1.1, (false, (0 : Int)))) (
  obind (r17_Room n s) fun r2 =>
  some (r2.1, (true, (0 : Int))))) := by kernel_rfl
theorem r15_New_eq (n : Nat) (c : TConfig) (l : (List (List UInt8 × List UInt8))) : r15_New (n + 1) c l =
  obind (r10_Check n c) fun r0 =>
  tif ((!(decide (r0 = (0 : Int))))) (
  some (([], ((0 : Int), (((0 : Int), ((0 : Int), [])), (([], ([], [])), ((0 : Int), ((0 : Int), (((0 : Int), ((0 : Int), ((0 : Int), false))), (((0 : Int), ((0 : Int), ((0 : Int), false))), (((0 : Int), (0 : Int)), ((0 : Int), ((0 : Int), (0 : Int)))))))))))), (2 : Int))) (
  obind (r05_Check n l) fun r1 =>
  tif ((!(decide (r1 = (0 : Int))))) (
  some (([], ((0 : Int), (((0 : Int), ((0 : Int), [])), (([], ([], [])), ((0 : Int), ((0 : Int), (((0 : Int), ((0 : Int), ((0 : Int), false))), (((0 : Int), ((0 : Int), ((0 : Int), false))), (((0 : Int), (0 : Int)), ((0 : Int), ((0 : Int), (0 : Int)))))))))))), (8 : Int))) (
  tif ((decide (((0 + (List.length l)) * 32) ≤ 140737488355328))) (
  obind (r14_Empty n c) fun r2 =>
  some ((([] ++ l), (((-1) : Int), (((0 : Int), ((0 : Int), [])), (r2, ((0 : Int), ((0 : Int), (((0 : Int), ((0 : Int), ((0 : Int), false))), (((0 : Int), ((0 : Int), ((0 : Int), false))), (((0 : Int), (0 : Int)), ((0 : Int), ((0 : Int), (0 : Int)))))))))))), (0 : Int))) (
  none))) := by kernel_rfl
theorem r15_Put_eq (n : Nat) (c : TConfig) (s : TSeries) (e : TEvent) : r15_Put (n + 1) c s e =
  obind (r15_Check n c s) fun r0 =>
  tif ((!(decide (r0 = (0 : Int))))) (
  some (([], ((0 : Int), (((0 : Int), ((0 : Int), [])), (([], ([], [])), ((0 : Int), ((0 : Int), (((0 : Int), ((0 : Int), ((0 : Int), false))), (((0 : Int), ((0 : Int), ((0 : Int), false))), (((0 : Int), (0 : Int)), ((0 : Int), ((0 : Int), (0 : Int)))))))))))), (2 : Int))) (
  obind (r07_Check n e) fun r1 =>
  tif ((!(decide (r1 = (0 : Int))))) (
  some (([], ((0 : Int), (((0 : Int), ((0 : Int), [])), (([], ([], [])), ((0 : Int), ((0 : Int), (((0 : Int), ((0 : Int), ((0 : Int), false))), (((0 : Int), ((0 : Int), ((0 : Int), false))), (((0 : Int), (0 : Int)), ((0 : Int), ((0 : Int), (0 : Int)))))))))))), (2 : Int))) (
  tif ((decide (e.1 ≤ s.2.1))) (
  some (([], ((0 : Int), (((0 : Int), ((0 : Int), [])), (([], ([], [])), ((0 : Int), ((0 : Int), (((0 : Int), ((0 : Int), ((0 : Int), false))), (((0 : Int), ((0 : Int), ((0 : Int), false))), (((0 : Int), (0 : Int)), ((0 : Int), ((0 : Int), (0 : Int)))))))))))), (9 : Int))) (
  tif ((decide (c.2.1.1 = (0 : Int)))) (
  none) (
  tif ((!((decide (s.2.2.2.2.1 = (0 : Int))) && ((decide (s.2.2.2.2.2.1 = (0 : Int))) && ((decide (s.2.2.2.2.2.2.1.1 = (0 : Int))) && ((decide (s.2.2.2.2.2.2.1.2.1 = (0 : Int))) && ((decide (s.2.2.2.2.2.2.1.2.2.1 = (0 : Int))) && ((s.2.2.2.2.2.2.1.2.2.2 == false) && ((decide (s.2.2.2.2.2.2.2.1.1 = (0 : Int))) && ((decide (s.2.2.2.2.2.2.2.1.2.1 = (0 : Int))) && ((decide (s.2.2.2.2.2.2.2.1.2.2.1 = (0 : Int))) && ((s.2.2.2.2.2.2.2.1.2.2.2 == false) && ((decide (s.2.2.2.2.2.2.2.2.1.1 = (0 : Int))) && ((decide (s.2.2.2.2.2.2.2.2.1.2 = (0 : Int))) && ((decide (s.2.2.2.2.2.2.2.2.2.1 = (0 : Int))) && ((decide (s.2.2.2.2.2.2.2.2.2.2.1 = (0 : Int))) && (decide (s.2.2.2.2.2.2.2.2.2.2.2 = (0 : Int))))))))))))))))))) (
  tif ((!(decide (s.2.2.2.2.1 = (IntKind.wrap .i64 (Int.tdiv e.1 c.2.1.1)))))) (
  obind (r14_Close n c s.2.2.2.1 s.2.2.2.2 (IntKind.wrap .i64 (Int.tdiv e.1 c.2.1.1))) fun r2 =>
  tif ((!(decide (r2.2 = (0 : Int))))) (
  some (([], ((0 : Int), (((0 : Int), ((0 : Int), [])), (([], ([], [])), ((0 : Int), ((0 : Int), (((0 : Int), ((0 : Int), ((0 : Int), false))), (((0 : Int), ((0 : Int), ((0 : Int), false))), (((0 : Int), (0 : Int)), ((0 : Int), ((0 : Int), (0 : Int)))))))))))), r2.2)) (
  obind (r12_Put n s.2.2.1 c.1 e) fun r3 =>
  tif ((!(decide (r3.2 = (0 : Int))))) (
  some (([], ((0 : Int), (((0 : Int), ((0 : Int), [])), (([], ([], [])), ((0 : Int), ((0 : Int), (((0 : Int), ((0 : Int), ((0 : Int), false))), (((0 : Int), ((0 : Int), ((0 : Int), false))), (((0 : Int), (0 : Int)), ((0 : Int), ((0 : Int), (0 : Int)))))))))))), r3.2)) (
  obind (r08_Add n ((0 : Int), (((0 : Int), ((0 : Int), ((0 : Int), false))), (((0 : Int), ((0 : Int), ((0 : Int), false))), (((0 : Int), (0 : Int)), ((0 : Int), ((0 : Int), (0 : Int))))))) e) fun r4 =>
  tif ((!(decide (r4.2 = (0 : Int))))) (
  some (([], ((0 : Int), (((0 : Int), ((0 : Int), [])), (([], ([], [])), ((0 : Int), ((0 : Int), (((0 : Int), ((0 : Int), ((0 : Int), false))), (((0 : Int), ((0 : Int), ((0 : Int), false))), (((0 : Int), (0 : Int)), ((0 : Int), ((0 : Int), (0 : Int)))))))))))), r4.2)) (
  some ((s.1, (e.1, (r3.1, (r2.1, ((IntKind.wrap .i64 (Int.tdiv e.1 c.2.1.1)), r4.1))))), (0 : Int)))))) (
  obind (r12_Put n s.2.2.1 c.1 e) fun r5 =>
  tif ((!(decide (r5.2 = (0 : Int))))) (
  some (([], ((0 : Int), (((0 : Int), ((0 : Int), [])), (([], ([], [])), ((0 : Int), ((0 : Int), (((0 : Int), ((0 : Int), ((0 : Int), false))), (((0 : Int), ((0 : Int), ((0 : Int), false))), (((0 : Int), (0 : Int)), ((0 : Int), ((0 : Int), (0 : Int)))))))))))), r5.2)) (
  obind (r08_Add n s.2.2.2.2.2 e) fun r6 =>
  tif ((!(decide (r6.2 = (0 : Int))))) (
  some (([], ((0 : Int), (((0 : Int), ((0 : Int), [])), (([], ([], [])), ((0 : Int), ((0 : Int), (((0 : Int), ((0 : Int), ((0 : Int), false))), (((0 : Int), ((0 : Int), ((0 : Int), false))), (((0 : Int), (0 : Int)), ((0 : Int), ((0 : Int), (0 : Int)))))))))))), r6.2)) (
  some ((s.1, (e.1, (r5.1, (s.2.2.2.1, ((IntKind.wrap .i64 (Int.tdiv e.1 c.2.1.1)), r6.1))))), (0 : Int)))))) (
  obind (r12_Put n s.2.2.1 c.1 e) fun r7 =>
  tif ((!(decide (r7.2 = (0 : Int))))) (
  some (([], ((0 : Int), (((0 : Int), ((0 : Int), [])), (([], ([], [])), ((0 : Int), ((0 : Int), (((0 : Int), ((0 : Int), ((0 : Int), false))), (((0 : Int), ((0 : Int), ((0 : Int), false))), (((0 : Int), (0 : Int)), ((0 : Int), ((0 : Int), (0 : Int)))))))))))), r7.2)) (
  obind (r08_Add n s.2.2.2.2.2 e) fun r8 =>
  tif ((!(decide (r8.2 = (0 : Int))))) (
  some (([], ((0 : Int), (((0 : Int), ((0 : Int), [])), (([], ([], [])), ((0 : Int), ((0 : Int), (((0 : Int), ((0 : Int), ((0 : Int), false))), (((0 : Int), ((0 : Int), ((0 : Int), false))), (((0 : Int), (0 : Int)), ((0 : Int), ((0 : Int), (0 : Int)))))))))))), r8.2)) (
  some ((s.1, (e.1, (r7.1, (s.2.2.2.1, ((IntKind.wrap .i64 (Int.tdiv e.1 c.2.1.1)), r8.1))))), (0 : Int))))))))) := by kernel_rfl
theorem window_Oldest_eq (n : Nat) (now : Int) (w : Int) (n_ : Int) : window_Oldest (n + 1) now w n_ =
  obind (window_Of n now w) fun r0 =>
  tif ((!(decide (r0.2 = (0 : Int))))) (
  some ((0 : Int), (1 : Int))) (
  obind (window_in_int n n_ (1 : Int) (4096 : Int)) fun r1 =>
  tif ((!r1)) (
  some ((0 : Int), (1 : Int))) (
  some ((if (0 : Int) < (IntKind.wrap .i64 ((IntKind.wrap .i64 (r0.1 + (1 : Int))) - n_)) then (IntKind.wrap .i64 ((IntKind.wrap .i64 (r0.1 + (1 : Int))) - n_)) else (0 : Int)), (0 : Int)))) := by kernel_rfl
theorem r09_Oldest_eq (n : Nat) (now : Int) (w : Int) (n_ : Int) : r09_Oldest (n + 1) now w n_ =
  obind (r09_Of n now w) fun r0 =>
  tif ((!(decide (r0.2 = (0 : Int))))) (
  some ((0 : Int), (1 : Int))) (
  tif ((decide (n_ < (1 : Int)))) (
  some ((0 : Int), (1 : Int))) (
  tif ((decide ((4096 : Int) < n_))) (
  some ((0 : Int), (1 : Int))) (
  some ((if (IntKind.wrap .i64 ((IntKind.wrap .i64 (r0.1 - n_)) + (1 : Int))) < (0 : Int) then (0 : Int) else (IntKind.wrap .i64 ((IntKind.wrap .i64 (r0.1 - n_)) + (1 : Int)))), (0 : Int))))) := by kernel_rfl
theorem series_Dead_eq (n : Nat) (c : TConfig) (last : Int) (now : Int) : series_Dead (n + 1) c last now =
  obind (conf_Check n c) fun r0 =>
  tif ((decide (r0 = (0 : Int)))) (
  obind (window_Gone n last now c.2.1.1 c.2.2.1.1) fun r1 =>
  tif (r1) (
  obind (window_Gone n last now c.2.1.2.1 c.2.2.1.2.1) fun r2 =>
  tif (r2) (
  obind (window_Gone n last now c.2.1.2.2 c.2.2.1.2.2) fun r3 =>
  tif (r3) (
  some r3) (
  some r3)) (
  some r2)) (
  some r1)) (
  some (decide (r0 = (0 : Int)))) := by kernel_rfl
theorem r15_Dead_eq (n : Nat) (c : TConfig) (last : Int) (now : Int) : r15_Dead (n + 1) c last now =
  obind (r10_Check n c) fun r0 =>
  tif ((!(decide (r0 = (0 : Int))))) (
  some false) (
  obind (r09_Gone n last now c.2.1.1 c.2.2.1.1) fun r1 =>
  tif ((!r1)) (
  some false) (
  obind (r09_Gone n last now c.2.1.2.1 c.2.2.1.2.1) fun r2 =>
  tif ((!r2)) (
  some false) (
  obind (r09_Gone n last now c.2.1.2.2 c.2.2.1.2.2) fun r3 =>
  tif ((!r3)) (
  some false) (
  some true)))) := by kernel_rfl
theorem series_open_eq (n : Nat) (c : TConfig) (s : TSeries) : series_open (n + 1) c s =
  obind (fold_Check n c s.2.2.2.1) fun r0 =>
  tif ((!(decide (r0 = (0 : Int))))) (
  some (none, (2 : Int))) (
  obind (label_Check n s.1) fun r1 =>
  tif ((!(decide (r1 = (0 : Int))))) (
  some (none, (2 : Int))) (
  obind (raw_Check n s.2.2.1 c.1) fun r2 =>
  tif ((!(decide (r2 = (0 : Int))))) (
  some (none, (2 : Int))) (
  tif ((decide (s.2.1 = ((-1) : Int)))) (
  obind (series_kept_fresh n (c, s)) fun r3 =>
  tif (r3) (
  some ((some (c, s)), (0 : Int))) (
  tif ((!(decide (s.2.1 = ((-1) : Int))))) (
  obind (series_kept_ends n (c, s)) fun r4 =>
  tif (r4) (
  some ((some (c, s)), (0 : Int))) (
  some (none, (2 : Int)))) (
  some (none, (2 : Int))))) (
  tif ((!(decide (s.2.1 = ((-1) : Int))))) (
  obind (series_kept_ends n (c, s)) fun r5 =>
  tif (r5) (
  some ((some (c, s)), (0 : Int))) (
  some (none, (2 : Int)))) (
  some (none, (2 : Int))))))) := by kernel_rfl
theorem l14_Small_eq (n : Nat) (s : ((List TSlot) × ((List TSlot) × (List TSlot)))) : l14_Small (n + 1) s =
  obind (l14_Small_l2 n loopFuel (s, ((0 : Int), ()))) fun r0 =>
  selim (fun y1 =>
  some (1 : Int)) (fun z2 =>
  some z2) r0 := by kernel_rfl
theorem l14_Small_l2_eq (n f : Nat) (s_ : ((List TSlot) × ((List TSlot) × (List TSlot)))) (s4 : Int) : l14_Small_l2 n (f + 1) (s_, s4, ()) =
  tif ((decide (s4 < (3 : Int)))) (
  tif ((decide (s4 = (0 : Int)))) (
  tif ((decide ((40 : Int) < (((List.length s_.1) : Nat) : Int)))) (
  some (.inr (0 : Int))) (
  l14_Small_l2 n f (s_, ((IntKind.wrap .i64 (s4 + (1 : Int))), ())))) (
  tif ((decide (s4 = (1 : Int)))) (
  tif ((decide ((40 : Int) < (((List.length s_.2.1) : Nat) : Int)))) (
  some (.inr (0 : Int))) (
  l14_Small_l2 n f (s_, ((IntKind.wrap .i64 (s4 + (1 : Int))), ())))) (
  tif ((decide (s4 = (2 : Int)))) (
  tif ((decide ((40 : Int) < (((List.length s_.2.2) : Nat) : Int)))) (
  some (.inr (0 : Int))) (
  l14_Small_l2 n f (s_, ((IntKind.wrap .i64 (s4 + (1 : Int))), ())))) (
  none)))) (
  some (.inl ())) := by kernel_rfl
theorem conf_Check_eq (n : Nat) (c : TConfig) : conf_Check (n + 1) c =
  obind (conf_in_int n c.1 (1 : Int) (4096 : Int)) fun r0 =>
  tif (r0) (
  obind (conf_in_int n c.2.2.2.1 (1 : Int) (65536 : Int)) fun r1 =>
  tif (r1) (
  obind (conf_in_int n c.2.2.2.2 (1 : Int) (8192 : Int)) fun r2 =>
  tif (r2) (
  obind (conf_in_int64 n c.2.1.1 (1 : Int) (1099511627776 : Int)) fun r3 =>
  tif (r3) (
  obind (conf_in_int n c.2.2.1.1 (1 : Int) (4096 : Int)) fun r4 =>
  tif (r4) (
  obind (conf_in_int64 n c.2.1.2.1 (1 : Int) (1099511627776 : Int)) fun r5 =>
  tif (r5) (
  obind (conf_in_int n c.2.2.1.2.1 (1 : Int) (4096 : Int)) fun r6 =>
  tif (r6) (
  obind (conf_in_int64 n c.2.1.2.2 (1 : Int) (1099511627776 : Int)) fun r7 =>
  tif (r7) (
  obind (conf_in_int n c.2.2.1.2.2 (1 : Int) (4096 : Int)) fun r8 =>
  tif (r8) (
  tif ((decide (c.2.1.1 = (0 : Int)))) (
  none) (
  tif ((decide ((Int.tmod c.2.1.2.1 c.2.1.1) = (0 : Int)))) (
  tif ((decide (c.2.1.1 = (0 : Int)))) (
  none) (
  tif ((decide ((IntKind.wrap .i64 (Int.tdiv c.2.1.2.1 c.2.1.1)) ≤ c.2.2.1.1))) (
  tif ((decide (c.2.1.2.1 = (0 : Int)))) (
  none) (
  tif ((decide ((Int.tmod c.2.1.2.2 c.2.1.2.1) = (0 : Int)))) (
  tif ((decide (c.2.1.2.1 = (0 : Int)))) (
  none) (
  tif ((decide ((IntKind.wrap .i64 (Int.tdiv c.2.1.2.2 c.2.1.2.1)) ≤ c.2.2.1.2.1))) (
  tif ((!(decide ((IntKind.wrap .i64 (Int.tdiv c.2.1.2.2 c.2.1.2.1)) ≤ c.2.2.1.2.1)))) (
  some (2 : Int)) (
  obind (conf_place n c) fun r9 =>
  tif ((decide (c.2.2.2.2 ≤ r9))) (
  some (2 : Int)) (
  some (0 : Int)))) (
  tif ((!(decide ((IntKind.wrap .i64 (Int.tdiv c.2.1.2.2 c.2.1.2.1)) ≤ c.2.2.1.2.1)))) (
  some (2 : Int)) (
  obind (conf_place n c) fun r10 =>
  tif ((decide (c.2.2.2.2 ≤ r10))) (
  some (2 : Int)) (
  some (0 : Int)))))) (
  some (2 : Int)))) (
  tif ((!(decide ((IntKind.wrap .i64 (Int.tdiv c.2.1.2.1 c.2.1.1)) ≤ c.2.2.1.1)))) (
  some (2 : Int)) (
  obind (conf_place n c) fun r11 =>
  tif ((decide (c.2.2.2.2 ≤ r11))) (
  some (2 : Int)) (
  some (0 : Int)))))) (
  some (2 : Int)))) (
  tif ((!r8)) (
  some (2 : Int)) (
  obind (conf_place n c) fun r12 =>
  tif ((decide (c.2.2.2.2 ≤ r12))) (
  some (2 : Int)) (
  some (0 : Int))))) (
  some (2 : Int))) (
  some (2 : Int))) (
  some (2 : Int))) (
  some (2 : Int))) (
  some (2 : Int))) (
  some (2 : Int))) (
  some (2 : Int))) (
  some (2 : Int)) := by kernel_rfl
theorem label_Check_eq (n : Nat) (l : (List (List UInt8 × List UInt8))) : label_Check (n + 1) l =
  tif ((decide ((((List.length l) : Nat) : Int) = (0 : Int)))) (
  some (8 : Int)) (
  tif ((decide ((16 : Int) < (((List.length l) : Nat) : Int)))) (
  some (8 : Int)) (
  obind (label_Check_l5 n loopFuel (l, ((256 : Int), (l, ((((List.length l) : Nat) : Int), ((0 : Int), ())))))) fun r0 =>
  selim (fun y1 =>
  some (0 : Int)) (fun z2 =>
  some z2) r0)) := by kernel_rfl
theorem label_Check_l5_eq (n f : Nat) (l : (List (List UInt8 × List UInt8))) (left : Int) (s14 : (List (List UInt8 × List UInt8))) (s15 : Int) (s16 : Int) : label_Check_l5 n (f + 1) (l, left, s14, s15, s16, ()) =
  tif ((decide (s16 < s15))) (
  obind (at? s14 s16) fun r0 =>
  obind (label_name n r0.1) fun r1 =>
  tif ((!r1)) (
  some (.inr (8 : Int))) (
  tif ((decide ((128 : Int) < (((List.length r0.2) : Nat) : Int)))) (
  some (.inr (8 : Int))) (
  tif ((decide ((IntKind.wrap .i64 (left - (IntKind.wrap .i64 ((((List.length r0.1) : Nat) : Int) + (((List.length r0.2) : Nat) : Int))))) < (0 : Int)))) (
  some (.inr (8 : Int))) (
  tif ((decide ((0 : Int) < s16))) (
  obind (at? l (IntKind.wrap .i64 (s16 - (1 : Int)))) fun r2 =>
  tif ((!(Go.Op.bytesLess r2.1 r0.1))) (
  some (.inr (8 : Int))) (
  label_Check_l5 n f (l, ((IntKind.wrap .i64 (left - (IntKind.wrap .i64 ((((List.length r0.1) : Nat) : Int) + (((List.length r0.2) : Nat) : Int))))), (s14, (s15, ((IntKind.wrap .i64 (s16 + (1 : Int))), ()))))))) (
  label_Check_l5 n f (l, ((IntKind.wrap .i64 (left - (IntKind.wrap .i64 ((((List.length r0.1) : Nat) : Int) + (((List.length r0.2) : Nat) : Int))))), (s14, (s15, ((IntKind.wrap .i64 (s16 + (1 : Int))), ())))))))))) (
  some (.inl ())) := by kernel_rfl
theorem slices_Clone_Label_eq (n : Nat) (s : (List (List UInt8 × List UInt8))) : slices_Clone_Label (n + 1) s =
  tif ((decide ((List.length s) = 0))) (
  both (
  some []) (
  tif ((decide (((0 + (List.length s)) * 32) ≤ 140737488355328))) (
  some ([] ++ s)) (
  none))) (
  tif ((decide (((0 + (List.length s)) * 32) ≤ 140737488355328))) (
  some ([] ++ s)) (
  none)) := by kernel_rfl
theorem fold_Empty_eq (n : Nat) (c : TConfig) : fold_Empty (n + 1) c =
  obind (conf_Check n c) fun r0 =>
  tif ((!(decide (r0 = (0 : Int))))) (
  some ([], ([], []))) (
  obind (tier_New n c.2.2.1.1) fun r1 =>
  obind (tier_New n c.2.2.1.2.1) fun r2 =>
  obind (tier_New n c.2.2.1.2.2) fun r3 =>
  some (r1, (r2, r3))) := by kernel_rfl
theorem event_Check_eq (n : Nat) (e : TEvent) : event_Check (n + 1) e =
  tif ((decide (e.1 < (0 : Int)))) (
  some (2 : Int)) (
  tif ((decide ((35184372088832 : Int) ≤ e.1))) (
  some (2 : Int)) (
  tif ((decide (e.2.2.1 < (0 : Int)))) (
  some (2 : Int)) (
  tif ((decide (e.1 < e.2.2.1))) (
  some (2 : Int)) (
  tif (e.2.2.2) (
  tif ((!((decide (e.1 = e.1)) && ((decide (e.2.1 = (0 : Int))) && ((decide (e.2.2.1 = (0 : Int))) && (e.2.2.2 == true)))))) (
  some (2 : Int)) (
  some (0 : Int))) (
  some (0 : Int)))))) := by kernel_rfl
theorem series_kept_turn_eq (n : Nat) (s : Tseries_kept) (i : Int) : series_kept_turn (n + 1) s i =
  tif ((decide (s.2.2.2.2.2.1 = i))) (
  some ((0 : Int), s)) (
  tif ((decide (s.2.2.2.2.2.2.1 = (0 : Int)))) (
  some ((0 : Int), s)) (
  obind (fold_Close n s.1 s.2.2.2.2.1 s.2.2.2.2.2 i) fun r0 =>
  tif ((decide (r0.2 = (0 : Int)))) (
  some (r0.2, (s.1, (s.2.1, (s.2.2.1, (s.2.2.2.1, (r0.1, ((0 : Int), ((0 : Int), (((0 : Int), ((0 : Int), ((0 : Int), false))), (((0 : Int), ((0 : Int), ((0 : Int), false))), (((0 : Int), (0 : Int)), ((0 : Int), ((0 : Int), (0 : Int))))))))))))))) (
  some (r0.2, s)))) := by kernel_rfl
theorem series_kept_add_eq (n : Nat) (s : Tseries_kept) (i : Int) (e : TEvent) : series_kept_add (n + 1) s i e =
  obind (raw_Put n s.2.2.2.1 s.1.1 e) fun r0 =>
  obind (cell_Add n s.2.2.2.2.2.2 e) fun r1 =>
  tif ((!(decide (r0.2 = (0 : Int))))) (
  some (r0.2, s)) (
  some (r1.2, (s.1, (s.2.1, (e.1, (r0.1, (s.2.2.2.2.1, (i, r1.1)))))))) := by kernel_rfl
theorem slices_Equal_Label_eq (n : Nat) (s1 : (List (List UInt8 × List UInt8))) (s2 : (List (List UInt8 × List UInt8))) : slices_Equal_Label (n + 1) s1 s2 =
  tif ((!(decide ((((List.length s1) : Nat) : Int) = (((List.length s2) : Nat) : Int))))) (
  some false) (
  obind (slices_Equal_Label_l4 n loopFuel (s1, (s2, ((((List.length s1) : Nat) : Int), ((0 : Int), ()))))) fun r0 =>
  selim (fun y1 =>
  some true) (fun z2 =>
  some z2) r0) := by kernel_rfl
theorem slices_Equal_Label_l4_eq (n f : Nat) (s1 : (List (List UInt8 × List UInt8))) (s2 : (List (List UInt8 × List UInt8))) (s12 : Int) (s13 : Int) : slices_Equal_Label_l4 n (f + 1) (s1, s2, s12, s13, ()) =
  tif ((decide (s13 < s12))) (
  obind (at? s1 s13) fun r0 =>
  obind (at? s2 s13) fun r1 =>
  tif ((!((r0.1 == r1.1) && (r0.2 == r1.2)))) (
  some (.inr false)) (
  slices_Equal_Label_l4 n f (s1, (s2, (s12, ((IntKind.wrap .i64 (s13 + (1 : Int))), ())))))) (
  some (.inl ())) := by kernel_rfl
theorem state_empty_eq (n : Nat) (s : TSeries) : state_empty (n + 1) s =
  obind (series_Same n s ([], ((0 : Int), (((0 : Int), ((0 : Int), [])), (([], ([], [])), ((0 : Int), ((0 : Int), (((0 : Int), ((0 : Int), ((0 : Int), false))), (((0 : Int), ((0 : Int), ((0 : Int), false))), (((0 : Int), (0 : Int)), ((0 : Int), ((0 : Int), (0 : Int))))))))))))) fun r0 =>
  some r0 := by kernel_rfl
theorem r10_Check_eq (n : Nat) (c : TConfig) : r10_Check (n + 1) c =
  tif ((decide (c.1 < (1 : Int)))) (
  some (2 : Int)) (
  tif ((decide ((4096 : Int) < c.1))) (
  some (2 : Int)) (
  tif ((decide (c.2.2.2.1 < (1 : Int)))) (
  some (2 : Int)) (
  tif ((decide ((65536 : Int) < c.2.2.2.1))) (
  some (2 : Int)) (
  tif ((decide (c.2.2.2.2 < (1 : Int)))) (
  some (2 : Int)) (
  tif ((decide ((8192 : Int) < c.2.2.2.2))) (
  some (2 : Int)) (
  tif ((decide (c.2.1.1 < (1 : Int)))) (
  some (2 : Int)) (
  tif ((decide ((1099511627776 : Int) < c.2.1.1))) (
  some (2 : Int)) (
  tif ((decide (c.2.2.1.1 < (1 : Int)))) (
  some (2 : Int)) (
  tif ((decide ((4096 : Int) < c.2.2.1.1))) (
  some (2 : Int)) (
  tif ((decide (c.2.1.2.1 < (1 : Int)))) (
  some (2 : Int)) (
  tif ((decide ((1099511627776 : Int) < c.2.1.2.1))) (
  some (2 : Int)) (
  tif ((decide (c.2.2.1.2.1 < (1 : Int)))) (
  some (2 : Int)) (
  tif ((decide ((4096 : Int) < c.2.2.1.2.1))) (
  some (2 : Int)) (
  tif ((decide (c.2.1.1 = (0 : Int)))) (
  none) (
  tif ((!(decide ((Int.tmod c.2.1.2.1 c.2.1.1) = (0 : Int))))) (
  some (2 : Int)) (
  tif ((decide (c.2.1.1 = (0 : Int)))) (
  none) (
  tif ((decide (c.2.2.1.1 < (IntKind.wrap .i64 (Int.tdiv c.2.1.2.1 c.2.1.1))))) (
  some (2 : Int)) (
  tif ((decide (c.2.1.2.2 < (1 : Int)))) (
  some (2 : Int)) (
  tif ((decide ((1099511627776 : Int) < c.2.1.2.2))) (
  some (2 : Int)) (
  tif ((decide (c.2.2.1.2.2 < (1 : Int)))) (
  some (2 : Int)) (
  tif ((decide ((4096 : Int) < c.2.2.1.2.2))) (
  some (2 : Int)) (
  tif ((decide (c.2.1.2.1 = (0 : Int)))) (
  none) (
  tif ((!(decide ((Int.tmod c.2.1.2.2 c.2.1.2.1) = (0 : Int))))) (
  some (2 : Int)) (
  tif ((decide (c.2.1.2.1 = (0 : Int)))) (
  none) (
  tif ((decide (c.2.2.1.2.1 < (IntKind.wrap .i64 (Int.tdiv c.2.1.2.2 c.2.1.2.1))))) (
  some (2 : Int)) (
  obind (r10_place n c) fun r0 =>
  tif ((decide (c.2.2.2.2 ≤ r0))) (
  some (2 : Int)) (
  some (0 : Int)))))))))))))))))))))))))))) := by kernel_rfl
theorem series_Check_eq (n : Nat) (c : TConfig) (s : TSeries) : series_Check (n + 1) c s =
  obind (series_open n c s) fun r0 =>
  oelim (r0.1) (
  some r0.2) fun r1 =>
  some r0.2 := by kernel_rfl
theorem state_view_twin_eq (n : Nat) (v : TState) (i : Int) : state_view_twin (n + 1) v i =
  obind (state_view_place n v (fun y0 => state_view_twin_1 n y0.1 i v)) fun r1 =>
  tif ((decide (r1 < i))) (
  obind (state_view_lives n v i) fun r2 =>
  some r2) (
  some false) := by kernel_rfl
theorem r05_Check_eq (n : Nat) (l : (List (List UInt8 × List UInt8))) : r05_Check (n + 1) l =
  tif ((decide ((((List.length l) : Nat) : Int) < (1 : Int)))) (
  some (8 : Int)) (
  tif ((decide ((16 : Int) < (((List.length l) : Nat) : Int)))) (
  some (8 : Int)) (
  obind (r05_Check_l5 n loopFuel (l, ((0 : Int), (l, ((((List.length l) : Nat) : Int), ((0 : Int), ())))))) fun r0 =>
  selim (fun y1 =>
  tif ((decide ((256 : Int) < y1.1))) (
  some (8 : Int)) (
  some (0 : Int))) (fun z2 =>
  some z2) r0)) := by kernel_rfl
theorem r05_Check_l5_eq (n f : Nat) (l : (List (List UInt8 × List UInt8))) (all : Int) (s14 : (List (List UInt8 × List UInt8))) (s15 : Int) (s16 : Int) : r05_Check_l5 n (f + 1) (l, all, s14, s15, s16, ()) =
  tif ((decide (s16 < s15))) (
  obind (at? s14 s16) fun r0 =>
  obind (r05_name n r0.1) fun r1 =>
  tif ((!r1)) (
  some (.inr (8 : Int))) (
  tif ((decide ((128 : Int) < (((List.length r0.2) : Nat) : Int)))) (
  some (.inr (8 : Int))) (
  tif ((decide ((0 : Int) < s16))) (
  obind (at? l (IntKind.wrap .i64 (s16 - (1 : Int)))) fun r2 =>
  tif ((!(Go.Op.bytesLess r2.1 r0.1))) (
  some (.inr (8 : Int))) (
  r05_Check_l5 n f (l, ((IntKind.wrap .i64 (all + (IntKind.wrap .i64 ((((List.length r0.1) : Nat) : Int) + (((List.length r0.2) : Nat) : Int))))), (s14, (s15, ((IntKind.wrap .i64 (s16 + (1 : Int))), ()))))))) (
  r05_Check_l5 n f (l, ((IntKind.wrap .i64 (all + (IntKind.wrap .i64 ((((List.length r0.1) : Nat) : Int) + (((List.length r0.2) : Nat) : Int))))), (s14, (s15, ((IntKind.wrap .i64 (s16 + (1 : Int))), ()))))))))) (
  some (.inl (all, ()))) := by kernel_rfl
theorem r12_Check_eq (n : Nat) (r : (Int × (Int × (List TEvent)))) (room : Int) : r12_Check (n + 1) r room =
  tif ((decide (room < (1 : Int)))) (
  some (2 : Int)) (
  tif ((decide ((4096 : Int) < room))) (
  some (2 : Int)) (
  tif ((decide (room < (((List.length r.2.2) : Nat) : Int)))) (
  some (2 : Int)) (
  tif ((decide (r.1 < (0 : Int)))) (
  some (2 : Int)) (
  tif ((decide ((70368744177664 : Int) < r.1))) (
  some (2 : Int)) (
  obind (r12_Check_l4 n loopFuel (room, (r, (r.2.2, ((((List.length r.2.2) : Nat) : Int), ((0 : Int), ())))))) fun r0 =>
  selim (fun y1 =>
  tif ((decide (y1.2.1.1 = (0 : Int)))) (
  tif ((!(decide (y1.2.1.2.1 = (0 : Int))))) (
  some (2 : Int)) (
  some (0 : Int))) (
  tif ((decide (y1.2.1.2.1 < (0 : Int)))) (
  some (2 : Int)) (
  tif ((decide ((35184372088832 : Int) ≤ y1.2.1.2.1))) (
  some (2 : Int)) (
  tif ((!(decide ((((List.length y1.2.1.2.2) : Nat) : Int) = y1.1)))) (
  some (2 : Int)) (
  obind (at? y1.2.1.2.2 (0 : Int)) fun r2 =>
  tif ((decide (r2.1 ≤ y1.2.1.2.1))) (
  some (2 : Int)) (
  some (0 : Int))))))) (fun z3 =>
  some z3) r0))))) := by kernel_rfl
theorem r12_Check_l4_eq (n f : Nat) (room : Int) (r_ : (Int × (Int × (List TEvent)))) (s31 : (List TEvent)) (s32 : Int) (s33 : Int) : r12_Check_l4 n (f + 1) (room, r_, s31, s32, s33, ()) =
  tif ((decide (s33 < s32))) (
  obind (at? s31 s33) fun r0 =>
  obind (r07_Check n r0) fun r1 =>
  tif ((!(decide (r1 = (0 : Int))))) (
  some (.inr (2 : Int))) (
  tif ((decide ((0 : Int) < s33))) (
  obind (at? r_.2.2 (IntKind.wrap .i64 (s33 - (1 : Int)))) fun r2 =>
  tif ((decide (r0.1 ≤ r2.1))) (
  some (.inr (2 : Int))) (
  r12_Check_l4 n f (room, (r_, (s31, (s32, ((IntKind.wrap .i64 (s33 + (1 : Int))), ()))))))) (
  r12_Check_l4 n f (room, (r_, (s31, (s32, ((IntKind.wrap .i64 (s33 + (1 : Int))), ())))))))) (
  some (.inl (room, (r_, ())))) := by kernel_rfl
theorem r14_Check_eq (n : Nat) (c : TConfig) (s : ((List TSlot) × ((List TSlot) × (List TSlot)))) : r14_Check (n + 1) c s =
  obind (r10_Check n c) fun r0 =>
  tif ((!(decide (r0 = (0 : Int))))) (
  some (2 : Int)) (
  tif ((!(decide ((((List.length s.1) : Nat) : Int) = c.2.2.1.1)))) (
  some (2 : Int)) (
  obind (r13_Check n s.1 c.2.1.1) fun r1 =>
  tif ((!(decide (r1 = (0 : Int))))) (
  some (2 : Int)) (
  tif ((!(decide ((((List.length s.2.1) : Nat) : Int) = c.2.2.1.2.1)))) (
  some (2 : Int)) (
  obind (r13_Check n s.2.1 c.2.1.2.1) fun r2 =>
  tif ((!(decide (r2 = (0 : Int))))) (
  some (2 : Int)) (
  tif ((!(decide ((((List.length s.2.2) : Nat) : Int) = c.2.2.1.2.2)))) (
  some (2 : Int)) (
  obind (r13_Check n s.2.2 c.2.1.2.2) fun r3 =>
  tif ((!(decide (r3 = (0 : Int))))) (
  some (2 : Int)) (
  some (0 : Int)))))))) := by kernel_rfl
theorem r13_All_eq (n : Nat) (l : (List TSlot)) : r13_All (n + 1) l =
  obind (r13_All_l3 n loopFuel ([], (l, ((((List.length l) : Nat) : Int), ((0 : Int), ()))))) fun r0 =>
  selim (fun y1 =>
  some y1.1) (fun z2 =>
  some z2) r0 := by kernel_rfl
theorem r13_All_l3_eq (n f : Nat) (out : (List TSlot)) (s8 : (List TSlot)) (s9 : Int) (s10 : Int) : r13_All_l3 n (f + 1) (out, s8, s9, s10, ()) =
  tif ((decide (s10 < s9))) (
  obind (at? s8 s10) fun r0 =>
  tif (((decide (r0.1 = (0 : Int))) && ((decide (r0.2.1 = (0 : Int))) && ((decide (r0.2.2.1.1 = (0 : Int))) && ((decide (r0.2.2.1.2.1 = (0 : Int))) && ((decide (r0.2.2.1.2.2.1 = (0 : Int))) && ((r0.2.2.1.2.2.2 == false) && ((decide (r0.2.2.2.1.1 = (0 : Int))) && ((decide (r0.2.2.2.1.2.1 = (0 : Int))) && ((decide (r0.2.2.2.1.2.2.1 = (0 : Int))) && ((r0.2.2.2.1.2.2.2 == false) && ((decide (r0.2.2.2.2.1.1 = (0 : Int))) && ((decide (r0.2.2.2.2.1.2 = (0 : Int))) && ((decide (r0.2.2.2.2.2.1 = (0 : Int))) && ((decide (r0.2.2.2.2.2.2.1 = (0 : Int))) && (decide (r0.2.2.2.2.2.2.2 = (0 : Int)))))))))))))))))) (
  r13_All_l3 n f (out, (s8, (s9, ((IntKind.wrap .i64 (s10 + (1 : Int))), ()))))) (
  obind (r13_All_l7 n loopFuel (out, (r0, ((((List.length out) : Nat) : Int), (s8, (s9, (s10, ()))))))) fun r1 =>
  selim (fun y2 =>
  tif (((decide ((0 : Int) ≤ y2.2.2.1)) && (decide (y2.2.2.1 ≤ (((List.length y2.1) : Nat) : Int))))) (
  tif ((decide (((0 + (List.length (List.take ((Int.toNat y2.2.2.1) - 0) (List.drop 0 y2.1)))) * 120) ≤ 140737488355328))) (
  tif ((decide ((((List.length ([] ++ (List.take ((Int.toNat y2.2.2.1) - 0) (List.drop 0 y2.1)))) + 1) * 120) ≤ 140737488355328))) (
  tif ((decide ((0 : Int) ≤ y2.2.2.1))) (
  tif ((decide ((Int.toNat y2.2.2.1) ≤ (List.length y2.1)))) (
  tif ((decide ((((List.length (([] ++ (List.take ((Int.toNat y2.2.2.1) - 0) (List.drop 0 y2.1))) ++ (y2.2.1 :: []))) + (List.length (List.take ((List.length y2.1) - (Int.toNat y2.2.2.1)) (List.drop (Int.toNat y2.2.2.1) y2.1)))) * 120) ≤ 140737488355328))) (
  r13_All_l3 n f (((([] ++ (List.take ((Int.toNat y2.2.2.1) - 0) (List.drop 0 y2.1))) ++ (y2.2.1 :: [])) ++ (List.take ((List.length y2.1) - (Int.toNat y2.2.2.1)) (List.drop (Int.toNat y2.2.2.1) y2.1))), (y2.2.2.2.1, (y2.2.2.2.2.1, ((IntKind.wrap .i64 (y2.2.2.2.2.2.1 + (1 : Int))), ()))))) (
  none)) (
  none)) (
  none)) (
  none)) (
  none)) (
  none)) (fun z3 =>
  some (.inr z3)) r1)) (
  some (.inl (out, ()))) := by kernel_rfl
theorem r13_All_l7_eq (n f : Nat) (out : (List TSlot)) (s : TSlot) (at_ : Int) (s8 : (List TSlot)) (s9 : Int) (s10 : Int) : r13_All_l7 n (f + 1) (out, s, at_, s8, s9, s10, ()) =
  tif ((decide ((0 : Int) < at_))) (
  obind (at? out (IntKind.wrap .i64 (at_ - (1 : Int)))) fun r0 =>
  obind ((out)[(Int.toNat (IntKind.wrap .i64 (at_ - (1 : Int))))]?) fun r1 =>
  tif ((decide (s.1 < r1.1))) (
  r13_All_l7 n f (out, (s, ((IntKind.wrap .i64 (at_ - (1 : Int))), (s8, (s9, (s10, ()))))))) (
  some (.inl (out, (s, (at_, (s8, (s9, (s10, ()))))))))) (
  some (.inl (out, (s, (at_, (s8, (s9, (s10, ())))))))) := by kernel_rfl
theorem r12_Last_eq (n : Nat) (r : (Int × (Int × (List TEvent)))) : r12_Last (n + 1) r =
  tif ((decide ((((List.length r.2.2) : Nat) : Int) = (0 : Int)))) (
  some (((0 : Int), ((0 : Int), ((0 : Int), false))), (3 : Int))) (
  obind (at? r.2.2 (IntKind.wrap .i64 ((((List.length r.2.2) : Nat) : Int) - (1 : Int)))) fun r0 =>
  some (r0, (0 : Int))) := by kernel_rfl
theorem r13_Fits_eq (n : Nat) (c : TCell) (w : Int) (i : Int) : r13_Fits (n + 1) c w i =
  obind (r08_Check n c) fun r0 =>
  tif ((!(decide (r0 = (0 : Int))))) (
  some false) (
  tif ((decide (c.1 = (0 : Int)))) (
  some false) (
  obind (r09_Of n c.2.1.1 w) fun r1 =>
  obind (r09_Of n c.2.2.1.1 w) fun r2 =>
  tif ((decide (r1.2 = (0 : Int)))) (
  tif ((decide (r2.2 = (0 : Int)))) (
  tif ((decide (r1.1 = i))) (
  some (decide (r2.1 = i))) (
  some false)) (
  some false)) (
  some false))) := by kernel_rfl
theorem raw_Same_eq (n : Nat) (a : (Int × (Int × (List TEvent)))) (b : (Int × (Int × (List TEvent)))) : raw_Same (n + 1) a b =
  tif ((decide (a.1 = b.1))) (
  tif ((decide (a.2.1 = b.2.1))) (
  obind (slices_Equal_Event n a.2.2 b.2.2) fun r0 =>
  some r0) (
  some false)) (
  some false) := by kernel_rfl
theorem slices_Equal_Slot_eq (n : Nat) (s1 : (List TSlot)) (s2 : (List TSlot)) : slices_Equal_Slot (n + 1) s1 s2 =
  tif ((!(decide ((((List.length s1) : Nat) : Int) = (((List.length s2) : Nat) : Int))))) (
  some false) (
  obind (slices_Equal_Slot_l4 n loopFuel (s1, (s2, ((((List.length s1) : Nat) : Int), ((0 : Int), ()))))) fun r0 =>
  selim (fun y1 =>
  some true) (fun z2 =>
  some z2) r0) := by kernel_rfl
theorem slices_Equal_Slot_l4_eq (n f : Nat) (s1 : (List TSlot)) (s2 : (List TSlot)) (s12 : Int) (s13 : Int) : slices_Equal_Slot_l4 n (f + 1) (s1, s2, s12, s13, ()) =
  tif ((decide (s13 < s12))) (
  obind (at? s1 s13) fun r0 =>
  obind (at? s2 s13) fun r1 =>
  tif ((!((decide (r0.1 = r1.1)) && ((decide (r0.2.1 = r1.2.1)) && ((decide (r0.2.2.1.1 = r1.2.2.1.1)) && ((decide (r0.2.2.1.2.1 = r1.2.2.1.2.1)) && ((decide (r0.2.2.1.2.2.1 = r1.2.2.1.2.2.1)) && ((r0.2.2.1.2.2.2 == r1.2.2.1.2.2.2) && ((decide (r0.2.2.2.1.1 = r1.2.2.2.1.1)) && ((decide (r0.2.2.2.1.2.1 = r1.2.2.2.1.2.1)) && ((decide (r0.2.2.2.1.2.2.1 = r1.2.2.2.1.2.2.1)) && ((r0.2.2.2.1.2.2.2 == r1.2.2.2.1.2.2.2) && ((decide (r0.2.2.2.2.1.1 = r1.2.2.2.2.1.1)) && ((decide (r0.2.2.2.2.1.2 = r1.2.2.2.2.1.2)) && ((decide (r0.2.2.2.2.2.1 = r1.2.2.2.2.2.1)) && ((decide (r0.2.2.2.2.2.2.1 = r1.2.2.2.2.2.2.1)) && (decide (r0.2.2.2.2.2.2.2 = r1.2.2.2.2.2.2.2)))))))))))))))))) (
  some (.inr false)) (
  slices_Equal_Slot_l4 n f (s1, (s2, (s12, ((IntKind.wrap .i64 (s13 + (1 : Int))), ())))))) (
  some (.inl ())) := by kernel_rfl
theorem r12_Same_eq (n : Nat) (a : (Int × (Int × (List TEvent)))) (b : (Int × (Int × (List TEvent)))) : r12_Same (n + 1) a b =
  tif ((decide (a.1 = b.1))) (
  tif ((decide (a.2.1 = b.2.1))) (
  obind (r12_SameList n a.2.2 b.2.2) fun r0 =>
  some r0) (
  some false)) (
  some false) := by kernel_rfl
theorem r14_Same_eq (n : Nat) (a : ((List TSlot) × ((List TSlot) × (List TSlot)))) (b : ((List TSlot) × ((List TSlot) × (List TSlot)))) : r14_Same (n + 1) a b =
  obind (r13_Same n a.1 b.1) fun r0 =>
  tif ((!r0)) (
  some false) (
  obind (r13_Same n a.2.1 b.2.1) fun r1 =>
  tif ((!r1)) (
  some false) (
  obind (r13_Same n a.2.2 b.2.2) fun r2 =>
  tif ((!r2)) (
  some false) (
  some true))) := by kernel_rfl
theorem rules_Open_eq (n : Nat) (s : TState) : rules_Open (n + 1) s =
  obind (state_Check n s) fun r0 =>
  tif ((!(decide (r0 = (0 : Int))))) (
  some ((0 : Int), (0 : Int))) (
  obind (state_Mark n s) fun r1 =>
  some (r1, (if (35184372088832 : Int) < (IntKind.wrap .i64 (r1 + s.1.2.1.1)) then (35184372088832 : Int) else (IntKind.wrap .i64 (r1 + s.1.2.1.1))))) := by kernel_rfl
theorem r18_Accept_eq (n : Nat) (s : TState) (l : (List (List UInt8 × List UInt8))) (e : TEvent) : r18_Accept (n + 1) s l e =
  obind (r17_Check n s) fun r0 =>
  tif ((!(decide (r0 = (0 : Int))))) (
  some (2 : Int)) (
  obind (r05_Check n l) fun r1 =>
  tif ((!(decide (r1 = (0 : Int))))) (
  some r1) (
  obind (r07_Check n e) fun r2 =>
  tif ((!(decide (r2 = (0 : Int))))) (
  some (2 : Int)) (
  obind (r18_Open n s) fun r3 =>
  tif ((decide (e.1 < r3.1))) (
  some (9 : Int)) (
  tif ((decide (r3.2 ≤ e.1))) (
  some (9 : Int)) (
  obind (r17_Find n s l) fun r4 =>
  tif ((decide (r4.2 = (0 : Int)))) (
  obind (at? s.2.2.2 r4.1) fun r5 =>
  tif ((decide (e.1 ≤ r5.2.1))) (
  some (9 : Int)) (
  some (0 : Int))) (
  tif (e.2.2.2) (
  some (3 : Int)) (
  obind (r17_Room n s) fun r6 =>
  some r6.2))))))) := by kernel_rfl
theorem r14_Empty_eq (n : Nat) (c : TConfig) : r14_Empty (n + 1) c =
  obind (r10_Check n c) fun r0 =>
  tif ((!(decide (r0 = (0 : Int))))) (
  some ([], ([], []))) (
  obind (r13_New n c.2.2.1.1) fun r1 =>
  obind (r13_New n c.2.2.1.2.1) fun r2 =>
  obind (r13_New n c.2.2.1.2.2) fun r3 =>
  some (r1, (r2, r3))) := by kernel_rfl
theorem r07_Check_eq (n : Nat) (e : TEvent) : r07_Check (n + 1) e =
  tif ((decide (e.1 < (0 : Int)))) (
  some (2 : Int)) (
  tif ((decide ((35184372088832 : Int) ≤ e.1))) (
  some (2 : Int)) (
  tif ((decide (e.2.2.1 < (0 : Int)))) (
  some (2 : Int)) (
  tif ((decide (e.1 < e.2.2.1))) (
  some (2 : Int)) (
  tif (e.2.2.2) (
  tif ((!(decide (e.2.1 = (0 : Int))))) (
  some (2 : Int)) (
  tif ((!(decide (e.2.2.1 = (0 : Int))))) (
  some (2 : Int)) (
  some (0 : Int)))) (
  some (0 : Int)))))) := by kernel_rfl
theorem r14_Close_eq (n : Nat) (c : TConfig) (s : ((List TSlot) × ((List TSlot) × (List TSlot)))) (open_ : TSlot) (j : Int) : r14_Close (n + 1) c s open_ j =
  obind (r14_Check n c s) fun r0 =>
  tif ((!(decide (r0 = (0 : Int))))) (
  some (([], ([], [])), (2 : Int))) (
  tif ((!((decide (open_.1 = (0 : Int))) && ((decide (open_.2.1 = (0 : Int))) && ((decide (open_.2.2.1.1 = (0 : Int))) && ((decide (open_.2.2.1.2.1 = (0 : Int))) && ((decide (open_.2.2.1.2.2.1 = (0 : Int))) && ((open_.2.2.1.2.2.2 == false) && ((decide (open_.2.2.2.1.1 = (0 : Int))) && ((decide (open_.2.2.2.1.2.1 = (0 : Int))) && ((decide (open_.2.2.2.1.2.2.1 = (0 : Int))) && ((open_.2.2.2.1.2.2.2 == false) && ((decide (open_.2.2.2.2.1.1 = (0 : Int))) && ((decide (open_.2.2.2.2.1.2 = (0 : Int))) && ((decide (open_.2.2.2.2.2.1 = (0 : Int))) && ((decide (open_.2.2.2.2.2.2.1 = (0 : Int))) && (decide (open_.2.2.2.2.2.2.2 = (0 : Int))))))))))))))))))) (
  obind (r13_Fits n open_.2 c.2.1.1 open_.1) fun r1 =>
  tif ((!r1)) (
  some (([], ([], [])), (2 : Int))) (
  tif (((decide (open_.1 = (0 : Int))) && ((decide (open_.2.1 = (0 : Int))) && ((decide (open_.2.2.1.1 = (0 : Int))) && ((decide (open_.2.2.1.2.1 = (0 : Int))) && ((decide (open_.2.2.1.2.2.1 = (0 : Int))) && ((open_.2.2.1.2.2.2 == false) && ((decide (open_.2.2.2.1.1 = (0 : Int))) && ((decide (open_.2.2.2.1.2.1 = (0 : Int))) && ((decide (open_.2.2.2.1.2.2.1 = (0 : Int))) && ((open_.2.2.2.1.2.2.2 == false) && ((decide (open_.2.2.2.2.1.1 = (0 : Int))) && ((decide (open_.2.2.2.2.1.2 = (0 : Int))) && ((decide (open_.2.2.2.2.2.1 = (0 : Int))) && ((decide (open_.2.2.2.2.2.2.1 = (0 : Int))) && (decide (open_.2.2.2.2.2.2.2 = (0 : Int)))))))))))))))))) (
  some (s, (0 : Int))) (
  tif ((decide (open_.1 = j))) (
  some (s, (0 : Int))) (
  tif ((decide (j < open_.1))) (
  some (([], ([], [])), (1 : Int))) (
  obind (r14_begins n j c.2.1.1) fun r2 =>
  tif ((!r2)) (
  some (([], ([], [])), (1 : Int))) (
  obind (r13_Put n s.1 c.2.1.1 open_.1 open_.2) fun r3 =>
  obind (r14_up n c (r3.1, s.2) open_.1 j) fun r4 =>
  some (r4, (0 : Int)))))))) (
  tif (((decide (open_.1 = (0 : Int))) && ((decide (open_.2.1 = (0 : Int))) && ((decide (open_.2.2.1.1 = (0 : Int))) && ((decide (open_.2.2.1.2.1 = (0 : Int))) && ((decide (open_.2.2.1.2.2.1 = (0 : Int))) && ((open_.2.2.1.2.2.2 == false) && ((decide (open_.2.2.2.1.1 = (0 : Int))) && ((decide (open_.2.2.2.1.2.1 = (0 : Int))) && ((decide (open_.2.2.2.1.2.2.1 = (0 : Int))) && ((open_.2.2.2.1.2.2.2 == false) && ((decide (open_.2.2.2.2.1.1 = (0 : Int))) && ((decide (open_.2.2.2.2.1.2 = (0 : Int))) && ((decide (open_.2.2.2.2.2.1 = (0 : Int))) && ((decide (open_.2.2.2.2.2.2.1 = (0 : Int))) && (decide (open_.2.2.2.2.2.2.2 = (0 : Int)))))))))))))))))) (
  some (s, (0 : Int))) (
  tif ((decide (open_.1 = j))) (
  some (s, (0 : Int))) (
  tif ((decide (j < open_.1))) (
  some (([], ([], [])), (1 : Int))) (
  obind (r14_begins n j c.2.1.1) fun r5 =>
  tif ((!r5)) (
  some (([], ([], [])), (1 : Int))) (
  obind (r13_Put n s.1 c.2.1.1 open_.1 open_.2) fun r6 =>
  obind (r14_up n c (r6.1, s.2) open_.1 j) fun r7 =>
  some (r7, (0 : Int)))))))) := by kernel_rfl
theorem r12_Put_eq (n : Nat) (r : (Int × (Int × (List TEvent)))) (room : Int) (e : TEvent) : r12_Put (n + 1) r room e =
  obind (r12_Check n r room) fun r0 =>
  tif ((!(decide (r0 = (0 : Int))))) (
  some (((0 : Int), ((0 : Int), [])), (2 : Int))) (
  obind (r07_Check n e) fun r1 =>
  tif ((!(decide (r1 = (0 : Int))))) (
  some (((0 : Int), ((0 : Int), [])), (2 : Int))) (
  tif ((decide ((0 : Int) < (((List.length r.2.2) : Nat) : Int)))) (
  obind (at? r.2.2 (IntKind.wrap .i64 ((((List.length r.2.2) : Nat) : Int) - (1 : Int)))) fun r2 =>
  tif ((decide (e.1 ≤ r2.1))) (
  some (((0 : Int), ((0 : Int), [])), (9 : Int))) (
  tif ((decide ((((List.length r.2.2) : Nat) : Int) = room))) (
  tif ((decide (r.1 = (70368744177664 : Int)))) (
  some (((0 : Int), ((0 : Int), [])), (1 : Int))) (
  tif ((decide (((0 + (List.length r.2.2)) * 32) ≤ 140737488355328))) (
  tif ((decide ((((List.length ([] ++ r.2.2)) + 1) * 32) ≤ 140737488355328))) (
  tif ((decide ((((List.length r.2.2) : Nat) : Int) < room))) (
  some ((r.1, (r.2.1, (([] ++ r.2.2) ++ (e :: [])))), (0 : Int))) (
  obind (at? (([] ++ r.2.2) ++ (e :: [])) (0 : Int)) fun r3 =>
  obind (((([] ++ r.2.2) ++ (e :: [])))[0]?) fun r4 =>
  tif ((decide (1 ≤ (List.length (([] ++ r.2.2) ++ (e :: [])))))) (
  some (((IntKind.wrap .i64 (r.1 + (1 : Int))), (r4.1, (List.take ((List.length (([] ++ r.2.2) ++ (e :: []))) - 1) (List.drop 1 (([] ++ r.2.2) ++ (e :: [])))))), (0 : Int))) (
  none))) (
  none)) (
  none))) (
  tif ((decide (((0 + (List.length r.2.2)) * 32) ≤ 140737488355328))) (
  tif ((decide ((((List.length ([] ++ r.2.2)) + 1) * 32) ≤ 140737488355328))) (
  tif ((decide ((((List.length r.2.2) : Nat) : Int) < room))) (
  some ((r.1, (r.2.1, (([] ++ r.2.2) ++ (e :: [])))), (0 : Int))) (
  obind (at? (([] ++ r.2.2) ++ (e :: [])) (0 : Int)) fun r5 =>
  obind (((([] ++ r.2.2) ++ (e :: [])))[0]?) fun r6 =>
  tif ((decide (1 ≤ (List.length (([] ++ r.2.2) ++ (e :: [])))))) (
  some (((IntKind.wrap .i64 (r.1 + (1 : Int))), (r6.1, (List.take ((List.length (([] ++ r.2.2) ++ (e :: []))) - 1) (List.drop 1 (([] ++ r.2.2) ++ (e :: [])))))), (0 : Int))) (
  none))) (
  none)) (
  none)))) (
  tif ((decide ((((List.length r.2.2) : Nat) : Int) = room))) (
  tif ((decide (r.1 = (70368744177664 : Int)))) (
  some (((0 : Int), ((0 : Int), [])), (1 : Int))) (
  tif ((decide (((0 + (List.length r.2.2)) * 32) ≤ 140737488355328))) (
  tif ((decide ((((List.length ([] ++ r.2.2)) + 1) * 32) ≤ 140737488355328))) (
  tif ((decide ((((List.length r.2.2) : Nat) : Int) < room))) (
  some ((r.1, (r.2.1, (([] ++ r.2.2) ++ (e :: [])))), (0 : Int))) (
  obind (at? (([] ++ r.2.2) ++ (e :: [])) (0 : Int)) fun r7 =>
  obind (((([] ++ r.2.2) ++ (e :: [])))[0]?) fun r8 =>
  tif ((decide (1 ≤ (List.length (([] ++ r.2.2) ++ (e :: [])))))) (
  some (((IntKind.wrap .i64 (r.1 + (1 : Int))), (r8.1, (List.take ((List.length (([] ++ r.2.2) ++ (e :: []))) - 1) (List.drop 1 (([] ++ r.2.2) ++ (e :: [])))))), (0 : Int))) (
  none))) (
  none)) (
  none))) (
  tif ((decide (((0 + (List.length r.2.2)) * 32) ≤ 140737488355328))) (
  tif ((decide ((((List.length ([] ++ r.2.2)) + 1) * 32) ≤ 140737488355328))) (
  tif ((decide ((((List.length r.2.2) : Nat) : Int) < room))) (
  some ((r.1, (r.2.1, (([] ++ r.2.2) ++ (e :: [])))), (0 : Int))) (
  obind (at? (([] ++ r.2.2) ++ (e :: [])) (0 : Int)) fun r9 =>
  obind (((([] ++ r.2.2) ++ (e :: [])))[0]?) fun r10 =>
  tif ((decide (1 ≤ (List.length (([] ++ r.2.2) ++ (e :: [])))))) (
  some (((IntKind.wrap .i64 (r.1 + (1 : Int))), (r10.1, (List.take ((List.length (([] ++ r.2.2) ++ (e :: []))) - 1) (List.drop 1 (([] ++ r.2.2) ++ (e :: [])))))), (0 : Int))) (
  none))) (
  none)) (
  none))))) := by kernel_rfl
theorem r08_Add_eq (n : Nat) (c : TCell) (e : TEvent) : r08_Add (n + 1) c e =
  obind (r08_Of n (e :: [])) fun r0 =>
  tif ((!(decide (r0.2 = (0 : Int))))) (
  some (((0 : Int), (((0 : Int), ((0 : Int), ((0 : Int), false))), (((0 : Int), ((0 : Int), ((0 : Int), false))), (((0 : Int), (0 : Int)), ((0 : Int), ((0 : Int), (0 : Int))))))), r0.2)) (
  obind (r08_Merge n c r0.1) fun r1 =>
  some r1) := by kernel_rfl
theorem window_Of_eq (n : Nat) (t : Int) (w : Int) : window_Of (n + 1) t w =
  obind (window_in_int64 n t (0 : Int) (35184372088831 : Int)) fun r0 =>
  tif ((!r0)) (
  some ((0 : Int), (1 : Int))) (
  obind (window_width n w) fun r1 =>
  tif ((!r1)) (
  some ((0 : Int), (1 : Int))) (
  tif ((decide (w = (0 : Int)))) (
  none) (
  some ((IntKind.wrap .i64 (Int.tdiv t w)), (0 : Int))))) := by kernel_rfl
theorem window_in_int_eq (n : Nat) (n_ : Int) (low : Int) (high : Int) : window_in_int (n + 1) n_ low high =
  tif ((decide (low ≤ n_))) (
  some (decide (n_ ≤ high))) (
  some false) := by kernel_rfl
theorem slices_Clone_Slot_eq (n : Nat) (s : (List TSlot)) : slices_Clone_Slot (n + 1) s =
  tif ((decide ((List.length s) = 0))) (
  both (
  some []) (
  tif ((decide (((0 + (List.length s)) * 120) ≤ 140737488355328))) (
  some ([] ++ s)) (
  none))) (
  tif ((decide (((0 + (List.length s)) * 120) ≤ 140737488355328))) (
  some ([] ++ s)) (
  none)) := by kernel_rfl
theorem r09_Of_eq (n : Nat) (t : Int) (w : Int) : r09_Of (n + 1) t w =
  tif ((decide (t < (0 : Int)))) (
  some ((0 : Int), (1 : Int))) (
  tif ((decide ((35184372088832 : Int) ≤ t))) (
  some ((0 : Int), (1 : Int))) (
  obind (r09_width n w) fun r0 =>
  tif ((!r0)) (
  some ((0 : Int), (1 : Int))) (
  tif ((decide (w = (0 : Int)))) (
  none) (
  tif ((decide (w = (0 : Int)))) (
  none) (
  some ((IntKind.wrap .i64 (Int.tdiv (IntKind.wrap .i64 (t - (Int.tmod t w))) w)), (0 : Int))))))) := by kernel_rfl
end Go.Proofs.YthjnbidgliejkaaGreat
