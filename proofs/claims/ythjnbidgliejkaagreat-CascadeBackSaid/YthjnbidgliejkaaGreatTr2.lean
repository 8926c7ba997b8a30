/-
  What each function comes to by one step of the flat reading. Printed by program; the kernel looks at each.
-/
import Derived.Test.YthjnbidgliejkaaGreatTr0
import Derived.KernelRfl
set_option linter.unusedVariables false
namespace Go.Proofs.YthjnbidgliejkaaGreat
open Go.Flat
theorem state_Mark_eq (n : Nat) (s : TState) : state_Mark (n + 1) s =
  obind (state_open n s) fun r0 =>
  tif ((!(decide (r0.2 = (0 : Int))))) (
  some (0 : Int)) (
  obind (state_time n s.2.1) fun r1 =>
  tif ((!r1)) (
  some (0 : Int)) (
  obind (state_view_mark n r0.1) fun r2 =>
  some r2)) := by kernel_rfl
theorem state_Same_eq (n : Nat) (a : TState) (b : TState) : state_Same (n + 1) a b =
  tif (((decide (a.1.1 = b.1.1)) && ((decide (a.1.2.1.1 = b.1.2.1.1)) && ((decide (a.1.2.1.2.1 = b.1.2.1.2.1)) && ((decide (a.1.2.1.2.2 = b.1.2.1.2.2)) && ((decide (a.1.2.2.1.1 = b.1.2.2.1.1)) && ((decide (a.1.2.2.1.2.1 = b.1.2.2.1.2.1)) && ((decide (a.1.2.2.1.2.2 = b.1.2.2.1.2.2)) && ((decide (a.1.2.2.2.1 = b.1.2.2.2.1)) && (decide (a.1.2.2.2.2 = b.1.2.2.2.2))))))))))) (
  tif ((decide (a.2.1 = b.2.1))) (
  tif ((decide (a.2.2.1 = b.2.2.1))) (
  obind (slices_EqualFunc_SeriesSeries_Series_Series n a.2.2.2 b.2.2.2 (fun y0 => series_Same n y0.1 y0.2.1)) fun r1 =>
  some r1) (
  some false)) (
  some false)) (
  some false) := by kernel_rfl
theorem write_One_eq (n : Nat) (s : TState) (l : (List (List UInt8 × List UInt8))) (e : TEvent) : write_One (n + 1) s l e =
  obind (rules_Where n s l e) fun r0 =>
  tif ((!(decide (r0.2.2 = (0 : Int))))) (
  some ((((0 : Int), (((0 : Int), ((0 : Int), (0 : Int))), (((0 : Int), ((0 : Int), (0 : Int))), ((0 : Int), (0 : Int))))), ((0 : Int), ((0 : Int), []))), r0.2.2)) (
  obind (write_place n s r0.1 r0.2.1 l) fun r1 =>
  tif ((!(decide (r1.2 = (0 : Int))))) (
  some ((((0 : Int), (((0 : Int), ((0 : Int), (0 : Int))), (((0 : Int), ((0 : Int), (0 : Int))), ((0 : Int), (0 : Int))))), ((0 : Int), ((0 : Int), []))), r1.2)) (
  obind (series_Put n s.1 r1.1 e) fun r2 =>
  tif ((!(decide (r2.2 = (0 : Int))))) (
  some ((((0 : Int), (((0 : Int), ((0 : Int), (0 : Int))), (((0 : Int), ((0 : Int), (0 : Int))), ((0 : Int), (0 : Int))))), ((0 : Int), ((0 : Int), []))), r2.2)) (
  obind (slices_Clone_Series n s.2.2.2) fun r3 =>
  obind (at? r3 r0.1) fun r4 =>
  obind ((r3)[(Int.toNat r0.1)]?) fun r5 =>
  some ((s.1, (s.2.1, (s.2.2.1, (List.set r3 (Int.toNat r0.1) r2.1)))), (0 : Int))))) := by kernel_rfl
theorem cascade_Tick_eq (n : Nat) (s : TState) (now : Int) : cascade_Tick (n + 1) s now =
  tif ((decide (now ≤ s.2.1))) (
  some (s, false)) (
  tif ((decide ((35184372088832 : Int) ≤ now))) (
  some (s, false)) (
  obind (state_Check n s) fun r0 =>
  tif ((!(decide (r0 = (0 : Int))))) (
  some (s, false)) (
  some ((s.1, (now, s.2.2)), true)))) := by kernel_rfl
theorem cascade_Sealed_eq (n : Nat) (s : TState) (k : Int) : cascade_Sealed (n + 1) s k =
  obind (cascade_Kept n s k) fun r0 =>
  some r0.2 := by kernel_rfl
theorem cascade_Steps_eq (n : Nat) (s : TState) (now : Int) : cascade_Steps (n + 1) s now =
  obind (cascade_Tick n s now) fun r0 =>
  tif (r0.2) (
  obind (cascade_Steps_l5 n loopFuel (s, (((0 : Int), ((0 : Int), (0 : Int))), (((0 : Int), ((0 : Int), (0 : Int))), (r0.1, (s.1.2.1, ((0 : Int), ()))))))) fun r1 =>
  selim (fun y2 =>
  some y2.2.1) (fun z3 =>
  some z3) r1) (
  some ((0 : Int), ((0 : Int), (0 : Int)))) := by kernel_rfl
theorem cascade_Steps_l5_eq (n f : Nat) (s_ : TState) (s4 : (Int × (Int × Int))) (out : (Int × (Int × Int))) (t : TState) (s19 : (Int × (Int × Int))) (s20 : Int) : cascade_Steps_l5 n (f + 1) (s_, s4, out, t, s19, s20, ()) =
  tif ((decide (s20 < (3 : Int)))) (
  tif ((decide (s20 = (0 : Int)))) (
  tif ((decide (s19.1 = (0 : Int)))) (
  none) (
  tif ((decide (s19.1 = (0 : Int)))) (
  none) (
  tif ((decide (s20 = (0 : Int)))) (
  cascade_Steps_l5 n f (s_, (s4, (((IntKind.wrap .i64 ((IntKind.wrap .i64 (Int.tdiv t.2.1 s19.1)) - (IntKind.wrap .i64 (Int.tdiv s_.2.1 s19.1)))), out.2), (t, (s19, ((IntKind.wrap .i64 (s20 + (1 : Int))), ()))))))) (
  tif ((decide (s20 = (1 : Int)))) (
  cascade_Steps_l5 n f (s_, (s4, ((out.1, ((IntKind.wrap .i64 ((IntKind.wrap .i64 (Int.tdiv t.2.1 s19.1)) - (IntKind.wrap .i64 (Int.tdiv s_.2.1 s19.1)))), out.2.2)), (t, (s19, ((IntKind.wrap .i64 (s20 + (1 : Int))), ()))))))) (
  tif ((decide (s20 = (2 : Int)))) (
  cascade_Steps_l5 n f (s_, (s4, ((out.1, (out.2.1, (IntKind.wrap .i64 ((IntKind.wrap .i64 (Int.tdiv t.2.1 s19.1)) - (IntKind.wrap .i64 (Int.tdiv s_.2.1 s19.1)))))), (t, (s19, ((IntKind.wrap .i64 (s20 + (1 : Int))), ()))))))) (
  none)))))) (
  tif ((decide (s20 = (1 : Int)))) (
  tif ((decide (s19.2.1 = (0 : Int)))) (
  none) (
  tif ((decide (s19.2.1 = (0 : Int)))) (
  none) (
  tif ((decide (s20 = (0 : Int)))) (
  cascade_Steps_l5 n f (s_, (s4, (((IntKind.wrap .i64 ((IntKind.wrap .i64 (Int.tdiv t.2.1 s19.2.1)) - (IntKind.wrap .i64 (Int.tdiv s_.2.1 s19.2.1)))), out.2), (t, (s19, ((IntKind.wrap .i64 (s20 + (1 : Int))), ()))))))) (
  tif ((decide (s20 = (1 : Int)))) (
  cascade_Steps_l5 n f (s_, (s4, ((out.1, ((IntKind.wrap .i64 ((IntKind.wrap .i64 (Int.tdiv t.2.1 s19.2.1)) - (IntKind.wrap .i64 (Int.tdiv s_.2.1 s19.2.1)))), out.2.2)), (t, (s19, ((IntKind.wrap .i64 (s20 + (1 : Int))), ()))))))) (
  tif ((decide (s20 = (2 : Int)))) (
  cascade_Steps_l5 n f (s_, (s4, ((out.1, (out.2.1, (IntKind.wrap .i64 ((IntKind.wrap .i64 (Int.tdiv t.2.1 s19.2.1)) - (IntKind.wrap .i64 (Int.tdiv s_.2.1 s19.2.1)))))), (t, (s19, ((IntKind.wrap .i64 (s20 + (1 : Int))), ()))))))) (
  none)))))) (
  tif ((decide (s20 = (2 : Int)))) (
  tif ((decide (s19.2.2 = (0 : Int)))) (
  none) (
  tif ((decide (s19.2.2 = (0 : Int)))) (
  none) (
  tif ((decide (s20 = (0 : Int)))) (
  cascade_Steps_l5 n f (s_, (s4, (((IntKind.wrap .i64 ((IntKind.wrap .i64 (Int.tdiv t.2.1 s19.2.2)) - (IntKind.wrap .i64 (Int.tdiv s_.2.1 s19.2.2)))), out.2), (t, (s19, ((IntKind.wrap .i64 (s20 + (1 : Int))), ()))))))) (
  tif ((decide (s20 = (1 : Int)))) (
  cascade_Steps_l5 n f (s_, (s4, ((out.1, ((IntKind.wrap .i64 ((IntKind.wrap .i64 (Int.tdiv t.2.1 s19.2.2)) - (IntKind.wrap .i64 (Int.tdiv s_.2.1 s19.2.2)))), out.2.2)), (t, (s19, ((IntKind.wrap .i64 (s20 + (1 : Int))), ()))))))) (
  tif ((decide (s20 = (2 : Int)))) (
  cascade_Steps_l5 n f (s_, (s4, ((out.1, (out.2.1, (IntKind.wrap .i64 ((IntKind.wrap .i64 (Int.tdiv t.2.1 s19.2.2)) - (IntKind.wrap .i64 (Int.tdiv s_.2.1 s19.2.2)))))), (t, (s19, ((IntKind.wrap .i64 (s20 + (1 : Int))), ()))))))) (
  none)))))) (
  none)))) (
  some (.inl (s4, (out, ())))) := by kernel_rfl
theorem cascade_Kept_eq (n : Nat) (s : TState) (k : Int) : cascade_Kept (n + 1) s k =
  obind (cascade_tiers n s k) fun r0 =>
  tif ((!(decide (r0 = (0 : Int))))) (
  some ((0 : Int), ((0 : Int), r0))) (
  tif ((decide (k = (0 : Int)))) (
  tif ((decide (k = (0 : Int)))) (
  obind (window_Oldest n s.2.1 s.1.2.1.1 s.1.2.2.1.1) fun r1 =>
  tif ((decide (s.1.2.1.1 = (0 : Int)))) (
  none) (
  some (r1.1, ((IntKind.wrap .i64 (Int.tdiv s.2.1 s.1.2.1.1)), r1.2)))) (
  tif ((decide (k = (1 : Int)))) (
  obind (window_Oldest n s.2.1 s.1.2.1.1 s.1.2.2.1.2.1) fun r2 =>
  tif ((decide (s.1.2.1.1 = (0 : Int)))) (
  none) (
  some (r2.1, ((IntKind.wrap .i64 (Int.tdiv s.2.1 s.1.2.1.1)), r2.2)))) (
  tif ((decide (k = (2 : Int)))) (
  obind (window_Oldest n s.2.1 s.1.2.1.1 s.1.2.2.1.2.2) fun r3 =>
  tif ((decide (s.1.2.1.1 = (0 : Int)))) (
  none) (
  some (r3.1, ((IntKind.wrap .i64 (Int.tdiv s.2.1 s.1.2.1.1)), r3.2)))) (
  none)))) (
  tif ((decide (k = (1 : Int)))) (
  tif ((decide (k = (0 : Int)))) (
  obind (window_Oldest n s.2.1 s.1.2.1.2.1 s.1.2.2.1.1) fun r4 =>
  tif ((decide (s.1.2.1.2.1 = (0 : Int)))) (
  none) (
  some (r4.1, ((IntKind.wrap .i64 (Int.tdiv s.2.1 s.1.2.1.2.1)), r4.2)))) (
  tif ((decide (k = (1 : Int)))) (
  obind (window_Oldest n s.2.1 s.1.2.1.2.1 s.1.2.2.1.2.1) fun r5 =>
  tif ((decide (s.1.2.1.2.1 = (0 : Int)))) (
  none) (
  some (r5.1, ((IntKind.wrap .i64 (Int.tdiv s.2.1 s.1.2.1.2.1)), r5.2)))) (
  tif ((decide (k = (2 : Int)))) (
  obind (window_Oldest n s.2.1 s.1.2.1.2.1 s.1.2.2.1.2.2) fun r6 =>
  tif ((decide (s.1.2.1.2.1 = (0 : Int)))) (
  none) (
  some (r6.1, ((IntKind.wrap .i64 (Int.tdiv s.2.1 s.1.2.1.2.1)), r6.2)))) (
  none)))) (
  tif ((decide (k = (2 : Int)))) (
  tif ((decide (k = (0 : Int)))) (
  obind (window_Oldest n s.2.1 s.1.2.1.2.2 s.1.2.2.1.1) fun r7 =>
  tif ((decide (s.1.2.1.2.2 = (0 : Int)))) (
  none) (
  some (r7.1, ((IntKind.wrap .i64 (Int.tdiv s.2.1 s.1.2.1.2.2)), r7.2)))) (
  tif ((decide (k = (1 : Int)))) (
  obind (window_Oldest n s.2.1 s.1.2.1.2.2 s.1.2.2.1.2.1) fun r8 =>
  tif ((decide (s.1.2.1.2.2 = (0 : Int)))) (
  none) (
  some (r8.1, ((IntKind.wrap .i64 (Int.tdiv s.2.1 s.1.2.1.2.2)), r8.2)))) (
  tif ((decide (k = (2 : Int)))) (
  obind (window_Oldest n s.2.1 s.1.2.1.2.2 s.1.2.2.1.2.2) fun r9 =>
  tif ((decide (s.1.2.1.2.2 = (0 : Int)))) (
  none) (
  some (r9.1, ((IntKind.wrap .i64 (Int.tdiv s.2.1 s.1.2.1.2.2)), r9.2)))) (
  none)))) (
  none)))) := by kernel_rfl
theorem l15_Small_eq (n : Nat) (s : TSeries) : l15_Small (n + 1) s =
  obind (l05_Small n s.1) fun r0 =>
  tif ((decide (r0 = (0 : Int)))) (
  some (0 : Int)) (
  tif ((decide ((60 : Int) < (((List.length s.2.2.1.2.2) : Nat) : Int)))) (
  some (0 : Int)) (
  obind (l14_Small n s.2.2.2.1) fun r1 =>
  some r1)) := by kernel_rfl
theorem series_New_eq (n : Nat) (c : TConfig) (l : (List (List UInt8 × List UInt8))) : series_New (n + 1) c l =
  obind (conf_Check n c) fun r0 =>
  tif ((!(decide (r0 = (0 : Int))))) (
  some (([], ((0 : Int), (((0 : Int), ((0 : Int), [])), (([], ([], [])), ((0 : Int), ((0 : Int), (((0 : Int), ((0 : Int), ((0 : Int), false))), (((0 : Int), ((0 : Int), ((0 : Int), false))), (((0 : Int), (0 : Int)), ((0 : Int), ((0 : Int), (0 : Int)))))))))))), r0)) (
  obind (label_Check n l) fun r1 =>
  tif ((!(decide (r1 = (0 : Int))))) (
  some (([], ((0 : Int), (((0 : Int), ((0 : Int), [])), (([], ([], [])), ((0 : Int), ((0 : Int), (((0 : Int), ((0 : Int), ((0 : Int), false))), (((0 : Int), ((0 : Int), ((0 : Int), false))), (((0 : Int), (0 : Int)), ((0 : Int), ((0 : Int), (0 : Int)))))))))))), r1)) (
  obind (slices_Clone_Label n l) fun r2 =>
  obind (fold_Empty n c) fun r3 =>
  some ((r2, (((-1) : Int), (((0 : Int), ((0 : Int), [])), (r3, ((0 : Int), ((0 : Int), (((0 : Int), ((0 : Int), ((0 : Int), false))), (((0 : Int), ((0 : Int), ((0 : Int), false))), (((0 : Int), (0 : Int)), ((0 : Int), ((0 : Int), (0 : Int)))))))))))), (0 : Int)))) := by kernel_rfl
theorem series_Put_eq (n : Nat) (c : TConfig) (s : TSeries) (e : TEvent) : series_Put (n + 1) c s e =
  obind (series_open n c s) fun r0 =>
  oelim (r0.1) (
  tif ((!(decide (r0.2 = (0 : Int))))) (
  some (([], ((0 : Int), (((0 : Int), ((0 : Int), [])), (([], ([], [])), ((0 : Int), ((0 : Int), (((0 : Int), ((0 : Int), ((0 : Int), false))), (((0 : Int), ((0 : Int), ((0 : Int), false))), (((0 : Int), (0 : Int)), ((0 : Int), ((0 : Int), (0 : Int)))))))))))), (2 : Int))) (
  obind (event_Check n e) fun r1 =>
  tif ((!(decide (r1 = (0 : Int))))) (
  some (([], ((0 : Int), (((0 : Int), ((0 : Int), [])), (([], ([], [])), ((0 : Int), ((0 : Int), (((0 : Int), ((0 : Int), ((0 : Int), false))), (((0 : Int), ((0 : Int), ((0 : Int), false))), (((0 : Int), (0 : Int)), ((0 : Int), ((0 : Int), (0 : Int)))))))))))), (2 : Int))) (
  tif ((decide (e.1 ≤ s.2.1))) (
  some (([], ((0 : Int), (((0 : Int), ((0 : Int), [])), (([], ([], [])), ((0 : Int), ((0 : Int), (((0 : Int), ((0 : Int), ((0 : Int), false))), (((0 : Int), ((0 : Int), ((0 : Int), false))), (((0 : Int), (0 : Int)), ((0 : Int), ((0 : Int), (0 : Int)))))))))))), (9 : Int))) (
  tif ((decide (c.2.1.1 = (0 : Int)))) (
  none) (
  none))))) fun r2 =>
  tif ((!(decide (r0.2 = (0 : Int))))) (
  some (([], ((0 : Int), (((0 : Int), ((0 : Int), [])), (([], ([], [])), ((0 : Int), ((0 : Int), (((0 : Int), ((0 : Int), ((0 : Int), false))), (((0 : Int), ((0 : Int), ((0 : Int), false))), (((0 : Int), (0 : Int)), ((0 : Int), ((0 : Int), (0 : Int)))))))))))), (2 : Int))) (
  obind (event_Check n e) fun r3 =>
  tif ((!(decide (r3 = (0 : Int))))) (
  some (([], ((0 : Int), (((0 : Int), ((0 : Int), [])), (([], ([], [])), ((0 : Int), ((0 : Int), (((0 : Int), ((0 : Int), ((0 : Int), false))), (((0 : Int), ((0 : Int), ((0 : Int), false))), (((0 : Int), (0 : Int)), ((0 : Int), ((0 : Int), (0 : Int)))))))))))), (2 : Int))) (
  tif ((decide (e.1 ≤ s.2.1))) (
  some (([], ((0 : Int), (((0 : Int), ((0 : Int), [])), (([], ([], [])), ((0 : Int), ((0 : Int), (((0 : Int), ((0 : Int), ((0 : Int), false))), (((0 : Int), ((0 : Int), ((0 : Int), false))), (((0 : Int), (0 : Int)), ((0 : Int), ((0 : Int), (0 : Int)))))))))))), (9 : Int))) (
  tif ((decide (c.2.1.1 = (0 : Int)))) (
  none) (
  obind (series_kept_turn n r2 (IntKind.wrap .i64 (Int.tdiv e.1 c.2.1.1))) fun r4 =>
  tif ((!(decide (r4.1 = (0 : Int))))) (
  some (([], ((0 : Int), (((0 : Int), ((0 : Int), [])), (([], ([], [])), ((0 : Int), ((0 : Int), (((0 : Int), ((0 : Int), ((0 : Int), false))), (((0 : Int), ((0 : Int), ((0 : Int), false))), (((0 : Int), (0 : Int)), ((0 : Int), ((0 : Int), (0 : Int)))))))))))), r4.1)) (
  obind (series_kept_add n r4.2 (IntKind.wrap .i64 (Int.tdiv e.1 c.2.1.1)) e) fun r5 =>
  tif ((!(decide (r5.1 = (0 : Int))))) (
  some (([], ((0 : Int), (((0 : Int), ((0 : Int), [])), (([], ([], [])), ((0 : Int), ((0 : Int), (((0 : Int), ((0 : Int), ((0 : Int), false))), (((0 : Int), ((0 : Int), ((0 : Int), false))), (((0 : Int), (0 : Int)), ((0 : Int), ((0 : Int), (0 : Int)))))))))))), r5.1)) (
  some (r5.2.2, (0 : Int)))))))) := by kernel_rfl
theorem state_open_eq (n : Nat) (s : TState) : state_open (n + 1) s =
  obind (conf_Check n s.1) fun r0 =>
  tif ((!(decide (r0 = (0 : Int))))) (
  some ((((0 : Int), (((0 : Int), ((0 : Int), (0 : Int))), (((0 : Int), ((0 : Int), (0 : Int))), ((0 : Int), (0 : Int))))), ((0 : Int), ((0 : Int), []))), (2 : Int))) (
  tif ((!(decide ((((List.length s.2.2.2) : Nat) : Int) = s.1.2.2.2.1)))) (
  some ((((0 : Int), (((0 : Int), ((0 : Int), (0 : Int))), (((0 : Int), ((0 : Int), (0 : Int))), ((0 : Int), (0 : Int))))), ((0 : Int), ((0 : Int), []))), (2 : Int))) (
  some (s, (0 : Int)))) := by kernel_rfl
theorem state_view_place_eq (n : Nat) (v : TState) (is : ((Int × Unit) → Option Bool)) : state_view_place (n + 1) v is =
  obind (state_view_place_l2 n loopFuel (is, ((((List.length v.2.2.2) : Nat) : Int), ((0 : Int), ())))) fun r0 =>
  selim (fun y1 =>
  some ((-1) : Int)) (fun z2 =>
  some z2) r0 := by kernel_rfl
theorem state_view_place_l2_eq (n f : Nat) (is : ((Int × Unit) → Option Bool)) (s9 : Int) (s10 : Int) : state_view_place_l2 n (f + 1) (is, s9, s10, ()) =
  tif ((decide (s10 < s9))) (
  obind (is (s10, ())) fun r0 =>
  tif (r0) (
  some (.inr s10)) (
  state_view_place_l2 n f (is, (s9, ((IntKind.wrap .i64 (s10 + (1 : Int))), ()))))) (
  some (.inl ())) := by kernel_rfl
theorem state_Find_1_eq (n : Nat) (i : Int) (p1 : TState) (p2 : (List (List UInt8 × List UInt8))) (p3 : TState) : state_Find_1 (n + 1) i p1 p2 p3 =
  obind (at? p1.2.2.2 i) fun r0 =>
  obind (label_Same n r0.1 p2) fun r1 =>
  tif (r1) (
  obind (state_view_lives n p3 i) fun r2 =>
  some r2) (
  some false) := by kernel_rfl
theorem label_Same_eq (n : Nat) (a : (List (List UInt8 × List UInt8))) (b : (List (List UInt8 × List UInt8))) : label_Same (n + 1) a b =
  obind (slices_Equal_Label n a b) fun r0 =>
  some r0 := by kernel_rfl
theorem state_view_lives_eq (n : Nat) (v : TState) (i : Int) : state_view_lives (n + 1) v i =
  obind (at? v.2.2.2 i) fun r0 =>
  obind (state_empty n r0) fun r1 =>
  tif ((!r1)) (
  tif ((decide (v.2.2.1 = ((-1) : Int)))) (
  some true) (
  obind (series_Dead n v.1 r0.2.1 v.2.2.1) fun r2 =>
  some (!r2))) (
  some false) := by kernel_rfl
theorem r05_Same_l4_eq (n f : Nat) (a : (List (List UInt8 × List UInt8))) (b : (List (List UInt8 × List UInt8))) (s12 : Int) (s13 : Int) : r05_Same_l4 n (f + 1) (a, b, s12, s13, ()) =
  tif ((decide (s13 < s12))) (
  obind (at? a s13) fun r0 =>
  obind (at? b s13) fun r1 =>
  tif ((!((r0.1 == r1.1) && (r0.2 == r1.2)))) (
  some (.inr false)) (
  r05_Same_l4 n f (a, (b, (s12, ((IntKind.wrap .i64 (s13 + (1 : Int))), ())))))) (
  some (.inl ())) := by kernel_rfl
theorem state_Room_1_eq (n : Nat) (i : Int) (p1 : TState) : state_Room_1 (n + 1) i p1 =
  obind (state_view_lives n p1 i) fun r0 =>
  some (!r0) := by kernel_rfl
theorem state_view_clock_eq (n : Nat) (v : TState) : state_view_clock (n + 1) v =
  obind (state_time n v.2.1) fun r0 =>
  tif (r0) (
  tif ((decide (v.2.2.1 = ((-1) : Int)))) (
  some (decide (v.2.2.1 ≤ v.2.1))) (
  obind (state_time n v.2.2.1) fun r1 =>
  tif (r1) (
  some (decide (v.2.2.1 ≤ v.2.1))) (
  some false))) (
  some false) := by kernel_rfl
theorem state_Check_1_eq (n : Nat) (i : Int) (p1 : TState) : state_Check_1 (n + 1) i p1 =
  obind (state_view_right n p1 i) fun r0 =>
  some (!r0) := by kernel_rfl
theorem state_view_right_eq (n : Nat) (v : TState) (i : Int) : state_view_right (n + 1) v i =
  obind (at? v.2.2.2 i) fun r0 =>
  obind (state_empty n r0) fun r1 =>
  tif (r1) (
  some true) (
  obind (series_Check n v.1 r0) fun r2 =>
  tif ((decide (r2 = (0 : Int)))) (
  tif ((decide ((0 : Int) ≤ r0.2.1))) (
  obind (state_view_mark n v) fun r3 =>
  tif ((decide (r0.2.1 < (IntKind.wrap .i64 (r3 + v.1.2.1.1))))) (
  obind (state_view_twin n v i) fun r4 =>
  some (!r4)) (
  some false)) (
  some false)) (
  some false)) := by kernel_rfl
theorem state_time_eq (n : Nat) (t : Int) : state_time (n + 1) t =
  tif ((decide ((0 : Int) ≤ t))) (
  some (decide (t < (35184372088832 : Int)))) (
  some false) := by kernel_rfl
theorem state_view_mark_eq (n : Nat) (v : TState) : state_view_mark (n + 1) v =
  tif ((decide (v.1.2.1.1 = (0 : Int)))) (
  none) (
  some (IntKind.wrap .i64 (v.2.1 - (Int.tmod v.2.1 v.1.2.1.1)))) := by kernel_rfl
theorem slices_EqualFunc_SeriesSeries_Series_Series_eq (n : Nat) (s1 : (List TSeries)) (s2 : (List TSeries)) (eq : ((TSeries × (TSeries × Unit)) → Option Bool)) : slices_EqualFunc_SeriesSeries_Series_Series (n + 1) s1 s2 eq =
  tif ((!(decide ((((List.length s1) : Nat) : Int) = (((List.length s2) : Nat) : Int))))) (
  some false) (
  obind (slices_EqualFunc_SeriesSeries_Series_Series_l4 n loopFuel (s2, (eq, (s1, ((((List.length s1) : Nat) : Int), ((0 : Int), ())))))) fun r0 =>
  selim (fun y1 =>
  some true) (fun z2 =>
  some z2) r0) := by kernel_rfl
theorem slices_EqualFunc_SeriesSeries_Series_Series_l4_eq (n f : Nat) (s2 : (List TSeries)) (eq : ((TSeries × (TSeries × Unit)) → Option Bool)) (s15 : (List TSeries)) (s16 : Int) (s17 : Int) : slices_EqualFunc_SeriesSeries_Series_Series_l4 n (f + 1) (s2, eq, s15, s16, s17, ()) =
  tif ((decide (s17 < s16))) (
  obind (at? s15 s17) fun r0 =>
  obind (at? s2 s17) fun r1 =>
  obind (eq (r0, (r1, ()))) fun r2 =>
  tif ((!r2)) (
  some (.inr false)) (
  slices_EqualFunc_SeriesSeries_Series_Series_l4 n f (s2, (eq, (s15, (s16, ((IntKind.wrap .i64 (s17 + (1 : Int))), ()))))))) (
  some (.inl ())) := by kernel_rfl
theorem series_Same_eq (n : Nat) (a : TSeries) (b : TSeries) : series_Same (n + 1) a b =
  obind (label_Same n a.1 b.1) fun r0 =>
  tif (r0) (
  tif ((decide (a.2.1 = b.2.1))) (
  obind (raw_Same n a.2.2.1 b.2.2.1) fun r1 =>
  tif (r1) (
  tif (((decide (a.2.2.2.2.1 = b.2.2.2.2.1)) && ((decide (a.2.2.2.2.2.1 = b.2.2.2.2.2.1)) && ((decide (a.2.2.2.2.2.2.1.1 = b.2.2.2.2.2.2.1.1)) && ((decide (a.2.2.2.2.2.2.1.2.1 = b.2.2.2.2.2.2.1.2.1)) && ((decide (a.2.2.2.2.2.2.1.2.2.1 = b.2.2.2.2.2.2.1.2.2.1)) && ((a.2.2.2.2.2.2.1.2.2.2 == b.2.2.2.2.2.2.1.2.2.2) && ((decide (a.2.2.2.2.2.2.2.1.1 = b.2.2.2.2.2.2.2.1.1)) && ((decide (a.2.2.2.2.2.2.2.1.2.1 = b.2.2.2.2.2.2.2.1.2.1)) && ((decide (a.2.2.2.2.2.2.2.1.2.2.1 = b.2.2.2.2.2.2.2.1.2.2.1)) && ((a.2.2.2.2.2.2.2.1.2.2.2 == b.2.2.2.2.2.2.2.1.2.2.2) && ((decide (a.2.2.2.2.2.2.2.2.1.1 = b.2.2.2.2.2.2.2.2.1.1)) && ((decide (a.2.2.2.2.2.2.2.2.1.2 = b.2.2.2.2.2.2.2.2.1.2)) && ((decide (a.2.2.2.2.2.2.2.2.2.1 = b.2.2.2.2.2.2.2.2.2.1)) && ((decide (a.2.2.2.2.2.2.2.2.2.2.1 = b.2.2.2.2.2.2.2.2.2.2.1)) && (decide (a.2.2.2.2.2.2.2.2.2.2.2 = b.2.2.2.2.2.2.2.2.2.2.2))))))))))))))))) (
  obind (slices_Equal_Slot n a.2.2.2.1.1 b.2.2.2.1.1) fun r2 =>
  tif (r2) (
  obind (slices_Equal_Slot n a.2.2.2.1.2.1 b.2.2.2.1.2.1) fun r3 =>
  tif (r3) (
  obind (slices_Equal_Slot n a.2.2.2.1.2.2 b.2.2.2.1.2.2) fun r4 =>
  some r4) (
  some false)) (
  some false)) (
  some false)) (
  some false)) (
  some false)) (
  some false) := by kernel_rfl
theorem rules_Where_eq (n : Nat) (s : TState) (l : (List (List UInt8 × List UInt8))) (e : TEvent) : rules_Where (n + 1) s l e =
  obind (state_Check n s) fun r0 =>
  tif ((!(decide (r0 = (0 : Int))))) (
  some ((0 : Int), (false, r0))) (
  obind (label_Check n l) fun r1 =>
  tif ((!(decide (r1 = (0 : Int))))) (
  some ((0 : Int), (false, r1))) (
  obind (event_Check n e) fun r2 =>
  tif ((!(decide (r2 = (0 : Int))))) (
  some ((0 : Int), (false, r2))) (
  obind (rules_Open n s) fun r3 =>
  obind (state_Find n s l) fun r4 =>
  tif ((decide (e.1 < r3.1))) (
  some ((0 : Int), (false, (9 : Int)))) (
  tif ((decide (r3.2 ≤ e.1))) (
  some ((0 : Int), (false, (9 : Int)))) (
  tif ((decide (r4.2 = (0 : Int)))) (
  obind (at? s.2.2.2 r4.1) fun r5 =>
  tif ((decide (e.1 ≤ r5.2.1))) (
  some ((0 : Int), (false, (9 : Int)))) (
  tif ((decide (r4.2 = (0 : Int)))) (
  some (r4.1, (false, (0 : Int)))) (
  tif (e.2.2.2) (
  some ((0 : Int), (false, (3 : Int)))) (
  obind (state_Room n s) fun r6 =>
  some (r6.1, ((decide (r6.2 = (0 : Int))), r6.2)))))) (
  tif ((decide (r4.2 = (0 : Int)))) (
  some (r4.1, (false, (0 : Int)))) (
  tif (e.2.2.2) (
  some ((0 : Int), (false, (3 : Int)))) (
  obind (state_Room n s) fun r7 =>
  some (r7.1, ((decide (r7.2 = (0 : Int))), r7.2)))))))))) := by kernel_rfl
theorem write_place_eq (n : Nat) (s : TState) (i : Int) (fresh : Bool) (l : (List (List UInt8 × List UInt8))) : write_place (n + 1) s i fresh l =
  tif (fresh) (
  obind (series_New n s.1 l) fun r0 =>
  some r0) (
  obind (at? s.2.2.2 i) fun r1 =>
  some (r1, (0 : Int))) := by kernel_rfl
theorem slices_Clone_Series_eq (n : Nat) (s : (List TSeries)) : slices_Clone_Series (n + 1) s =
  tif ((decide ((List.length s) = 0))) (
  both (
  some []) (
  tif ((decide (((0 + (List.length s)) * 264) ≤ 140737488355328))) (
  some ([] ++ s)) (
  none))) (
  tif ((decide (((0 + (List.length s)) * 264) ≤ 140737488355328))) (
  some ([] ++ s)) (
  none)) := by kernel_rfl
theorem cascade_tiers_eq (n : Nat) (s : TState) (k : Int) : cascade_tiers (n + 1) s k =
  obind (state_Check n s) fun r0 =>
  tif ((!(decide (r0 = (0 : Int))))) (
  some r0) (
  tif ((decide (k < (0 : Int)))) (
  some (1 : Int)) (
  tif ((decide ((3 : Int) ≤ k))) (
  some (1 : Int)) (
  some (0 : Int)))) := by kernel_rfl
theorem window_Oldest_eq (n : Nat) (now : Int) (w : Int) (n_ : Int) : window_Oldest (n + 1) now w n_ =
  obind (window_Of n now w) fun r0 =>
  tif ((!(decide (r0.2 = (0 : Int))))) (
  some ((0 : Int), (1 : Int))) (
  obind (window_in_int n n_ (1 : Int) (4096 : Int)) fun r1 =>
  tif ((!r1)) (
  some ((0 : Int), (1 : Int))) (
  some ((if (0 : Int) < (IntKind.wrap .i64 ((IntKind.wrap .i64 (r0.1 + (1 : Int))) - n_)) then (IntKind.wrap .i64 ((IntKind.wrap .i64 (r0.1 + (1 : Int))) - n_)) else (0 : Int)), (0 : Int)))) := by kernel_rfl
theorem series_Dead_eq (n : Nat) (c : TConfig) (last : Int) (now : Int) : series_Dead (n + 1) c last now =
  obind (conf_Check n c) fun r0 =>
  tif ((decide (r0 = (0 : Int)))) (
  obind (window_Gone n last now c.2.1.1 c.2.2.1.1) fun r1 =>
  tif (r1) (
  obind (window_Gone n last now c.2.1.2.1 c.2.2.1.2.1) fun r2 =>
  tif (r2) (
  obind (window_Gone n last now c.2.1.2.2 c.2.2.1.2.2) fun r3 =>
  tif (r3) (
  some r3) (
  some r3)) (
  some r2)) (
  some r1)) (
  some (decide (r0 = (0 : Int)))) := by kernel_rfl
theorem series_open_eq (n : Nat) (c : TConfig) (s : TSeries) : series_open (n + 1) c s =
  obind (fold_Check n c s.2.2.2.1) fun r0 =>
  tif ((!(decide (r0 = (0 : Int))))) (
  some (none, (2 : Int))) (
  obind (label_Check n s.1) fun r1 =>
  tif ((!(decide (r1 = (0 : Int))))) (
  some (none, (2 : Int))) (
  obind (raw_Check n s.2.2.1 c.1) fun r2 =>
  tif ((!(decide (r2 = (0 : Int))))) (
  some (none, (2 : Int))) (
  tif ((decide (s.2.1 = ((-1) : Int)))) (
  obind (series_kept_fresh n (c, s)) fun r3 =>
  tif (r3) (
  some ((some (c, s)), (0 : Int))) (
  tif ((!(decide (s.2.1 = ((-1) : Int))))) (
  obind (series_kept_ends n (c, s)) fun r4 =>
  tif (r4) (
  some ((some (c, s)), (0 : Int))) (
  some (none, (2 : Int)))) (
  some (none, (2 : Int))))) (
  tif ((!(decide (s.2.1 = ((-1) : Int))))) (
  obind (series_kept_ends n (c, s)) fun r5 =>
  tif (r5) (
  some ((some (c, s)), (0 : Int))) (
  some (none, (2 : Int)))) (
  some (none, (2 : Int))))))) := by kernel_rfl
theorem l14_Small_eq (n : Nat) (s : ((List TSlot) × ((List TSlot) × (List TSlot)))) : l14_Small (n + 1) s =
  obind (l14_Small_l2 n loopFuel (s, ((0 : Int), ()))) fun r0 =>
  selim (fun y1 =>
  some (1 : Int)) (fun z2 =>
  some z2) r0 := by kernel_rfl
theorem l14_Small_l2_eq (n f : Nat) (s_ : ((List TSlot) × ((List TSlot) × (List TSlot)))) (s4 : Int) : l14_Small_l2 n (f + 1) (s_, s4, ()) =
  tif ((decide (s4 < (3 : Int)))) (
  tif ((decide (s4 = (0 : Int)))) (
  tif ((decide ((40 : Int) < (((List.length s_.1) : Nat) : Int)))) (
  some (.inr (0 : Int))) (
  l14_Small_l2 n f (s_, ((IntKind.wrap .i64 (s4 + (1 : Int))), ())))) (
  tif ((decide (s4 = (1 : Int)))) (
  tif ((decide ((40 : Int) < (((List.length s_.2.1) : Nat) : Int)))) (
  some (.inr (0 : Int))) (
  l14_Small_l2 n f (s_, ((IntKind.wrap .i64 (s4 + (1 : Int))), ())))) (
  tif ((decide (s4 = (2 : Int)))) (
  tif ((decide ((40 : Int) < (((List.length s_.2.2) : Nat) : Int)))) (
  some (.inr (0 : Int))) (
  l14_Small_l2 n f (s_, ((IntKind.wrap .i64 (s4 + (1 : Int))), ())))) (
  none)))) (
  some (.inl ())) := by kernel_rfl
theorem conf_Check_eq (n : Nat) (c : TConfig) : conf_Check (n + 1) c =
  obind (conf_in_int n c.1 (1 : Int) (4096 : Int)) fun r0 =>
  tif (r0) (
  obind (conf_in_int n c.2.2.2.1 (1 : Int) (65536 : Int)) fun r1 =>
  tif (r1) (
  obind (conf_in_int n c.2.2.2.2 (1 : Int) (8192 : Int)) fun r2 =>
  tif (r2) (
  obind (conf_in_int64 n c.2.1.1 (1 : Int) (1099511627776 : Int)) fun r3 =>
  tif (r3) (
  obind (conf_in_int n c.2.2.1.1 (1 : Int) (4096 : Int)) fun r4 =>
  tif (r4) (
  obind (conf_in_int64 n c.2.1.2.1 (1 : Int) (1099511627776 : Int)) fun r5 =>
  tif (r5) (
  obind (conf_in_int n c.2.2.1.2.1 (1 : Int) (4096 : Int)) fun r6 =>
  tif (r6) (
  obind (conf_in_int64 n c.2.1.2.2 (1 : Int) (1099511627776 : Int)) fun r7 =>
  tif (r7) (
  obind (conf_in_int n c.2.2.1.2.2 (1 : Int) (4096 : Int)) fun r8 =>
  tif (r8) (
  tif ((decide (c.2.1.1 = (0 : Int)))) (
  none) (
  tif ((decide ((Int.tmod c.2.1.2.1 c.2.1.1) = (0 : Int)))) (
  tif ((decide (c.2.1.1 = (0 : Int)))) (
  none) (
  tif ((decide ((IntKind.wrap .i64 (Int.tdiv c.2.1.2.1 c.2.1.1)) ≤ c.2.2.1.1))) (
  tif ((decide (c.2.1.2.1 = (0 : Int)))) (
  none) (
  tif ((decide ((Int.tmod c.2.1.2.2 c.2.1.2.1) = (0 : Int)))) (
  tif ((decide (c.2.1.2.1 = (0 : Int)))) (
  none) (
  tif ((decide ((IntKind.wrap .i64 (Int.tdiv c.2.1.2.2 c.2.1.2.1)) ≤ c.2.2.1.2.1))) (
  tif ((!(decide ((IntKind.wrap .i64 (Int.tdiv c.2.1.2.2 c.2.1.2.1)) ≤ c.2.2.1.2.1)))) (
  some (2 : Int)) (
  obind (conf_place n c) fun r9 =>
  tif ((decide (c.2.2.2.2 ≤ r9))) (
  some (2 : Int)) (
  some (0 : Int)))) (
  tif ((!(decide ((IntKind.wrap .i64 (Int.tdiv c.2.1.2.2 c.2.1.2.1)) ≤ c.2.2.1.2.1)))) (
  some (2 : Int)) (
  obind (conf_place n c) fun r10 =>
  tif ((decide (c.2.2.2.2 ≤ r10))) (
  some (2 : Int)) (
  some (0 : Int)))))) (
  some (2 : Int)))) (
  tif ((!(decide ((IntKind.wrap .i64 (Int.tdiv c.2.1.2.1 c.2.1.1)) ≤ c.2.2.1.1)))) (
  some (2 : Int)) (
  obind (conf_place n c) fun r11 =>
  tif ((decide (c.2.2.2.2 ≤ r11))) (
  some (2 : Int)) (
  some (0 : Int)))))) (
  some (2 : Int)))) (
  tif ((!r8)) (
  some (2 : Int)) (
  obind (conf_place n c) fun r12 =>
  tif ((decide (c.2.2.2.2 ≤ r12))) (
  some (2 : Int)) (
  some (0 : Int))))) (
  some (2 : Int))) (
  some (2 : Int))) (
  some (2 : Int))) (
  some (2 : Int))) (
  some (2 : Int))) (
  some (2 : Int))) (
  some (2 : Int))) (
  some (2 : Int)) := by kernel_rfl
theorem label_Check_eq (n : Nat) (l : (List (List UInt8 × List UInt8))) : label_Check (n + 1) l =
  tif ((decide ((((List.length l) : Nat) : Int) = (0 : Int)))) (
  some (8 : Int)) (
  tif ((decide ((16 : Int) < (((List.length l) : Nat) : Int)))) (
  some (8 : Int)) (
  obind (label_Check_l5 n loopFuel (l, ((256 : Int), (l, ((((List.length l) : Nat) : Int), ((0 : Int), ())))))) fun r0 =>
  selim (fun y1 =>
  some (0 : Int)) (fun z2 =>
  some z2) r0)) := by kernel_rfl
theorem label_Check_l5_eq (n f : Nat) (l : (List (List UInt8 × List UInt8))) (left : Int) (s14 : (List (List UInt8 × List UInt8))) (s15 : Int) (s16 : Int) : label_Check_l5 n (f + 1) (l, left, s14, s15, s16, ()) =
  tif ((decide (s16 < s15))) (
  obind (at? s14 s16) fun r0 =>
  obind (label_name n r0.1) fun r1 =>
  tif ((!r1)) (
  some (.inr (8 : Int))) (
  tif ((decide ((128 : Int) < (((List.length r0.2) : Nat) : Int)))) (
  some (.inr (8 : Int))) (
  tif ((decide ((IntKind.wrap .i64 (left - (IntKind.wrap .i64 ((((List.length r0.1) : Nat) : Int) + (((List.length r0.2) : Nat) : Int))))) < (0 : Int)))) (
  some (.inr (8 : Int))) (
  tif ((decide ((0 : Int) < s16))) (
  obind (at? l (IntKind.wrap .i64 (s16 - (1 : Int)))) fun r2 =>
  tif ((!(Go.Op.bytesLess r2.1 r0.1))) (
  some (.inr (8 : Int))) (
  label_Check_l5 n f (l, ((IntKind.wrap .i64 (left - (IntKind.wrap .i64 ((((List.length r0.1) : Nat) : Int) + (((List.length r0.2) : Nat) : Int))))), (s14, (s15, ((IntKind.wrap .i64 (s16 + (1 : Int))), ()))))))) (
  label_Check_l5 n f (l, ((IntKind.wrap .i64 (left - (IntKind.wrap .i64 ((((List.length r0.1) : Nat) : Int) + (((List.length r0.2) : Nat) : Int))))), (s14, (s15, ((IntKind.wrap .i64 (s16 + (1 : Int))), ())))))))))) (
  some (.inl ())) := by kernel_rfl
theorem slices_Clone_Label_eq (n : Nat) (s : (List (List UInt8 × List UInt8))) : slices_Clone_Label (n + 1) s =
  tif ((decide ((List.length s) = 0))) (
  both (
  some []) (
  tif ((decide (((0 + (List.length s)) * 32) ≤ 140737488355328))) (
  some ([] ++ s)) (
  none))) (
  tif ((decide (((0 + (List.length s)) * 32) ≤ 140737488355328))) (
  some ([] ++ s)) (
  none)) := by kernel_rfl
theorem fold_Empty_eq (n : Nat) (c : TConfig) : fold_Empty (n + 1) c =
  obind (conf_Check n c) fun r0 =>
  tif ((!(decide (r0 = (0 : Int))))) (
  some ([], ([], []))) (
  obind (tier_New n c.2.2.1.1) fun r1 =>
  obind (tier_New n c.2.2.1.2.1) fun r2 =>
  obind (tier_New n c.2.2.1.2.2) fun r3 =>
  some (r1, (r2, r3))) := by kernel_rfl
theorem event_Check_eq (n : Nat) (e : TEvent) : event_Check (n + 1) e =
  tif ((decide (e.1 < (0 : Int)))) (
  some (2 : Int)) (
  tif ((decide ((35184372088832 : Int) ≤ e.1))) (
  some (2 : Int)) (
  tif ((decide (e.2.2.1 < (0 : Int)))) (
  some (2 : Int)) (
  tif ((decide (e.1 < e.2.2.1))) (
  some (2 : Int)) (
  tif (e.2.2.2) (
  tif ((!((decide (e.1 = e.1)) && ((decide (e.2.1 = (0 : Int))) && ((decide (e.2.2.1 = (0 : Int))) && (e.2.2.2 == true)))))) (
  some (2 : Int)) (
  some (0 : Int))) (
  some (0 : Int)))))) := by kernel_rfl
theorem series_kept_turn_eq (n : Nat) (s : Tseries_kept) (i : Int) : series_kept_turn (n + 1) s i =
  tif ((decide (s.2.2.2.2.2.1 = i))) (
  some ((0 : Int), s)) (
  tif ((decide (s.2.2.2.2.2.2.1 = (0 : Int)))) (
  some ((0 : Int), s)) (
  obind (fold_Close n s.1 s.2.2.2.2.1 s.2.2.2.2.2 i) fun r0 =>
  tif ((decide (r0.2 = (0 : Int)))) (
  some (r0.2, (s.1, (s.2.1, (s.2.2.1, (s.2.2.2.1, (r0.1, ((0 : Int), ((0 : Int), (((0 : Int), ((0 : Int), ((0 : Int), false))), (((0 : Int), ((0 : Int), ((0 : Int), false))), (((0 : Int), (0 : Int)), ((0 : Int), ((0 : Int), (0 : Int))))))))))))))) (
  some (r0.2, s)))) := by kernel_rfl
theorem series_kept_add_eq (n : Nat) (s : Tseries_kept) (i : Int) (e : TEvent) : series_kept_add (n + 1) s i e =
  obind (raw_Put n s.2.2.2.1 s.1.1 e) fun r0 =>
  obind (cell_Add n s.2.2.2.2.2.2 e) fun r1 =>
  tif ((!(decide (r0.2 = (0 : Int))))) (
  some (r0.2, s)) (
  some (r1.2, (s.1, (s.2.1, (e.1, (r0.1, (s.2.2.2.2.1, (i, r1.1)))))))) := by kernel_rfl
theorem slices_Equal_Label_eq (n : Nat) (s1 : (List (List UInt8 × List UInt8))) (s2 : (List (List UInt8 × List UInt8))) : slices_Equal_Label (n + 1) s1 s2 =
  tif ((!(decide ((((List.length s1) : Nat) : Int) = (((List.length s2) : Nat) : Int))))) (
  some false) (
  obind (slices_Equal_Label_l4 n loopFuel (s1, (s2, ((((List.length s1) : Nat) : Int), ((0 : Int), ()))))) fun r0 =>
  selim (fun y1 =>
  some true) (fun z2 =>
  some z2) r0) := by kernel_rfl
theorem slices_Equal_Label_l4_eq (n f : Nat) (s1 : (List (List UInt8 × List UInt8))) (s2 : (List (List UInt8 × List UInt8))) (s12 : Int) (s13 : Int) : slices_Equal_Label_l4 n (f + 1) (s1, s2, s12, s13, ()) =
  tif ((decide (s13 < s12))) (
  obind (at? s1 s13) fun r0 =>
  obind (at? s2 s13) fun r1 =>
  tif ((!((r0.1 == r1.1) && (r0.2 == r1.2)))) (
  some (.inr false)) (
  slices_Equal_Label_l4 n f (s1, (s2, (s12, ((IntKind.wrap .i64 (s13 + (1 : Int))), ())))))) (
  some (.inl ())) := by kernel_rfl
theorem state_empty_eq (n : Nat) (s : TSeries) : state_empty (n + 1) s =
  obind (series_Same n s ([], ((0 : Int), (((0 : Int), ((0 : Int), [])), (([], ([], [])), ((0 : Int), ((0 : Int), (((0 : Int), ((0 : Int), ((0 : Int), false))), (((0 : Int), ((0 : Int), ((0 : Int), false))), (((0 : Int), (0 : Int)), ((0 : Int), ((0 : Int), (0 : Int))))))))))))) fun r0 =>
  some r0 := by kernel_rfl
theorem series_Check_eq (n : Nat) (c : TConfig) (s : TSeries) : series_Check (n + 1) c s =
  obind (series_open n c s) fun r0 =>
  oelim (r0.1) (
  some r0.2) fun r1 =>
  some r0.2 := by kernel_rfl
theorem state_view_twin_eq (n : Nat) (v : TState) (i : Int) : state_view_twin (n + 1) v i =
  obind (state_view_place n v (fun y0 => state_view_twin_1 n y0.1 i v)) fun r1 =>
  tif ((decide (r1 < i))) (
  obind (state_view_lives n v i) fun r2 =>
  some r2) (
  some false) := by kernel_rfl
theorem raw_Same_eq (n : Nat) (a : (Int × (Int × (List TEvent)))) (b : (Int × (Int × (List TEvent)))) : raw_Same (n + 1) a b =
  tif ((decide (a.1 = b.1))) (
  tif ((decide (a.2.1 = b.2.1))) (
  obind (slices_Equal_Event n a.2.2 b.2.2) fun r0 =>
  some r0) (
  some false)) (
  some false) := by kernel_rfl
theorem slices_Equal_Slot_eq (n : Nat) (s1 : (List TSlot)) (s2 : (List TSlot)) : slices_Equal_Slot (n + 1) s1 s2 =
  tif ((!(decide ((((List.length s1) : Nat) : Int) = (((List.length s2) : Nat) : Int))))) (
  some false) (
  obind (slices_Equal_Slot_l4 n loopFuel (s1, (s2, ((((List.length s1) : Nat) : Int), ((0 : Int), ()))))) fun r0 =>
  selim (fun y1 =>
  some true) (fun z2 =>
  some z2) r0) := by kernel_rfl
theorem slices_Equal_Slot_l4_eq (n f : Nat) (s1 : (List TSlot)) (s2 : (List TSlot)) (s12 : Int) (s13 : Int) : slices_Equal_Slot_l4 n (f + 1) (s1, s2, s12, s13, ()) =
  tif ((decide (s13 < s12))) (
  obind (at? s1 s13) fun r0 =>
  obind (at? s2 s13) fun r1 =>
  tif ((!((decide (r0.1 = r1.1)) && ((decide (r0.2.1 = r1.2.1)) && ((decide (r0.2.2.1.1 = r1.2.2.1.1)) && ((decide (r0.2.2.1.2.1 = r1.2.2.1.2.1)) && ((decide (r0.2.2.1.2.2.1 = r1.2.2.1.2.2.1)) && ((r0.2.2.1.2.2.2 == r1.2.2.1.2.2.2) && ((decide (r0.2.2.2.1.1 = r1.2.2.2.1.1)) && ((decide (r0.2.2.2.1.2.1 = r1.2.2.2.1.2.1)) && ((decide (r0.2.2.2.1.2.2.1 = r1.2.2.2.1.2.2.1)) && ((r0.2.2.2.1.2.2.2 == r1.2.2.2.1.2.2.2) && ((decide (r0.2.2.2.2.1.1 = r1.2.2.2.2.1.1)) && ((decide (r0.2.2.2.2.1.2 = r1.2.2.2.2.1.2)) && ((decide (r0.2.2.2.2.2.1 = r1.2.2.2.2.2.1)) && ((decide (r0.2.2.2.2.2.2.1 = r1.2.2.2.2.2.2.1)) && (decide (r0.2.2.2.2.2.2.2 = r1.2.2.2.2.2.2.2)))))))))))))))))) (
  some (.inr false)) (
  slices_Equal_Slot_l4 n f (s1, (s2, (s12, ((IntKind.wrap .i64 (s13 + (1 : Int))), ())))))) (
  some (.inl ())) := by kernel_rfl
theorem rules_Open_eq (n : Nat) (s : TState) : rules_Open (n + 1) s =
  obind (state_Check n s) fun r0 =>
  tif ((!(decide (r0 = (0 : Int))))) (
  some ((0 : Int), (0 : Int))) (
  obind (state_Mark n s) fun r1 =>
  some (r1, (if (35184372088832 : Int) < (IntKind.wrap .i64 (r1 + s.1.2.1.1)) then (35184372088832 : Int) else (IntKind.wrap .i64 (r1 + s.1.2.1.1))))) := by kernel_rfl
theorem window_Of_eq (n : Nat) (t : Int) (w : Int) : window_Of (n + 1) t w =
  obind (window_in_int64 n t (0 : Int) (35184372088831 : Int)) fun r0 =>
  tif ((!r0)) (
  some ((0 : Int), (1 : Int))) (
  obind (window_width n w) fun r1 =>
  tif ((!r1)) (
  some ((0 : Int), (1 : Int))) (
  tif ((decide (w = (0 : Int)))) (
  none) (
  some ((IntKind.wrap .i64 (Int.tdiv t w)), (0 : Int))))) := by kernel_rfl
theorem window_in_int_eq (n : Nat) (n_ : Int) (low : Int) (high : Int) : window_in_int (n + 1) n_ low high =
  tif ((decide (low ≤ n_))) (
  some (decide (n_ ≤ high))) (
  some false) := by kernel_rfl
theorem slices_Clone_Slot_eq (n : Nat) (s : (List TSlot)) : slices_Clone_Slot (n + 1) s =
  tif ((decide ((List.length s) = 0))) (
  both (
  some []) (
  tif ((decide (((0 + (List.length s)) * 120) ≤ 140737488355328))) (
  some ([] ++ s)) (
  none))) (
  tif ((decide (((0 + (List.length s)) * 120) ≤ 140737488355328))) (
  some ([] ++ s)) (
  none)) := by kernel_rfl
end Go.Proofs.YthjnbidgliejkaaGreat
