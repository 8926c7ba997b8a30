/-
  What each function comes to by one step of the flat reading. Printed by program; the kernel looks at each.
-/
import Derived.Test.YtjeabebacegikaaGreatTr0
import Derived.KernelRfl
set_option linter.unusedVariables false
namespace Go.Proofs.YtjeabebacegikaaGreat
open Go.Flat
theorem r14_Check_eq (n : Nat) (c : TConfig) (s : ((List TSlot) × ((List TSlot) × (List TSlot)))) : r14_Check (n + 1) c s =
  obind (r10_Check n c) fun r0 =>
  tif ((!(decide (r0 = (0 : Int))))) (
  some (2 : Int)) (
  tif ((!(decide ((((List.length s.1) : Nat) : Int) = c.2.2.1.1)))) (
  some (2 : Int)) (
  obind (r13_Check n s.1 c.2.1.1) fun r1 =>
  tif ((!(decide (r1 = (0 : Int))))) (
  some (2 : Int)) (
  tif ((!(decide ((((List.length s.2.1) : Nat) : Int) = c.2.2.1.2.1)))) (
  some (2 : Int)) (
  obind (r13_Check n s.2.1 c.2.1.2.1) fun r2 =>
  tif ((!(decide (r2 = (0 : Int))))) (
  some (2 : Int)) (
  tif ((!(decide ((((List.length s.2.2) : Nat) : Int) = c.2.2.1.2.2)))) (
  some (2 : Int)) (
  obind (r13_Check n s.2.2 c.2.1.2.2) fun r3 =>
  tif ((!(decide (r3 = (0 : Int))))) (
  some (2 : Int)) (
  some (0 : Int)))))))) := by kernel_rfl
theorem r13_All_eq (n : Nat) (l : (List TSlot)) : r13_All (n + 1) l =
  obind (r13_All_l3 n loopFuel ([], (l, ((((List.length l) : Nat) : Int), ((0 : Int), ()))))) fun r0 =>
  selim (fun y1 =>
  some y1.1) (fun z2 =>
  some z2) r0 := by kernel_rfl
theorem r13_All_l3_eq (n f : Nat) (out : (List TSlot)) (s8 : (List TSlot)) (s9 : Int) (s10 : Int) : r13_All_l3 n (f + 1) (out, s8, s9, s10, ()) =
  tif ((decide (s10 < s9))) (
  obind (at? s8 s10) fun r0 =>
  tif (((decide (r0.1 = (0 : Int))) && ((decide (r0.2.1 = (0 : Int))) && ((decide (r0.2.2.1.1 = (0 : Int))) && ((decide (r0.2.2.1.2.1 = (0 : Int))) && ((decide (r0.2.2.1.2.2.1 = (0 : Int))) && ((r0.2.2.1.2.2.2 == false) && ((decide (r0.2.2.2.1.1 = (0 : Int))) && ((decide (r0.2.2.2.1.2.1 = (0 : Int))) && ((decide (r0.2.2.2.1.2.2.1 = (0 : Int))) && ((r0.2.2.2.1.2.2.2 == false) && ((decide (r0.2.2.2.2.1.1 = (0 : Int))) && ((decide (r0.2.2.2.2.1.2 = (0 : Int))) && ((decide (r0.2.2.2.2.2.1 = (0 : Int))) && ((decide (r0.2.2.2.2.2.2.1 = (0 : Int))) && (decide (r0.2.2.2.2.2.2.2 = (0 : Int)))))))))))))))))) (
  r13_All_l3 n f (out, (s8, (s9, ((IntKind.wrap .i64 (s10 + (1 : Int))), ()))))) (
  obind (r13_All_l7 n loopFuel (out, (r0, ((((List.length out) : Nat) : Int), (s8, (s9, (s10, ()))))))) fun r1 =>
  selim (fun y2 =>
  tif (((decide ((0 : Int) ≤ y2.2.2.1)) && (decide (y2.2.2.1 ≤ (((List.length y2.1) : Nat) : Int))))) (
  tif ((decide (((0 + (List.length (List.take ((Int.toNat y2.2.2.1) - 0) (List.drop 0 y2.1)))) * 120) ≤ 140737488355328))) (
  tif ((decide ((((List.length ([] ++ (List.take ((Int.toNat y2.2.2.1) - 0) (List.drop 0 y2.1)))) + 1) * 120) ≤ 140737488355328))) (
  tif ((decide ((0 : Int) ≤ y2.2.2.1))) (
  tif ((decide ((Int.toNat y2.2.2.1) ≤ (List.length y2.1)))) (
  tif ((decide ((((List.length (([] ++ (List.take ((Int.toNat y2.2.2.1) - 0) (List.drop 0 y2.1))) ++ (y2.2.1 :: []))) + (List.length (List.take ((List.length y2.1) - (Int.toNat y2.2.2.1)) (List.drop (Int.toNat y2.2.2.1) y2.1)))) * 120) ≤ 140737488355328))) (
  r13_All_l3 n f (((([] ++ (List.take ((Int.toNat y2.2.2.1) - 0) (List.drop 0 y2.1))) ++ (y2.2.1 :: [])) ++ (List.take ((List.length y2.1) - (Int.toNat y2.2.2.1)) (List.drop (Int.toNat y2.2.2.1) y2.1))), (y2.2.2.2.1, (y2.2.2.2.2.1, ((IntKind.wrap .i64 (y2.2.2.2.2.2.1 + (1 : Int))), ()))))) (
  none)) (
  none)) (
  none)) (
  none)) (
  none)) (
  none)) (fun z3 =>
  some (.inr z3)) r1)) (
  some (.inl (out, ()))) := by kernel_rfl
theorem r13_All_l7_eq (n f : Nat) (out : (List TSlot)) (s : TSlot) (at_ : Int) (s8 : (List TSlot)) (s9 : Int) (s10 : Int) : r13_All_l7 n (f + 1) (out, s, at_, s8, s9, s10, ()) =
  tif ((decide ((0 : Int) < at_))) (
  obind (at? out (IntKind.wrap .i64 (at_ - (1 : Int)))) fun r0 =>
  obind ((out)[(Int.toNat (IntKind.wrap .i64 (at_ - (1 : Int))))]?) fun r1 =>
  tif ((decide (s.1 < r1.1))) (
  r13_All_l7 n f (out, (s, ((IntKind.wrap .i64 (at_ - (1 : Int))), (s8, (s9, (s10, ()))))))) (
  some (.inl (out, (s, (at_, (s8, (s9, (s10, ()))))))))) (
  some (.inl (out, (s, (at_, (s8, (s9, (s10, ())))))))) := by kernel_rfl
theorem r12_Last_eq (n : Nat) (r : (Int × (Int × (List TEvent)))) : r12_Last (n + 1) r =
  tif ((decide ((((List.length r.2.2) : Nat) : Int) = (0 : Int)))) (
  some (((0 : Int), ((0 : Int), ((0 : Int), false))), (3 : Int))) (
  obind (at? r.2.2 (IntKind.wrap .i64 ((((List.length r.2.2) : Nat) : Int) - (1 : Int)))) fun r0 =>
  some (r0, (0 : Int))) := by kernel_rfl
theorem r13_Fits_eq (n : Nat) (c : TCell) (w : Int) (i : Int) : r13_Fits (n + 1) c w i =
  obind (r08_Check n c) fun r0 =>
  tif ((!(decide (r0 = (0 : Int))))) (
  some false) (
  tif ((decide (c.1 = (0 : Int)))) (
  some false) (
  obind (r09_Of n c.2.1.1 w) fun r1 =>
  obind (r09_Of n c.2.2.1.1 w) fun r2 =>
  tif ((decide (r1.2 = (0 : Int)))) (
  tif ((decide (r2.2 = (0 : Int)))) (
  tif ((decide (r1.1 = i))) (
  some (decide (r2.1 = i))) (
  some false)) (
  some false)) (
  some false))) := by kernel_rfl
theorem window_in_int64_eq (n : Nat) (n_ : Int) (low : Int) (high : Int) : window_in_int64 (n + 1) n_ low high =
  tif ((decide (low ≤ n_))) (
  some (decide (n_ ≤ high))) (
  some false) := by kernel_rfl
theorem window_width_eq (n : Nat) (w : Int) : window_width (n + 1) w =
  obind (window_in_int64 n w (1 : Int) (1099511627776 : Int)) fun r0 =>
  some r0 := by kernel_rfl
theorem r09_width_eq (n : Nat) (w : Int) : r09_width (n + 1) w =
  tif ((decide ((1 : Int) ≤ w))) (
  some (decide (w ≤ (1099511627776 : Int)))) (
  some false) := by kernel_rfl
theorem r12_SameList_eq (n : Nat) (a : (List TEvent)) (b : (List TEvent)) : r12_SameList (n + 1) a b =
  tif ((!(decide ((((List.length a) : Nat) : Int) = (((List.length b) : Nat) : Int))))) (
  some false) (
  obind (r12_SameList_l4 n loopFuel (a, (b, ((((List.length a) : Nat) : Int), ((0 : Int), ()))))) fun r0 =>
  selim (fun y1 =>
  some true) (fun z2 =>
  some z2) r0) := by kernel_rfl
theorem r12_SameList_l4_eq (n f : Nat) (a : (List TEvent)) (b : (List TEvent)) (s12 : Int) (s13 : Int) : r12_SameList_l4 n (f + 1) (a, b, s12, s13, ()) =
  tif ((decide (s13 < s12))) (
  obind (at? a s13) fun r0 =>
  obind (at? b s13) fun r1 =>
  tif ((!((decide (r0.1 = r1.1)) && ((decide (r0.2.1 = r1.2.1)) && ((decide (r0.2.2.1 = r1.2.2.1)) && (r0.2.2.2 == r1.2.2.2)))))) (
  some (.inr false)) (
  r12_SameList_l4 n f (a, (b, (s12, ((IntKind.wrap .i64 (s13 + (1 : Int))), ())))))) (
  some (.inl ())) := by kernel_rfl
theorem r13_Same_eq (n : Nat) (a : (List TSlot)) (b : (List TSlot)) : r13_Same (n + 1) a b =
  tif ((!(decide ((((List.length a) : Nat) : Int) = (((List.length b) : Nat) : Int))))) (
  some false) (
  obind (r13_Same_l4 n loopFuel (a, (b, ((((List.length a) : Nat) : Int), ((0 : Int), ()))))) fun r0 =>
  selim (fun y1 =>
  some true) (fun z2 =>
  some z2) r0) := by kernel_rfl
theorem r13_Same_l4_eq (n f : Nat) (a : (List TSlot)) (b : (List TSlot)) (s12 : Int) (s13 : Int) : r13_Same_l4 n (f + 1) (a, b, s12, s13, ()) =
  tif ((decide (s13 < s12))) (
  obind (at? a s13) fun r0 =>
  obind (at? b s13) fun r1 =>
  tif ((!((decide (r0.1 = r1.1)) && ((decide (r0.2.1 = r1.2.1)) && ((decide (r0.2.2.1.1 = r1.2.2.1.1)) && ((decide (r0.2.2.1.2.1 = r1.2.2.1.2.1)) && ((decide (r0.2.2.1.2.2.1 = r1.2.2.1.2.2.1)) && ((r0.2.2.1.2.2.2 == r1.2.2.1.2.2.2) && ((decide (r0.2.2.2.1.1 = r1.2.2.2.1.1)) && ((decide (r0.2.2.2.1.2.1 = r1.2.2.2.1.2.1)) && ((decide (r0.2.2.2.1.2.2.1 = r1.2.2.2.1.2.2.1)) && ((r0.2.2.2.1.2.2.2 == r1.2.2.2.1.2.2.2) && ((decide (r0.2.2.2.2.1.1 = r1.2.2.2.2.1.1)) && ((decide (r0.2.2.2.2.1.2 = r1.2.2.2.2.1.2)) && ((decide (r0.2.2.2.2.2.1 = r1.2.2.2.2.2.1)) && ((decide (r0.2.2.2.2.2.2.1 = r1.2.2.2.2.2.2.1)) && (decide (r0.2.2.2.2.2.2.2 = r1.2.2.2.2.2.2.2)))))))))))))))))) (
  some (.inr false)) (
  r13_Same_l4 n f (a, (b, (s12, ((IntKind.wrap .i64 (s13 + (1 : Int))), ())))))) (
  some (.inl ())) := by kernel_rfl
theorem conf_in_int_eq (n : Nat) (n_ : Int) (low : Int) (high : Int) : conf_in_int (n + 1) n_ low high =
  tif ((decide (low ≤ n_))) (
  some (decide (n_ ≤ high))) (
  some false) := by kernel_rfl
theorem conf_in_int64_eq (n : Nat) (n_ : Int) (low : Int) (high : Int) : conf_in_int64 (n + 1) n_ low high =
  tif ((decide (low ≤ n_))) (
  some (decide (n_ ≤ high))) (
  some false) := by kernel_rfl
theorem conf_place_eq (n : Nat) (c : TConfig) : conf_place (n + 1) c =
  obind (conf_parts n c.1 (16 : Int)) fun r0 =>
  obind (conf_parts n c.2.2.1.1 (4 : Int)) fun r1 =>
  obind (conf_parts n c.2.2.1.2.1 (4 : Int)) fun r2 =>
  obind (conf_parts n c.2.2.1.2.2 (4 : Int)) fun r3 =>
  some (IntKind.wrap .i64 ((IntKind.wrap .i64 ((IntKind.wrap .i64 ((IntKind.wrap .i64 ((1 : Int) + r0)) + r1)) + r2)) + r3)) := by kernel_rfl
theorem r10_place_eq (n : Nat) (c : TConfig) : r10_place (n + 1) c =
  obind (r10_parts n c.1 (16 : Int)) fun r0 =>
  obind (r10_parts n c.2.2.1.1 (4 : Int)) fun r1 =>
  obind (r10_parts n c.2.2.1.2.1 (4 : Int)) fun r2 =>
  obind (r10_parts n c.2.2.1.2.2 (4 : Int)) fun r3 =>
  some (IntKind.wrap .i64 ((IntKind.wrap .i64 ((IntKind.wrap .i64 ((IntKind.wrap .i64 ((1 : Int) + r0)) + r1)) + r2)) + r3)) := by kernel_rfl
theorem state_view_twin_1_eq (n : Nat) (k : Int) (p1 : Int) (p2 : TState) : state_view_twin_1 (n + 1) k p1 p2 =
  tif ((decide (k = p1))) (
  some true) (
  obind (state_view_lives n p2 k) fun r0 =>
  tif (r0) (
  obind (at? p2.2.2.2 k) fun r1 =>
  obind (at? p2.2.2.2 p1) fun r2 =>
  obind (label_Same n r1.1 r2.1) fun r3 =>
  some r3) (
  some false)) := by kernel_rfl
theorem slices_Equal_Label_eq (n : Nat) (s1 : (List (List UInt8 × List UInt8))) (s2 : (List (List UInt8 × List UInt8))) : slices_Equal_Label (n + 1) s1 s2 =
  tif ((!(decide ((((List.length s1) : Nat) : Int) = (((List.length s2) : Nat) : Int))))) (
  some false) (
  obind (slices_Equal_Label_l4 n loopFuel (s1, (s2, ((((List.length s1) : Nat) : Int), ((0 : Int), ()))))) fun r0 =>
  selim (fun y1 =>
  some true) (fun z2 =>
  some z2) r0) := by kernel_rfl
theorem slices_Equal_Label_l4_eq (n f : Nat) (s1 : (List (List UInt8 × List UInt8))) (s2 : (List (List UInt8 × List UInt8))) (s12 : Int) (s13 : Int) : slices_Equal_Label_l4 n (f + 1) (s1, s2, s12, s13, ()) =
  tif ((decide (s13 < s12))) (
  obind (at? s1 s13) fun r0 =>
  obind (at? s2 s13) fun r1 =>
  tif ((!((r0.1 == r1.1) && (r0.2 == r1.2)))) (
  some (.inr false)) (
  slices_Equal_Label_l4 n f (s1, (s2, (s12, ((IntKind.wrap .i64 (s13 + (1 : Int))), ())))))) (
  some (.inl ())) := by kernel_rfl
theorem slices_Equal_Event_eq (n : Nat) (s1 : (List TEvent)) (s2 : (List TEvent)) : slices_Equal_Event (n + 1) s1 s2 =
  tif ((!(decide ((((List.length s1) : Nat) : Int) = (((List.length s2) : Nat) : Int))))) (
  some false) (
  obind (slices_Equal_Event_l4 n loopFuel (s1, (s2, ((((List.length s1) : Nat) : Int), ((0 : Int), ()))))) fun r0 =>
  selim (fun y1 =>
  some true) (fun z2 =>
  some z2) r0) := by kernel_rfl
theorem slices_Equal_Event_l4_eq (n f : Nat) (s1 : (List TEvent)) (s2 : (List TEvent)) (s12 : Int) (s13 : Int) : slices_Equal_Event_l4 n (f + 1) (s1, s2, s12, s13, ()) =
  tif ((decide (s13 < s12))) (
  obind (at? s1 s13) fun r0 =>
  obind (at? s2 s13) fun r1 =>
  tif ((!((decide (r0.1 = r1.1)) && ((decide (r0.2.1 = r1.2.1)) && ((decide (r0.2.2.1 = r1.2.2.1)) && (r0.2.2.2 == r1.2.2.2)))))) (
  some (.inr false)) (
  slices_Equal_Event_l4 n f (s1, (s2, (s12, ((IntKind.wrap .i64 (s13 + (1 : Int))), ())))))) (
  some (.inl ())) := by kernel_rfl
theorem fold_open_eq (n : Nat) (c : TConfig) (s : ((List TSlot) × ((List TSlot) × (List TSlot)))) : fold_open (n + 1) c s =
  obind (conf_Check n c) fun r0 =>
  tif ((!(decide (r0 = (0 : Int))))) (
  some (none, r0)) (
  tif ((!(decide ((((List.length s.1) : Nat) : Int) = c.2.2.1.1)))) (
  some (none, (2 : Int))) (
  obind (tier_Check n s.1 c.2.1.1) fun r1 =>
  tif ((!(decide (r1 = (0 : Int))))) (
  some (none, (2 : Int))) (
  tif ((!(decide ((((List.length s.2.1) : Nat) : Int) = c.2.2.1.2.1)))) (
  some (none, (2 : Int))) (
  obind (tier_Check n s.2.1 c.2.1.2.1) fun r2 =>
  tif ((!(decide (r2 = (0 : Int))))) (
  some (none, (2 : Int))) (
  tif ((!(decide ((((List.length s.2.2) : Nat) : Int) = c.2.2.1.2.2)))) (
  some (none, (2 : Int))) (
  obind (tier_Check n s.2.2 c.2.1.2.2) fun r3 =>
  tif ((!(decide (r3 = (0 : Int))))) (
  some (none, (2 : Int))) (
  some ((some (c, s)), (0 : Int))))))))) := by kernel_rfl
theorem label_name_eq (n : Nat) (s : List UInt8) : label_name (n + 1) s =
  tif ((s == [])) (
  some false) (
  tif ((decide ((64 : Int) < (((List.length s) : Nat) : Int)))) (
  some false) (
  obind (at? s (0 : Int)) fun r0 =>
  obind (label_digit n (((UInt8.toNat r0) : Nat) : Int)) fun r1 =>
  tif (r1) (
  some false) (
  obind (slices_ContainsFunc_byte n (List.map (fun y2 => (((UInt8.toNat y2) : Nat) : Int)) s) (fun y3 => label_name_1 n y3.1)) fun r4 =>
  some (!r4)))) := by kernel_rfl
theorem raw_rising_eq (n : Nat) (l : (List TEvent)) : raw_rising (n + 1) l =
  obind (raw_rising_l2 n loopFuel (l, (l, ((((List.length l) : Nat) : Int), ((0 : Int), ()))))) fun r0 =>
  selim (fun y1 =>
  some true) (fun z2 =>
  some z2) r0 := by kernel_rfl
theorem raw_rising_l2_eq (n f : Nat) (l : (List TEvent)) (s5 : (List TEvent)) (s6 : Int) (s7 : Int) : raw_rising_l2 n (f + 1) (l, s5, s6, s7, ()) =
  tif ((decide (s7 < s6))) (
  obind (at? s5 s7) fun r0 =>
  obind (event_Check n r0) fun r1 =>
  tif ((!(decide (r1 = (0 : Int))))) (
  some (.inr false)) (
  tif ((decide ((0 : Int) < s7))) (
  obind (at? l (IntKind.wrap .i64 (s7 - (1 : Int)))) fun r2 =>
  obind (event_Follow n r2 r0) fun r3 =>
  tif ((!r3)) (
  some (.inr false)) (
  raw_rising_l2 n f (l, (s5, (s6, ((IntKind.wrap .i64 (s7 + (1 : Int))), ())))))) (
  raw_rising_l2 n f (l, (s5, (s6, ((IntKind.wrap .i64 (s7 + (1 : Int))), ()))))))) (
  some (.inl ())) := by kernel_rfl
theorem raw_marked_eq (n : Nat) (r : (Int × (Int × (List TEvent)))) (room : Int) : raw_marked (n + 1) r room =
  tif ((decide (r.1 = (0 : Int)))) (
  some (decide (r.2.1 = (0 : Int)))) (
  tif ((decide ((((List.length r.2.2) : Nat) : Int) = room))) (
  tif ((decide ((0 : Int) ≤ r.2.1))) (
  obind (at? r.2.2 (0 : Int)) fun r0 =>
  some (decide (r.2.1 < r0.1))) (
  some false)) (
  some false)) := by kernel_rfl
theorem series_behind_eq (n : Nat) (l : (List TSlot)) (i : Int) : series_behind (n + 1) l i =
  obind (slices_ContainsFunc_Slot n l (fun y0 => series_behind_1 n y0.1 i)) fun r1 =>
  some r1 := by kernel_rfl
theorem raw_Last_eq (n : Nat) (r : (Int × (Int × (List TEvent)))) : raw_Last (n + 1) r =
  tif ((decide ((((List.length r.2.2) : Nat) : Int) = (0 : Int)))) (
  some (((0 : Int), ((0 : Int), ((0 : Int), false))), (3 : Int))) (
  obind (at? r.2.2 (IntKind.wrap .i64 ((((List.length r.2.2) : Nat) : Int) - (1 : Int)))) fun r0 =>
  some (r0, (0 : Int))) := by kernel_rfl
theorem tier_Fits_eq (n : Nat) (c : TCell) (w : Int) (i : Int) : tier_Fits (n + 1) c w i =
  tif ((decide (c.1 = (0 : Int)))) (
  some false) (
  obind (cell_Check n c) fun r0 =>
  tif ((!(decide (r0 = (0 : Int))))) (
  some false) (
  obind (tier_Fits_l4 n loopFuel (w, (i, ((c.2.1.1, c.2.2.1.1), ((0 : Int), ()))))) fun r1 =>
  selim (fun y2 =>
  some true) (fun z3 =>
  some z3) r1)) := by kernel_rfl
theorem tier_Fits_l4_eq (n f : Nat) (w : Int) (i : Int) (s25 : (Int × Int)) (s26 : Int) : tier_Fits_l4 n (f + 1) (w, i, s25, s26, ()) =
  tif ((decide (s26 < (2 : Int)))) (
  tif ((decide (s26 = (0 : Int)))) (
  obind (window_Of n s25.1 w) fun r0 =>
  tif ((!(decide (r0.2 = (0 : Int))))) (
  some (.inr false)) (
  tif ((!(decide (r0.1 = i)))) (
  some (.inr false)) (
  tier_Fits_l4 n f (w, (i, (s25, ((IntKind.wrap .i64 (s26 + (1 : Int))), ()))))))) (
  tif ((decide (s26 = (1 : Int)))) (
  obind (window_Of n s25.2 w) fun r1 =>
  tif ((!(decide (r1.2 = (0 : Int))))) (
  some (.inr false)) (
  tif ((!(decide (r1.1 = i)))) (
  some (.inr false)) (
  tier_Fits_l4 n f (w, (i, (s25, ((IntKind.wrap .i64 (s26 + (1 : Int))), ()))))))) (
  none))) (
  some (.inl ())) := by kernel_rfl
theorem tier_All_eq (n : Nat) (l : (List TSlot)) : tier_All (n + 1) l =
  obind (slices_Clone_Slot n l) fun r0 =>
  obind (slices_DeleteFunc_Slot n r0 (fun y1 => tier_none n y1.1)) fun r2 =>
  obind (slices_SortStableFunc_Slot n r2 (fun y3 => tier_All_1 n y3.1 y3.2.1)) fun r4 =>
  some r4 := by kernel_rfl
theorem cell_All_eq (n : Nat) (l : (List TCell)) : cell_All (n + 1) l =
  obind (cell_All_l3 n loopFuel (((0 : Int), (((0 : Int), ((0 : Int), ((0 : Int), false))), (((0 : Int), ((0 : Int), ((0 : Int), false))), (((0 : Int), (0 : Int)), ((0 : Int), ((0 : Int), (0 : Int))))))), (((0 : Int), (((0 : Int), ((0 : Int), ((0 : Int), false))), (((0 : Int), ((0 : Int), ((0 : Int), false))), (((0 : Int), (0 : Int)), ((0 : Int), ((0 : Int), (0 : Int))))))), (l, ((((List.length l) : Nat) : Int), ((0 : Int), ())))))) fun r0 =>
  selim (fun y1 =>
  some (y1.2.1, (0 : Int))) (fun z2 =>
  some z2) r0 := by kernel_rfl
theorem cell_All_l3_eq (n f : Nat) (s2 : TCell) (c : TCell) (s9 : (List TCell)) (s10 : Int) (s11 : Int) : cell_All_l3 n (f + 1) (s2, c, s9, s10, s11, ()) =
  tif ((decide (s11 < s10))) (
  obind (at? s9 s11) fun r0 =>
  obind (cell_Merge n c r0) fun r1 =>
  tif ((!(decide (r1.2 = (0 : Int))))) (
  some (.inr (((0 : Int), (((0 : Int), ((0 : Int), ((0 : Int), false))), (((0 : Int), ((0 : Int), ((0 : Int), false))), (((0 : Int), (0 : Int)), ((0 : Int), ((0 : Int), (0 : Int))))))), r1.2))) (
  cell_All_l3 n f (s2, (r1.1, (s9, (s10, ((IntKind.wrap .i64 (s11 + (1 : Int))), ()))))))) (
  some (.inl (s2, (c, ())))) := by kernel_rfl
theorem cell_Check_eq (n : Nat) (c : TCell) : cell_Check (n + 1) c =
  obind (cell_none n c) fun r0 =>
  tif (r0) (
  some (0 : Int)) (
  obind (cell_spans n c) fun r1 =>
  tif ((!r1)) (
  some (2 : Int)) (
  obind (wide_Of n (18446744073709551615 : Int)) fun r2 =>
  obind (wide_Times n r2 (IntKind.wrap .u64 (IntKind.wrap .i64 (c.1 - (1 : Int))))) fun r3 =>
  tif ((!(decide (r3.2 = (0 : Int))))) (
  some (2 : Int)) (
  obind (wide_Less n r3.1 c.2.2.2.1) fun r4 =>
  tif (r4) (
  some (2 : Int)) (
  obind (cell_in n c.2.2.2.2.2.1 (IntKind.wrap .i64 (c.1 - (1 : Int)))) fun r5 =>
  tif ((!r5)) (
  some (2 : Int)) (
  obind (cell_in n c.2.2.2.2.1 (IntKind.wrap .i64 ((IntKind.wrap .i64 (c.1 - (1 : Int))) - c.2.2.2.2.2.1))) fun r6 =>
  tif ((!r6)) (
  some (2 : Int)) (
  obind (cell_in n c.2.2.2.2.2.2 (IntKind.wrap .i64 (c.2.2.1.1 - c.2.1.1))) fun r7 =>
  tif ((!r7)) (
  some (2 : Int)) (
  some (0 : Int)))))))) := by kernel_rfl
theorem cell_none_eq (n : Nat) (c : TCell) : cell_none (n + 1) c =
  some ((decide (c.1 = (0 : Int))) && ((decide (c.2.1.1 = (0 : Int))) && ((decide (c.2.1.2.1 = (0 : Int))) && ((decide (c.2.1.2.2.1 = (0 : Int))) && ((c.2.1.2.2.2 == false) && ((decide (c.2.2.1.1 = (0 : Int))) && ((decide (c.2.2.1.2.1 = (0 : Int))) && ((decide (c.2.2.1.2.2.1 = (0 : Int))) && ((c.2.2.1.2.2.2 == false) && ((decide (c.2.2.2.1.1 = (0 : Int))) && ((decide (c.2.2.2.1.2 = (0 : Int))) && ((decide (c.2.2.2.2.1 = (0 : Int))) && ((decide (c.2.2.2.2.2.1 = (0 : Int))) && (decide (c.2.2.2.2.2.2 = (0 : Int)))))))))))))))) := by kernel_rfl
theorem cell_join_eq (n : Nat) (a : TCell) (b : TCell) : cell_join (n + 1) a b =
  obind (event_Between n a.2.2.1 b.2.1) fun r0 =>
  tif ((!(decide (r0.2 = (0 : Int))))) (
  some (((0 : Int), (((0 : Int), ((0 : Int), ((0 : Int), false))), (((0 : Int), ((0 : Int), ((0 : Int), false))), (((0 : Int), (0 : Int)), ((0 : Int), ((0 : Int), (0 : Int))))))), r0.2)) (
  obind (wide_Sum n (a.2.2.2.1 :: (r0.1.2.2.2.1 :: (b.2.2.2.1 :: [])))) fun r1 =>
  some (((IntKind.wrap .i64 (a.1 + b.1)), (a.2.1, (b.2.2.1, (r1.1, ((IntKind.wrap .i64 (r0.1.2.2.2.2.1 + (IntKind.wrap .i64 (a.2.2.2.2.1 + b.2.2.2.2.1)))), ((IntKind.wrap .i64 (r0.1.2.2.2.2.2.1 + (IntKind.wrap .i64 (a.2.2.2.2.2.1 + b.2.2.2.2.2.1)))), (IntKind.wrap .i64 (r0.1.2.2.2.2.2.2 + (IntKind.wrap .i64 (a.2.2.2.2.2.2 + b.2.2.2.2.2.2)))))))))), r1.2)) := by kernel_rfl
theorem r05_name_eq (n : Nat) (s : List UInt8) : r05_name (n + 1) s =
  tif ((decide ((((List.length s) : Nat) : Int) < (1 : Int)))) (
  some false) (
  tif ((decide ((64 : Int) < (((List.length s) : Nat) : Int)))) (
  some false) (
  obind (at? s (0 : Int)) fun r0 =>
  tif ((decide ((48 : Int) ≤ (((UInt8.toNat r0) : Nat) : Int)))) (
  obind (at? s (0 : Int)) fun r1 =>
  tif ((decide ((((UInt8.toNat r1) : Nat) : Int) ≤ (57 : Int)))) (
  some false) (
  obind (r05_name_l4 n loopFuel (s, ((0 : Int), ()))) fun r2 =>
  selim (fun y3 =>
  some true) (fun z4 =>
  some z4) r2)) (
  obind (r05_name_l4 n loopFuel (s, ((0 : Int), ()))) fun r5 =>
  selim (fun y6 =>
  some true) (fun z7 =>
  some z7) r5))) := by kernel_rfl
theorem r05_name_l4_eq (n f : Nat) (s : List UInt8) (i : Int) : r05_name_l4 n (f + 1) (s, i, ()) =
  tif ((decide (i < (((List.length s) : Nat) : Int)))) (
  obind (at? s i) fun r0 =>
  tif ((decide ((97 : Int) ≤ (((UInt8.toNat r0) : Nat) : Int)))) (
  tif ((decide ((((UInt8.toNat r0) : Nat) : Int) ≤ (122 : Int)))) (
  r05_name_l4 n f (s, ((IntKind.wrap .i64 (i + (1 : Int))), ()))) (
  tif ((decide ((65 : Int) ≤ (((UInt8.toNat r0) : Nat) : Int)))) (
  tif ((decide ((((UInt8.toNat r0) : Nat) : Int) ≤ (90 : Int)))) (
  r05_name_l4 n f (s, ((IntKind.wrap .i64 (i + (1 : Int))), ()))) (
  tif ((decide ((48 : Int) ≤ (((UInt8.toNat r0) : Nat) : Int)))) (
  tif ((decide ((((UInt8.toNat r0) : Nat) : Int) ≤ (57 : Int)))) (
  r05_name_l4 n f (s, ((IntKind.wrap .i64 (i + (1 : Int))), ()))) (
  tif ((!(decide ((((UInt8.toNat r0) : Nat) : Int) = (95 : Int))))) (
  some (.inr false)) (
  r05_name_l4 n f (s, ((IntKind.wrap .i64 (i + (1 : Int))), ()))))) (
  tif ((!(decide ((((UInt8.toNat r0) : Nat) : Int) = (95 : Int))))) (
  some (.inr false)) (
  r05_name_l4 n f (s, ((IntKind.wrap .i64 (i + (1 : Int))), ())))))) (
  tif ((decide ((48 : Int) ≤ (((UInt8.toNat r0) : Nat) : Int)))) (
  tif ((decide ((((UInt8.toNat r0) : Nat) : Int) ≤ (57 : Int)))) (
  r05_name_l4 n f (s, ((IntKind.wrap .i64 (i + (1 : Int))), ()))) (
  tif ((!(decide ((((UInt8.toNat r0) : Nat) : Int) = (95 : Int))))) (
  some (.inr false)) (
  r05_name_l4 n f (s, ((IntKind.wrap .i64 (i + (1 : Int))), ()))))) (
  tif ((!(decide ((((UInt8.toNat r0) : Nat) : Int) = (95 : Int))))) (
  some (.inr false)) (
  r05_name_l4 n f (s, ((IntKind.wrap .i64 (i + (1 : Int))), ()))))))) (
  tif ((decide ((65 : Int) ≤ (((UInt8.toNat r0) : Nat) : Int)))) (
  tif ((decide ((((UInt8.toNat r0) : Nat) : Int) ≤ (90 : Int)))) (
  r05_name_l4 n f (s, ((IntKind.wrap .i64 (i + (1 : Int))), ()))) (
  tif ((decide ((48 : Int) ≤ (((UInt8.toNat r0) : Nat) : Int)))) (
  tif ((decide ((((UInt8.toNat r0) : Nat) : Int) ≤ (57 : Int)))) (
  r05_name_l4 n f (s, ((IntKind.wrap .i64 (i + (1 : Int))), ()))) (
  tif ((!(decide ((((UInt8.toNat r0) : Nat) : Int) = (95 : Int))))) (
  some (.inr false)) (
  r05_name_l4 n f (s, ((IntKind.wrap .i64 (i + (1 : Int))), ()))))) (
  tif ((!(decide ((((UInt8.toNat r0) : Nat) : Int) = (95 : Int))))) (
  some (.inr false)) (
  r05_name_l4 n f (s, ((IntKind.wrap .i64 (i + (1 : Int))), ())))))) (
  tif ((decide ((48 : Int) ≤ (((UInt8.toNat r0) : Nat) : Int)))) (
  tif ((decide ((((UInt8.toNat r0) : Nat) : Int) ≤ (57 : Int)))) (
  r05_name_l4 n f (s, ((IntKind.wrap .i64 (i + (1 : Int))), ()))) (
  tif ((!(decide ((((UInt8.toNat r0) : Nat) : Int) = (95 : Int))))) (
  some (.inr false)) (
  r05_name_l4 n f (s, ((IntKind.wrap .i64 (i + (1 : Int))), ()))))) (
  tif ((!(decide ((((UInt8.toNat r0) : Nat) : Int) = (95 : Int))))) (
  some (.inr false)) (
  r05_name_l4 n f (s, ((IntKind.wrap .i64 (i + (1 : Int))), ()))))))) (
  some (.inl ())) := by kernel_rfl
theorem r07_Check_eq (n : Nat) (e : TEvent) : r07_Check (n + 1) e =
  tif ((decide (e.1 < (0 : Int)))) (
  some (2 : Int)) (
  tif ((decide ((35184372088832 : Int) ≤ e.1))) (
  some (2 : Int)) (
  tif ((decide (e.2.2.1 < (0 : Int)))) (
  some (2 : Int)) (
  tif ((decide (e.1 < e.2.2.1))) (
  some (2 : Int)) (
  tif (e.2.2.2) (
  tif ((!(decide (e.2.1 = (0 : Int))))) (
  some (2 : Int)) (
  tif ((!(decide (e.2.2.1 = (0 : Int))))) (
  some (2 : Int)) (
  some (0 : Int)))) (
  some (0 : Int)))))) := by kernel_rfl
theorem r13_Check_eq (n : Nat) (l : (List TSlot)) (w : Int) : r13_Check (n + 1) l w =
  tif ((decide ((((List.length l) : Nat) : Int) < (1 : Int)))) (
  some (2 : Int)) (
  tif ((decide ((4096 : Int) < (((List.length l) : Nat) : Int)))) (
  some (2 : Int)) (
  tif ((decide (w < (1 : Int)))) (
  some (2 : Int)) (
  tif ((decide ((1099511627776 : Int) < w))) (
  some (2 : Int)) (
  obind (r13_Check_l4 n loopFuel (l, (w, (l, ((((List.length l) : Nat) : Int), ((0 : Int), ())))))) fun r0 =>
  selim (fun y1 =>
  some (0 : Int)) (fun z2 =>
  some z2) r0)))) := by kernel_rfl
theorem r13_Check_l4_eq (n f : Nat) (l : (List TSlot)) (w : Int) (s23 : (List TSlot)) (s24 : Int) (s25 : Int) : r13_Check_l4 n (f + 1) (l, w, s23, s24, s25, ()) =
  tif ((decide (s25 < s24))) (
  obind (at? s23 s25) fun r0 =>
  tif (((decide (r0.1 = (0 : Int))) && ((decide (r0.2.1 = (0 : Int))) && ((decide (r0.2.2.1.1 = (0 : Int))) && ((decide (r0.2.2.1.2.1 = (0 : Int))) && ((decide (r0.2.2.1.2.2.1 = (0 : Int))) && ((r0.2.2.1.2.2.2 == false) && ((decide (r0.2.2.2.1.1 = (0 : Int))) && ((decide (r0.2.2.2.1.2.1 = (0 : Int))) && ((decide (r0.2.2.2.1.2.2.1 = (0 : Int))) && ((r0.2.2.2.1.2.2.2 == false) && ((decide (r0.2.2.2.2.1.1 = (0 : Int))) && ((decide (r0.2.2.2.2.1.2 = (0 : Int))) && ((decide (r0.2.2.2.2.2.1 = (0 : Int))) && ((decide (r0.2.2.2.2.2.2.1 = (0 : Int))) && (decide (r0.2.2.2.2.2.2.2 = (0 : Int)))))))))))))))))) (
  r13_Check_l4 n f (l, (w, (s23, (s24, ((IntKind.wrap .i64 (s25 + (1 : Int))), ())))))) (
  obind (r13_Fits n r0.2 w r0.1) fun r1 =>
  tif ((!r1)) (
  some (.inr (2 : Int))) (
  obind (r09_Slot n r0.1 (((List.length l) : Nat) : Int)) fun r2 =>
  tif ((!(decide (r2 = s25)))) (
  some (.inr (2 : Int))) (
  r13_Check_l4 n f (l, (w, (s23, (s24, ((IntKind.wrap .i64 (s25 + (1 : Int))), ()))))))))) (
  some (.inl ())) := by kernel_rfl
theorem r08_Check_eq (n : Nat) (c : TCell) : r08_Check (n + 1) c =
  tif (((decide (c.1 = (0 : Int))) && ((decide (c.2.1.1 = (0 : Int))) && ((decide (c.2.1.2.1 = (0 : Int))) && ((decide (c.2.1.2.2.1 = (0 : Int))) && ((c.2.1.2.2.2 == false) && ((decide (c.2.2.1.1 = (0 : Int))) && ((decide (c.2.2.1.2.1 = (0 : Int))) && ((decide (c.2.2.1.2.2.1 = (0 : Int))) && ((c.2.2.1.2.2.2 == false) && ((decide (c.2.2.2.1.1 = (0 : Int))) && ((decide (c.2.2.2.1.2 = (0 : Int))) && ((decide (c.2.2.2.2.1 = (0 : Int))) && ((decide (c.2.2.2.2.2.1 = (0 : Int))) && (decide (c.2.2.2.2.2.2 = (0 : Int))))))))))))))))) (
  some (0 : Int)) (
  tif ((decide (c.1 < (1 : Int)))) (
  some (2 : Int)) (
  obind (r07_Check n c.2.1) fun r0 =>
  tif ((!(decide (r0 = (0 : Int))))) (
  some (2 : Int)) (
  obind (r07_Check n c.2.2.1) fun r1 =>
  tif ((!(decide (r1 = (0 : Int))))) (
  some (2 : Int)) (
  tif ((decide (c.2.2.1.1 < c.2.1.1))) (
  some (2 : Int)) (
  tif ((decide ((IntKind.wrap .i64 ((IntKind.wrap .i64 (c.2.2.1.1 - c.2.1.1)) + (1 : Int))) < c.1))) (
  some (2 : Int)) (
  tif ((decide (c.1 = (1 : Int)))) (
  tif ((!((decide (c.2.1.1 = c.2.2.1.1)) && ((decide (c.2.1.2.1 = c.2.2.1.2.1)) && ((decide (c.2.1.2.2.1 = c.2.2.1.2.2.1)) && (c.2.1.2.2.2 == c.2.2.1.2.2.2)))))) (
  some (2 : Int)) (
  tif ((decide ((1 : Int) < c.1))) (
  tif ((decide (c.2.1.1 = c.2.2.1.1))) (
  some (2 : Int)) (
  tif ((decide (c.2.2.2.2.1 < (0 : Int)))) (
  some (2 : Int)) (
  tif ((decide (c.2.2.2.2.2.1 < (0 : Int)))) (
  some (2 : Int)) (
  tif ((decide (c.2.2.2.2.2.2 < (0 : Int)))) (
  some (2 : Int)) (
  tif ((decide (c.1 ≤ c.2.2.2.2.1))) (
  some (2 : Int)) (
  tif ((decide (c.1 ≤ c.2.2.2.2.2.1))) (
  some (2 : Int)) (
  tif ((decide (c.1 ≤ (IntKind.wrap .i64 (c.2.2.2.2.1 + c.2.2.2.2.2.1))))) (
  some (2 : Int)) (
  tif ((decide ((IntKind.wrap .i64 (c.2.2.1.1 - c.2.1.1)) < c.2.2.2.2.2.2))) (
  some (2 : Int)) (
  obind (r01_Times n ((0 : Int), (18446744073709551615 : Int)) (IntKind.wrap .u64 (IntKind.wrap .i64 (c.1 - (1 : Int))))) fun r2 =>
  obind (r01_Less n r2.1 c.2.2.2.1) fun r3 =>
  tif (r3) (
  some (2 : Int)) (
  some (0 : Int))))))))))) (
  tif ((decide (c.2.2.2.2.1 < (0 : Int)))) (
  some (2 : Int)) (
  tif ((decide (c.2.2.2.2.2.1 < (0 : Int)))) (
  some (2 : Int)) (
  tif ((decide (c.2.2.2.2.2.2 < (0 : Int)))) (
  some (2 : Int)) (
  tif ((decide (c.1 ≤ c.2.2.2.2.1))) (
  some (2 : Int)) (
  tif ((decide (c.1 ≤ c.2.2.2.2.2.1))) (
  some (2 : Int)) (
  tif ((decide (c.1 ≤ (IntKind.wrap .i64 (c.2.2.2.2.1 + c.2.2.2.2.2.1))))) (
  some (2 : Int)) (
  tif ((decide ((IntKind.wrap .i64 (c.2.2.1.1 - c.2.1.1)) < c.2.2.2.2.2.2))) (
  some (2 : Int)) (
  obind (r01_Times n ((0 : Int), (18446744073709551615 : Int)) (IntKind.wrap .u64 (IntKind.wrap .i64 (c.1 - (1 : Int))))) fun r4 =>
  obind (r01_Less n r4.1 c.2.2.2.1) fun r5 =>
  tif (r5) (
  some (2 : Int)) (
  some (0 : Int)))))))))))) (
  tif ((decide ((1 : Int) < c.1))) (
  tif ((decide (c.2.1.1 = c.2.2.1.1))) (
  some (2 : Int)) (
  tif ((decide (c.2.2.2.2.1 < (0 : Int)))) (
  some (2 : Int)) (
  tif ((decide (c.2.2.2.2.2.1 < (0 : Int)))) (
  some (2 : Int)) (
  tif ((decide (c.2.2.2.2.2.2 < (0 : Int)))) (
  some (2 : Int)) (
  tif ((decide (c.1 ≤ c.2.2.2.2.1))) (
  some (2 : Int)) (
  tif ((decide (c.1 ≤ c.2.2.2.2.2.1))) (
  some (2 : Int)) (
  tif ((decide (c.1 ≤ (IntKind.wrap .i64 (c.2.2.2.2.1 + c.2.2.2.2.2.1))))) (
  some (2 : Int)) (
  tif ((decide ((IntKind.wrap .i64 (c.2.2.1.1 - c.2.1.1)) < c.2.2.2.2.2.2))) (
  some (2 : Int)) (
  obind (r01_Times n ((0 : Int), (18446744073709551615 : Int)) (IntKind.wrap .u64 (IntKind.wrap .i64 (c.1 - (1 : Int))))) fun r6 =>
  obind (r01_Less n r6.1 c.2.2.2.1) fun r7 =>
  tif (r7) (
  some (2 : Int)) (
  some (0 : Int))))))))))) (
  tif ((decide (c.2.2.2.2.1 < (0 : Int)))) (
  some (2 : Int)) (
  tif ((decide (c.2.2.2.2.2.1 < (0 : Int)))) (
  some (2 : Int)) (
  tif ((decide (c.2.2.2.2.2.2 < (0 : Int)))) (
  some (2 : Int)) (
  tif ((decide (c.1 ≤ c.2.2.2.2.1))) (
  some (2 : Int)) (
  tif ((decide (c.1 ≤ c.2.2.2.2.2.1))) (
  some (2 : Int)) (
  tif ((decide (c.1 ≤ (IntKind.wrap .i64 (c.2.2.2.2.1 + c.2.2.2.2.2.1))))) (
  some (2 : Int)) (
  tif ((decide ((IntKind.wrap .i64 (c.2.2.1.1 - c.2.1.1)) < c.2.2.2.2.2.2))) (
  some (2 : Int)) (
  obind (r01_Times n ((0 : Int), (18446744073709551615 : Int)) (IntKind.wrap .u64 (IntKind.wrap .i64 (c.1 - (1 : Int))))) fun r8 =>
  obind (r01_Less n r8.1 c.2.2.2.1) fun r9 =>
  tif (r9) (
  some (2 : Int)) (
  some (0 : Int))))))))))))))))) := by kernel_rfl
theorem conf_parts_eq (n : Nat) (n_ : Int) (by_ : Int) : conf_parts (n + 1) n_ by_ =
  tif ((decide (by_ = (0 : Int)))) (
  none) (
  some (IntKind.wrap .i64 (Int.tdiv (IntKind.wrap .i64 ((IntKind.wrap .i64 (n_ + by_)) - (1 : Int))) by_))) := by kernel_rfl
theorem r10_parts_eq (n : Nat) (n_ : Int) (each : Int) : r10_parts (n + 1) n_ each =
  obind (r10_parts_l2 n loopFuel (n_, (each, ((0 : Int), ())))) fun r0 =>
  selim (fun y1 =>
  some y1.1) (fun z2 =>
  some z2) r0 := by kernel_rfl
theorem r10_parts_l2_eq (n f : Nat) (n_ : Int) (each : Int) (k : Int) : r10_parts_l2 n (f + 1) (n_, each, k, ()) =
  tif ((decide ((0 : Int) < n_))) (
  r10_parts_l2 n f ((IntKind.wrap .i64 (n_ - each)), (each, ((IntKind.wrap .i64 (k + (1 : Int))), ())))) (
  some (.inl (k, ()))) := by kernel_rfl
theorem tier_Check_eq (n : Nat) (l : (List TSlot)) (w : Int) : tier_Check (n + 1) l w =
  tif ((decide ((((List.length l) : Nat) : Int) = (0 : Int)))) (
  some (2 : Int)) (
  tif ((decide ((4096 : Int) < (((List.length l) : Nat) : Int)))) (
  some (2 : Int)) (
  tif ((decide (w < (1 : Int)))) (
  some (2 : Int)) (
  tif ((decide ((1099511627776 : Int) < w))) (
  some (2 : Int)) (
  obind (tier_Check_l4 n loopFuel (l, (w, (l, ((((List.length l) : Nat) : Int), ((0 : Int), ())))))) fun r0 =>
  selim (fun y1 =>
  some (0 : Int)) (fun z2 =>
  some z2) r0)))) := by kernel_rfl
theorem tier_Check_l4_eq (n f : Nat) (l : (List TSlot)) (w : Int) (s23 : (List TSlot)) (s24 : Int) (s25 : Int) : tier_Check_l4 n (f + 1) (l, w, s23, s24, s25, ()) =
  tif ((decide (s25 < s24))) (
  obind (at? s23 s25) fun r0 =>
  obind (tier_none n r0) fun r1 =>
  tif ((!r1)) (
  obind (window_Slot n r0.1 (((List.length l) : Nat) : Int)) fun r2 =>
  tif ((!(decide (r2 = s25)))) (
  some (.inr (2 : Int))) (
  obind (tier_Fits n r0.2 w r0.1) fun r3 =>
  tif ((!r3)) (
  some (.inr (2 : Int))) (
  tier_Check_l4 n f (l, (w, (s23, (s24, ((IntKind.wrap .i64 (s25 + (1 : Int))), ())))))))) (
  tier_Check_l4 n f (l, (w, (s23, (s24, ((IntKind.wrap .i64 (s25 + (1 : Int))), ()))))))) (
  some (.inl ())) := by kernel_rfl
theorem label_digit_eq (n : Nat) (c : Int) : label_digit (n + 1) c =
  tif ((decide ((48 : Int) ≤ c))) (
  some (decide (c ≤ (57 : Int)))) (
  some false) := by kernel_rfl
theorem slices_ContainsFunc_byte_eq (n : Nat) (s : (List Int)) (f_ : ((Int × Unit) → Option Bool)) : slices_ContainsFunc_byte (n + 1) s f_ =
  obind (slices_IndexFunc_byte n s f_) fun r0 =>
  some (decide ((0 : Int) ≤ r0)) := by kernel_rfl
theorem label_name_1_eq (n : Nat) (c : Int) : label_name_1 (n + 1) c =
  obind (label_sign n c) fun r0 =>
  some (!r0) := by kernel_rfl
theorem label_sign_eq (n : Nat) (c : Int) : label_sign (n + 1) c =
  obind (label_digit n c) fun r0 =>
  tif (r0) (
  some true) (
  tif ((decide (c = (95 : Int)))) (
  some true) (
  tif ((decide ((97 : Int) ≤ (orI .u8 c (32 : Int))))) (
  some (decide ((orI .u8 c (32 : Int)) ≤ (122 : Int)))) (
  some false))) := by kernel_rfl
theorem event_Follow_eq (n : Nat) (p : TEvent) (c : TEvent) : event_Follow (n + 1) p c =
  obind (event_right n (p :: (c :: []))) fun r0 =>
  tif (r0) (
  some (decide (p.1 < c.1))) (
  some false) := by kernel_rfl
theorem slices_ContainsFunc_Slot_eq (n : Nat) (s : (List TSlot)) (f_ : ((TSlot × Unit) → Option Bool)) : slices_ContainsFunc_Slot (n + 1) s f_ =
  obind (slices_IndexFunc_Slot n s f_) fun r0 =>
  some (decide ((0 : Int) ≤ r0)) := by kernel_rfl
theorem series_behind_1_eq (n : Nat) (s : TSlot) (p1 : Int) : series_behind_1 (n + 1) s p1 =
  tif ((decide ((0 : Int) < s.2.1))) (
  some (decide (p1 ≤ s.1))) (
  some false) := by kernel_rfl
theorem slices_DeleteFunc_Slot_eq (n : Nat) (s : (List TSlot)) (del : ((TSlot × Unit) → Option Bool)) : slices_DeleteFunc_Slot (n + 1) s del =
  obind (slices_IndexFunc_Slot n s del) fun r0 =>
  tif ((decide (r0 = ((-1) : Int)))) (
  some s) (
  obind (slices_DeleteFunc_Slot_l5 n loopFuel (s, (del, (r0, ((IntKind.wrap .i64 (r0 + (1 : Int))), ()))))) fun r1 =>
  selim (fun y2 =>
  tif ((decide ((0 : Int) ≤ y2.2.1))) (
  tif ((decide ((Int.toNat y2.2.1) ≤ (List.length y2.1)))) (
  tif ((decide (((Int.toNat y2.2.1) + ((List.length y2.1) - (Int.toNat y2.2.1))) ≤ (List.length y2.1)))) (
  tif (((decide ((0 : Int) ≤ y2.2.1)) && (decide (y2.2.1 ≤ (((List.length (Go.Flat.putRow y2.1 (Int.toNat y2.2.1) (List.replicate ((List.length y2.1) - (Int.toNat y2.2.1)) ((0 : Int), ((0 : Int), (((0 : Int), ((0 : Int), ((0 : Int), false))), (((0 : Int), ((0 : Int), ((0 : Int), false))), (((0 : Int), (0 : Int)), ((0 : Int), ((0 : Int), (0 : Int))))))))))) : Nat) : Int))))) (
  some (List.take ((Int.toNat y2.2.1) - 0) (Go.Flat.putRow y2.1 (Int.toNat y2.2.1) (List.replicate ((List.length y2.1) - (Int.toNat y2.2.1)) ((0 : Int), ((0 : Int), (((0 : Int), ((0 : Int), ((0 : Int), false))), (((0 : Int), ((0 : Int), ((0 : Int), false))), (((0 : Int), (0 : Int)), ((0 : Int), ((0 : Int), (0 : Int)))))))))))) (
  none)) (
  none)) (
  none)) (
  none)) (fun z3 =>
  some z3) r1) := by kernel_rfl
theorem slices_DeleteFunc_Slot_l5_eq (n f : Nat) (s : (List TSlot)) (del : ((TSlot × Unit) → Option Bool)) (i : Int) (j : Int) : slices_DeleteFunc_Slot_l5 n (f + 1) (s, del, i, j, ()) =
  tif ((decide (j < (((List.length s) : Nat) : Int)))) (
  obind (at? s j) fun r0 =>
  obind ((s)[(Int.toNat j)]?) fun r1 =>
  obind (del (r1, ())) fun r2 =>
  tif ((!r2)) (
  obind (at? s i) fun r3 =>
  obind ((s)[(Int.toNat i)]?) fun r4 =>
  slices_DeleteFunc_Slot_l5 n f ((List.set s (Int.toNat i) r1), (del, ((IntKind.wrap .i64 (i + (1 : Int))), ((IntKind.wrap .i64 (j + (1 : Int))), ()))))) (
  slices_DeleteFunc_Slot_l5 n f (s, (del, (i, ((IntKind.wrap .i64 (j + (1 : Int))), ())))))) (
  some (.inl (s, (i, ())))) := by kernel_rfl
theorem tier_none_eq (n : Nat) (s : TSlot) : tier_none (n + 1) s =
  some ((decide (s.1 = (0 : Int))) && ((decide (s.2.1 = (0 : Int))) && ((decide (s.2.2.1.1 = (0 : Int))) && ((decide (s.2.2.1.2.1 = (0 : Int))) && ((decide (s.2.2.1.2.2.1 = (0 : Int))) && ((s.2.2.1.2.2.2 == false) && ((decide (s.2.2.2.1.1 = (0 : Int))) && ((decide (s.2.2.2.1.2.1 = (0 : Int))) && ((decide (s.2.2.2.1.2.2.1 = (0 : Int))) && ((s.2.2.2.1.2.2.2 == false) && ((decide (s.2.2.2.2.1.1 = (0 : Int))) && ((decide (s.2.2.2.2.1.2 = (0 : Int))) && ((decide (s.2.2.2.2.2.1 = (0 : Int))) && ((decide (s.2.2.2.2.2.2.1 = (0 : Int))) && (decide (s.2.2.2.2.2.2.2 = (0 : Int))))))))))))))))) := by kernel_rfl
theorem slices_SortStableFunc_Slot_eq (n : Nat) (x : (List TSlot)) (cmp : ((TSlot × (TSlot × Unit)) → Option Int)) : slices_SortStableFunc_Slot (n + 1) x cmp =
  obind (slices_stableCmpFunc_Slot n x (((List.length x) : Nat) : Int) cmp) fun r0 =>
  some r0 := by kernel_rfl
theorem tier_All_1_eq (n : Nat) (a : TSlot) (b : TSlot) : tier_All_1 (n + 1) a b =
  obind (cmp_Compare_int64 n a.1 b.1) fun r0 =>
  some r0 := by kernel_rfl
theorem cmp_Compare_int64_eq (n : Nat) (x : Int) (y : Int) : cmp_Compare_int64 (n + 1) x y =
  obind (cmp_isNaN_int64 n x) fun r0 =>
  obind (cmp_isNaN_int64 n y) fun r1 =>
  tif (r0) (
  tif (r1) (
  some (0 : Int)) (
  some ((-1) : Int))) (
  tif (r1) (
  some (1 : Int)) (
  tif ((decide (x < y))) (
  some ((-1) : Int)) (
  tif ((decide (y < x))) (
  some (1 : Int)) (
  some (0 : Int))))) := by kernel_rfl
theorem cell_spans_eq (n : Nat) (c : TCell) : cell_spans (n + 1) c =
  tif ((decide (c.1 = (1 : Int)))) (
  tif (((decide (c.2.1.1 = c.2.2.1.1)) && ((decide (c.2.1.2.1 = c.2.2.1.2.1)) && ((decide (c.2.1.2.2.1 = c.2.2.1.2.2.1)) && (c.2.1.2.2.2 == c.2.2.1.2.2.2))))) (
  obind (event_Check n c.2.1) fun r0 =>
  some (decide (r0 = (0 : Int)))) (
  some false)) (
  tif ((decide ((1 : Int) < c.1))) (
  obind (event_Follow n c.2.1 c.2.2.1) fun r1 =>
  tif (r1) (
  some (decide ((IntKind.wrap .i64 (c.1 - (1 : Int))) ≤ (IntKind.wrap .i64 (c.2.2.1.1 - c.2.1.1))))) (
  some false)) (
  some false)) := by kernel_rfl
theorem wide_Times_eq (n : Nat) (a : (Int × Int)) (n_ : Int) : wide_Times (n + 1) a n_ =
  obind (math_bits_Mul64 n a.2 n_) fun r0 =>
  obind (math_bits_Mul64 n a.1 n_) fun r1 =>
  tif (((decide ((0 : Int) ≤ r1.2)) && ((decide ((0 : Int) ≤ r0.1)) && true))) (
  obind (wide_sure n ((((r1.2 + r0.1) + (0 : Int)) % (18446744073709551616 : Int)), r0.2) (orI .u64 r1.1 (((r1.2 + r0.1) + (0 : Int)) / (18446744073709551616 : Int)))) fun r2 =>
  some r2) (
  none) := by kernel_rfl
theorem wide_Of_eq (n : Nat) (n_ : Int) : wide_Of (n + 1) n_ =
  some ((0 : Int), n_) := by kernel_rfl
theorem wide_Less_eq (n : Nat) (a : (Int × Int)) (b : (Int × Int)) : wide_Less (n + 1) a b =
  tif ((decide (a.1 < b.1))) (
  some true) (
  tif ((decide (a.1 = b.1))) (
  some (decide (a.2 < b.2))) (
  some false)) := by kernel_rfl
theorem cell_in_eq (n : Nat) (n_ : Int) (most : Int) : cell_in (n + 1) n_ most =
  tif ((decide ((0 : Int) ≤ n_))) (
  some (decide (n_ ≤ most))) (
  some false) := by kernel_rfl
theorem event_Between_eq (n : Nat) (p : TEvent) (c : TEvent) : event_Between (n + 1) p c =
  obind (event_right n (p :: (c :: []))) fun r0 =>
  tif ((!r0)) (
  some (((0 : Int), (((0 : Int), ((0 : Int), ((0 : Int), false))), (((0 : Int), ((0 : Int), ((0 : Int), false))), (((0 : Int), (0 : Int)), ((0 : Int), ((0 : Int), (0 : Int))))))), (2 : Int))) (
  tif ((decide (c.1 ≤ p.1))) (
  some (((0 : Int), (((0 : Int), ((0 : Int), ((0 : Int), false))), (((0 : Int), ((0 : Int), ((0 : Int), false))), (((0 : Int), (0 : Int)), ((0 : Int), ((0 : Int), (0 : Int))))))), (9 : Int))) (
  tif (c.2.2.2) (
  some (((0 : Int), (((0 : Int), ((0 : Int), ((0 : Int), false))), (((0 : Int), ((0 : Int), ((0 : Int), false))), (((0 : Int), (0 : Int)), ((0 : Int), ((0 : Int), (0 : Int))))))), (0 : Int))) (
  tif ((decide (p.1 < c.2.2.1))) (
  obind (event_anew n c (IntKind.wrap .i64 (c.1 - c.2.2.1))) fun r1 =>
  some (r1, (0 : Int))) (
  tif (p.2.2.2) (
  some (((0 : Int), (((0 : Int), ((0 : Int), ((0 : Int), false))), (((0 : Int), ((0 : Int), ((0 : Int), false))), (((0 : Int), (0 : Int)), ((0 : Int), ((1 : Int), (0 : Int))))))), (0 : Int))) (
  tif ((decide (c.2.1 < p.2.1))) (
  obind (event_anew n c (IntKind.wrap .i64 (c.1 - p.1))) fun r2 =>
  some (r2, (0 : Int))) (
  obind (wide_Of n (IntKind.wrap .u64 (c.2.1 - p.2.1))) fun r3 =>
  some (((0 : Int), (((0 : Int), ((0 : Int), ((0 : Int), false))), (((0 : Int), ((0 : Int), ((0 : Int), false))), (r3, ((0 : Int), ((0 : Int), (IntKind.wrap .i64 (c.1 - p.1)))))))), (0 : Int)))))))) := by kernel_rfl
theorem wide_Sum_eq (n : Nat) (l : (List (Int × Int))) : wide_Sum (n + 1) l =
  obind (wide_Sum_l3 n loopFuel (((0 : Int), (0 : Int)), (((0 : Int), (0 : Int)), (l, ((((List.length l) : Nat) : Int), ((0 : Int), ())))))) fun r0 =>
  selim (fun y1 =>
  some (y1.2.1, (0 : Int))) (fun z2 =>
  some z2) r0 := by kernel_rfl
theorem wide_Sum_l3_eq (n f : Nat) (s2 : (Int × Int)) (a : (Int × Int)) (s9 : (List (Int × Int))) (s10 : Int) (s11 : Int) : wide_Sum_l3 n (f + 1) (s2, a, s9, s10, s11, ()) =
  tif ((decide (s11 < s10))) (
  obind (at? s9 s11) fun r0 =>
  obind (wide_Add n a r0) fun r1 =>
  tif ((!(decide (r1.2 = (0 : Int))))) (
  some (.inr (((0 : Int), (0 : Int)), r1.2))) (
  wide_Sum_l3 n f (s2, (r1.1, (s9, (s10, ((IntKind.wrap .i64 (s11 + (1 : Int))), ()))))))) (
  some (.inl (s2, (a, ())))) := by kernel_rfl
theorem r09_Slot_eq (n : Nat) (i : Int) (n_ : Int) : r09_Slot (n + 1) i n_ =
  tif ((decide (i < (0 : Int)))) (
  some (0 : Int)) (
  tif ((decide (n_ < (1 : Int)))) (
  some (0 : Int)) (
  tif ((decide (n_ = (0 : Int)))) (
  none) (
  some (Int.tmod i n_)))) := by kernel_rfl
theorem r01_Times_eq (n : Nat) (a : (Int × Int)) (n_ : Int) : r01_Times (n + 1) a n_ =
  obind (r01_Times_l4 n loopFuel (n_, (a, (((0 : Int), (0 : Int)), (((0 : Int), (0 : Int)), (false, ())))))) fun r0 =>
  selim (fun y1 =>
  some (y1.2.1, (0 : Int))) (fun z2 =>
  some z2) r0 := by kernel_rfl
theorem r01_Times_l4_eq (n f : Nat) (n_ : Int) (a_ : (Int × Int)) (s4 : (Int × Int)) (out : (Int × Int)) (over : Bool) : r01_Times_l4 n (f + 1) (n_, a_, s4, out, over, ()) =
  tif ((decide ((0 : Int) < n_))) (
  tif ((decide ((Int.tmod n_ (2 : Int)) = (1 : Int)))) (
  tif (over) (
  some (.inr (((0 : Int), (0 : Int)), (1 : Int)))) (
  obind (r01_Add n out a_) fun r0 =>
  tif ((!(decide (r0.2 = (0 : Int))))) (
  some (.inr (((0 : Int), (0 : Int)), r0.2))) (
  obind (r01_Add n a_ a_) fun r1 =>
  tif (over) (
  r01_Times_l4 n f ((IntKind.wrap .u64 (Int.tdiv n_ (2 : Int))), (r1.1, (s4, (r0.1, (true, ())))))) (
  r01_Times_l4 n f ((IntKind.wrap .u64 (Int.tdiv n_ (2 : Int))), (r1.1, (s4, (r0.1, ((!(decide (r1.2 = (0 : Int)))), ()))))))))) (
  obind (r01_Add n a_ a_) fun r2 =>
  tif (over) (
  r01_Times_l4 n f ((IntKind.wrap .u64 (Int.tdiv n_ (2 : Int))), (r2.1, (s4, (out, (true, ())))))) (
  r01_Times_l4 n f ((IntKind.wrap .u64 (Int.tdiv n_ (2 : Int))), (r2.1, (s4, (out, ((!(decide (r2.2 = (0 : Int)))), ())))))))) (
  some (.inl (s4, (out, ())))) := by kernel_rfl
theorem r01_Less_eq (n : Nat) (a : (Int × Int)) (b : (Int × Int)) : r01_Less (n + 1) a b =
  obind (r01_Bytes n a) fun r0 =>
  obind (r01_Bytes n b) fun r1 =>
  tif ((!(decide (r0.2.2.2.2.2.2.2.2.2.2.2.2.2.2.2 = r1.2.2.2.2.2.2.2.2.2.2.2.2.2.2.2)))) (
  some (decide (r0.2.2.2.2.2.2.2.2.2.2.2.2.2.2.2 < r1.2.2.2.2.2.2.2.2.2.2.2.2.2.2.2))) (
  tif ((!(decide (r0.2.2.2.2.2.2.2.2.2.2.2.2.2.2.1 = r1.2.2.2.2.2.2.2.2.2.2.2.2.2.2.1)))) (
  some (decide (r0.2.2.2.2.2.2.2.2.2.2.2.2.2.2.1 < r1.2.2.2.2.2.2.2.2.2.2.2.2.2.2.1))) (
  tif ((!(decide (r0.2.2.2.2.2.2.2.2.2.2.2.2.2.1 = r1.2.2.2.2.2.2.2.2.2.2.2.2.2.1)))) (
  some (decide (r0.2.2.2.2.2.2.2.2.2.2.2.2.2.1 < r1.2.2.2.2.2.2.2.2.2.2.2.2.2.1))) (
  tif ((!(decide (r0.2.2.2.2.2.2.2.2.2.2.2.2.1 = r1.2.2.2.2.2.2.2.2.2.2.2.2.1)))) (
  some (decide (r0.2.2.2.2.2.2.2.2.2.2.2.2.1 < r1.2.2.2.2.2.2.2.2.2.2.2.2.1))) (
  tif ((!(decide (r0.2.2.2.2.2.2.2.2.2.2.2.1 = r1.2.2.2.2.2.2.2.2.2.2.2.1)))) (
  some (decide (r0.2.2.2.2.2.2.2.2.2.2.2.1 < r1.2.2.2.2.2.2.2.2.2.2.2.1))) (
  tif ((!(decide (r0.2.2.2.2.2.2.2.2.2.2.1 = r1.2.2.2.2.2.2.2.2.2.2.1)))) (
  some (decide (r0.2.2.2.2.2.2.2.2.2.2.1 < r1.2.2.2.2.2.2.2.2.2.2.1))) (
  tif ((!(decide (r0.2.2.2.2.2.2.2.2.2.1 = r1.2.2.2.2.2.2.2.2.2.1)))) (
  some (decide (r0.2.2.2.2.2.2.2.2.2.1 < r1.2.2.2.2.2.2.2.2.2.1))) (
  tif ((!(decide (r0.2.2.2.2.2.2.2.2.1 = r1.2.2.2.2.2.2.2.2.1)))) (
  some (decide (r0.2.2.2.2.2.2.2.2.1 < r1.2.2.2.2.2.2.2.2.1))) (
  tif ((!(decide (r0.2.2.2.2.2.2.2.1 = r1.2.2.2.2.2.2.2.1)))) (
  some (decide (r0.2.2.2.2.2.2.2.1 < r1.2.2.2.2.2.2.2.1))) (
  tif ((!(decide (r0.2.2.2.2.2.2.1 = r1.2.2.2.2.2.2.1)))) (
  some (decide (r0.2.2.2.2.2.2.1 < r1.2.2.2.2.2.2.1))) (
  tif ((!(decide (r0.2.2.2.2.2.1 = r1.2.2.2.2.2.1)))) (
  some (decide (r0.2.2.2.2.2.1 < r1.2.2.2.2.2.1))) (
  tif ((!(decide (r0.2.2.2.2.1 = r1.2.2.2.2.1)))) (
  some (decide (r0.2.2.2.2.1 < r1.2.2.2.2.1))) (
  tif ((!(decide (r0.2.2.2.1 = r1.2.2.2.1)))) (
  some (decide (r0.2.2.2.1 < r1.2.2.2.1))) (
  tif ((!(decide (r0.2.2.1 = r1.2.2.1)))) (
  some (decide (r0.2.2.1 < r1.2.2.1))) (
  tif ((!(decide (r0.2.1 = r1.2.1)))) (
  some (decide (r0.2.1 < r1.2.1))) (
  tif ((!(decide (r0.1 = r1.1)))) (
  some (decide (r0.1 < r1.1))) (
  some false)))))))))))))))) := by kernel_rfl
theorem window_Slot_eq (n : Nat) (i : Int) (n_ : Int) : window_Slot (n + 1) i n_ =
  tif ((decide (i < (0 : Int)))) (
  some (0 : Int)) (
  tif ((decide (n_ < (1 : Int)))) (
  some (0 : Int)) (
  tif ((decide (n_ = (0 : Int)))) (
  none) (
  some (Int.tmod i n_)))) := by kernel_rfl
theorem slices_IndexFunc_byte_eq (n : Nat) (s : (List Int)) (f_ : ((Int × Unit) → Option Bool)) : slices_IndexFunc_byte (n + 1) s f_ =
  obind (slices_IndexFunc_byte_l2 n loopFuel (s, (f_, ((((List.length s) : Nat) : Int), ((0 : Int), ()))))) fun r0 =>
  selim (fun y1 =>
  some ((-1) : Int)) (fun z2 =>
  some z2) r0 := by kernel_rfl
theorem slices_IndexFunc_byte_l2_eq (n f : Nat) (s : (List Int)) (f_ : ((Int × Unit) → Option Bool)) (s7 : Int) (s8 : Int) : slices_IndexFunc_byte_l2 n (f + 1) (s, f_, s7, s8, ()) =
  tif ((decide (s8 < s7))) (
  obind (at? s s8) fun r0 =>
  obind (f_ (r0, ())) fun r1 =>
  tif (r1) (
  some (.inr s8)) (
  slices_IndexFunc_byte_l2 n f (s, (f_, (s7, ((IntKind.wrap .i64 (s8 + (1 : Int))), ())))))) (
  some (.inl ())) := by kernel_rfl
theorem event_right_eq (n : Nat) (l : (List TEvent)) : event_right (n + 1) l =
  obind (event_right_l2 n loopFuel (l, ((((List.length l) : Nat) : Int), ((0 : Int), ())))) fun r0 =>
  selim (fun y1 =>
  some true) (fun z2 =>
  some z2) r0 := by kernel_rfl
theorem event_right_l2_eq (n f : Nat) (s5 : (List TEvent)) (s6 : Int) (s7 : Int) : event_right_l2 n (f + 1) (s5, s6, s7, ()) =
  tif ((decide (s7 < s6))) (
  obind (at? s5 s7) fun r0 =>
  obind (event_Check n r0) fun r1 =>
  tif ((!(decide (r1 = (0 : Int))))) (
  some (.inr false)) (
  event_right_l2 n f (s5, (s6, ((IntKind.wrap .i64 (s7 + (1 : Int))), ()))))) (
  some (.inl ())) := by kernel_rfl
theorem slices_IndexFunc_Slot_eq (n : Nat) (s : (List TSlot)) (f_ : ((TSlot × Unit) → Option Bool)) : slices_IndexFunc_Slot (n + 1) s f_ =
  obind (slices_IndexFunc_Slot_l2 n loopFuel (s, (f_, ((((List.length s) : Nat) : Int), ((0 : Int), ()))))) fun r0 =>
  selim (fun y1 =>
  some ((-1) : Int)) (fun z2 =>
  some z2) r0 := by kernel_rfl
theorem slices_IndexFunc_Slot_l2_eq (n f : Nat) (s : (List TSlot)) (f_ : ((TSlot × Unit) → Option Bool)) (s7 : Int) (s8 : Int) : slices_IndexFunc_Slot_l2 n (f + 1) (s, f_, s7, s8, ()) =
  tif ((decide (s8 < s7))) (
  obind (at? s s8) fun r0 =>
  obind (f_ (r0, ())) fun r1 =>
  tif (r1) (
  some (.inr s8)) (
  slices_IndexFunc_Slot_l2 n f (s, (f_, (s7, ((IntKind.wrap .i64 (s8 + (1 : Int))), ())))))) (
  some (.inl ())) := by kernel_rfl
theorem slices_stableCmpFunc_Slot_eq (n : Nat) (data : (List TSlot)) (n_ : Int) (cmp : ((TSlot × (TSlot × Unit)) → Option Int)) : slices_stableCmpFunc_Slot (n + 1) data n_ cmp =
  obind (slices_stableCmpFunc_Slot_l2 n loopFuel (data, (n_, (cmp, ((20 : Int), ((0 : Int), ((20 : Int), ()))))))) fun r0 =>
  selim (fun y1 =>
  obind (slices_insertionSortCmpFunc_Slot n y1.1 y1.2.2.2.2.1 y1.2.1 y1.2.2.1) fun r2 =>
  obind (slices_stableCmpFunc_Slot_l7 n loopFuel (r2, (y1.2.1, (y1.2.2.1, (y1.2.2.2.1, ()))))) fun r3 =>
  selim (fun y4 =>
  some y4.1) (fun z5 =>
  some z5) r3) (fun z6 =>
  some z6) r0 := by kernel_rfl
theorem slices_stableCmpFunc_Slot_l2_eq (n f : Nat) (data : (List TSlot)) (n_ : Int) (cmp : ((TSlot × (TSlot × Unit)) → Option Int)) (blockSize : Int) (a : Int) (b : Int) : slices_stableCmpFunc_Slot_l2 n (f + 1) (data, n_, cmp, blockSize, a, b, ()) =
  tif ((decide (b ≤ n_))) (
  obind (slices_insertionSortCmpFunc_Slot n data a b cmp) fun r0 =>
  slices_stableCmpFunc_Slot_l2 n f (r0, (n_, (cmp, (blockSize, (b, ((IntKind.wrap .i64 (b + blockSize)), ()))))))) (
  some (.inl (data, (n_, (cmp, (blockSize, (a, ()))))))) := by kernel_rfl
theorem slices_stableCmpFunc_Slot_l7_eq (n f : Nat) (data : (List TSlot)) (n_ : Int) (cmp : ((TSlot × (TSlot × Unit)) → Option Int)) (blockSize : Int) : slices_stableCmpFunc_Slot_l7 n (f + 1) (data, n_, cmp, blockSize, ()) =
  tif ((decide (blockSize < n_))) (
  obind (slices_stableCmpFunc_Slot_l9 n loopFuel (data, (n_, (cmp, (blockSize, ((0 : Int), ((IntKind.wrap .i64 ((2 : Int) * blockSize)), ()))))))) fun r0 =>
  selim (fun y1 =>
  tif ((decide ((IntKind.wrap .i64 (y1.2.2.2.2.1 + y1.2.2.2.1)) < y1.2.1))) (
  obind (slices_symMergeCmpFunc_Slot n y1.1 y1.2.2.2.2.1 (IntKind.wrap .i64 (y1.2.2.2.2.1 + y1.2.2.2.1)) y1.2.1 y1.2.2.1) fun r2 =>
  slices_stableCmpFunc_Slot_l7 n f (r2, (y1.2.1, (y1.2.2.1, ((IntKind.wrap .i64 (y1.2.2.2.1 * (2 : Int))), ()))))) (
  slices_stableCmpFunc_Slot_l7 n f (y1.1, (y1.2.1, (y1.2.2.1, ((IntKind.wrap .i64 (y1.2.2.2.1 * (2 : Int))), ())))))) (fun z3 =>
  some (.inr z3)) r0) (
  some (.inl (data, ()))) := by kernel_rfl
theorem slices_stableCmpFunc_Slot_l9_eq (n f : Nat) (data : (List TSlot)) (n_ : Int) (cmp : ((TSlot × (TSlot × Unit)) → Option Int)) (blockSize : Int) (a : Int) (b : Int) : slices_stableCmpFunc_Slot_l9 n (f + 1) (data, n_, cmp, blockSize, a, b, ()) =
  tif ((decide (b ≤ n_))) (
  obind (slices_symMergeCmpFunc_Slot n data a (IntKind.wrap .i64 (a + blockSize)) b cmp) fun r0 =>
  slices_stableCmpFunc_Slot_l9 n f (r0, (n_, (cmp, (blockSize, (b, ((IntKind.wrap .i64 (b + (IntKind.wrap .i64 ((2 : Int) * blockSize)))), ()))))))) (
  some (.inl (data, (n_, (cmp, (blockSize, (a, ()))))))) := by kernel_rfl
theorem cmp_isNaN_int64_eq (n : Nat) (x : Int) : cmp_isNaN_int64 (n + 1) x =
  some (!(decide (x = x))) := by kernel_rfl
theorem math_bits_Mul64_eq (n : Nat) (x : Int) (y : Int) : math_bits_Mul64 (n + 1) x y =
  some ((IntKind.wrap .u64 ((IntKind.wrap .u64 ((IntKind.wrap .u64 ((shrI .u64 x (32 : Int)) * (shrI .u64 y (32 : Int)))) + (shrI .u64 (IntKind.wrap .u64 ((IntKind.wrap .u64 ((shrI .u64 x (32 : Int)) * (andI .u64 y (4294967295 : Int)))) + (shrI .u64 (IntKind.wrap .u64 ((andI .u64 x (4294967295 : Int)) * (andI .u64 y (4294967295 : Int)))) (32 : Int)))) (32 : Int)))) + (shrI .u64 (IntKind.wrap .u64 ((andI .u64 (IntKind.wrap .u64 ((IntKind.wrap .u64 ((shrI .u64 x (32 : Int)) * (andI .u64 y (4294967295 : Int)))) + (shrI .u64 (IntKind.wrap .u64 ((andI .u64 x (4294967295 : Int)) * (andI .u64 y (4294967295 : Int)))) (32 : Int)))) (4294967295 : Int)) + (IntKind.wrap .u64 ((andI .u64 x (4294967295 : Int)) * (shrI .u64 y (32 : Int)))))) (32 : Int)))), (IntKind.wrap .u64 (x * y))) := by kernel_rfl
theorem wide_sure_eq (n : Nat) (a : (Int × Int)) (over : Int) : wide_sure (n + 1) a over =
  tif ((!(decide (over = (0 : Int))))) (
  some (((0 : Int), (0 : Int)), (1 : Int))) (
  some (a, (0 : Int))) := by kernel_rfl
theorem event_anew_eq (n : Nat) (c : TEvent) (seen : Int) : event_anew (n + 1) c seen =
  obind (wide_Of n c.2.1) fun r0 =>
  some ((0 : Int), (((0 : Int), ((0 : Int), ((0 : Int), false))), (((0 : Int), ((0 : Int), ((0 : Int), false))), (r0, ((1 : Int), ((0 : Int), seen)))))) := by kernel_rfl
theorem wide_Add_eq (n : Nat) (a : (Int × Int)) (b : (Int × Int)) : wide_Add (n + 1) a b =
  tif (((decide ((0 : Int) ≤ a.2)) && ((decide ((0 : Int) ≤ b.2)) && true))) (
  tif (((decide ((0 : Int) ≤ a.1)) && ((decide ((0 : Int) ≤ b.1)) && ((decide ((0 : Int) ≤ (((a.2 + b.2) + (0 : Int)) / (18446744073709551616 : Int)))) && (decide ((((a.2 + b.2) + (0 : Int)) / (18446744073709551616 : Int)) ≤ (1 : Int))))))) (
  obind (wide_sure n ((((a.1 + b.1) + (((a.2 + b.2) + (0 : Int)) / (18446744073709551616 : Int))) % (18446744073709551616 : Int)), (((a.2 + b.2) + (0 : Int)) % (18446744073709551616 : Int))) (((a.1 + b.1) + (((a.2 + b.2) + (0 : Int)) / (18446744073709551616 : Int))) / (18446744073709551616 : Int))) fun r0 =>
  some r0) (
  none)) (
  none) := by kernel_rfl
theorem r01_Add_eq (n : Nat) (a : (Int × Int)) (b : (Int × Int)) : r01_Add (n + 1) a b =
  obind (r01_Bytes n a) fun r0 =>
  obind (r01_Bytes n b) fun r1 =>
  tif ((decide ((0 : Int) < (IntKind.wrap .i64 (Int.tdiv (IntKind.wrap .i64 ((IntKind.wrap .i64 (r0.2.2.2.2.2.2.2.2.2.2.2.2.2.2.2 + r1.2.2.2.2.2.2.2.2.2.2.2.2.2.2.2)) + (IntKind.wrap .i64 (Int.tdiv (IntKind.wrap .i64 ((IntKind.wrap .i64 (r0.2.2.2.2.2.2.2.2.2.2.2.2.2.2.1 + r1.2.2.2.2.2.2.2.2.2.2.2.2.2.2.1)) + (IntKind.wrap .i64 (Int.tdiv (IntKind.wrap .i64 ((IntKind.wrap .i64 (r0.2.2.2.2.2.2.2.2.2.2.2.2.2.1 + r1.2.2.2.2.2.2.2.2.2.2.2.2.2.1)) + (IntKind.wrap .i64 (Int.tdiv (IntKind.wrap .i64 ((IntKind.wrap .i64 (r0.2.2.2.2.2.2.2.2.2.2.2.2.1 + r1.2.2.2.2.2.2.2.2.2.2.2.2.1)) + (IntKind.wrap .i64 (Int.tdiv (IntKind.wrap .i64 ((IntKind.wrap .i64 (r0.2.2.2.2.2.2.2.2.2.2.2.1 + r1.2.2.2.2.2.2.2.2.2.2.2.1)) + (IntKind.wrap .i64 (Int.tdiv (IntKind.wrap .i64 ((IntKind.wrap .i64 (r0.2.2.2.2.2.2.2.2.2.2.1 + r1.2.2.2.2.2.2.2.2.2.2.1)) + (IntKind.wrap .i64 (Int.tdiv (IntKind.wrap .i64 ((IntKind.wrap .i64 (r0.2.2.2.2.2.2.2.2.2.1 + r1.2.2.2.2.2.2.2.2.2.1)) + (IntKind.wrap .i64 (Int.tdiv (IntKind.wrap .i64 ((IntKind.wrap .i64 (r0.2.2.2.2.2.2.2.2.1 + r1.2.2.2.2.2.2.2.2.1)) + (IntKind.wrap .i64 (Int.tdiv (IntKind.wrap .i64 ((IntKind.wrap .i64 (r0.2.2.2.2.2.2.2.1 + r1.2.2.2.2.2.2.2.1)) + (IntKind.wrap .i64 (Int.tdiv (IntKind.wrap .i64 ((IntKind.wrap .i64 (r0.2.2.2.2.2.2.1 + r1.2.2.2.2.2.2.1)) + (IntKind.wrap .i64 (Int.tdiv (IntKind.wrap .i64 ((IntKind.wrap .i64 (r0.2.2.2.2.2.1 + r1.2.2.2.2.2.1)) + (IntKind.wrap .i64 (Int.tdiv (IntKind.wrap .i64 ((IntKind.wrap .i64 (r0.2.2.2.2.1 + r1.2.2.2.2.1)) + (IntKind.wrap .i64 (Int.tdiv (IntKind.wrap .i64 ((IntKind.wrap .i64 (r0.2.2.2.1 + r1.2.2.2.1)) + (IntKind.wrap .i64 (Int.tdiv (IntKind.wrap .i64 ((IntKind.wrap .i64 (r0.2.2.1 + r1.2.2.1)) + (IntKind.wrap .i64 (Int.tdiv (IntKind.wrap .i64 ((IntKind.wrap .i64 (r0.2.1 + r1.2.1)) + (IntKind.wrap .i64 (Int.tdiv (IntKind.wrap .i64 ((IntKind.wrap .i64 (r0.1 + r1.1)) + (0 : Int))) (256 : Int))))) (256 : Int))))) (256 : Int))))) (256 : Int))))) (256 : Int))))) (256 : Int))))) (256 : Int))))) (256 : Int))))) (256 : Int))))) (256 : Int))))) (256 : Int))))) (256 : Int))))) (256 : Int))))) (256 : Int))))) (256 : Int))))) (256 : Int)))))) (
  some (((0 : Int), (0 : Int)), (1 : Int))) (
  obind (r01_Of n ((Int.tmod (IntKind.wrap .i64 ((IntKind.wrap .i64 (r0.1 + r1.1)) + (0 : Int))) (256 : Int)), ((Int.tmod (IntKind.wrap .i64 ((IntKind.wrap .i64 (r0.2.1 + r1.2.1)) + (IntKind.wrap .i64 (Int.tdiv (IntKind.wrap .i64 ((IntKind.wrap .i64 (r0.1 + r1.1)) + (0 : Int))) (256 : Int))))) (256 : Int)), ((Int.tmod (IntKind.wrap .i64 ((IntKind.wrap .i64 (r0.2.2.1 + r1.2.2.1)) + (IntKind.wrap .i64 (Int.tdiv (IntKind.wrap .i64 ((IntKind.wrap .i64 (r0.2.1 + r1.2.1)) + (IntKind.wrap .i64 (Int.tdiv (IntKind.wrap .i64 ((IntKind.wrap .i64 (r0.1 + r1.1)) + (0 : Int))) (256 : Int))))) (256 : Int))))) (256 : Int)), ((Int.tmod (IntKind.wrap .i64 ((IntKind.wrap .i64 (r0.2.2.2.1 + r1.2.2.2.1)) + (IntKind.wrap .i64 (Int.tdiv (IntKind.wrap .i64 ((IntKind.wrap .i64 (r0.2.2.1 + r1.2.2.1)) + (IntKind.wrap .i64 (Int.tdiv (IntKind.wrap .i64 ((IntKind.wrap .i64 (r0.2.1 + r1.2.1)) + (IntKind.wrap .i64 (Int.tdiv (IntKind.wrap .i64 ((IntKind.wrap .i64 (r0.1 + r1.1)) + (0 : Int))) (256 : Int))))) (256 : Int))))) (256 : Int))))) (256 : Int)), ((Int.tmod (IntKind.wrap .i64 ((IntKind.wrap .i64 (r0.2.2.2.2.1 + r1.2.2.2.2.1)) + (IntKind.wrap .i64 (Int.tdiv (IntKind.wrap .i64 ((IntKind.wrap .i64 (r0.2.2.2.1 + r1.2.2.2.1)) + (IntKind.wrap .i64 (Int.tdiv (IntKind.wrap .i64 ((IntKind.wrap .i64 (r0.2.2.1 + r1.2.2.1)) + (IntKind.wrap .i64 (Int.tdiv (IntKind.wrap .i64 ((IntKind.wrap .i64 (r0.2.1 + r1.2.1)) + (IntKind.wrap .i64 (Int.tdiv (IntKind.wrap .i64 ((IntKind.wrap .i64 (r0.1 + r1.1)) + (0 : Int))) (256 : Int))))) (256 : Int))))) (256 : Int))))) (256 : Int))))) (256 : Int)), ((Int.tmod (IntKind.wrap .i64 ((IntKind.wrap .i64 (r0.2.2.2.2.2.1 + r1.2.2.2.2.2.1)) + (IntKind.wrap .i64 (Int.tdiv (IntKind.wrap .i64 ((IntKind.wrap .i64 (r0.2.2.2.2.1 + r1.2.2.2.2.1)) + (IntKind.wrap .i64 (Int.tdiv (IntKind.wrap .i64 ((IntKind.wrap .i64 (r0.2.2.2.1 + r1.2.2.2.1)) + (IntKind.wrap .i64 (Int.tdiv (IntKind.wrap .i64 ((IntKind.wrap .i64 (r0.2.2.1 + r1.2.2.1)) + (IntKind.wrap .i64 (Int.tdiv (IntKind.wrap .i64 ((IntKind.wrap .i64 (r0.2.1 + r1.2.1)) + (IntKind.wrap .i64 (Int.tdiv (IntKind.wrap .i64 ((IntKind.wrap .i64 (r0.1 + r1.1)) + (0 : Int))) (256 : Int))))) (256 : Int))))) (256 : Int))))) (256 : Int))))) (256 : Int))))) (256 : Int)), ((Int.tmod (IntKind.wrap .i64 ((IntKind.wrap .i64 (r0.2.2.2.2.2.2.1 + r1.2.2.2.2.2.2.1)) + (IntKind.wrap .i64 (Int.tdiv (IntKind.wrap .i64 ((IntKind.wrap .i64 (r0.2.2.2.2.2.1 + r1.2.2.2.2.2.1)) + (IntKind.wrap .i64 (Int.tdiv (IntKind.wrap .i64 ((IntKind.wrap .i64 (r0.2.2.2.2.1 + r1.2.2.2.2.1)) + (IntKind.wrap .i64 (Int.tdiv (IntKind.wrap .i64 ((IntKind.wrap .i64 (r0.2.2.2.1 + r1.2.2.2.1)) + (IntKind.wrap .i64 (Int.tdiv (IntKind.wrap .i64 ((IntKind.wrap .i64 (r0.2.2.1 + r1.2.2.1)) + (IntKind.wrap .i64 (Int.tdiv (IntKind.wrap .i64 ((IntKind.wrap .i64 (r0.2.1 + r1.2.1)) + (IntKind.wrap .i64 (Int.tdiv (IntKind.wrap .i64 ((IntKind.wrap .i64 (r0.1 + r1.1)) + (0 : Int))) (256 : Int))))) (256 : Int))))) (256 : Int))))) (256 : Int))))) (256 : Int))))) (256 : Int))))) (256 : Int)), ((Int.tmod (IntKind.wrap .i64 ((IntKind.wrap .i64 (r0.2.2.2.2.2.2.2.1 + r1.2.2.2.2.2.2.2.1)) + (IntKind.wrap .i64 (Int.tdiv (IntKind.wrap .i64 ((IntKind.wrap .i64 (r0.2.2.2.2.2.2.1 + r1.2.2.2.2.2.2.1)) + (IntKind.wrap .i64 (Int.tdiv (IntKind.wrap .i64 ((IntKind.wrap .i64 (r0.2.2.2.2.2.1 + r1.2.2.2.2.2.1)) + (IntKind.wrap .i64 (Int.tdiv (IntKind.wrap .i64 ((IntKind.wrap .i64 (r0.2.2.2.2.1 + r1.2.2.2.2.1)) + (IntKind.wrap .i64 (Int.tdiv (IntKind.wrap .i64 ((IntKind.wrap .i64 (r0.2.2.2.1 + r1.2.2.2.1)) + (IntKind.wrap .i64 (Int.tdiv (IntKind.wrap .i64 ((IntKind.wrap .i64 (r0.2.2.1 + r1.2.2.1)) + (IntKind.wrap .i64 (Int.tdiv (IntKind.wrap .i64 ((IntKind.wrap .i64 (r0.2.1 + r1.2.1)) + (IntKind.wrap .i64 (Int.tdiv (IntKind.wrap .i64 ((IntKind.wrap .i64 (r0.1 + r1.1)) + (0 : Int))) (256 : Int))))) (256 : Int))))) (256 : Int))))) (256 : Int))))) (256 : Int))))) (256 : Int))))) (256 : Int))))) (256 : Int)), ((Int.tmod (IntKind.wrap .i64 ((IntKind.wrap .i64 (r0.2.2.2.2.2.2.2.2.1 + r1.2.2.2.2.2.2.2.2.1)) + (IntKind.wrap .i64 (Int.tdiv (IntKind.wrap .i64 ((IntKind.wrap .i64 (r0.2.2.2.2.2.2.2.1 + r1.2.2.2.2.2.2.2.1)) + (IntKind.wrap .i64 (Int.tdiv (IntKind.wrap .i64 ((IntKind.wrap .i64 (r0.2.2.2.2.2.2.1 + r1.2.2.2.2.2.2.1)) + (IntKind.wrap .i64 (Int.tdiv (IntKind.wrap .i64 ((IntKind.wrap .i64 (r0.2.2.2.2.2.1 + r1.2.2.2.2.2.1)) + (IntKind.wrap .i64 (Int.tdiv (IntKind.wrap .i64 ((IntKind.wrap .i64 (r0.2.2.2.2.1 + r1.2.2.2.2.1)) + (IntKind.wrap .i64 (Int.tdiv (IntKind.wrap .i64 ((IntKind.wrap .i64 (r0.2.2.2.1 + r1.2.2.2.1)) + (IntKind.wrap .i64 (Int.tdiv (IntKind.wrap .i64 ((IntKind.wrap .i64 (r0.2.2.1 + r1.2.2.1)) + (IntKind.wrap .i64 (Int.tdiv (IntKind.wrap .i64 ((IntKind.wrap .i64 (r0.2.1 + r1.2.1)) + (IntKind.wrap .i64 (Int.tdiv (IntKind.wrap .i64 ((IntKind.wrap .i64 (r0.1 + r1.1)) + (0 : Int))) (256 : Int))))) (256 : Int))))) (256 : Int))))) (256 : Int))))) (256 : Int))))) (256 : Int))))) (256 : Int))))) (256 : Int))))) (256 : Int)), ((Int.tmod (IntKind.wrap .i64 ((IntKind.wrap .i64 (r0.2.2.2.2.2.2.2.2.2.1 + r1.2.2.2.2.2.2.2.2.2.1)) + (IntKind.wrap .i64 (Int.tdiv (IntKind.wrap .i64 ((IntKind.wrap .i64 (r0.2.2.2.2.2.2.2.2.1 + r1.2.2.2.2.2.2.2.2.1)) + (IntKind.wrap .i64 (Int.tdiv (IntKind.wrap .i64 ((IntKind.wrap .i64 (r0.2.2.2.2.2.2.2.1 + r1.2.2.2.2.2.2.2.1)) + (IntKind.wrap .i64 (Int.tdiv (IntKind.wrap .i64 ((IntKind.wrap .i64 (r0.2.2.2.2.2.2.1 + r1.2.2.2.2.2.2.1)) + (IntKind.wrap .i64 (Int.tdiv (IntKind.wrap .i64 ((IntKind.wrap .i64 (r0.2.2.2.2.2.1 + r1.2.2.2.2.2.1)) + (IntKind.wrap .i64 (Int.tdiv (IntKind.wrap .i64 ((IntKind.wrap .i64 (r0.2.2.2.2.1 + r1.2.2.2.2.1)) + (IntKind.wrap .i64 (Int.tdiv (IntKind.wrap .i64 ((IntKind.wrap .i64 (r0.2.2.2.1 + r1.2.2.2.1)) + (IntKind.wrap .i64 (Int.tdiv (IntKind.wrap .i64 ((IntKind.wrap .i64 (r0.2.2.1 + r1.2.2.1)) + (IntKind.wrap .i64 (Int.tdiv (IntKind.wrap .i64 ((IntKind.wrap .i64 (r0.2.1 + r1.2.1)) + (IntKind.wrap .i64 (Int.tdiv (IntKind.wrap .i64 ((IntKind.wrap .i64 (r0.1 + r1.1)) + (0 : Int))) (256 : Int))))) (256 : Int))))) (256 : Int))))) (256 : Int))))) (256 : Int))))) (256 : Int))))) (256 : Int))))) (256 : Int))))) (256 : Int))))) (256 : Int)), ((Int.tmod (IntKind.wrap .i64 ((IntKind.wrap .i64 (r0.2.2.2.2.2.2.2.2.2.2.1 + r1.2.2.2.2.2.2.2.2.2.2.1)) + (IntKind.wrap .i64 (Int.tdiv (IntKind.wrap .i64 ((IntKind.wrap .i64 (r0.2.2.2.2.2.2.2.2.2.1 + r1.2.2.2.2.2.2.2.2.2.1)) + (IntKind.wrap .i64 (Int.tdiv (IntKind.wrap .i64 ((IntKind.wrap .i64 (r0.2.2.2.2.2.2.2.2.1 + r1.2.2.2.2.2.2.2.2.1)) + (IntKind.wrap .i64 (Int.tdiv (IntKind.wrap .i64 ((IntKind.wrap .i64 (r0.2.2.2.2.2.2.2.1 + r1.2.2.2.2.2.2.2.1)) + (IntKind.wrap .i64 (Int.tdiv (IntKind.wrap .i64 ((IntKind.wrap .i64 (r0.2.2.2.2.2.2.1 + r1.2.2.2.2.2.2.1)) + (IntKind.wrap .i64 (Int.tdiv (IntKind.wrap .i64 ((IntKind.wrap .i64 (r0.2.2.2.2.2.1 + r1.2.2.2.2.2.1)) + (IntKind.wrap .i64 (Int.tdiv (IntKind.wrap .i64 ((IntKind.wrap .i64 (r0.2.2.2.2.1 + r1.2.2.2.2.1)) + (IntKind.wrap .i64 (Int.tdiv (IntKind.wrap .i64 ((IntKind.wrap .i64 (r0.2.2.2.1 + r1.2.2.2.1)) + (IntKind.wrap .i64 (Int.tdiv (IntKind.wrap .i64 ((IntKind.wrap .i64 (r0.2.2.1 + r1.2.2.1)) + (IntKind.wrap .i64 (Int.tdiv (IntKind.wrap .i64 ((IntKind.wrap .i64 (r0.2.1 + r1.2.1)) + (IntKind.wrap .i64 (Int.tdiv (IntKind.wrap .i64 ((IntKind.wrap .i64 (r0.1 + r1.1)) + (0 : Int))) (256 : Int))))) (256 : Int))))) (256 : Int))))) (256 : Int))))) (256 : Int))))) (256 : Int))))) (256 : Int))))) (256 : Int))))) (256 : Int))))) (256 : Int))))) (256 : Int)), ((Int.tmod (IntKind.wrap .i64 ((IntKind.wrap .i64 (r0.2.2.2.2.2.2.2.2.2.2.2.1 + r1.2.2.2.2.2.2.2.2.2.2.2.1)) + (IntKind.wrap .i64 (Int.tdiv (IntKind.wrap .i64 ((IntKind.wrap .i64 (r0.2.2.2.2.2.2.2.2.2.2.1 + r1.2.2.2.2.2.2.2.2.2.2.1)) + (IntKind.wrap .i64 (Int.tdiv (IntKind.wrap .i64 ((IntKind.wrap .i64 (r0.2.2.2.2.2.2.2.2.2.1 + r1.2.2.2.2.2.2.2.2.2.1)) + (IntKind.wrap .i64 (Int.tdiv (IntKind.wrap .i64 ((IntKind.wrap .i64 (r0.2.2.2.2.2.2.2.2.1 + r1.2.2.2.2.2.2.2.2.1)) + (IntKind.wrap .i64 (Int.tdiv (IntKind.wrap .i64 ((IntKind.wrap .i64 (r0.2.2.2.2.2.2.2.1 + r1.2.2.2.2.2.2.2.1)) + (IntKind.wrap .i64 (Int.tdiv (IntKind.wrap .i64 ((IntKind.wrap .i64 (r0.2.2.2.2.2.2.1 + r1.2.2.2.2.2.2.1)) + (IntKind.wrap .i64 (Int.tdiv (IntKind.wrap .i64 ((IntKind.wrap .i64 (r0.2.2.2.2.2.1 + r1.2.2.2.2.2.1)) + (IntKind.wrap .i64 (Int.tdiv (IntKind.wrap .i64 ((IntKind.wrap .i64 (r0.2.2.2.2.1 + r1.2.2.2.2.1)) + (IntKind.wrap .i64 (Int.tdiv (IntKind.wrap .i64 ((IntKind.wrap .i64 (r0.2.2.2.1 + r1.2.2.2.1)) + (IntKind.wrap .i64 (Int.tdiv (IntKind.wrap .i64 ((IntKind.wrap .i64 (r0.2.2.1 + r1.2.2.1)) + (IntKind.wrap .i64 (Int.tdiv (IntKind.wrap .i64 ((IntKind.wrap .i64 (r0.2.1 + r1.2.1)) + (IntKind.wrap .i64 (Int.tdiv (IntKind.wrap .i64 ((IntKind.wrap .i64 (r0.1 + r1.1)) + (0 : Int))) (256 : Int))))) (256 : Int))))) (256 : Int))))) (256 : Int))))) (256 : Int))))) (256 : Int))))) (256 : Int))))) (256 : Int))))) (256 : Int))))) (256 : Int))))) (256 : Int))))) (256 : Int)), ((Int.tmod (IntKind.wrap .i64 ((IntKind.wrap .i64 (r0.2.2.2.2.2.2.2.2.2.2.2.2.1 + r1.2.2.2.2.2.2.2.2.2.2.2.2.1)) + (IntKind.wrap .i64 (Int.tdiv (IntKind.wrap .i64 ((IntKind.wrap .i64 (r0.2.2.2.2.2.2.2.2.2.2.2.1 + r1.2.2.2.2.2.2.2.2.2.2.2.1)) + (IntKind.wrap .i64 (Int.tdiv (IntKind.wrap .i64 ((IntKind.wrap .i64 (r0.2.2.2.2.2.2.2.2.2.2.1 + r1.2.2.2.2.2.2.2.2.2.2.1)) + (IntKind.wrap .i64 (Int.tdiv (IntKind.wrap .i64 ((IntKind.wrap .i64 (r0.2.2.2.2.2.2.2.2.2.1 + r1.2.2.2.2.2.2.2.2.2.1)) + (IntKind.wrap .i64 (Int.tdiv (IntKind.wrap .i64 ((IntKind.wrap .i64 (r0.2.2.2.2.2.2.2.2.1 + r1.2.2.2.2.2.2.2.2.1)) + (IntKind.wrap .i64 (Int.tdiv (IntKind.wrap .i64 ((IntKind.wrap .i64 (r0.2.2.2.2.2.2.2.1 + r1.2.2.2.2.2.2.2.1)) + (IntKind.wrap .i64 (Int.tdiv (IntKind.wrap .i64 ((IntKind.wrap .i64 (r0.2.2.2.2.2.2.1 + r1.2.2.2.2.2.2.1)) + (IntKind.wrap .i64 (Int.tdiv (IntKind.wrap .i64 ((IntKind.wrap .i64 (r0.2.2.2.2.2.1 + r1.2.2.2.2.2.1)) + (IntKind.wrap .i64 (Int.tdiv (IntKind.wrap .i64 ((IntKind.wrap .i64 (r0.2.2.2.2.1 + r1.2.2.2.2.1)) + (IntKind.wrap .i64 (Int.tdiv (IntKind.wrap .i64 ((IntKind.wrap .i64 (r0.2.2.2.1 + r1.2.2.2.1)) + (IntKind.wrap .i64 (Int.tdiv (IntKind.wrap .i64 ((IntKind.wrap .i64 (r0.2.2.1 + r1.2.2.1)) + (IntKind.wrap .i64 (Int.tdiv (IntKind.wrap .i64 ((IntKind.wrap .i64 (r0.2.1 + r1.2.1)) + (IntKind.wrap .i64 (Int.tdiv (IntKind.wrap .i64 ((IntKind.wrap .i64 (r0.1 + r1.1)) + (0 : Int))) (256 : Int))))) (256 : Int))))) (256 : Int))))) (256 : Int))))) (256 : Int))))) (256 : Int))))) (256 : Int))))) (256 : Int))))) (256 : Int))))) (256 : Int))))) (256 : Int))))) (256 : Int))))) (256 : Int)), ((Int.tmod (IntKind.wrap .i64 ((IntKind.wrap .i64 (r0.2.2.2.2.2.2.2.2.2.2.2.2.2.1 + r1.2.2.2.2.2.2.2.2.2.2.2.2.2.1)) + (IntKind.wrap .i64 (Int.tdiv (IntKind.wrap .i64 ((IntKind.wrap .i64 (r0.2.2.2.2.2.2.2.2.2.2.2.2.1 + r1.2.2.2.2.2.2.2.2.2.2.2.2.1)) + (IntKind.wrap .i64 (Int.tdiv (IntKind.wrap .i64 ((IntKind.wrap .i64 (r0.2.2.2.2.2.2.2.2.2.2.2.1 + r1.2.2.2.2.2.2.2.2.2.2.2.1)) + (IntKind.wrap .i64 (Int.tdiv (IntKind.wrap .i64 ((IntKind.wrap .i64 (r0.2.2.2.2.2.2.2.2.2.2.1 + r1.2.2.2.2.2.2.2.2.2.2.1)) + (IntKind.wrap .i64 (Int.tdiv (IntKind.wrap .i64 ((IntKind.wrap .i64 (r0.2.2.2.2.2.2.2.2.2.1 + r1.2.2.2.2.2.2.2.2.2.1)) + (IntKind.wrap .i64 (Int.tdiv (IntKind.wrap .i64 ((IntKind.wrap .i64 (r0.2.2.2.2.2.2.2.2.1 + r1.2.2.2.2.2.2.2.2.1)) + (IntKind.wrap .i64 (Int.tdiv (IntKind.wrap .i64 ((IntKind.wrap .i64 (r0.2.2.2.2.2.2.2.1 + r1.2.2.2.2.2.2.2.1)) + (IntKind.wrap .i64 (Int.tdiv (IntKind.wrap .i64 ((IntKind.wrap .i64 (r0.2.2.2.2.2.2.1 + r1.2.2.2.2.2.2.1)) + (IntKind.wrap .i64 (Int.tdiv (IntKind.wrap .i64 ((IntKind.wrap .i64 (r0.2.2.2.2.2.1 + r1.2.2.2.2.2.1)) + (IntKind.wrap .i64 (Int.tdiv (IntKind.wrap .i64 ((IntKind.wrap .i64 (r0.2.2.2.2.1 + r1.2.2.2.2.1)) + (IntKind.wrap .i64 (Int.tdiv (IntKind.wrap .i64 ((IntKind.wrap .i64 (r0.2.2.2.1 + r1.2.2.2.1)) + (IntKind.wrap .i64 (Int.tdiv (IntKind.wrap .i64 ((IntKind.wrap .i64 (r0.2.2.1 + r1.2.2.1)) + (IntKind.wrap .i64 (Int.tdiv (IntKind.wrap .i64 ((IntKind.wrap .i64 (r0.2.1 + r1.2.1)) + (IntKind.wrap .i64 (Int.tdiv (IntKind.wrap .i64 ((IntKind.wrap .i64 (r0.1 + r1.1)) + (0 : Int))) (256 : Int))))) (256 : Int))))) (256 : Int))))) (256 : Int))))) (256 : Int))))) (256 : Int))))) (256 : Int))))) (256 : Int))))) (256 : Int))))) (256 : Int))))) (256 : Int))))) (256 : Int))))) (256 : Int))))) (256 : Int)), ((Int.tmod (IntKind.wrap .i64 ((IntKind.wrap .i64 (r0.2.2.2.2.2.2.2.2.2.2.2.2.2.2.1 + r1.2.2.2.2.2.2.2.2.2.2.2.2.2.2.1)) + (IntKind.wrap .i64 (Int.tdiv (IntKind.wrap .i64 ((IntKind.wrap .i64 (r0.2.2.2.2.2.2.2.2.2.2.2.2.2.1 + r1.2.2.2.2.2.2.2.2.2.2.2.2.2.1)) + (IntKind.wrap .i64 (Int.tdiv (IntKind.wrap .i64 ((IntKind.wrap .i64 (r0.2.2.2.2.2.2.2.2.2.2.2.2.1 + r1.2.2.2.2.2.2.2.2.2.2.2.2.1)) + (IntKind.wrap .i64 (Int.tdiv (IntKind.wrap .i64 ((IntKind.wrap .i64 (r0.2.2.2.2.2.2.2.2.2.2.2.1 + r1.2.2.2.2.2.2.2.2.2.2.2.1)) + (IntKind.wrap .i64 (Int.tdiv (IntKind.wrap .i64 ((IntKind.wrap .i64 (r0.2.2.2.2.2.2.2.2.2.2.1 + r1.2.2.2.2.2.2.2.2.2.2.1)) + (IntKind.wrap .i64 (Int.tdiv (IntKind.wrap .i64 ((IntKind.wrap .i64 (r0.2.2.2.2.2.2.2.2.2.1 + r1.2.2.2.2.2.2.2.2.2.1)) + (IntKind.wrap .i64 (Int.tdiv (IntKind.wrap .i64 ((IntKind.wrap .i64 (r0.2.2.2.2.2.2.2.2.1 + r1.2.2.2.2.2.2.2.2.1)) + (IntKind.wrap .i64 (Int.tdiv (IntKind.wrap .i64 ((IntKind.wrap .i64 (r0.2.2.2.2.2.2.2.1 + r1.2.2.2.2.2.2.2.1)) + (IntKind.wrap .i64 (Int.tdiv (IntKind.wrap .i64 ((IntKind.wrap .i64 (r0.2.2.2.2.2.2.1 + r1.2.2.2.2.2.2.1)) + (IntKind.wrap .i64 (Int.tdiv (IntKind.wrap .i64 ((IntKind.wrap .i64 (r0.2.2.2.2.2.1 + r1.2.2.2.2.2.1)) + (IntKind.wrap .i64 (Int.tdiv (IntKind.wrap .i64 ((IntKind.wrap .i64 (r0.2.2.2.2.1 + r1.2.2.2.2.1)) + (IntKind.wrap .i64 (Int.tdiv (IntKind.wrap .i64 ((IntKind.wrap .i64 (r0.2.2.2.1 + r1.2.2.2.1)) + (IntKind.wrap .i64 (Int.tdiv (IntKind.wrap .i64 ((IntKind.wrap .i64 (r0.2.2.1 + r1.2.2.1)) + (IntKind.wrap .i64 (Int.tdiv (IntKind.wrap .i64 ((IntKind.wrap .i64 (r0.2.1 + r1.2.1)) + (IntKind.wrap .i64 (Int.tdiv (IntKind.wrap .i64 ((IntKind.wrap .i64 (r0.1 + r1.1)) + (0 : Int))) (256 : Int))))) (256 : Int))))) (256 : Int))))) (256 : Int))))) (256 : Int))))) (256 : Int))))) (256 : Int))))) (256 : Int))))) (256 : Int))))) (256 : Int))))) (256 : Int))))) (256 : Int))))) (256 : Int))))) (256 : Int))))) (256 : Int)), (Int.tmod (IntKind.wrap .i64 ((IntKind.wrap .i64 (r0.2.2.2.2.2.2.2.2.2.2.2.2.2.2.2 + r1.2.2.2.2.2.2.2.2.2.2.2.2.2.2.2)) + (IntKind.wrap .i64 (Int.tdiv (IntKind.wrap .i64 ((IntKind.wrap .i64 (r0.2.2.2.2.2.2.2.2.2.2.2.2.2.2.1 + r1.2.2.2.2.2.2.2.2.2.2.2.2.2.2.1)) + (IntKind.wrap .i64 (Int.tdiv (IntKind.wrap .i64 ((IntKind.wrap .i64 (r0.2.2.2.2.2.2.2.2.2.2.2.2.2.1 + r1.2.2.2.2.2.2.2.2.2.2.2.2.2.1)) + (IntKind.wrap .i64 (Int.tdiv (IntKind.wrap .i64 ((IntKind.wrap .i64 (r0.2.2.2.2.2.2.2.2.2.2.2.2.1 + r1.2.2.2.2.2.2.2.2.2.2.2.2.1)) + (IntKind.wrap .i64 (Int.tdiv (IntKind.wrap .i64 ((IntKind.wrap .i64 (r0.2.2.2.2.2.2.2.2.2.2.2.1 + r1.2.2.2.2.2.2.2.2.2.2.2.1)) + (IntKind.wrap .i64 (Int.tdiv (IntKind.wrap .i64 ((IntKind.wrap .i64 (r0.2.2.2.2.2.2.2.2.2.2.1 + r1.2.2.2.2.2.2.2.2.2.2.1)) + (IntKind.wrap .i64 (Int.tdiv (IntKind.wrap .i64 ((IntKind.wrap .i64 (r0.2.2.2.2.2.2.2.2.2.1 + r1.2.2.2.2.2.2.2.2.2.1)) + (IntKind.wrap .i64 (Int.tdiv (IntKind.wrap .i64 ((IntKind.wrap .i64 (r0.2.2.2.2.2.2.2.2.1 + r1.2.2.2.2.2.2.2.2.1)) + (IntKind.wrap .i64 (Int.tdiv (IntKind.wrap .i64 ((IntKind.wrap .i64 (r0.2.2.2.2.2.2.2.1 + r1.2.2.2.2.2.2.2.1)) + (IntKind.wrap .i64 (Int.tdiv (IntKind.wrap .i64 ((IntKind.wrap .i64 (r0.2.2.2.2.2.2.1 + r1.2.2.2.2.2.2.1)) + (IntKind.wrap .i64 (Int.tdiv (IntKind.wrap .i64 ((IntKind.wrap .i64 (r0.2.2.2.2.2.1 + r1.2.2.2.2.2.1)) + (IntKind.wrap .i64 (Int.tdiv (IntKind.wrap .i64 ((IntKind.wrap .i64 (r0.2.2.2.2.1 + r1.2.2.2.2.1)) + (IntKind.wrap .i64 (Int.tdiv (IntKind.wrap .i64 ((IntKind.wrap .i64 (r0.2.2.2.1 + r1.2.2.2.1)) + (IntKind.wrap .i64 (Int.tdiv (IntKind.wrap .i64 ((IntKind.wrap .i64 (r0.2.2.1 + r1.2.2.1)) + (IntKind.wrap .i64 (Int.tdiv (IntKind.wrap .i64 ((IntKind.wrap .i64 (r0.2.1 + r1.2.1)) + (IntKind.wrap .i64 (Int.tdiv (IntKind.wrap .i64 ((IntKind.wrap .i64 (r0.1 + r1.1)) + (0 : Int))) (256 : Int))))) (256 : Int))))) (256 : Int))))) (256 : Int))))) (256 : Int))))) (256 : Int))))) (256 : Int))))) (256 : Int))))) (256 : Int))))) (256 : Int))))) (256 : Int))))) (256 : Int))))) (256 : Int))))) (256 : Int))))) (256 : Int))))) (256 : Int)))))))))))))))))) fun r2 =>
  some (r2, (0 : Int))) := by kernel_rfl
theorem r01_Bytes_eq (n : Nat) (a : (Int × Int)) : r01_Bytes (n + 1) a =
  some ((IntKind.wrap .i64 (andI .u64 (shrI .u64 a.2 (0 : Int)) (255 : Int))), ((IntKind.wrap .i64 (andI .u64 (shrI .u64 a.2 (8 : Int)) (255 : Int))), ((IntKind.wrap .i64 (andI .u64 (shrI .u64 a.2 (16 : Int)) (255 : Int))), ((IntKind.wrap .i64 (andI .u64 (shrI .u64 a.2 (24 : Int)) (255 : Int))), ((IntKind.wrap .i64 (andI .u64 (shrI .u64 a.2 (32 : Int)) (255 : Int))), ((IntKind.wrap .i64 (andI .u64 (shrI .u64 a.2 (40 : Int)) (255 : Int))), ((IntKind.wrap .i64 (andI .u64 (shrI .u64 a.2 (48 : Int)) (255 : Int))), ((IntKind.wrap .i64 (andI .u64 (shrI .u64 a.2 (56 : Int)) (255 : Int))), ((IntKind.wrap .i64 (andI .u64 (shrI .u64 a.1 (0 : Int)) (255 : Int))), ((IntKind.wrap .i64 (andI .u64 (shrI .u64 a.1 (8 : Int)) (255 : Int))), ((IntKind.wrap .i64 (andI .u64 (shrI .u64 a.1 (16 : Int)) (255 : Int))), ((IntKind.wrap .i64 (andI .u64 (shrI .u64 a.1 (24 : Int)) (255 : Int))), ((IntKind.wrap .i64 (andI .u64 (shrI .u64 a.1 (32 : Int)) (255 : Int))), ((IntKind.wrap .i64 (andI .u64 (shrI .u64 a.1 (40 : Int)) (255 : Int))), ((IntKind.wrap .i64 (andI .u64 (shrI .u64 a.1 (48 : Int)) (255 : Int))), (IntKind.wrap .i64 (andI .u64 (shrI .u64 a.1 (56 : Int)) (255 : Int)))))))))))))))))) := by kernel_rfl
theorem slices_insertionSortCmpFunc_Slot_eq (n : Nat) (data : (List TSlot)) (a : Int) (b : Int) (cmp : ((TSlot × (TSlot × Unit)) → Option Int)) : slices_insertionSortCmpFunc_Slot (n + 1) data a b cmp =
  obind (slices_insertionSortCmpFunc_Slot_l1 n loopFuel (data, (a, (b, (cmp, ((IntKind.wrap .i64 (a + (1 : Int))), ())))))) fun r0 =>
  selim (fun y1 =>
  some y1.1) (fun z2 =>
  some z2) r0 := by kernel_rfl
theorem slices_insertionSortCmpFunc_Slot_l1_eq (n f : Nat) (data : (List TSlot)) (a : Int) (b : Int) (cmp : ((TSlot × (TSlot × Unit)) → Option Int)) (i : Int) : slices_insertionSortCmpFunc_Slot_l1 n (f + 1) (data, a, b, cmp, i, ()) =
  tif ((decide (i < b))) (
  obind (slices_insertionSortCmpFunc_Slot_l4 n loopFuel (data, (a, (b, (cmp, (i, (i, ()))))))) fun r0 =>
  selim (fun y1 =>
  slices_insertionSortCmpFunc_Slot_l1 n f (y1.1, (y1.2.1, (y1.2.2.1, (y1.2.2.2.1, ((IntKind.wrap .i64 (y1.2.2.2.2.1 + (1 : Int))), ())))))) (fun z2 =>
  some (.inr z2)) r0) (
  some (.inl (data, ()))) := by kernel_rfl
theorem slices_insertionSortCmpFunc_Slot_l4_eq (n f : Nat) (data : (List TSlot)) (a : Int) (b : Int) (cmp : ((TSlot × (TSlot × Unit)) → Option Int)) (i : Int) (j : Int) : slices_insertionSortCmpFunc_Slot_l4 n (f + 1) (data, a, b, cmp, i, j, ()) =
  tif ((decide (a < j))) (
  obind (at? data j) fun r0 =>
  obind ((data)[(Int.toNat j)]?) fun r1 =>
  obind (at? data (IntKind.wrap .i64 (j - (1 : Int)))) fun r2 =>
  obind ((data)[(Int.toNat (IntKind.wrap .i64 (j - (1 : Int))))]?) fun r3 =>
  obind (cmp (r1, (r3, ()))) fun r4 =>
  tif ((decide (r4 < (0 : Int)))) (
  obind (at? data (IntKind.wrap .i64 (j - (1 : Int)))) fun r5 =>
  obind ((data)[(Int.toNat (IntKind.wrap .i64 (j - (1 : Int))))]?) fun r6 =>
  obind (at? data j) fun r7 =>
  obind ((data)[(Int.toNat j)]?) fun r8 =>
  obind (at? data j) fun r9 =>
  obind ((data)[(Int.toNat j)]?) fun r10 =>
  obind (at? (List.set data (Int.toNat j) r6) (IntKind.wrap .i64 (j - (1 : Int)))) fun r11 =>
  obind (((List.set data (Int.toNat j) r6))[(Int.toNat (IntKind.wrap .i64 (j - (1 : Int))))]?) fun r12 =>
  slices_insertionSortCmpFunc_Slot_l4 n f ((List.set (List.set data (Int.toNat j) r6) (Int.toNat (IntKind.wrap .i64 (j - (1 : Int)))) r8), (a, (b, (cmp, (i, ((IntKind.wrap .i64 (j - (1 : Int))), ()))))))) (
  some (.inl (data, (a, (b, (cmp, (i, ())))))))) (
  some (.inl (data, (a, (b, (cmp, (i, ()))))))) := by kernel_rfl
theorem slices_symMergeCmpFunc_Slot_eq (n : Nat) (data : (List TSlot)) (a : Int) (m : Int) (b : Int) (cmp : ((TSlot × (TSlot × Unit)) → Option Int)) : slices_symMergeCmpFunc_Slot (n + 1) data a m b cmp =
  tif ((decide ((IntKind.wrap .i64 (m - a)) = (1 : Int)))) (
  obind (slices_symMergeCmpFunc_Slot_l3 n loopFuel (data, (a, (cmp, (m, (b, ())))))) fun r0 =>
  selim (fun y1 =>
  obind (slices_symMergeCmpFunc_Slot_l9 n loopFuel (y1.1, (y1.2.2.1, (y1.2.1, ())))) fun r2 =>
  selim (fun y3 =>
  some y3.1) (fun z4 =>
  some z4) r2) (fun z5 =>
  some z5) r0) (
  tif ((decide ((IntKind.wrap .i64 (b - m)) = (1 : Int)))) (
  obind (slices_symMergeCmpFunc_Slot_l15 n loopFuel (data, (m, (cmp, (a, (m, ())))))) fun r6 =>
  selim (fun y7 =>
  obind (slices_symMergeCmpFunc_Slot_l21 n loopFuel (y7.1, (y7.2.2.1, (y7.2.1, ())))) fun r8 =>
  selim (fun y9 =>
  some y9.1) (fun z10 =>
  some z10) r8) (fun z11 =>
  some z11) r6) (
  tif ((decide ((IntKind.wrap .i64 (shrI .u64 (IntKind.wrap .u64 (IntKind.wrap .i64 (a + b))) (1 : Int))) < m))) (
  obind (slices_symMergeCmpFunc_Slot_l33 n loopFuel (data, (a, (m, (b, (cmp, ((IntKind.wrap .i64 (shrI .u64 (IntKind.wrap .u64 (IntKind.wrap .i64 (a + b))) (1 : Int))), ((IntKind.wrap .i64 ((IntKind.wrap .i64 (shrI .u64 (IntKind.wrap .u64 (IntKind.wrap .i64 (a + b))) (1 : Int))) + m)), ((IntKind.wrap .i64 ((IntKind.wrap .i64 ((IntKind.wrap .i64 (shrI .u64 (IntKind.wrap .u64 (IntKind.wrap .i64 (a + b))) (1 : Int))) + m)) - b)), ((IntKind.wrap .i64 (shrI .u64 (IntKind.wrap .u64 (IntKind.wrap .i64 (a + b))) (1 : Int))), ((IntKind.wrap .i64 ((IntKind.wrap .i64 ((IntKind.wrap .i64 (shrI .u64 (IntKind.wrap .u64 (IntKind.wrap .i64 (a + b))) (1 : Int))) + m)) - (1 : Int))), ()))))))))))) fun r12 =>
  selim (fun y13 =>
  tif ((decide (y13.2.2.2.2.2.2.2.1 < y13.2.2.1))) (
  tif ((decide (y13.2.2.1 < (IntKind.wrap .i64 (y13.2.2.2.2.2.2.1 - y13.2.2.2.2.2.2.2.1))))) (
  obind (slices_rotateCmpFunc_Slot n y13.1 y13.2.2.2.2.2.2.2.1 y13.2.2.1 (IntKind.wrap .i64 (y13.2.2.2.2.2.2.1 - y13.2.2.2.2.2.2.2.1)) y13.2.2.2.2.1) fun r14 =>
  tif ((decide (y13.2.1 < y13.2.2.2.2.2.2.2.1))) (
  tif ((decide (y13.2.2.2.2.2.2.2.1 < y13.2.2.2.2.2.1))) (
  obind (slices_symMergeCmpFunc_Slot n r14 y13.2.1 y13.2.2.2.2.2.2.2.1 y13.2.2.2.2.2.1 y13.2.2.2.2.1) fun r15 =>
  tif ((decide (y13.2.2.2.2.2.1 < (IntKind.wrap .i64 (y13.2.2.2.2.2.2.1 - y13.2.2.2.2.2.2.2.1))))) (
  tif ((decide ((IntKind.wrap .i64 (y13.2.2.2.2.2.2.1 - y13.2.2.2.2.2.2.2.1)) < y13.2.2.2.1))) (
  obind (slices_symMergeCmpFunc_Slot n r15 y13.2.2.2.2.2.1 (IntKind.wrap .i64 (y13.2.2.2.2.2.2.1 - y13.2.2.2.2.2.2.2.1)) y13.2.2.2.1 y13.2.2.2.2.1) fun r16 =>
  some r16) (
  some r15)) (
  some r15)) (
  tif ((decide (y13.2.2.2.2.2.1 < (IntKind.wrap .i64 (y13.2.2.2.2.2.2.1 - y13.2.2.2.2.2.2.2.1))))) (
  tif ((decide ((IntKind.wrap .i64 (y13.2.2.2.2.2.2.1 - y13.2.2.2.2.2.2.2.1)) < y13.2.2.2.1))) (
  obind (slices_symMergeCmpFunc_Slot n r14 y13.2.2.2.2.2.1 (IntKind.wrap .i64 (y13.2.2.2.2.2.2.1 - y13.2.2.2.2.2.2.2.1)) y13.2.2.2.1 y13.2.2.2.2.1) fun r17 =>
  some r17) (
  some r14)) (
  some r14))) (
  tif ((decide (y13.2.2.2.2.2.1 < (IntKind.wrap .i64 (y13.2.2.2.2.2.2.1 - y13.2.2.2.2.2.2.2.1))))) (
  tif ((decide ((IntKind.wrap .i64 (y13.2.2.2.2.2.2.1 - y13.2.2.2.2.2.2.2.1)) < y13.2.2.2.1))) (
  obind (slices_symMergeCmpFunc_Slot n r14 y13.2.2.2.2.2.1 (IntKind.wrap .i64 (y13.2.2.2.2.2.2.1 - y13.2.2.2.2.2.2.2.1)) y13.2.2.2.1 y13.2.2.2.2.1) fun r18 =>
  some r18) (
  some r14)) (
  some r14))) (
  tif ((decide (y13.2.1 < y13.2.2.2.2.2.2.2.1))) (
  tif ((decide (y13.2.2.2.2.2.2.2.1 < y13.2.2.2.2.2.1))) (
  obind (slices_symMergeCmpFunc_Slot n y13.1 y13.2.1 y13.2.2.2.2.2.2.2.1 y13.2.2.2.2.2.1 y13.2.2.2.2.1) fun r19 =>
  tif ((decide (y13.2.2.2.2.2.1 < (IntKind.wrap .i64 (y13.2.2.2.2.2.2.1 - y13.2.2.2.2.2.2.2.1))))) (
  tif ((decide ((IntKind.wrap .i64 (y13.2.2.2.2.2.2.1 - y13.2.2.2.2.2.2.2.1)) < y13.2.2.2.1))) (
  obind (slices_symMergeCmpFunc_Slot n r19 y13.2.2.2.2.2.1 (IntKind.wrap .i64 (y13.2.2.2.2.2.2.1 - y13.2.2.2.2.2.2.2.1)) y13.2.2.2.1 y13.2.2.2.2.1) fun r20 =>
  some r20) (
  some r19)) (
  some r19)) (
  tif ((decide (y13.2.2.2.2.2.1 < (IntKind.wrap .i64 (y13.2.2.2.2.2.2.1 - y13.2.2.2.2.2.2.2.1))))) (
  tif ((decide ((IntKind.wrap .i64 (y13.2.2.2.2.2.2.1 - y13.2.2.2.2.2.2.2.1)) < y13.2.2.2.1))) (
  obind (slices_symMergeCmpFunc_Slot n y13.1 y13.2.2.2.2.2.1 (IntKind.wrap .i64 (y13.2.2.2.2.2.2.1 - y13.2.2.2.2.2.2.2.1)) y13.2.2.2.1 y13.2.2.2.2.1) fun r21 =>
  some r21) (
  some y13.1)) (
  some y13.1))) (
  tif ((decide (y13.2.2.2.2.2.1 < (IntKind.wrap .i64 (y13.2.2.2.2.2.2.1 - y13.2.2.2.2.2.2.2.1))))) (
  tif ((decide ((IntKind.wrap .i64 (y13.2.2.2.2.2.2.1 - y13.2.2.2.2.2.2.2.1)) < y13.2.2.2.1))) (
  obind (slices_symMergeCmpFunc_Slot n y13.1 y13.2.2.2.2.2.1 (IntKind.wrap .i64 (y13.2.2.2.2.2.2.1 - y13.2.2.2.2.2.2.2.1)) y13.2.2.2.1 y13.2.2.2.2.1) fun r22 =>
  some r22) (
  some y13.1)) (
  some y13.1)))) (
  tif ((decide (y13.2.1 < y13.2.2.2.2.2.2.2.1))) (
  tif ((decide (y13.2.2.2.2.2.2.2.1 < y13.2.2.2.2.2.1))) (
  obind (slices_symMergeCmpFunc_Slot n y13.1 y13.2.1 y13.2.2.2.2.2.2.2.1 y13.2.2.2.2.2.1 y13.2.2.2.2.1) fun r23 =>
  tif ((decide (y13.2.2.2.2.2.1 < (IntKind.wrap .i64 (y13.2.2.2.2.2.2.1 - y13.2.2.2.2.2.2.2.1))))) (
  tif ((decide ((IntKind.wrap .i64 (y13.2.2.2.2.2.2.1 - y13.2.2.2.2.2.2.2.1)) < y13.2.2.2.1))) (
  obind (slices_symMergeCmpFunc_Slot n r23 y13.2.2.2.2.2.1 (IntKind.wrap .i64 (y13.2.2.2.2.2.2.1 - y13.2.2.2.2.2.2.2.1)) y13.2.2.2.1 y13.2.2.2.2.1) fun r24 =>
  some r24) (
  some r23)) (
  some r23)) (
  tif ((decide (y13.2.2.2.2.2.1 < (IntKind.wrap .i64 (y13.2.2.2.2.2.2.1 - y13.2.2.2.2.2.2.2.1))))) (
  tif ((decide ((IntKind.wrap .i64 (y13.2.2.2.2.2.2.1 - y13.2.2.2.2.2.2.2.1)) < y13.2.2.2.1))) (
  obind (slices_symMergeCmpFunc_Slot n y13.1 y13.2.2.2.2.2.1 (IntKind.wrap .i64 (y13.2.2.2.2.2.2.1 - y13.2.2.2.2.2.2.2.1)) y13.2.2.2.1 y13.2.2.2.2.1) fun r25 =>
  some r25) (
  some y13.1)) (
  some y13.1))) (
  tif ((decide (y13.2.2.2.2.2.1 < (IntKind.wrap .i64 (y13.2.2.2.2.2.2.1 - y13.2.2.2.2.2.2.2.1))))) (
  tif ((decide ((IntKind.wrap .i64 (y13.2.2.2.2.2.2.1 - y13.2.2.2.2.2.2.2.1)) < y13.2.2.2.1))) (
  obind (slices_symMergeCmpFunc_Slot n y13.1 y13.2.2.2.2.2.1 (IntKind.wrap .i64 (y13.2.2.2.2.2.2.1 - y13.2.2.2.2.2.2.2.1)) y13.2.2.2.1 y13.2.2.2.2.1) fun r26 =>
  some r26) (
  some y13.1)) (
  some y13.1)))) (fun z27 =>
  some z27) r12) (
  obind (slices_symMergeCmpFunc_Slot_l33 n loopFuel (data, (a, (m, (b, (cmp, ((IntKind.wrap .i64 (shrI .u64 (IntKind.wrap .u64 (IntKind.wrap .i64 (a + b))) (1 : Int))), ((IntKind.wrap .i64 ((IntKind.wrap .i64 (shrI .u64 (IntKind.wrap .u64 (IntKind.wrap .i64 (a + b))) (1 : Int))) + m)), (a, (m, ((IntKind.wrap .i64 ((IntKind.wrap .i64 ((IntKind.wrap .i64 (shrI .u64 (IntKind.wrap .u64 (IntKind.wrap .i64 (a + b))) (1 : Int))) + m)) - (1 : Int))), ()))))))))))) fun r28 =>
  selim (fun y29 =>
  tif ((decide (y29.2.2.2.2.2.2.2.1 < y29.2.2.1))) (
  tif ((decide (y29.2.2.1 < (IntKind.wrap .i64 (y29.2.2.2.2.2.2.1 - y29.2.2.2.2.2.2.2.1))))) (
  obind (slices_rotateCmpFunc_Slot n y29.1 y29.2.2.2.2.2.2.2.1 y29.2.2.1 (IntKind.wrap .i64 (y29.2.2.2.2.2.2.1 - y29.2.2.2.2.2.2.2.1)) y29.2.2.2.2.1) fun r30 =>
  tif ((decide (y29.2.1 < y29.2.2.2.2.2.2.2.1))) (
  tif ((decide (y29.2.2.2.2.2.2.2.1 < y29.2.2.2.2.2.1))) (
  obind (slices_symMergeCmpFunc_Slot n r30 y29.2.1 y29.2.2.2.2.2.2.2.1 y29.2.2.2.2.2.1 y29.2.2.2.2.1) fun r31 =>
  tif ((decide (y29.2.2.2.2.2.1 < (IntKind.wrap .i64 (y29.2.2.2.2.2.2.1 - y29.2.2.2.2.2.2.2.1))))) (
  tif ((decide ((IntKind.wrap .i64 (y29.2.2.2.2.2.2.1 - y29.2.2.2.2.2.2.2.1)) < y29.2.2.2.1))) (
  obind (slices_symMergeCmpFunc_Slot n r31 y29.2.2.2.2.2.1 (IntKind.wrap .i64 (y29.2.2.2.2.2.2.1 - y29.2.2.2.2.2.2.2.1)) y29.2.2.2.1 y29.2.2.2.2.1) fun r32 =>
  some r32) (
  some r31)) (
  some r31)) (
  tif ((decide (y29.2.2.2.2.2.1 < (IntKind.wrap .i64 (y29.2.2.2.2.2.2.1 - y29.2.2.2.2.2.2.2.1))))) (
  tif ((decide ((IntKind.wrap .i64 (y29.2.2.2.2.2.2.1 - y29.2.2.2.2.2.2.2.1)) < y29.2.2.2.1))) (
  obind (slices_symMergeCmpFunc_Slot n r30 y29.2.2.2.2.2.1 (IntKind.wrap .i64 (y29.2.2.2.2.2.2.1 - y29.2.2.2.2.2.2.2.1)) y29.2.2.2.1 y29.2.2.2.2.1) fun r33 =>
  some r33) (
  some r30)) (
  some r30))) (
  tif ((decide (y29.2.2.2.2.2.1 < (IntKind.wrap .i64 (y29.2.2.2.2.2.2.1 - y29.2.2.2.2.2.2.2.1))))) (
  tif ((decide ((IntKind.wrap .i64 (y29.2.2.2.2.2.2.1 - y29.2.2.2.2.2.2.2.1)) < y29.2.2.2.1))) (
  obind (slices_symMergeCmpFunc_Slot n r30 y29.2.2.2.2.2.1 (IntKind.wrap .i64 (y29.2.2.2.2.2.2.1 - y29.2.2.2.2.2.2.2.1)) y29.2.2.2.1 y29.2.2.2.2.1) fun r34 =>
  some r34) (
  some r30)) (
  some r30))) (
  tif ((decide (y29.2.1 < y29.2.2.2.2.2.2.2.1))) (
  tif ((decide (y29.2.2.2.2.2.2.2.1 < y29.2.2.2.2.2.1))) (
  obind (slices_symMergeCmpFunc_Slot n y29.1 y29.2.1 y29.2.2.2.2.2.2.2.1 y29.2.2.2.2.2.1 y29.2.2.2.2.1) fun r35 =>
  tif ((decide (y29.2.2.2.2.2.1 < (IntKind.wrap .i64 (y29.2.2.2.2.2.2.1 - y29.2.2.2.2.2.2.2.1))))) (
  tif ((decide ((IntKind.wrap .i64 (y29.2.2.2.2.2.2.1 - y29.2.2.2.2.2.2.2.1)) < y29.2.2.2.1))) (
  obind (slices_symMergeCmpFunc_Slot n r35 y29.2.2.2.2.2.1 (IntKind.wrap .i64 (y29.2.2.2.2.2.2.1 - y29.2.2.2.2.2.2.2.1)) y29.2.2.2.1 y29.2.2.2.2.1) fun r36 =>
  some r36) (
  some r35)) (
  some r35)) (
  tif ((decide (y29.2.2.2.2.2.1 < (IntKind.wrap .i64 (y29.2.2.2.2.2.2.1 - y29.2.2.2.2.2.2.2.1))))) (
  tif ((decide ((IntKind.wrap .i64 (y29.2.2.2.2.2.2.1 - y29.2.2.2.2.2.2.2.1)) < y29.2.2.2.1))) (
  obind (slices_symMergeCmpFunc_Slot n y29.1 y29.2.2.2.2.2.1 (IntKind.wrap .i64 (y29.2.2.2.2.2.2.1 - y29.2.2.2.2.2.2.2.1)) y29.2.2.2.1 y29.2.2.2.2.1) fun r37 =>
  some r37) (
  some y29.1)) (
  some y29.1))) (
  tif ((decide (y29.2.2.2.2.2.1 < (IntKind.wrap .i64 (y29.2.2.2.2.2.2.1 - y29.2.2.2.2.2.2.2.1))))) (
  tif ((decide ((IntKind.wrap .i64 (y29.2.2.2.2.2.2.1 - y29.2.2.2.2.2.2.2.1)) < y29.2.2.2.1))) (
  obind (slices_symMergeCmpFunc_Slot n y29.1 y29.2.2.2.2.2.1 (IntKind.wrap .i64 (y29.2.2.2.2.2.2.1 - y29.2.2.2.2.2.2.2.1)) y29.2.2.2.1 y29.2.2.2.2.1) fun r38 =>
  some r38) (
  some y29.1)) (
  some y29.1)))) (
  tif ((decide (y29.2.1 < y29.2.2.2.2.2.2.2.1))) (
  tif ((decide (y29.2.2.2.2.2.2.2.1 < y29.2.2.2.2.2.1))) (
  obind (slices_symMergeCmpFunc_Slot n y29.1 y29.2.1 y29.2.2.2.2.2.2.2.1 y29.2.2.2.2.2.1 y29.2.2.2.2.1) fun r39 =>
  tif ((decide (y29.2.2.2.2.2.1 < (IntKind.wrap .i64 (y29.2.2.2.2.2.2.1 - y29.2.2.2.2.2.2.2.1))))) (
  tif ((decide ((IntKind.wrap .i64 (y29.2.2.2.2.2.2.1 - y29.2.2.2.2.2.2.2.1)) < y29.2.2.2.1))) (
  obind (slices_symMergeCmpFunc_Slot n r39 y29.2.2.2.2.2.1 (IntKind.wrap .i64 (y29.2.2.2.2.2.2.1 - y29.2.2.2.2.2.2.2.1)) y29.2.2.2.1 y29.2.2.2.2.1) fun r40 =>
  some r40) (
  some r39)) (
  some r39)) (
  tif ((decide (y29.2.2.2.2.2.1 < (IntKind.wrap .i64 (y29.2.2.2.2.2.2.1 - y29.2.2.2.2.2.2.2.1))))) (
  tif ((decide ((IntKind.wrap .i64 (y29.2.2.2.2.2.2.1 - y29.2.2.2.2.2.2.2.1)) < y29.2.2.2.1))) (
  obind (slices_symMergeCmpFunc_Slot n y29.1 y29.2.2.2.2.2.1 (IntKind.wrap .i64 (y29.2.2.2.2.2.2.1 - y29.2.2.2.2.2.2.2.1)) y29.2.2.2.1 y29.2.2.2.2.1) fun r41 =>
  some r41) (
  some y29.1)) (
  some y29.1))) (
  tif ((decide (y29.2.2.2.2.2.1 < (IntKind.wrap .i64 (y29.2.2.2.2.2.2.1 - y29.2.2.2.2.2.2.2.1))))) (
  tif ((decide ((IntKind.wrap .i64 (y29.2.2.2.2.2.2.1 - y29.2.2.2.2.2.2.2.1)) < y29.2.2.2.1))) (
  obind (slices_symMergeCmpFunc_Slot n y29.1 y29.2.2.2.2.2.1 (IntKind.wrap .i64 (y29.2.2.2.2.2.2.1 - y29.2.2.2.2.2.2.2.1)) y29.2.2.2.1 y29.2.2.2.2.1) fun r42 =>
  some r42) (
  some y29.1)) (
  some y29.1)))) (fun z43 =>
  some z43) r28))) := by kernel_rfl
theorem slices_symMergeCmpFunc_Slot_l3_eq (n f : Nat) (data : (List TSlot)) (a : Int) (cmp : ((TSlot × (TSlot × Unit)) → Option Int)) (i : Int) (j : Int) : slices_symMergeCmpFunc_Slot_l3 n (f + 1) (data, a, cmp, i, j, ()) =
  tif ((decide (i < j))) (
  obind (at? data (IntKind.wrap .i64 (shrI .u64 (IntKind.wrap .u64 (IntKind.wrap .i64 (i + j))) (1 : Int)))) fun r0 =>
  obind ((data)[(Int.toNat (IntKind.wrap .i64 (shrI .u64 (IntKind.wrap .u64 (IntKind.wrap .i64 (i + j))) (1 : Int))))]?) fun r1 =>
  obind (at? data a) fun r2 =>
  obind ((data)[(Int.toNat a)]?) fun r3 =>
  obind (cmp (r1, (r3, ()))) fun r4 =>
  tif ((decide (r4 < (0 : Int)))) (
  slices_symMergeCmpFunc_Slot_l3 n f (data, (a, (cmp, ((IntKind.wrap .i64 ((IntKind.wrap .i64 (shrI .u64 (IntKind.wrap .u64 (IntKind.wrap .i64 (i + j))) (1 : Int))) + (1 : Int))), (j, ())))))) (
  slices_symMergeCmpFunc_Slot_l3 n f (data, (a, (cmp, (i, ((IntKind.wrap .i64 (shrI .u64 (IntKind.wrap .u64 (IntKind.wrap .i64 (i + j))) (1 : Int))), ()))))))) (
  some (.inl (data, (a, (i, ()))))) := by kernel_rfl
theorem slices_symMergeCmpFunc_Slot_l9_eq (n f : Nat) (data : (List TSlot)) (i : Int) (k : Int) : slices_symMergeCmpFunc_Slot_l9 n (f + 1) (data, i, k, ()) =
  tif ((decide (k < (IntKind.wrap .i64 (i - (1 : Int)))))) (
  obind (at? data (IntKind.wrap .i64 (k + (1 : Int)))) fun r0 =>
  obind ((data)[(Int.toNat (IntKind.wrap .i64 (k + (1 : Int))))]?) fun r1 =>
  obind (at? data k) fun r2 =>
  obind ((data)[(Int.toNat k)]?) fun r3 =>
  obind (at? data k) fun r4 =>
  obind ((data)[(Int.toNat k)]?) fun r5 =>
  obind (at? (List.set data (Int.toNat k) r1) (IntKind.wrap .i64 (k + (1 : Int)))) fun r6 =>
  obind (((List.set data (Int.toNat k) r1))[(Int.toNat (IntKind.wrap .i64 (k + (1 : Int))))]?) fun r7 =>
  slices_symMergeCmpFunc_Slot_l9 n f ((List.set (List.set data (Int.toNat k) r1) (Int.toNat (IntKind.wrap .i64 (k + (1 : Int)))) r3), (i, ((IntKind.wrap .i64 (k + (1 : Int))), ())))) (
  some (.inl (data, ()))) := by kernel_rfl
theorem slices_symMergeCmpFunc_Slot_l15_eq (n f : Nat) (data : (List TSlot)) (m : Int) (cmp : ((TSlot × (TSlot × Unit)) → Option Int)) (i_ : Int) (j_ : Int) : slices_symMergeCmpFunc_Slot_l15 n (f + 1) (data, m, cmp, i_, j_, ()) =
  tif ((decide (i_ < j_))) (
  obind (at? data m) fun r0 =>
  obind ((data)[(Int.toNat m)]?) fun r1 =>
  obind (at? data (IntKind.wrap .i64 (shrI .u64 (IntKind.wrap .u64 (IntKind.wrap .i64 (i_ + j_))) (1 : Int)))) fun r2 =>
  obind ((data)[(Int.toNat (IntKind.wrap .i64 (shrI .u64 (IntKind.wrap .u64 (IntKind.wrap .i64 (i_ + j_))) (1 : Int))))]?) fun r3 =>
  obind (cmp (r1, (r3, ()))) fun r4 =>
  tif ((!(decide (r4 < (0 : Int))))) (
  slices_symMergeCmpFunc_Slot_l15 n f (data, (m, (cmp, ((IntKind.wrap .i64 ((IntKind.wrap .i64 (shrI .u64 (IntKind.wrap .u64 (IntKind.wrap .i64 (i_ + j_))) (1 : Int))) + (1 : Int))), (j_, ())))))) (
  slices_symMergeCmpFunc_Slot_l15 n f (data, (m, (cmp, (i_, ((IntKind.wrap .i64 (shrI .u64 (IntKind.wrap .u64 (IntKind.wrap .i64 (i_ + j_))) (1 : Int))), ()))))))) (
  some (.inl (data, (m, (i_, ()))))) := by kernel_rfl
theorem slices_symMergeCmpFunc_Slot_l21_eq (n f : Nat) (data : (List TSlot)) (i_ : Int) (k_ : Int) : slices_symMergeCmpFunc_Slot_l21 n (f + 1) (data, i_, k_, ()) =
  tif ((decide (i_ < k_))) (
  obind (at? data (IntKind.wrap .i64 (k_ - (1 : Int)))) fun r0 =>
  obind ((data)[(Int.toNat (IntKind.wrap .i64 (k_ - (1 : Int))))]?) fun r1 =>
  obind (at? data k_) fun r2 =>
  obind ((data)[(Int.toNat k_)]?) fun r3 =>
  obind (at? data k_) fun r4 =>
  obind ((data)[(Int.toNat k_)]?) fun r5 =>
  obind (at? (List.set data (Int.toNat k_) r1) (IntKind.wrap .i64 (k_ - (1 : Int)))) fun r6 =>
  obind (((List.set data (Int.toNat k_) r1))[(Int.toNat (IntKind.wrap .i64 (k_ - (1 : Int))))]?) fun r7 =>
  slices_symMergeCmpFunc_Slot_l21 n f ((List.set (List.set data (Int.toNat k_) r1) (Int.toNat (IntKind.wrap .i64 (k_ - (1 : Int)))) r3), (i_, ((IntKind.wrap .i64 (k_ - (1 : Int))), ())))) (
  some (.inl (data, ()))) := by kernel_rfl
theorem slices_symMergeCmpFunc_Slot_l33_eq (n f : Nat) (data : (List TSlot)) (a : Int) (m : Int) (b : Int) (cmp : ((TSlot × (TSlot × Unit)) → Option Int)) (mid : Int) (n_ : Int) (start : Int) (r : Int) (p : Int) : slices_symMergeCmpFunc_Slot_l33 n (f + 1) (data, a, m, b, cmp, mid, n_, start, r, p, ()) =
  tif ((decide (start < r))) (
  obind (at? data (IntKind.wrap .i64 (p - (IntKind.wrap .i64 (shrI .u64 (IntKind.wrap .u64 (IntKind.wrap .i64 (start + r))) (1 : Int)))))) fun r0 =>
  obind ((data)[(Int.toNat (IntKind.wrap .i64 (p - (IntKind.wrap .i64 (shrI .u64 (IntKind.wrap .u64 (IntKind.wrap .i64 (start + r))) (1 : Int))))))]?) fun r1 =>
  obind (at? data (IntKind.wrap .i64 (shrI .u64 (IntKind.wrap .u64 (IntKind.wrap .i64 (start + r))) (1 : Int)))) fun r2 =>
  obind ((data)[(Int.toNat (IntKind.wrap .i64 (shrI .u64 (IntKind.wrap .u64 (IntKind.wrap .i64 (start + r))) (1 : Int))))]?) fun r3 =>
  obind (cmp (r1, (r3, ()))) fun r4 =>
  tif ((!(decide (r4 < (0 : Int))))) (
  slices_symMergeCmpFunc_Slot_l33 n f (data, (a, (m, (b, (cmp, (mid, (n_, ((IntKind.wrap .i64 ((IntKind.wrap .i64 (shrI .u64 (IntKind.wrap .u64 (IntKind.wrap .i64 (start + r))) (1 : Int))) + (1 : Int))), (r, (p, ()))))))))))) (
  slices_symMergeCmpFunc_Slot_l33 n f (data, (a, (m, (b, (cmp, (mid, (n_, (start, ((IntKind.wrap .i64 (shrI .u64 (IntKind.wrap .u64 (IntKind.wrap .i64 (start + r))) (1 : Int))), (p, ())))))))))))) (
  some (.inl (data, (a, (m, (b, (cmp, (mid, (n_, (start, ())))))))))) := by kernel_rfl
theorem r01_Of_eq (n : Nat) (l : (Int × (Int × (Int × (Int × (Int × (Int × (Int × (Int × (Int × (Int × (Int × (Int × (Int × (Int × (Int × Int)))))))))))))))) : r01_Of (n + 1) l =
  some ((orI .u64 (orI .u64 (orI .u64 (orI .u64 (orI .u64 (orI .u64 (orI .u64 (orI .u64 (0 : Int) (shlI .u64 (IntKind.wrap .u64 l.2.2.2.2.2.2.2.2.1) (0 : Int))) (shlI .u64 (IntKind.wrap .u64 l.2.2.2.2.2.2.2.2.2.1) (8 : Int))) (shlI .u64 (IntKind.wrap .u64 l.2.2.2.2.2.2.2.2.2.2.1) (16 : Int))) (shlI .u64 (IntKind.wrap .u64 l.2.2.2.2.2.2.2.2.2.2.2.1) (24 : Int))) (shlI .u64 (IntKind.wrap .u64 l.2.2.2.2.2.2.2.2.2.2.2.2.1) (32 : Int))) (shlI .u64 (IntKind.wrap .u64 l.2.2.2.2.2.2.2.2.2.2.2.2.2.1) (40 : Int))) (shlI .u64 (IntKind.wrap .u64 l.2.2.2.2.2.2.2.2.2.2.2.2.2.2.1) (48 : Int))) (shlI .u64 (IntKind.wrap .u64 l.2.2.2.2.2.2.2.2.2.2.2.2.2.2.2) (56 : Int))), (orI .u64 (orI .u64 (orI .u64 (orI .u64 (orI .u64 (orI .u64 (orI .u64 (orI .u64 (0 : Int) (shlI .u64 (IntKind.wrap .u64 l.1) (0 : Int))) (shlI .u64 (IntKind.wrap .u64 l.2.1) (8 : Int))) (shlI .u64 (IntKind.wrap .u64 l.2.2.1) (16 : Int))) (shlI .u64 (IntKind.wrap .u64 l.2.2.2.1) (24 : Int))) (shlI .u64 (IntKind.wrap .u64 l.2.2.2.2.1) (32 : Int))) (shlI .u64 (IntKind.wrap .u64 l.2.2.2.2.2.1) (40 : Int))) (shlI .u64 (IntKind.wrap .u64 l.2.2.2.2.2.2.1) (48 : Int))) (shlI .u64 (IntKind.wrap .u64 l.2.2.2.2.2.2.2.1) (56 : Int)))) := by kernel_rfl
end Go.Proofs.YtjeabebacegikaaGreat
