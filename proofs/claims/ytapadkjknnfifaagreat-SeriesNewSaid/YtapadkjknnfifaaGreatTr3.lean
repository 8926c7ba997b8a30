/-
  What each function comes to by one step of the flat reading. Printed by program; the kernel looks at each.
-/
import Derived.Test.YtapadkjknnfifaaGreatTr0
import Derived.KernelRfl
set_option linter.unusedVariables false
namespace Go.Proofs.YtapadkjknnfifaaGreat
open Go.Flat
theorem r10_place_eq (n : Nat) (c : TConfig) : r10_place (n + 1) c =
  obind (r10_parts n c.1 (16 : Int)) fun r0 =>
  obind (r10_parts n c.2.2.1.1 (4 : Int)) fun r1 =>
  obind (r10_parts n c.2.2.1.2.1 (4 : Int)) fun r2 =>
  obind (r10_parts n c.2.2.1.2.2 (4 : Int)) fun r3 =>
  some (IntKind.wrap .i64 ((IntKind.wrap .i64 ((IntKind.wrap .i64 ((IntKind.wrap .i64 ((1 : Int) + r0)) + r1)) + r2)) + r3)) := by kernel_rfl
theorem r05_name_eq (n : Nat) (s : List UInt8) : r05_name (n + 1) s =
  tif ((decide ((((List.length s) : Nat) : Int) < (1 : Int)))) (
  some false) (
  tif ((decide ((64 : Int) < (((List.length s) : Nat) : Int)))) (
  some false) (
  obind (at? s (0 : Int)) fun r0 =>
  tif ((decide ((48 : Int) ≤ (((UInt8.toNat r0) : Nat) : Int)))) (
  obind (at? s (0 : Int)) fun r1 =>
  tif ((decide ((((UInt8.toNat r1) : Nat) : Int) ≤ (57 : Int)))) (
  some false) (
  obind (r05_name_l4 n loopFuel (s, ((0 : Int), ()))) fun r2 =>
  selim (fun y3 =>
  some true) (fun z4 =>
  some z4) r2)) (
  obind (r05_name_l4 n loopFuel (s, ((0 : Int), ()))) fun r5 =>
  selim (fun y6 =>
  some true) (fun z7 =>
  some z7) r5))) := by kernel_rfl
theorem r05_name_l4_eq (n f : Nat) (s : List UInt8) (i : Int) : r05_name_l4 n (f + 1) (s, i, ()) =
  tif ((decide (i < (((List.length s) : Nat) : Int)))) (
  obind (at? s i) fun r0 =>
  tif ((decide ((97 : Int) ≤ (((UInt8.toNat r0) : Nat) : Int)))) (
  tif ((decide ((((UInt8.toNat r0) : Nat) : Int) ≤ (122 : Int)))) (
  r05_name_l4 n f (s, ((IntKind.wrap .i64 (i + (1 : Int))), ()))) (
  tif ((decide ((65 : Int) ≤ (((UInt8.toNat r0) : Nat) : Int)))) (
  tif ((decide ((((UInt8.toNat r0) : Nat) : Int) ≤ (90 : Int)))) (
  r05_name_l4 n f (s, ((IntKind.wrap .i64 (i + (1 : Int))), ()))) (
  tif ((decide ((48 : Int) ≤ (((UInt8.toNat r0) : Nat) : Int)))) (
  tif ((decide ((((UInt8.toNat r0) : Nat) : Int) ≤ (57 : Int)))) (
  r05_name_l4 n f (s, ((IntKind.wrap .i64 (i + (1 : Int))), ()))) (
  tif ((!(decide ((((UInt8.toNat r0) : Nat) : Int) = (95 : Int))))) (
  some (.inr false)) (
  r05_name_l4 n f (s, ((IntKind.wrap .i64 (i + (1 : Int))), ()))))) (
  tif ((!(decide ((((UInt8.toNat r0) : Nat) : Int) = (95 : Int))))) (
  some (.inr false)) (
  r05_name_l4 n f (s, ((IntKind.wrap .i64 (i + (1 : Int))), ())))))) (
  tif ((decide ((48 : Int) ≤ (((UInt8.toNat r0) : Nat) : Int)))) (
  tif ((decide ((((UInt8.toNat r0) : Nat) : Int) ≤ (57 : Int)))) (
  r05_name_l4 n f (s, ((IntKind.wrap .i64 (i + (1 : Int))), ()))) (
  tif ((!(decide ((((UInt8.toNat r0) : Nat) : Int) = (95 : Int))))) (
  some (.inr false)) (
  r05_name_l4 n f (s, ((IntKind.wrap .i64 (i + (1 : Int))), ()))))) (
  tif ((!(decide ((((UInt8.toNat r0) : Nat) : Int) = (95 : Int))))) (
  some (.inr false)) (
  r05_name_l4 n f (s, ((IntKind.wrap .i64 (i + (1 : Int))), ()))))))) (
  tif ((decide ((65 : Int) ≤ (((UInt8.toNat r0) : Nat) : Int)))) (
  tif ((decide ((((UInt8.toNat r0) : Nat) : Int) ≤ (90 : Int)))) (
  r05_name_l4 n f (s, ((IntKind.wrap .i64 (i + (1 : Int))), ()))) (
  tif ((decide ((48 : Int) ≤ (((UInt8.toNat r0) : Nat) : Int)))) (
  tif ((decide ((((UInt8.toNat r0) : Nat) : Int) ≤ (57 : Int)))) (
  r05_name_l4 n f (s, ((IntKind.wrap .i64 (i + (1 : Int))), ()))) (
  tif ((!(decide ((((UInt8.toNat r0) : Nat) : Int) = (95 : Int))))) (
  some (.inr false)) (
  r05_name_l4 n f (s, ((IntKind.wrap .i64 (i + (1 : Int))), ()))))) (
  tif ((!(decide ((((UInt8.toNat r0) : Nat) : Int) = (95 : Int))))) (
  some (.inr false)) (
  r05_name_l4 n f (s, ((IntKind.wrap .i64 (i + (1 : Int))), ())))))) (
  tif ((decide ((48 : Int) ≤ (((UInt8.toNat r0) : Nat) : Int)))) (
  tif ((decide ((((UInt8.toNat r0) : Nat) : Int) ≤ (57 : Int)))) (
  r05_name_l4 n f (s, ((IntKind.wrap .i64 (i + (1 : Int))), ()))) (
  tif ((!(decide ((((UInt8.toNat r0) : Nat) : Int) = (95 : Int))))) (
  some (.inr false)) (
  r05_name_l4 n f (s, ((IntKind.wrap .i64 (i + (1 : Int))), ()))))) (
  tif ((!(decide ((((UInt8.toNat r0) : Nat) : Int) = (95 : Int))))) (
  some (.inr false)) (
  r05_name_l4 n f (s, ((IntKind.wrap .i64 (i + (1 : Int))), ()))))))) (
  some (.inl ())) := by kernel_rfl
theorem r13_Same_eq (n : Nat) (a : (List TSlot)) (b : (List TSlot)) : r13_Same (n + 1) a b =
  tif ((!(decide ((((List.length a) : Nat) : Int) = (((List.length b) : Nat) : Int))))) (
  some false) (
  obind (r13_Same_l4 n loopFuel (a, (b, ((((List.length a) : Nat) : Int), ((0 : Int), ()))))) fun r0 =>
  selim (fun y1 =>
  some true) (fun z2 =>
  some z2) r0) := by kernel_rfl
theorem r13_Same_l4_eq (n f : Nat) (a : (List TSlot)) (b : (List TSlot)) (s12 : Int) (s13 : Int) : r13_Same_l4 n (f + 1) (a, b, s12, s13, ()) =
  tif ((decide (s13 < s12))) (
  obind (at? a s13) fun r0 =>
  obind (at? b s13) fun r1 =>
  tif ((!((decide (r0.1 = r1.1)) && ((decide (r0.2.1 = r1.2.1)) && ((decide (r0.2.2.1.1 = r1.2.2.1.1)) && ((decide (r0.2.2.1.2.1 = r1.2.2.1.2.1)) && ((decide (r0.2.2.1.2.2.1 = r1.2.2.1.2.2.1)) && ((r0.2.2.1.2.2.2 == r1.2.2.1.2.2.2) && ((decide (r0.2.2.2.1.1 = r1.2.2.2.1.1)) && ((decide (r0.2.2.2.1.2.1 = r1.2.2.2.1.2.1)) && ((decide (r0.2.2.2.1.2.2.1 = r1.2.2.2.1.2.2.1)) && ((r0.2.2.2.1.2.2.2 == r1.2.2.2.1.2.2.2) && ((decide (r0.2.2.2.2.1.1 = r1.2.2.2.2.1.1)) && ((decide (r0.2.2.2.2.1.2 = r1.2.2.2.2.1.2)) && ((decide (r0.2.2.2.2.2.1 = r1.2.2.2.2.2.1)) && ((decide (r0.2.2.2.2.2.2.1 = r1.2.2.2.2.2.2.1)) && (decide (r0.2.2.2.2.2.2.2 = r1.2.2.2.2.2.2.2)))))))))))))))))) (
  some (.inr false)) (
  r13_Same_l4 n f (a, (b, (s12, ((IntKind.wrap .i64 (s13 + (1 : Int))), ())))))) (
  some (.inl ())) := by kernel_rfl
theorem conf_in_int_eq (n : Nat) (n_ : Int) (low : Int) (high : Int) : conf_in_int (n + 1) n_ low high =
  tif ((decide (low ≤ n_))) (
  some (decide (n_ ≤ high))) (
  some false) := by kernel_rfl
theorem conf_in_int64_eq (n : Nat) (n_ : Int) (low : Int) (high : Int) : conf_in_int64 (n + 1) n_ low high =
  tif ((decide (low ≤ n_))) (
  some (decide (n_ ≤ high))) (
  some false) := by kernel_rfl
theorem conf_place_eq (n : Nat) (c : TConfig) : conf_place (n + 1) c =
  obind (conf_parts n c.1 (16 : Int)) fun r0 =>
  obind (conf_parts n c.2.2.1.1 (4 : Int)) fun r1 =>
  obind (conf_parts n c.2.2.1.2.1 (4 : Int)) fun r2 =>
  obind (conf_parts n c.2.2.1.2.2 (4 : Int)) fun r3 =>
  some (IntKind.wrap .i64 ((IntKind.wrap .i64 ((IntKind.wrap .i64 ((IntKind.wrap .i64 ((1 : Int) + r0)) + r1)) + r2)) + r3)) := by kernel_rfl
theorem label_name_eq (n : Nat) (s : List UInt8) : label_name (n + 1) s =
  tif ((s == [])) (
  some false) (
  tif ((decide ((64 : Int) < (((List.length s) : Nat) : Int)))) (
  some false) (
  obind (at? s (0 : Int)) fun r0 =>
  obind (label_digit n (((UInt8.toNat r0) : Nat) : Int)) fun r1 =>
  tif (r1) (
  some false) (
  obind (slices_ContainsFunc_byte n (List.map (fun y2 => (((UInt8.toNat y2) : Nat) : Int)) s) (fun y3 => label_name_1 n y3.1)) fun r4 =>
  some (!r4)))) := by kernel_rfl
theorem tier_New_eq (n : Nat) (n_ : Int) : tier_New (n + 1) n_ =
  tif ((decide (n_ < (1 : Int)))) (
  some []) (
  tif ((decide ((4096 : Int) < n_))) (
  some []) (
  tif (((decide ((0 : Int) ≤ n_)) && ((decide (n_ ≤ n_)) && (decide ((n_ * (120 : Int)) ≤ (140737488355328 : Int)))))) (
  some (List.replicate (Int.toNat n_) ((0 : Int), ((0 : Int), (((0 : Int), ((0 : Int), ((0 : Int), false))), (((0 : Int), ((0 : Int), ((0 : Int), false))), (((0 : Int), (0 : Int)), ((0 : Int), ((0 : Int), (0 : Int)))))))))) (
  none))) := by kernel_rfl
theorem r13_New_eq (n : Nat) (n_ : Int) : r13_New (n + 1) n_ =
  tif ((decide (n_ < (1 : Int)))) (
  some []) (
  tif ((decide ((4096 : Int) < n_))) (
  some []) (
  tif (((decide ((0 : Int) ≤ n_)) && ((decide (n_ ≤ n_)) && (decide ((n_ * (120 : Int)) ≤ (140737488355328 : Int)))))) (
  some (List.replicate (Int.toNat n_) ((0 : Int), ((0 : Int), (((0 : Int), ((0 : Int), ((0 : Int), false))), (((0 : Int), ((0 : Int), ((0 : Int), false))), (((0 : Int), (0 : Int)), ((0 : Int), ((0 : Int), (0 : Int)))))))))) (
  none))) := by kernel_rfl
theorem slices_Equal_Label_eq (n : Nat) (s1 : (List (List UInt8 × List UInt8))) (s2 : (List (List UInt8 × List UInt8))) : slices_Equal_Label (n + 1) s1 s2 =
  tif ((!(decide ((((List.length s1) : Nat) : Int) = (((List.length s2) : Nat) : Int))))) (
  some false) (
  obind (slices_Equal_Label_l4 n loopFuel (s1, (s2, ((((List.length s1) : Nat) : Int), ((0 : Int), ()))))) fun r0 =>
  selim (fun y1 =>
  some true) (fun z2 =>
  some z2) r0) := by kernel_rfl
theorem slices_Equal_Label_l4_eq (n f : Nat) (s1 : (List (List UInt8 × List UInt8))) (s2 : (List (List UInt8 × List UInt8))) (s12 : Int) (s13 : Int) : slices_Equal_Label_l4 n (f + 1) (s1, s2, s12, s13, ()) =
  tif ((decide (s13 < s12))) (
  obind (at? s1 s13) fun r0 =>
  obind (at? s2 s13) fun r1 =>
  tif ((!((r0.1 == r1.1) && (r0.2 == r1.2)))) (
  some (.inr false)) (
  slices_Equal_Label_l4 n f (s1, (s2, (s12, ((IntKind.wrap .i64 (s13 + (1 : Int))), ())))))) (
  some (.inl ())) := by kernel_rfl
theorem slices_Equal_Event_eq (n : Nat) (s1 : (List TEvent)) (s2 : (List TEvent)) : slices_Equal_Event (n + 1) s1 s2 =
  tif ((!(decide ((((List.length s1) : Nat) : Int) = (((List.length s2) : Nat) : Int))))) (
  some false) (
  obind (slices_Equal_Event_l4 n loopFuel (s1, (s2, ((((List.length s1) : Nat) : Int), ((0 : Int), ()))))) fun r0 =>
  selim (fun y1 =>
  some true) (fun z2 =>
  some z2) r0) := by kernel_rfl
theorem slices_Equal_Event_l4_eq (n f : Nat) (s1 : (List TEvent)) (s2 : (List TEvent)) (s12 : Int) (s13 : Int) : slices_Equal_Event_l4 n (f + 1) (s1, s2, s12, s13, ()) =
  tif ((decide (s13 < s12))) (
  obind (at? s1 s13) fun r0 =>
  obind (at? s2 s13) fun r1 =>
  tif ((!((decide (r0.1 = r1.1)) && ((decide (r0.2.1 = r1.2.1)) && ((decide (r0.2.2.1 = r1.2.2.1)) && (r0.2.2.2 == r1.2.2.2)))))) (
  some (.inr false)) (
  slices_Equal_Event_l4 n f (s1, (s2, (s12, ((IntKind.wrap .i64 (s13 + (1 : Int))), ())))))) (
  some (.inl ())) := by kernel_rfl
theorem window_in_int64_eq (n : Nat) (n_ : Int) (low : Int) (high : Int) : window_in_int64 (n + 1) n_ low high =
  tif ((decide (low ≤ n_))) (
  some (decide (n_ ≤ high))) (
  some false) := by kernel_rfl
theorem window_width_eq (n : Nat) (w : Int) : window_width (n + 1) w =
  obind (window_in_int64 n w (1 : Int) (1099511627776 : Int)) fun r0 =>
  some r0 := by kernel_rfl
theorem r10_parts_eq (n : Nat) (n_ : Int) (each : Int) : r10_parts (n + 1) n_ each =
  obind (r10_parts_l2 n loopFuel (n_, (each, ((0 : Int), ())))) fun r0 =>
  selim (fun y1 =>
  some y1.1) (fun z2 =>
  some z2) r0 := by kernel_rfl
theorem r10_parts_l2_eq (n f : Nat) (n_ : Int) (each : Int) (k : Int) : r10_parts_l2 n (f + 1) (n_, each, k, ()) =
  tif ((decide ((0 : Int) < n_))) (
  r10_parts_l2 n f ((IntKind.wrap .i64 (n_ - each)), (each, ((IntKind.wrap .i64 (k + (1 : Int))), ())))) (
  some (.inl (k, ()))) := by kernel_rfl
theorem conf_parts_eq (n : Nat) (n_ : Int) (by_ : Int) : conf_parts (n + 1) n_ by_ =
  tif ((decide (by_ = (0 : Int)))) (
  none) (
  some (IntKind.wrap .i64 (Int.tdiv (IntKind.wrap .i64 ((IntKind.wrap .i64 (n_ + by_)) - (1 : Int))) by_))) := by kernel_rfl
theorem label_digit_eq (n : Nat) (c : Int) : label_digit (n + 1) c =
  tif ((decide ((48 : Int) ≤ c))) (
  some (decide (c ≤ (57 : Int)))) (
  some false) := by kernel_rfl
theorem slices_ContainsFunc_byte_eq (n : Nat) (s : (List Int)) (f_ : ((Int × Unit) → Option Bool)) : slices_ContainsFunc_byte (n + 1) s f_ =
  obind (slices_IndexFunc_byte n s f_) fun r0 =>
  some (decide ((0 : Int) ≤ r0)) := by kernel_rfl
theorem label_name_1_eq (n : Nat) (c : Int) : label_name_1 (n + 1) c =
  obind (label_sign n c) fun r0 =>
  some (!r0) := by kernel_rfl
theorem label_sign_eq (n : Nat) (c : Int) : label_sign (n + 1) c =
  obind (label_digit n c) fun r0 =>
  tif (r0) (
  some true) (
  tif ((decide (c = (95 : Int)))) (
  some true) (
  tif ((decide ((97 : Int) ≤ (orI .u8 c (32 : Int))))) (
  some (decide ((orI .u8 c (32 : Int)) ≤ (122 : Int)))) (
  some false))) := by kernel_rfl
theorem slices_IndexFunc_byte_eq (n : Nat) (s : (List Int)) (f_ : ((Int × Unit) → Option Bool)) : slices_IndexFunc_byte (n + 1) s f_ =
  obind (slices_IndexFunc_byte_l2 n loopFuel (s, (f_, ((((List.length s) : Nat) : Int), ((0 : Int), ()))))) fun r0 =>
  selim (fun y1 =>
  some ((-1) : Int)) (fun z2 =>
  some z2) r0 := by kernel_rfl
theorem slices_IndexFunc_byte_l2_eq (n f : Nat) (s : (List Int)) (f_ : ((Int × Unit) → Option Bool)) (s7 : Int) (s8 : Int) : slices_IndexFunc_byte_l2 n (f + 1) (s, f_, s7, s8, ()) =
  tif ((decide (s8 < s7))) (
  obind (at? s s8) fun r0 =>
  obind (f_ (r0, ())) fun r1 =>
  tif (r1) (
  some (.inr s8)) (
  slices_IndexFunc_byte_l2 n f (s, (f_, (s7, ((IntKind.wrap .i64 (s8 + (1 : Int))), ())))))) (
  some (.inl ())) := by kernel_rfl
end Go.Proofs.YtapadkjknnfifaaGreat
