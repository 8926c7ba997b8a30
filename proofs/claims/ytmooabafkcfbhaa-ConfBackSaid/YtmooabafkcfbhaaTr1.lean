/-
  What each function comes to by one step of the flat reading. Printed by program; the kernel looks at each.
-/
import Derived.Test.YtmooabafkcfbhaaTr0
import Derived.KernelRfl
namespace Go.Proofs.Ytmooabafkcfbhaa
open Go.Flat
theorem l10_ConfTells_eq (n : Nat) (c : (Int × ((Int × (Int × Int)) × ((Int × (Int × Int)) × (Int × Int))))) (tier : Int) (s : List UInt8) : l10_ConfTells (n + 1) c tier s =
  tif ((decide ((1000 : Int) < (((List.length s) : Nat) : Int)))) (
  obind (l10_lives n ) fun r0 =>
  some r0) (
  obind (conf_Size n c) fun r1 =>
  obind (r10_Size n c) fun r2 =>
  obind (conf_Read n s) fun r3 =>
  obind (r10_Read n s) fun r4 =>
  obind (l10_lives n ) fun r5 =>
  tif (r5) (
  obind (conf_Check n c) fun r6 =>
  obind (r10_Check n c) fun r7 =>
  tif ((decide (r6 = r7))) (
  obind (conf_Factor n c tier) fun r8 =>
  obind (r10_Factor n c tier) fun r9 =>
  tif ((decide (r8 = r9))) (
  obind (conf_Index n c) fun r10 =>
  obind (r10_Index n c) fun r11 =>
  tif ((decide (r10 = r11))) (
  obind (conf_Home n c) fun r12 =>
  obind (r10_Home n c) fun r13 =>
  tif ((decide (r12 = r13))) (
  obind (conf_Place n c) fun r14 =>
  obind (r10_Place n c) fun r15 =>
  tif ((decide (r14 = r15))) (
  tif ((decide (r1.1 = r2.1))) (
  tif ((decide (r1.2 = r2.2))) (
  obind (conf_Bytes n c) fun r16 =>
  obind (r10_Bytes n c) fun r17 =>
  tif ((r16 == r17)) (
  tif (((decide (r3.1.1 = r4.1.1)) && ((decide (r3.1.2.1.1 = r4.1.2.1.1)) && ((decide (r3.1.2.1.2.1 = r4.1.2.1.2.1)) && ((decide (r3.1.2.1.2.2 = r4.1.2.1.2.2)) && ((decide (r3.1.2.2.1.1 = r4.1.2.2.1.1)) && ((decide (r3.1.2.2.1.2.1 = r4.1.2.2.1.2.1)) && ((decide (r3.1.2.2.1.2.2 = r4.1.2.2.1.2.2)) && ((decide (r3.1.2.2.2.1 = r4.1.2.2.2.1)) && (decide (r3.1.2.2.2.2 = r4.1.2.2.2.2))))))))))) (
  tif ((decide (r3.2 = r4.2))) (
  obind (conf_Retention n c) fun r18 =>
  obind (r10_Retention n c) fun r19 =>
  some (decide (r18 = r19))) (
  some false)) (
  some false)) (
  some false)) (
  some false)) (
  some false)) (
  some false)) (
  some false)) (
  some false)) (
  some false)) (
  some false)) (
  some false)) := by kernel_rfl

theorem l10_ConfBack_eq (n : Nat) (c : (Int × ((Int × (Int × Int)) × ((Int × (Int × Int)) × (Int × Int))))) (s : List UInt8) (more : Int) : l10_ConfBack (n + 1) c s more =
  obind (l10_lives n ) fun r0 =>
  tif ((!r0)) (
  some false) (
  tif ((decide ((1000 : Int) < (((List.length s) : Nat) : Int)))) (
  some true) (
  obind (conf_Read n s) fun r1 =>
  tif ((decide (r1.2 = (0 : Int)))) (
  obind (conf_Check n r1.1) fun r2 =>
  tif ((!(decide (r2 = (0 : Int))))) (
  some false) (
  obind (conf_Bytes n r1.1) fun r3 =>
  tif ((!(r3 == s))) (
  some false) (
  obind (conf_Check n c) fun r4 =>
  tif ((!(decide (r4 = (0 : Int))))) (
  obind (conf_Bytes n c) fun r5 =>
  some (r5 == [])) (
  obind (conf_Bytes n c) fun r6 =>
  obind (conf_Read n r6) fun r7 =>
  tif ((!(decide (r7.2 = (0 : Int))))) (
  some false) (
  tif ((!((decide (r7.1.1 = c.1)) && ((decide (r7.1.2.1.1 = c.2.1.1)) && ((decide (r7.1.2.1.2.1 = c.2.1.2.1)) && ((decide (r7.1.2.1.2.2 = c.2.1.2.2)) && ((decide (r7.1.2.2.1.1 = c.2.2.1.1)) && ((decide (r7.1.2.2.1.2.1 = c.2.2.1.2.1)) && ((decide (r7.1.2.2.1.2.2 = c.2.2.1.2.2)) && ((decide (r7.1.2.2.2.1 = c.2.2.2.1)) && (decide (r7.1.2.2.2.2 = c.2.2.2.2)))))))))))) (
  some false) (
  obind (conf_Factor n c (1 : Int)) fun r8 =>
  tif ((!(decide ((IntKind.wrap .i64 (r8 * c.2.1.1)) = c.2.1.2.1)))) (
  some false) (
  obind (conf_Factor n c (1 : Int)) fun r9 =>
  tif ((decide (c.2.2.1.1 < r9))) (
  some false) (
  obind (conf_Factor n c (2 : Int)) fun r10 =>
  tif ((!(decide ((IntKind.wrap .i64 (r10 * c.2.1.2.1)) = c.2.1.2.2)))) (
  some false) (
  obind (conf_Factor n c (2 : Int)) fun r11 =>
  tif ((decide (c.2.2.1.2.1 < r11))) (
  some false) (
  obind (conf_Size n c) fun r12 =>
  obind (conf_Size n (r7.1.1, (r7.1.2.1, ((r7.1.2.2.1.1, (r7.1.2.2.1.2.1, (if (4096 : Int) < (IntKind.wrap .i64 (r7.1.2.2.1.2.2 + (IntKind.wrap .i64 more))) then (4096 : Int) else (IntKind.wrap .i64 (r7.1.2.2.1.2.2 + (IntKind.wrap .i64 more)))))), ((if (65536 : Int) < (IntKind.wrap .i64 (r7.1.2.2.2.1 + (IntKind.wrap .i64 more))) then (65536 : Int) else (IntKind.wrap .i64 (r7.1.2.2.2.1 + (IntKind.wrap .i64 more)))), (if (8192 : Int) < (IntKind.wrap .i64 (r7.1.2.2.2.2 + (IntKind.wrap .i64 more))) then (8192 : Int) else (IntKind.wrap .i64 (r7.1.2.2.2.2 + (IntKind.wrap .i64 more))))))))) fun r13 =>
  tif ((!(decide (r12.2 = (0 : Int))))) (
  some true) (
  tif ((!(decide (r13.2 = (0 : Int))))) (
  some true) (
  some (decide (r12.1 ≤ r13.1)))))))))))))) (
  obind (conf_Check n c) fun r14 =>
  tif ((!(decide (r14 = (0 : Int))))) (
  obind (conf_Bytes n c) fun r15 =>
  some (r15 == [])) (
  obind (conf_Bytes n c) fun r16 =>
  obind (conf_Read n r16) fun r17 =>
  tif ((!(decide (r17.2 = (0 : Int))))) (
  some false) (
  tif ((!((decide (r17.1.1 = c.1)) && ((decide (r17.1.2.1.1 = c.2.1.1)) && ((decide (r17.1.2.1.2.1 = c.2.1.2.1)) && ((decide (r17.1.2.1.2.2 = c.2.1.2.2)) && ((decide (r17.1.2.2.1.1 = c.2.2.1.1)) && ((decide (r17.1.2.2.1.2.1 = c.2.2.1.2.1)) && ((decide (r17.1.2.2.1.2.2 = c.2.2.1.2.2)) && ((decide (r17.1.2.2.2.1 = c.2.2.2.1)) && (decide (r17.1.2.2.2.2 = c.2.2.2.2)))))))))))) (
  some false) (
  obind (conf_Factor n c (1 : Int)) fun r18 =>
  tif ((!(decide ((IntKind.wrap .i64 (r18 * c.2.1.1)) = c.2.1.2.1)))) (
  some false) (
  obind (conf_Factor n c (1 : Int)) fun r19 =>
  tif ((decide (c.2.2.1.1 < r19))) (
  some false) (
  obind (conf_Factor n c (2 : Int)) fun r20 =>
  tif ((!(decide ((IntKind.wrap .i64 (r20 * c.2.1.2.1)) = c.2.1.2.2)))) (
  some false) (
  obind (conf_Factor n c (2 : Int)) fun r21 =>
  tif ((decide (c.2.2.1.2.1 < r21))) (
  some false) (
  obind (conf_Size n c) fun r22 =>
  obind (conf_Size n (r17.1.1, (r17.1.2.1, ((r17.1.2.2.1.1, (r17.1.2.2.1.2.1, (if (4096 : Int) < (IntKind.wrap .i64 (r17.1.2.2.1.2.2 + (IntKind.wrap .i64 more))) then (4096 : Int) else (IntKind.wrap .i64 (r17.1.2.2.1.2.2 + (IntKind.wrap .i64 more)))))), ((if (65536 : Int) < (IntKind.wrap .i64 (r17.1.2.2.2.1 + (IntKind.wrap .i64 more))) then (65536 : Int) else (IntKind.wrap .i64 (r17.1.2.2.2.1 + (IntKind.wrap .i64 more)))), (if (8192 : Int) < (IntKind.wrap .i64 (r17.1.2.2.2.2 + (IntKind.wrap .i64 more))) then (8192 : Int) else (IntKind.wrap .i64 (r17.1.2.2.2.2 + (IntKind.wrap .i64 more))))))))) fun r23 =>
  tif ((!(decide (r22.2 = (0 : Int))))) (
  some true) (
  tif ((!(decide (r23.2 = (0 : Int))))) (
  some true) (
  some (decide (r22.1 ≤ r23.1)))))))))))))) := by kernel_rfl

theorem l10_lives_eq (n : Nat)  : l10_lives (n + 1)  =
  obind (l10_Fit n ) fun r0 =>
  obind (conf_Size n r0) fun r1 =>
  obind (conf_Bytes n r0) fun r2 =>
  obind (conf_Read n r2) fun r3 =>
  tif ((decide (((List.length r2) + 1) ≤ 9223372036854775807))) (
  obind (conf_Read n (r2 ++ ((120 : UInt8) :: []))) fun r4 =>
  obind (conf_Size n (r0.1, ((r0.2.1.1, ((25 : Int), r0.2.1.2.2)), r0.2.2))) fun r5 =>
  obind (conf_Check n r0) fun r6 =>
  tif ((decide (r6 = (0 : Int)))) (
  obind (conf_Check n (r0.1, ((r0.2.1.1, ((25 : Int), r0.2.1.2.2)), r0.2.2))) fun r7 =>
  tif ((decide (r7 = (2 : Int)))) (
  obind (conf_Factor n r0 (1 : Int)) fun r8 =>
  tif ((decide (r8 = (2 : Int)))) (
  obind (conf_Factor n r0 (2 : Int)) fun r9 =>
  tif ((decide (r9 = (3 : Int)))) (
  obind (conf_Factor n r0 (0 : Int)) fun r10 =>
  tif ((decide (r10 = (0 : Int)))) (
  obind (conf_Index n r0) fun r11 =>
  tif ((decide (r11 = (1 : Int)))) (
  obind (conf_Home n r0) fun r12 =>
  tif ((decide (r12 = (11 : Int)))) (
  obind (conf_Place n r0) fun r13 =>
  tif ((decide (r13 = (8 : Int)))) (
  tif ((decide (r1.1 = (36 : Int)))) (
  tif ((decide (r1.2 = (0 : Int)))) (
  tif ((decide ((((List.length r2) : Nat) : Int) = (56 : Int)))) (
  tif (((decide (r3.1.1 = r0.1)) && ((decide (r3.1.2.1.1 = r0.2.1.1)) && ((decide (r3.1.2.1.2.1 = r0.2.1.2.1)) && ((decide (r3.1.2.1.2.2 = r0.2.1.2.2)) && ((decide (r3.1.2.2.1.1 = r0.2.2.1.1)) && ((decide (r3.1.2.2.1.2.1 = r0.2.2.1.2.1)) && ((decide (r3.1.2.2.1.2.2 = r0.2.2.1.2.2)) && ((decide (r3.1.2.2.2.1 = r0.2.2.2.1)) && (decide (r3.1.2.2.2.2 = r0.2.2.2.2))))))))))) (
  tif ((decide (r3.2 = (0 : Int)))) (
  tif ((decide (r4.2 = (4 : Int)))) (
  tif ((decide (r5.2 = (2 : Int)))) (
  obind (conf_Retention n r0) fun r14 =>
  some (decide (r14 = (360 : Int)))) (
  some false)) (
  some false)) (
  some false)) (
  some false)) (
  some false)) (
  some false)) (
  some false)) (
  some false)) (
  some false)) (
  some false)) (
  some false)) (
  some false)) (
  some false)) (
  some false)) (
  some false)) (
  none) := by kernel_rfl

theorem conf_Size_eq (n : Nat) (c : (Int × ((Int × (Int × Int)) × ((Int × (Int × Int)) × (Int × Int))))) : conf_Size (n + 1) c =
  obind (conf_Check n c) fun r0 =>
  tif ((!(decide (r0 = (0 : Int))))) (
  some ((0 : Int), r0)) (
  obind (conf_Home n c) fun r1 =>
  obind (conf_Place n c) fun r2 =>
  tif ((decide ((16777216 : Int) < (IntKind.wrap .i64 ((IntKind.wrap .i64 (r1 + (1 : Int))) + (IntKind.wrap .i64 (c.2.2.2.1 * r2))))))) (
  some ((0 : Int), (1 : Int))) (
  some ((IntKind.wrap .i64 ((IntKind.wrap .i64 (r1 + (1 : Int))) + (IntKind.wrap .i64 (c.2.2.2.1 * r2)))), (0 : Int)))) := by kernel_rfl

theorem r10_Size_eq (n : Nat) (c : (Int × ((Int × (Int × Int)) × ((Int × (Int × Int)) × (Int × Int))))) : r10_Size (n + 1) c =
  obind (r10_Check n c) fun r0 =>
  tif ((!(decide (r0 = (0 : Int))))) (
  some ((0 : Int), (2 : Int))) (
  obind (r10_Home n c) fun r1 =>
  obind (r10_Place n c) fun r2 =>
  tif ((decide ((16777216 : Int) < (IntKind.wrap .i64 ((IntKind.wrap .i64 (r1 + (1 : Int))) + (IntKind.wrap .i64 (c.2.2.2.1 * r2))))))) (
  some ((0 : Int), (1 : Int))) (
  some ((IntKind.wrap .i64 ((IntKind.wrap .i64 (r1 + (1 : Int))) + (IntKind.wrap .i64 (c.2.2.2.1 * r2)))), (0 : Int)))) := by kernel_rfl

theorem conf_Read_eq (n : Nat) (s : List UInt8) : conf_Read (n + 1) s =
  obind (codec_Open n s) fun r0 =>
  obind (codec_Reader_Fixed n r0 (4 : Int)) fun r1 =>
  obind (codec_Reader_Fixed n r1.2 (8 : Int)) fun r2 =>
  obind (codec_Reader_Fixed n r2.2 (8 : Int)) fun r3 =>
  obind (codec_Reader_Fixed n r3.2 (8 : Int)) fun r4 =>
  obind (codec_Reader_Fixed n r4.2 (4 : Int)) fun r5 =>
  obind (codec_Reader_Fixed n r5.2 (4 : Int)) fun r6 =>
  obind (codec_Reader_Fixed n r6.2 (4 : Int)) fun r7 =>
  obind (codec_Reader_Fixed n r7.2 (4 : Int)) fun r8 =>
  obind (codec_Reader_Fixed n r8.2 (4 : Int)) fun r9 =>
  obind (codec_Reader_Fixed n r9.2 (8 : Int)) fun r10 =>
  tif ((!(decide (r10.1 = (0 : Int))))) (
  some (((0 : Int), (((0 : Int), ((0 : Int), (0 : Int))), (((0 : Int), ((0 : Int), (0 : Int))), ((0 : Int), (0 : Int))))), (4 : Int))) (
  obind (codec_Reader_Bad n r10.2) fun r11 =>
  tif (r11) (
  some (((0 : Int), (((0 : Int), ((0 : Int), (0 : Int))), (((0 : Int), ((0 : Int), (0 : Int))), ((0 : Int), (0 : Int))))), (4 : Int))) (
  obind (codec_Reader_Left n r10.2) fun r12 =>
  tif ((decide ((0 : Int) < r12))) (
  some (((0 : Int), (((0 : Int), ((0 : Int), (0 : Int))), (((0 : Int), ((0 : Int), (0 : Int))), ((0 : Int), (0 : Int))))), (4 : Int))) (
  obind (conf_Check n ((IntKind.wrap .i64 r1.1), (((IntKind.wrap .i64 r2.1), ((IntKind.wrap .i64 r3.1), (IntKind.wrap .i64 r4.1))), (((IntKind.wrap .i64 r5.1), ((IntKind.wrap .i64 r6.1), (IntKind.wrap .i64 r7.1))), ((IntKind.wrap .i64 r8.1), (IntKind.wrap .i64 r9.1)))))) fun r13 =>
  tif ((!(decide (r13 = (0 : Int))))) (
  some (((0 : Int), (((0 : Int), ((0 : Int), (0 : Int))), (((0 : Int), ((0 : Int), (0 : Int))), ((0 : Int), (0 : Int))))), (4 : Int))) (
  some (((IntKind.wrap .i64 r1.1), (((IntKind.wrap .i64 r2.1), ((IntKind.wrap .i64 r3.1), (IntKind.wrap .i64 r4.1))), (((IntKind.wrap .i64 r5.1), ((IntKind.wrap .i64 r6.1), (IntKind.wrap .i64 r7.1))), ((IntKind.wrap .i64 r8.1), (IntKind.wrap .i64 r9.1))))), (0 : Int)))))) := by kernel_rfl

theorem r10_Read_eq (n : Nat) (s : List UInt8) : r10_Read (n + 1) s =
  obind (r03_Reader_Fixed n (s, false) (4 : Int)) fun r0 =>
  obind (r03_Reader_Fixed n r0.1 (8 : Int)) fun r1 =>
  obind (r03_Reader_Fixed n r1.1 (8 : Int)) fun r2 =>
  obind (r03_Reader_Fixed n r2.1 (8 : Int)) fun r3 =>
  obind (r03_Reader_Fixed n r3.1 (4 : Int)) fun r4 =>
  obind (r03_Reader_Fixed n r4.1 (4 : Int)) fun r5 =>
  obind (r03_Reader_Fixed n r5.1 (4 : Int)) fun r6 =>
  obind (r03_Reader_Fixed n r6.1 (4 : Int)) fun r7 =>
  obind (r03_Reader_Fixed n r7.1 (4 : Int)) fun r8 =>
  obind (r10_Check n ((IntKind.wrap .i64 r0.2), (((IntKind.wrap .i64 r1.2), ((IntKind.wrap .i64 r2.2), (IntKind.wrap .i64 r3.2))), (((IntKind.wrap .i64 r4.2), ((IntKind.wrap .i64 r5.2), (IntKind.wrap .i64 r6.2))), ((IntKind.wrap .i64 r7.2), (IntKind.wrap .i64 r8.2)))))) fun r9 =>
  tif ((!(decide (r9 = (0 : Int))))) (
  some (((0 : Int), (((0 : Int), ((0 : Int), (0 : Int))), (((0 : Int), ((0 : Int), (0 : Int))), ((0 : Int), (0 : Int))))), (4 : Int))) (
  obind (r10_Bytes n ((IntKind.wrap .i64 r0.2), (((IntKind.wrap .i64 r1.2), ((IntKind.wrap .i64 r2.2), (IntKind.wrap .i64 r3.2))), (((IntKind.wrap .i64 r4.2), ((IntKind.wrap .i64 r5.2), (IntKind.wrap .i64 r6.2))), ((IntKind.wrap .i64 r7.2), (IntKind.wrap .i64 r8.2)))))) fun r10 =>
  tif ((!(r10 == s))) (
  some (((0 : Int), (((0 : Int), ((0 : Int), (0 : Int))), (((0 : Int), ((0 : Int), (0 : Int))), ((0 : Int), (0 : Int))))), (4 : Int))) (
  some (((IntKind.wrap .i64 r0.2), (((IntKind.wrap .i64 r1.2), ((IntKind.wrap .i64 r2.2), (IntKind.wrap .i64 r3.2))), (((IntKind.wrap .i64 r4.2), ((IntKind.wrap .i64 r5.2), (IntKind.wrap .i64 r6.2))), ((IntKind.wrap .i64 r7.2), (IntKind.wrap .i64 r8.2))))), (0 : Int)))) := by kernel_rfl

theorem conf_Check_eq (n : Nat) (c : (Int × ((Int × (Int × Int)) × ((Int × (Int × Int)) × (Int × Int))))) : conf_Check (n + 1) c =
  obind (conf_in_int n c.1 (1 : Int) (4096 : Int)) fun r0 =>
  tif (r0) (
  obind (conf_in_int n c.2.2.2.1 (1 : Int) (65536 : Int)) fun r1 =>
  tif (r1) (
  obind (conf_in_int n c.2.2.2.2 (1 : Int) (8192 : Int)) fun r2 =>
  tif (r2) (
  obind (conf_in_int64 n c.2.1.1 (1 : Int) (1099511627776 : Int)) fun r3 =>
  tif (r3) (
  obind (conf_in_int n c.2.2.1.1 (1 : Int) (4096 : Int)) fun r4 =>
  tif (r4) (
  obind (conf_in_int64 n c.2.1.2.1 (1 : Int) (1099511627776 : Int)) fun r5 =>
  tif (r5) (
  obind (conf_in_int n c.2.2.1.2.1 (1 : Int) (4096 : Int)) fun r6 =>
  tif (r6) (
  obind (conf_in_int64 n c.2.1.2.2 (1 : Int) (1099511627776 : Int)) fun r7 =>
  tif (r7) (
  obind (conf_in_int n c.2.2.1.2.2 (1 : Int) (4096 : Int)) fun r8 =>
  tif (r8) (
  tif ((decide (c.2.1.1 = (0 : Int)))) (
  none) (
  tif ((decide ((Int.tmod c.2.1.2.1 c.2.1.1) = (0 : Int)))) (
  tif ((decide (c.2.1.1 = (0 : Int)))) (
  none) (
  tif ((decide ((IntKind.wrap .i64 (Int.tdiv c.2.1.2.1 c.2.1.1)) ≤ c.2.2.1.1))) (
  tif ((decide (c.2.1.2.1 = (0 : Int)))) (
  none) (
  tif ((decide ((Int.tmod c.2.1.2.2 c.2.1.2.1) = (0 : Int)))) (
  tif ((decide (c.2.1.2.1 = (0 : Int)))) (
  none) (
  tif ((decide ((IntKind.wrap .i64 (Int.tdiv c.2.1.2.2 c.2.1.2.1)) ≤ c.2.2.1.2.1))) (
  tif ((!(decide ((IntKind.wrap .i64 (Int.tdiv c.2.1.2.2 c.2.1.2.1)) ≤ c.2.2.1.2.1)))) (
  some (2 : Int)) (
  obind (conf_place n c) fun r9 =>
  tif ((decide (c.2.2.2.2 ≤ r9))) (
  some (2 : Int)) (
  some (0 : Int)))) (
  tif ((!(decide ((IntKind.wrap .i64 (Int.tdiv c.2.1.2.2 c.2.1.2.1)) ≤ c.2.2.1.2.1)))) (
  some (2 : Int)) (
  obind (conf_place n c) fun r10 =>
  tif ((decide (c.2.2.2.2 ≤ r10))) (
  some (2 : Int)) (
  some (0 : Int)))))) (
  some (2 : Int)))) (
  tif ((!(decide ((IntKind.wrap .i64 (Int.tdiv c.2.1.2.1 c.2.1.1)) ≤ c.2.2.1.1)))) (
  some (2 : Int)) (
  obind (conf_place n c) fun r11 =>
  tif ((decide (c.2.2.2.2 ≤ r11))) (
  some (2 : Int)) (
  some (0 : Int)))))) (
  some (2 : Int)))) (
  tif ((!r8)) (
  some (2 : Int)) (
  obind (conf_place n c) fun r12 =>
  tif ((decide (c.2.2.2.2 ≤ r12))) (
  some (2 : Int)) (
  some (0 : Int))))) (
  some (2 : Int))) (
  some (2 : Int))) (
  some (2 : Int))) (
  some (2 : Int))) (
  some (2 : Int))) (
  some (2 : Int))) (
  some (2 : Int))) (
  some (2 : Int)) := by kernel_rfl

theorem r10_Check_eq (n : Nat) (c : (Int × ((Int × (Int × Int)) × ((Int × (Int × Int)) × (Int × Int))))) : r10_Check (n + 1) c =
  tif ((decide (c.1 < (1 : Int)))) (
  some (2 : Int)) (
  tif ((decide ((4096 : Int) < c.1))) (
  some (2 : Int)) (
  tif ((decide (c.2.2.2.1 < (1 : Int)))) (
  some (2 : Int)) (
  tif ((decide ((65536 : Int) < c.2.2.2.1))) (
  some (2 : Int)) (
  tif ((decide (c.2.2.2.2 < (1 : Int)))) (
  some (2 : Int)) (
  tif ((decide ((8192 : Int) < c.2.2.2.2))) (
  some (2 : Int)) (
  tif ((decide (c.2.1.1 < (1 : Int)))) (
  some (2 : Int)) (
  tif ((decide ((1099511627776 : Int) < c.2.1.1))) (
  some (2 : Int)) (
  tif ((decide (c.2.2.1.1 < (1 : Int)))) (
  some (2 : Int)) (
  tif ((decide ((4096 : Int) < c.2.2.1.1))) (
  some (2 : Int)) (
  tif ((decide (c.2.1.2.1 < (1 : Int)))) (
  some (2 : Int)) (
  tif ((decide ((1099511627776 : Int) < c.2.1.2.1))) (
  some (2 : Int)) (
  tif ((decide (c.2.2.1.2.1 < (1 : Int)))) (
  some (2 : Int)) (
  tif ((decide ((4096 : Int) < c.2.2.1.2.1))) (
  some (2 : Int)) (
  tif ((decide (c.2.1.1 = (0 : Int)))) (
  none) (
  tif ((!(decide ((Int.tmod c.2.1.2.1 c.2.1.1) = (0 : Int))))) (
  some (2 : Int)) (
  tif ((decide (c.2.1.1 = (0 : Int)))) (
  none) (
  tif ((decide (c.2.2.1.1 < (IntKind.wrap .i64 (Int.tdiv c.2.1.2.1 c.2.1.1))))) (
  some (2 : Int)) (
  tif ((decide (c.2.1.2.2 < (1 : Int)))) (
  some (2 : Int)) (
  tif ((decide ((1099511627776 : Int) < c.2.1.2.2))) (
  some (2 : Int)) (
  tif ((decide (c.2.2.1.2.2 < (1 : Int)))) (
  some (2 : Int)) (
  tif ((decide ((4096 : Int) < c.2.2.1.2.2))) (
  some (2 : Int)) (
  tif ((decide (c.2.1.2.1 = (0 : Int)))) (
  none) (
  tif ((!(decide ((Int.tmod c.2.1.2.2 c.2.1.2.1) = (0 : Int))))) (
  some (2 : Int)) (
  tif ((decide (c.2.1.2.1 = (0 : Int)))) (
  none) (
  tif ((decide (c.2.2.1.2.1 < (IntKind.wrap .i64 (Int.tdiv c.2.1.2.2 c.2.1.2.1))))) (
  some (2 : Int)) (
  obind (r10_place n c) fun r0 =>
  tif ((decide (c.2.2.2.2 ≤ r0))) (
  some (2 : Int)) (
  some (0 : Int)))))))))))))))))))))))))))) := by kernel_rfl

theorem conf_Factor_eq (n : Nat) (c : (Int × ((Int × (Int × Int)) × ((Int × (Int × Int)) × (Int × Int))))) (tier : Int) : conf_Factor (n + 1) c tier =
  obind (conf_in_int n tier (1 : Int) (2 : Int)) fun r0 =>
  tif ((!r0)) (
  some (0 : Int)) (
  obind (conf_Check n c) fun r1 =>
  tif ((!(decide (r1 = (0 : Int))))) (
  some (0 : Int)) (
  tif ((decide (tier = (0 : Int)))) (
  tif ((decide ((IntKind.wrap .i64 (tier - (1 : Int))) = (0 : Int)))) (
  tif ((decide (c.2.1.1 = (0 : Int)))) (
  none) (
  some (IntKind.wrap .i64 (Int.tdiv c.2.1.1 c.2.1.1)))) (
  tif ((decide ((IntKind.wrap .i64 (tier - (1 : Int))) = (1 : Int)))) (
  tif ((decide (c.2.1.2.1 = (0 : Int)))) (
  none) (
  some (IntKind.wrap .i64 (Int.tdiv c.2.1.1 c.2.1.2.1)))) (
  tif ((decide ((IntKind.wrap .i64 (tier - (1 : Int))) = (2 : Int)))) (
  tif ((decide (c.2.1.2.2 = (0 : Int)))) (
  none) (
  some (IntKind.wrap .i64 (Int.tdiv c.2.1.1 c.2.1.2.2)))) (
  none)))) (
  tif ((decide (tier = (1 : Int)))) (
  tif ((decide ((IntKind.wrap .i64 (tier - (1 : Int))) = (0 : Int)))) (
  tif ((decide (c.2.1.1 = (0 : Int)))) (
  none) (
  some (IntKind.wrap .i64 (Int.tdiv c.2.1.2.1 c.2.1.1)))) (
  tif ((decide ((IntKind.wrap .i64 (tier - (1 : Int))) = (1 : Int)))) (
  tif ((decide (c.2.1.2.1 = (0 : Int)))) (
  none) (
  some (IntKind.wrap .i64 (Int.tdiv c.2.1.2.1 c.2.1.2.1)))) (
  tif ((decide ((IntKind.wrap .i64 (tier - (1 : Int))) = (2 : Int)))) (
  tif ((decide (c.2.1.2.2 = (0 : Int)))) (
  none) (
  some (IntKind.wrap .i64 (Int.tdiv c.2.1.2.1 c.2.1.2.2)))) (
  none)))) (
  tif ((decide (tier = (2 : Int)))) (
  tif ((decide ((IntKind.wrap .i64 (tier - (1 : Int))) = (0 : Int)))) (
  tif ((decide (c.2.1.1 = (0 : Int)))) (
  none) (
  some (IntKind.wrap .i64 (Int.tdiv c.2.1.2.2 c.2.1.1)))) (
  tif ((decide ((IntKind.wrap .i64 (tier - (1 : Int))) = (1 : Int)))) (
  tif ((decide (c.2.1.2.1 = (0 : Int)))) (
  none) (
  some (IntKind.wrap .i64 (Int.tdiv c.2.1.2.2 c.2.1.2.1)))) (
  tif ((decide ((IntKind.wrap .i64 (tier - (1 : Int))) = (2 : Int)))) (
  tif ((decide (c.2.1.2.2 = (0 : Int)))) (
  none) (
  some (IntKind.wrap .i64 (Int.tdiv c.2.1.2.2 c.2.1.2.2)))) (
  none)))) (
  none))))) := by kernel_rfl

theorem r10_Factor_eq (n : Nat) (c : (Int × ((Int × (Int × Int)) × ((Int × (Int × Int)) × (Int × Int))))) (tier : Int) : r10_Factor (n + 1) c tier =
  obind (r10_Check n c) fun r0 =>
  tif ((!(decide (r0 = (0 : Int))))) (
  some (0 : Int)) (
  tif ((decide (tier < (1 : Int)))) (
  some (0 : Int)) (
  tif ((decide ((2 : Int) < tier))) (
  some (0 : Int)) (
  tif ((decide (tier = (0 : Int)))) (
  tif ((decide ((IntKind.wrap .i64 (tier - (1 : Int))) = (0 : Int)))) (
  tif ((decide (c.2.1.1 = (0 : Int)))) (
  none) (
  some (IntKind.wrap .i64 (Int.tdiv c.2.1.1 c.2.1.1)))) (
  tif ((decide ((IntKind.wrap .i64 (tier - (1 : Int))) = (1 : Int)))) (
  tif ((decide (c.2.1.2.1 = (0 : Int)))) (
  none) (
  some (IntKind.wrap .i64 (Int.tdiv c.2.1.1 c.2.1.2.1)))) (
  tif ((decide ((IntKind.wrap .i64 (tier - (1 : Int))) = (2 : Int)))) (
  tif ((decide (c.2.1.2.2 = (0 : Int)))) (
  none) (
  some (IntKind.wrap .i64 (Int.tdiv c.2.1.1 c.2.1.2.2)))) (
  none)))) (
  tif ((decide (tier = (1 : Int)))) (
  tif ((decide ((IntKind.wrap .i64 (tier - (1 : Int))) = (0 : Int)))) (
  tif ((decide (c.2.1.1 = (0 : Int)))) (
  none) (
  some (IntKind.wrap .i64 (Int.tdiv c.2.1.2.1 c.2.1.1)))) (
  tif ((decide ((IntKind.wrap .i64 (tier - (1 : Int))) = (1 : Int)))) (
  tif ((decide (c.2.1.2.1 = (0 : Int)))) (
  none) (
  some (IntKind.wrap .i64 (Int.tdiv c.2.1.2.1 c.2.1.2.1)))) (
  tif ((decide ((IntKind.wrap .i64 (tier - (1 : Int))) = (2 : Int)))) (
  tif ((decide (c.2.1.2.2 = (0 : Int)))) (
  none) (
  some (IntKind.wrap .i64 (Int.tdiv c.2.1.2.1 c.2.1.2.2)))) (
  none)))) (
  tif ((decide (tier = (2 : Int)))) (
  tif ((decide ((IntKind.wrap .i64 (tier - (1 : Int))) = (0 : Int)))) (
  tif ((decide (c.2.1.1 = (0 : Int)))) (
  none) (
  some (IntKind.wrap .i64 (Int.tdiv c.2.1.2.2 c.2.1.1)))) (
  tif ((decide ((IntKind.wrap .i64 (tier - (1 : Int))) = (1 : Int)))) (
  tif ((decide (c.2.1.2.1 = (0 : Int)))) (
  none) (
  some (IntKind.wrap .i64 (Int.tdiv c.2.1.2.2 c.2.1.2.1)))) (
  tif ((decide ((IntKind.wrap .i64 (tier - (1 : Int))) = (2 : Int)))) (
  tif ((decide (c.2.1.2.2 = (0 : Int)))) (
  none) (
  some (IntKind.wrap .i64 (Int.tdiv c.2.1.2.2 c.2.1.2.2)))) (
  none)))) (
  none)))))) := by kernel_rfl

theorem conf_Index_eq (n : Nat) (c : (Int × ((Int × (Int × Int)) × ((Int × (Int × Int)) × (Int × Int))))) : conf_Index (n + 1) c =
  obind (conf_Check n c) fun r0 =>
  tif ((!(decide (r0 = (0 : Int))))) (
  some (0 : Int)) (
  obind (conf_parts n c.2.2.2.2 (120 : Int)) fun r1 =>
  some r1) := by kernel_rfl

theorem r10_Index_eq (n : Nat) (c : (Int × ((Int × (Int × Int)) × ((Int × (Int × Int)) × (Int × Int))))) : r10_Index (n + 1) c =
  obind (r10_Check n c) fun r0 =>
  tif ((!(decide (r0 = (0 : Int))))) (
  some (0 : Int)) (
  obind (r10_parts n c.2.2.2.2 (120 : Int)) fun r1 =>
  some r1) := by kernel_rfl

theorem conf_Home_eq (n : Nat) (c : (Int × ((Int × (Int × Int)) × ((Int × (Int × Int)) × (Int × Int))))) : conf_Home (n + 1) c =
  obind (conf_Check n c) fun r0 =>
  tif ((!(decide (r0 = (0 : Int))))) (
  some (0 : Int)) (
  obind (conf_Index n c) fun r1 =>
  some (IntKind.wrap .i64 ((IntKind.wrap .i64 ((1 : Int) + r1)) + c.2.2.2.2))) := by kernel_rfl

theorem r10_Home_eq (n : Nat) (c : (Int × ((Int × (Int × Int)) × ((Int × (Int × Int)) × (Int × Int))))) : r10_Home (n + 1) c =
  obind (r10_Check n c) fun r0 =>
  tif ((!(decide (r0 = (0 : Int))))) (
  some (0 : Int)) (
  obind (r10_Index n c) fun r1 =>
  some (IntKind.wrap .i64 ((IntKind.wrap .i64 ((1 : Int) + r1)) + c.2.2.2.2))) := by kernel_rfl

theorem conf_Place_eq (n : Nat) (c : (Int × ((Int × (Int × Int)) × ((Int × (Int × Int)) × (Int × Int))))) : conf_Place (n + 1) c =
  obind (conf_Check n c) fun r0 =>
  tif ((!(decide (r0 = (0 : Int))))) (
  some (0 : Int)) (
  obind (conf_place n c) fun r1 =>
  some r1) := by kernel_rfl

theorem r10_Place_eq (n : Nat) (c : (Int × ((Int × (Int × Int)) × ((Int × (Int × Int)) × (Int × Int))))) : r10_Place (n + 1) c =
  obind (r10_Check n c) fun r0 =>
  tif ((!(decide (r0 = (0 : Int))))) (
  some (0 : Int)) (
  obind (r10_place n c) fun r1 =>
  some r1) := by kernel_rfl

theorem conf_Bytes_eq (n : Nat) (c : (Int × ((Int × (Int × Int)) × ((Int × (Int × Int)) × (Int × Int))))) : conf_Bytes (n + 1) c =
  obind (conf_Check n c) fun r0 =>
  tif ((!(decide (r0 = (0 : Int))))) (
  some []) (
  obind (codec_Writer_Fixed n [] (4 : Int) (IntKind.wrap .u64 c.1)) fun r1 =>
  obind (codec_Writer_Fixed n r1 (8 : Int) (IntKind.wrap .u64 c.2.1.1)) fun r2 =>
  obind (codec_Writer_Fixed n r2 (8 : Int) (IntKind.wrap .u64 c.2.1.2.1)) fun r3 =>
  obind (codec_Writer_Fixed n r3 (8 : Int) (IntKind.wrap .u64 c.2.1.2.2)) fun r4 =>
  obind (codec_Writer_Fixed n r4 (4 : Int) (IntKind.wrap .u64 c.2.2.1.1)) fun r5 =>
  obind (codec_Writer_Fixed n r5 (4 : Int) (IntKind.wrap .u64 c.2.2.1.2.1)) fun r6 =>
  obind (codec_Writer_Fixed n r6 (4 : Int) (IntKind.wrap .u64 c.2.2.1.2.2)) fun r7 =>
  obind (codec_Writer_Fixed n r7 (4 : Int) (IntKind.wrap .u64 c.2.2.2.1)) fun r8 =>
  obind (codec_Writer_Fixed n r8 (4 : Int) (IntKind.wrap .u64 c.2.2.2.2)) fun r9 =>
  obind (codec_Writer_Fixed n r9 (8 : Int) (0 : Int)) fun r10 =>
  obind (codec_Writer_Out n r10) fun r11 =>
  some r11.1) := by kernel_rfl

theorem r10_Bytes_eq (n : Nat) (c : (Int × ((Int × (Int × Int)) × ((Int × (Int × Int)) × (Int × Int))))) : r10_Bytes (n + 1) c =
  obind (r10_Check n c) fun r0 =>
  tif ((!(decide (r0 = (0 : Int))))) (
  some []) (
  obind (r03_Fixed n (4 : Int) (IntKind.wrap .u64 c.1)) fun r1 =>
  obind (r03_Fixed n (8 : Int) (IntKind.wrap .u64 c.2.1.1)) fun r2 =>
  tif ((decide (((List.length r1) + (List.length r2)) ≤ 9223372036854775807))) (
  obind (r03_Fixed n (8 : Int) (IntKind.wrap .u64 c.2.1.2.1)) fun r3 =>
  tif ((decide (((List.length (r1 ++ r2)) + (List.length r3)) ≤ 9223372036854775807))) (
  obind (r03_Fixed n (8 : Int) (IntKind.wrap .u64 c.2.1.2.2)) fun r4 =>
  tif ((decide (((List.length ((r1 ++ r2) ++ r3)) + (List.length r4)) ≤ 9223372036854775807))) (
  obind (r03_Fixed n (4 : Int) (IntKind.wrap .u64 c.2.2.1.1)) fun r5 =>
  tif ((decide (((List.length (((r1 ++ r2) ++ r3) ++ r4)) + (List.length r5)) ≤ 9223372036854775807))) (
  obind (r03_Fixed n (4 : Int) (IntKind.wrap .u64 c.2.2.1.2.1)) fun r6 =>
  tif ((decide (((List.length ((((r1 ++ r2) ++ r3) ++ r4) ++ r5)) + (List.length r6)) ≤ 9223372036854775807))) (
  obind (r03_Fixed n (4 : Int) (IntKind.wrap .u64 c.2.2.1.2.2)) fun r7 =>
  tif ((decide (((List.length (((((r1 ++ r2) ++ r3) ++ r4) ++ r5) ++ r6)) + (List.length r7)) ≤ 9223372036854775807))) (
  obind (r03_Fixed n (4 : Int) (IntKind.wrap .u64 c.2.2.2.1)) fun r8 =>
  tif ((decide (((List.length ((((((r1 ++ r2) ++ r3) ++ r4) ++ r5) ++ r6) ++ r7)) + (List.length r8)) ≤ 9223372036854775807))) (
  obind (r03_Fixed n (4 : Int) (IntKind.wrap .u64 c.2.2.2.2)) fun r9 =>
  tif ((decide (((List.length (((((((r1 ++ r2) ++ r3) ++ r4) ++ r5) ++ r6) ++ r7) ++ r8)) + (List.length r9)) ≤ 9223372036854775807))) (
  tif ((decide (((List.length ((((((((r1 ++ r2) ++ r3) ++ r4) ++ r5) ++ r6) ++ r7) ++ r8) ++ r9)) + 8) ≤ 9223372036854775807))) (
  some (((((((((r1 ++ r2) ++ r3) ++ r4) ++ r5) ++ r6) ++ r7) ++ r8) ++ r9) ++ ((0 : UInt8) :: ((0 : UInt8) :: ((0 : UInt8) :: ((0 : UInt8) :: ((0 : UInt8) :: ((0 : UInt8) :: ((0 : UInt8) :: ((0 : UInt8) :: [])))))))))) (
  none)) (
  none)) (
  none)) (
  none)) (
  none)) (
  none)) (
  none)) (
  none)) (
  none)) := by kernel_rfl

theorem conf_Retention_eq (n : Nat) (c : (Int × ((Int × (Int × Int)) × ((Int × (Int × Int)) × (Int × Int))))) : conf_Retention (n + 1) c =
  obind (conf_Check n c) fun r0 =>
  tif ((!(decide (r0 = (0 : Int))))) (
  some (0 : Int)) (
  some (if (if (if (0 : Int) < (IntKind.wrap .i64 (c.2.1.1 * c.2.2.1.1)) then (IntKind.wrap .i64 (c.2.1.1 * c.2.2.1.1)) else (0 : Int)) < (IntKind.wrap .i64 (c.2.1.2.1 * c.2.2.1.2.1)) then (IntKind.wrap .i64 (c.2.1.2.1 * c.2.2.1.2.1)) else (if (0 : Int) < (IntKind.wrap .i64 (c.2.1.1 * c.2.2.1.1)) then (IntKind.wrap .i64 (c.2.1.1 * c.2.2.1.1)) else (0 : Int))) < (IntKind.wrap .i64 (c.2.1.2.2 * c.2.2.1.2.2)) then (IntKind.wrap .i64 (c.2.1.2.2 * c.2.2.1.2.2)) else (if (if (0 : Int) < (IntKind.wrap .i64 (c.2.1.1 * c.2.2.1.1)) then (IntKind.wrap .i64 (c.2.1.1 * c.2.2.1.1)) else (0 : Int)) < (IntKind.wrap .i64 (c.2.1.2.1 * c.2.2.1.2.1)) then (IntKind.wrap .i64 (c.2.1.2.1 * c.2.2.1.2.1)) else (if (0 : Int) < (IntKind.wrap .i64 (c.2.1.1 * c.2.2.1.1)) then (IntKind.wrap .i64 (c.2.1.1 * c.2.2.1.1)) else (0 : Int))))) := by kernel_rfl

theorem r10_Retention_eq (n : Nat) (c : (Int × ((Int × (Int × Int)) × ((Int × (Int × Int)) × (Int × Int))))) : r10_Retention (n + 1) c =
  obind (r10_Check n c) fun r0 =>
  tif ((!(decide (r0 = (0 : Int))))) (
  some (0 : Int)) (
  some (if (if (if (0 : Int) < (IntKind.wrap .i64 (c.2.1.1 * c.2.2.1.1)) then (IntKind.wrap .i64 (c.2.1.1 * c.2.2.1.1)) else (0 : Int)) < (IntKind.wrap .i64 (c.2.1.2.1 * c.2.2.1.2.1)) then (IntKind.wrap .i64 (c.2.1.2.1 * c.2.2.1.2.1)) else (if (0 : Int) < (IntKind.wrap .i64 (c.2.1.1 * c.2.2.1.1)) then (IntKind.wrap .i64 (c.2.1.1 * c.2.2.1.1)) else (0 : Int))) < (IntKind.wrap .i64 (c.2.1.2.2 * c.2.2.1.2.2)) then (IntKind.wrap .i64 (c.2.1.2.2 * c.2.2.1.2.2)) else (if (if (0 : Int) < (IntKind.wrap .i64 (c.2.1.1 * c.2.2.1.1)) then (IntKind.wrap .i64 (c.2.1.1 * c.2.2.1.1)) else (0 : Int)) < (IntKind.wrap .i64 (c.2.1.2.1 * c.2.2.1.2.1)) then (IntKind.wrap .i64 (c.2.1.2.1 * c.2.2.1.2.1)) else (if (0 : Int) < (IntKind.wrap .i64 (c.2.1.1 * c.2.2.1.1)) then (IntKind.wrap .i64 (c.2.1.1 * c.2.2.1.1)) else (0 : Int))))) := by kernel_rfl

theorem l10_Fit_eq (n : Nat)  : l10_Fit (n + 1)  =
  some ((20 : Int), (((10 : Int), ((20 : Int), (60 : Int))), (((4 : Int), ((5 : Int), (6 : Int))), ((3 : Int), (9 : Int))))) := by kernel_rfl

theorem codec_Open_eq (n : Nat) (s : List UInt8) : codec_Open (n + 1) s =
  some (s, false) := by kernel_rfl

theorem codec_Reader_Fixed_eq (n : Nat) (r : (List UInt8 × Bool)) (width : Int) : codec_Reader_Fixed (n + 1) r width =
  tif ((decide (width < (1 : Int)))) (
  obind (codec_Reader_fail n r) fun r0 =>
  some ((0 : Int), r0)) (
  tif ((decide ((8 : Int) < width))) (
  obind (codec_Reader_fail n r) fun r1 =>
  some ((0 : Int), r1)) (
  obind (codec_Reader_Raw n r width) fun r2 =>
  obind (codec_Reader_Fixed_l6 n loopFuel (r2.2, ((0 : Int), ((List.map (fun y3 => (((UInt8.toNat y3) : Nat) : Int)) r2.1), ((((List.length (List.map (fun y4 => (((UInt8.toNat y4) : Nat) : Int)) r2.1)) : Nat) : Int), ((0 : Int), ())))))) fun r5 =>
  selim (fun y6 =>
  some (y6.2.1, y6.1)) (fun z7 =>
  some z7) r5)) := by kernel_rfl
theorem codec_Reader_Fixed_l6_eq (n f : Nat) (r : (List UInt8 × Bool)) (n_ : Int) (s19 : (List Int)) (s20 : Int) (s21 : Int) : codec_Reader_Fixed_l6 n (f + 1) (r, n_, s19, s20, s21, ()) =
  tif ((decide (s21 < s20))) (
  obind (at? s19 s21) fun r0 =>
  codec_Reader_Fixed_l6 n f (r, ((orI .u64 (shlI .u64 n_ (8 : Int)) (IntKind.wrap .u64 r0)), (s19, (s20, ((IntKind.wrap .i64 (s21 + (1 : Int))), ())))))) (
  some (.inl (r, (n_, ())))) := by kernel_rfl
theorem codec_Reader_Fixed_l6_zero (n : Nat) (x : ((List UInt8 × Bool) × (Int × ((List Int) × (Int × (Int × Unit)))))) : codec_Reader_Fixed_l6 n 0 x = none := by kernel_rfl

theorem codec_Reader_Bad_eq (n : Nat) (r : (List UInt8 × Bool)) : codec_Reader_Bad (n + 1) r =
  some r.2 := by kernel_rfl

theorem codec_Reader_Left_eq (n : Nat) (r : (List UInt8 × Bool)) : codec_Reader_Left (n + 1) r =
  some (((List.length r.1) : Nat) : Int) := by kernel_rfl

theorem r03_Reader_Fixed_eq (n : Nat) (r : (List UInt8 × Bool)) (width : Int) : r03_Reader_Fixed (n + 1) r width =
  tif ((decide (width < (1 : Int)))) (
  some (([], true), (0 : Int))) (
  tif ((decide ((8 : Int) < width))) (
  some (([], true), (0 : Int))) (
  obind (r03_Reader_Raw n r width) fun r0 =>
  obind (r03_Reader_Fixed_l6 n loopFuel (r0.1, (([], false), (r0.2, ((0 : Int), ((0 : Int), ())))))) fun r1 =>
  selim (fun y2 =>
  some (y2.1, y2.2.2.1)) (fun z3 =>
  some z3) r1)) := by kernel_rfl
theorem r03_Reader_Fixed_l6_eq (n f : Nat) (r_ : (List UInt8 × Bool)) (s4 : (List UInt8 × Bool)) (s : List UInt8) (n_ : Int) (i : Int) : r03_Reader_Fixed_l6 n (f + 1) (r_, s4, s, n_, i, ()) =
  tif ((decide (i < (((List.length s) : Nat) : Int)))) (
  obind (at? s i) fun r0 =>
  r03_Reader_Fixed_l6 n f (r_, (s4, (s, ((IntKind.wrap .u64 ((IntKind.wrap .u64 ((256 : Int) * n_)) + (IntKind.wrap .u64 (((UInt8.toNat r0) : Nat) : Int)))), ((IntKind.wrap .i64 (i + (1 : Int))), ())))))) (
  some (.inl (r_, (s4, (n_, ()))))) := by kernel_rfl
theorem r03_Reader_Fixed_l6_zero (n : Nat) (x : ((List UInt8 × Bool) × ((List UInt8 × Bool) × (List UInt8 × (Int × (Int × Unit)))))) : r03_Reader_Fixed_l6 n 0 x = none := by kernel_rfl

theorem conf_in_int_eq (n : Nat) (n_ : Int) (low : Int) (high : Int) : conf_in_int (n + 1) n_ low high =
  tif ((decide (low ≤ n_))) (
  some (decide (n_ ≤ high))) (
  some false) := by kernel_rfl

theorem conf_in_int64_eq (n : Nat) (n_ : Int) (low : Int) (high : Int) : conf_in_int64 (n + 1) n_ low high =
  tif ((decide (low ≤ n_))) (
  some (decide (n_ ≤ high))) (
  some false) := by kernel_rfl

theorem conf_place_eq (n : Nat) (c : (Int × ((Int × (Int × Int)) × ((Int × (Int × Int)) × (Int × Int))))) : conf_place (n + 1) c =
  obind (conf_parts n c.1 (16 : Int)) fun r0 =>
  obind (conf_parts n c.2.2.1.1 (4 : Int)) fun r1 =>
  obind (conf_parts n c.2.2.1.2.1 (4 : Int)) fun r2 =>
  obind (conf_parts n c.2.2.1.2.2 (4 : Int)) fun r3 =>
  some (IntKind.wrap .i64 ((IntKind.wrap .i64 ((IntKind.wrap .i64 ((IntKind.wrap .i64 ((1 : Int) + r0)) + r1)) + r2)) + r3)) := by kernel_rfl

theorem r10_place_eq (n : Nat) (c : (Int × ((Int × (Int × Int)) × ((Int × (Int × Int)) × (Int × Int))))) : r10_place (n + 1) c =
  obind (r10_parts n c.1 (16 : Int)) fun r0 =>
  obind (r10_parts n c.2.2.1.1 (4 : Int)) fun r1 =>
  obind (r10_parts n c.2.2.1.2.1 (4 : Int)) fun r2 =>
  obind (r10_parts n c.2.2.1.2.2 (4 : Int)) fun r3 =>
  some (IntKind.wrap .i64 ((IntKind.wrap .i64 ((IntKind.wrap .i64 ((IntKind.wrap .i64 ((1 : Int) + r0)) + r1)) + r2)) + r3)) := by kernel_rfl

theorem conf_parts_eq (n : Nat) (n_ : Int) (by_ : Int) : conf_parts (n + 1) n_ by_ =
  tif ((decide (by_ = (0 : Int)))) (
  none) (
  some (IntKind.wrap .i64 (Int.tdiv (IntKind.wrap .i64 ((IntKind.wrap .i64 (n_ + by_)) - (1 : Int))) by_))) := by kernel_rfl

theorem r10_parts_eq (n : Nat) (n_ : Int) (each : Int) : r10_parts (n + 1) n_ each =
  obind (r10_parts_l2 n loopFuel (n_, (each, ((0 : Int), ())))) fun r0 =>
  selim (fun y1 =>
  some y1.1) (fun z2 =>
  some z2) r0 := by kernel_rfl
theorem r10_parts_l2_eq (n f : Nat) (n_ : Int) (each : Int) (k : Int) : r10_parts_l2 n (f + 1) (n_, each, k, ()) =
  tif ((decide ((0 : Int) < n_))) (
  r10_parts_l2 n f ((IntKind.wrap .i64 (n_ - each)), (each, ((IntKind.wrap .i64 (k + (1 : Int))), ())))) (
  some (.inl (k, ()))) := by kernel_rfl
theorem r10_parts_l2_zero (n : Nat) (x : (Int × (Int × (Int × Unit)))) : r10_parts_l2 n 0 x = none := by kernel_rfl

theorem codec_Writer_Fixed_eq (n : Nat) (w : (List Int)) (width : Int) (n_ : Int) : codec_Writer_Fixed (n + 1) w width n_ =
  tif ((decide (width < (1 : Int)))) (
  some w) (
  tif ((decide ((8 : Int) < width))) (
  some w) (
  obind (codec_Writer_Fixed_l2 n loopFuel (w, (n_, ((IntKind.wrap .i64 ((8 : Int) * (IntKind.wrap .i64 (width - (1 : Int))))), ())))) fun r0 =>
  selim (fun y1 =>
  some y1.1) (fun z2 =>
  some z2) r0)) := by kernel_rfl
theorem codec_Writer_Fixed_l2_eq (n f : Nat) (w : (List Int)) (n_ : Int) (up : Int) : codec_Writer_Fixed_l2 n (f + 1) (w, n_, up, ()) =
  tif ((decide ((0 : Int) ≤ up))) (
  tif ((decide (up < (0 : Int)))) (
  none) (
  tif ((decide ((((List.length w) + 1) * 1) ≤ 140737488355328))) (
  codec_Writer_Fixed_l2 n f ((w ++ ((IntKind.wrap .u8 (shrI .u64 n_ up)) :: [])), (n_, ((IntKind.wrap .i64 (up - (8 : Int))), ())))) (
  none))) (
  some (.inl (w, ()))) := by kernel_rfl
theorem codec_Writer_Fixed_l2_zero (n : Nat) (x : ((List Int) × (Int × (Int × Unit)))) : codec_Writer_Fixed_l2 n 0 x = none := by kernel_rfl

theorem codec_Writer_Out_eq (n : Nat) (w : (List Int)) : codec_Writer_Out (n + 1) w =
  some ((List.map (fun y0 => (UInt8.ofNat (Int.toNat y0))) w), w) := by kernel_rfl

theorem r03_Fixed_eq (n : Nat) (width : Int) (n_ : Int) : r03_Fixed (n + 1) width n_ =
  tif ((decide (width < (1 : Int)))) (
  some []) (
  tif ((decide ((8 : Int) < width))) (
  some []) (
  tif (((decide ((0 : Int) ≤ width)) && ((decide (width ≤ width)) && (decide ((width * (1 : Int)) ≤ (140737488355328 : Int)))))) (
  obind (r03_Fixed_l5 n loopFuel (width, (n_, ((List.replicate (Int.toNat width) (0 : Int)), ((((List.length (List.replicate (Int.toNat width) (0 : Int))) : Nat) : Int), ((0 : Int), ())))))) fun r0 =>
  selim (fun y1 =>
  some (List.map (fun y2 => (UInt8.ofNat (Int.toNat y2))) y1.1)) (fun z3 =>
  some z3) r0) (
  none))) := by kernel_rfl
theorem r03_Fixed_l5_eq (n f : Nat) (width : Int) (n_ : Int) (b : (List Int)) (s16 : Int) (s17 : Int) : r03_Fixed_l5 n (f + 1) (width, n_, b, s16, s17, ()) =
  tif ((decide (s17 < s16))) (
  obind (at? b (IntKind.wrap .i64 ((IntKind.wrap .i64 (width - (1 : Int))) - s17))) fun r0 =>
  obind ((b)[(Int.toNat (IntKind.wrap .i64 ((IntKind.wrap .i64 (width - (1 : Int))) - s17)))]?) fun r1 =>
  r03_Fixed_l5 n f (width, ((IntKind.wrap .u64 (Int.tdiv n_ (256 : Int))), ((List.set b (Int.toNat (IntKind.wrap .i64 ((IntKind.wrap .i64 (width - (1 : Int))) - s17))) (IntKind.wrap .u8 (Int.tmod n_ (256 : Int)))), (s16, ((IntKind.wrap .i64 (s17 + (1 : Int))), ())))))) (
  some (.inl (b, ()))) := by kernel_rfl
theorem r03_Fixed_l5_zero (n : Nat) (x : (Int × (Int × ((List Int) × (Int × (Int × Unit)))))) : r03_Fixed_l5 n 0 x = none := by kernel_rfl

theorem codec_Reader_fail_eq (n : Nat) (r : (List UInt8 × Bool)) : codec_Reader_fail (n + 1) r =
  some ([], true) := by kernel_rfl

theorem codec_Reader_Raw_eq (n : Nat) (r : (List UInt8 × Bool)) (n_ : Int) : codec_Reader_Raw (n + 1) r n_ =
  tif (r.2) (
  obind (codec_Reader_fail n r) fun r0 =>
  some ([], r0)) (
  tif ((decide (n_ < (0 : Int)))) (
  obind (codec_Reader_fail n r) fun r1 =>
  some ([], r1)) (
  tif ((decide ((((List.length r.1) : Nat) : Int) < n_))) (
  obind (codec_Reader_fail n r) fun r2 =>
  some ([], r2)) (
  tif (((decide ((0 : Int) ≤ n_)) && (decide (n_ ≤ (((List.length r.1) : Nat) : Int))))) (
  tif ((decide ((0 : Int) ≤ n_))) (
  tif ((decide ((Int.toNat n_) ≤ (List.length r.1)))) (
  some ((List.drop 0 (List.take (Int.toNat n_) r.1)), ((List.drop (Int.toNat n_) (List.take (List.length r.1) r.1)), r.2))) (
  none)) (
  none)) (
  none)))) := by kernel_rfl

theorem r03_Reader_Raw_eq (n : Nat) (r : (List UInt8 × Bool)) (n_ : Int) : r03_Reader_Raw (n + 1) r n_ =
  tif (r.2) (
  some (([], true), [])) (
  tif ((decide (n_ < (0 : Int)))) (
  some (([], true), [])) (
  tif ((decide ((((List.length r.1) : Nat) : Int) < n_))) (
  some (([], true), [])) (
  tif ((decide ((0 : Int) ≤ n_))) (
  tif ((decide ((Int.toNat n_) ≤ (List.length r.1)))) (
  tif (((decide ((0 : Int) ≤ n_)) && (decide (n_ ≤ (((List.length r.1) : Nat) : Int))))) (
  some (((List.drop (Int.toNat n_) (List.take (List.length r.1) r.1)), false), (List.drop 0 (List.take (Int.toNat n_) r.1)))) (
  none)) (
  none)) (
  none)))) := by kernel_rfl


end Go.Proofs.Ytmooabafkcfbhaa
