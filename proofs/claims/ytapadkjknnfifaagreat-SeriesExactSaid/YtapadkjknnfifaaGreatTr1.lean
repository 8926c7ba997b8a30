/-
  What each function comes to by one step of the flat reading. Printed by program; the kernel looks at each.
-/
import Derived.Test.YtapadkjknnfifaaGreatTr0
import Derived.KernelRfl
set_option linter.unusedVariables false
namespace Go.Proofs.YtapadkjknnfifaaGreat
open Go.Flat
theorem l15_SeriesExact_eq (n : Nat) (c : TConfig) (l : (List TEvent)) (k : Int) (i : Int) (j : Int) : l15_SeriesExact (n + 1) c l k i j =
  tif ((decide (k = (0 : Int)))) (
  obind (l15_lives n ) fun r0 =>
  tif ((!r0)) (
  some false) (
  obind (series_New n c ((((97 : UInt8) :: []), []) :: [])) fun r1 =>
  tif ((!(decide (r1.2 = (0 : Int))))) (
  some true) (
  obind (l15_Small n r1.1) fun r2 =>
  tif ((decide (r2 = (0 : Int)))) (
  some true) (
  tif ((decide ((60 : Int) < (((List.length l) : Nat) : Int)))) (
  some true) (
  tif ((decide ((((List.length l) : Nat) : Int) = (0 : Int)))) (
  some true) (
  obind (cell_Of n l) fun r3 =>
  tif ((!(decide (r3.2 = (0 : Int))))) (
  some true) (
  obind (l15_SeriesExact_l10 n loopFuel (l, ((0 : Int), (i, (j, (c, (r1.1, (l, ((((List.length l) : Nat) : Int), ((0 : Int), ())))))))))) fun r4 =>
  selim (fun y5 =>
  tif ((decide (y5.2.1 = (0 : Int)))) (
  obind (series_Check n y5.2.2.2.2.1 y5.2.2.2.2.2.1) fun r6 =>
  tif ((!(decide (r6 = (0 : Int))))) (
  some false) (
  obind (at? y5.1 (IntKind.wrap .i64 ((((List.length y5.1) : Nat) : Int) - (1 : Int)))) fun r7 =>
  tif ((!(decide (y5.2.2.2.2.2.1.2.1 = r7.1)))) (
  some false) (
  tif ((decide ((0 : Int) ≤ (IntKind.wrap .i64 ((((List.length y5.1) : Nat) : Int) - (if y5.2.2.2.2.1.1 < (((List.length y5.1) : Nat) : Int) then y5.2.2.2.2.1.1 else (((List.length y5.1) : Nat) : Int))))))) (
  tif ((decide ((Int.toNat (IntKind.wrap .i64 ((((List.length y5.1) : Nat) : Int) - (if y5.2.2.2.2.1.1 < (((List.length y5.1) : Nat) : Int) then y5.2.2.2.2.1.1 else (((List.length y5.1) : Nat) : Int))))) ≤ (List.length y5.1)))) (
  obind (r12_SameList n y5.2.2.2.2.2.1.2.2.1.2.2 (List.drop (Int.toNat (IntKind.wrap .i64 ((((List.length y5.1) : Nat) : Int) - (if y5.2.2.2.2.1.1 < (((List.length y5.1) : Nat) : Int) then y5.2.2.2.2.1.1 else (((List.length y5.1) : Nat) : Int))))) (List.take (List.length y5.1) y5.1))) fun r8 =>
  tif ((!r8)) (
  some false) (
  tif ((decide (y5.2.2.2.2.1.2.1.1 = (0 : Int)))) (
  none) (
  tif ((decide (y5.2.2.2.1 < (if (if y5.2.2.1 < (IntKind.wrap .i64 ((IntKind.wrap .i64 ((IntKind.wrap .i64 (Int.tdiv y5.2.2.2.2.2.1.2.1 y5.2.2.2.2.1.2.1.1)) - y5.2.2.2.2.1.2.2.1.1)) + (1 : Int))) then (IntKind.wrap .i64 ((IntKind.wrap .i64 ((IntKind.wrap .i64 (Int.tdiv y5.2.2.2.2.2.1.2.1 y5.2.2.2.2.1.2.1.1)) - y5.2.2.2.2.1.2.2.1.1)) + (1 : Int))) else y5.2.2.1) < (0 : Int) then (0 : Int) else (if y5.2.2.1 < (IntKind.wrap .i64 ((IntKind.wrap .i64 ((IntKind.wrap .i64 (Int.tdiv y5.2.2.2.2.2.1.2.1 y5.2.2.2.2.1.2.1.1)) - y5.2.2.2.2.1.2.2.1.1)) + (1 : Int))) then (IntKind.wrap .i64 ((IntKind.wrap .i64 ((IntKind.wrap .i64 (Int.tdiv y5.2.2.2.2.2.1.2.1 y5.2.2.2.2.1.2.1.1)) - y5.2.2.2.2.1.2.2.1.1)) + (1 : Int))) else y5.2.2.1))))) (
  some true) (
  obind (l15_SeriesExact_l24 n loopFuel ((0 : Int), ((if (if y5.2.2.1 < (IntKind.wrap .i64 ((IntKind.wrap .i64 ((IntKind.wrap .i64 (Int.tdiv y5.2.2.2.2.2.1.2.1 y5.2.2.2.2.1.2.1.1)) - y5.2.2.2.2.1.2.2.1.1)) + (1 : Int))) then (IntKind.wrap .i64 ((IntKind.wrap .i64 ((IntKind.wrap .i64 (Int.tdiv y5.2.2.2.2.2.1.2.1 y5.2.2.2.2.1.2.1.1)) - y5.2.2.2.2.1.2.2.1.1)) + (1 : Int))) else y5.2.2.1) < (0 : Int) then (0 : Int) else (if y5.2.2.1 < (IntKind.wrap .i64 ((IntKind.wrap .i64 ((IntKind.wrap .i64 (Int.tdiv y5.2.2.2.2.2.1.2.1 y5.2.2.2.2.1.2.1.1)) - y5.2.2.2.2.1.2.2.1.1)) + (1 : Int))) then (IntKind.wrap .i64 ((IntKind.wrap .i64 ((IntKind.wrap .i64 (Int.tdiv y5.2.2.2.2.2.1.2.1 y5.2.2.2.2.1.2.1.1)) - y5.2.2.2.2.1.2.2.1.1)) + (1 : Int))) else y5.2.2.1)), (y5.2.2.2.1, (y5.2.2.2.2.1, (y5.2.2.2.2.2.1, ([], (y5.1, ((((List.length y5.1) : Nat) : Int), ((0 : Int), ())))))))))) fun r9 =>
  selim (fun y10 =>
  tif ((decide (y10.1 = (0 : Int)))) (
  obind (cell_Of n y10.2.2.2.2.2.1) fun r11 =>
  obind (series_Range n y10.2.2.2.1 y10.2.2.2.2.1 (0 : Int) y10.2.1 y10.2.2.1) fun r12 =>
  tif ((decide (r11.2 = (0 : Int)))) (
  tif ((decide (r12.2 = (0 : Int)))) (
  some ((decide (r12.1.1 = r11.1.1)) && ((decide (r12.1.2.1.1 = r11.1.2.1.1)) && ((decide (r12.1.2.1.2.1 = r11.1.2.1.2.1)) && ((decide (r12.1.2.1.2.2.1 = r11.1.2.1.2.2.1)) && ((r12.1.2.1.2.2.2 == r11.1.2.1.2.2.2) && ((decide (r12.1.2.2.1.1 = r11.1.2.2.1.1)) && ((decide (r12.1.2.2.1.2.1 = r11.1.2.2.1.2.1)) && ((decide (r12.1.2.2.1.2.2.1 = r11.1.2.2.1.2.2.1)) && ((r12.1.2.2.1.2.2.2 == r11.1.2.2.1.2.2.2) && ((decide (r12.1.2.2.2.1.1 = r11.1.2.2.2.1.1)) && ((decide (r12.1.2.2.2.1.2 = r11.1.2.2.2.1.2)) && ((decide (r12.1.2.2.2.2.1 = r11.1.2.2.2.2.1)) && ((decide (r12.1.2.2.2.2.2.1 = r11.1.2.2.2.2.2.1)) && (decide (r12.1.2.2.2.2.2.2 = r11.1.2.2.2.2.2.2)))))))))))))))) (
  some false)) (
  some false)) (
  tif ((decide (y10.1 = (1 : Int)))) (
  obind (cell_Of n y10.2.2.2.2.2.1) fun r13 =>
  obind (series_Range n y10.2.2.2.1 y10.2.2.2.2.1 (1 : Int) y10.2.1 y10.2.2.1) fun r14 =>
  tif ((decide (r13.2 = (0 : Int)))) (
  tif ((decide (r14.2 = (0 : Int)))) (
  some ((decide (r14.1.1 = r13.1.1)) && ((decide (r14.1.2.1.1 = r13.1.2.1.1)) && ((decide (r14.1.2.1.2.1 = r13.1.2.1.2.1)) && ((decide (r14.1.2.1.2.2.1 = r13.1.2.1.2.2.1)) && ((r14.1.2.1.2.2.2 == r13.1.2.1.2.2.2) && ((decide (r14.1.2.2.1.1 = r13.1.2.2.1.1)) && ((decide (r14.1.2.2.1.2.1 = r13.1.2.2.1.2.1)) && ((decide (r14.1.2.2.1.2.2.1 = r13.1.2.2.1.2.2.1)) && ((r14.1.2.2.1.2.2.2 == r13.1.2.2.1.2.2.2) && ((decide (r14.1.2.2.2.1.1 = r13.1.2.2.2.1.1)) && ((decide (r14.1.2.2.2.1.2 = r13.1.2.2.2.1.2)) && ((decide (r14.1.2.2.2.2.1 = r13.1.2.2.2.2.1)) && ((decide (r14.1.2.2.2.2.2.1 = r13.1.2.2.2.2.2.1)) && (decide (r14.1.2.2.2.2.2.2 = r13.1.2.2.2.2.2.2)))))))))))))))) (
  some false)) (
  some false)) (
  tif ((decide (y10.1 = (2 : Int)))) (
  obind (cell_Of n y10.2.2.2.2.2.1) fun r15 =>
  obind (series_Range n y10.2.2.2.1 y10.2.2.2.2.1 (2 : Int) y10.2.1 y10.2.2.1) fun r16 =>
  tif ((decide (r15.2 = (0 : Int)))) (
  tif ((decide (r16.2 = (0 : Int)))) (
  some ((decide (r16.1.1 = r15.1.1)) && ((decide (r16.1.2.1.1 = r15.1.2.1.1)) && ((decide (r16.1.2.1.2.1 = r15.1.2.1.2.1)) && ((decide (r16.1.2.1.2.2.1 = r15.1.2.1.2.2.1)) && ((r16.1.2.1.2.2.2 == r15.1.2.1.2.2.2) && ((decide (r16.1.2.2.1.1 = r15.1.2.2.1.1)) && ((decide (r16.1.2.2.1.2.1 = r15.1.2.2.1.2.1)) && ((decide (r16.1.2.2.1.2.2.1 = r15.1.2.2.1.2.2.1)) && ((r16.1.2.2.1.2.2.2 == r15.1.2.2.1.2.2.2) && ((decide (r16.1.2.2.2.1.1 = r15.1.2.2.2.1.1)) && ((decide (r16.1.2.2.2.1.2 = r15.1.2.2.2.1.2)) && ((decide (r16.1.2.2.2.2.1 = r15.1.2.2.2.2.1)) && ((decide (r16.1.2.2.2.2.2.1 = r15.1.2.2.2.2.2.1)) && (decide (r16.1.2.2.2.2.2.2 = r15.1.2.2.2.2.2.2)))))))))))))))) (
  some false)) (
  some false)) (
  none)))) (fun z17 =>
  some z17) r9)))) (
  none)) (
  none)))) (
  tif ((decide (y5.2.1 = (1 : Int)))) (
  obind (series_Check n y5.2.2.2.2.1 y5.2.2.2.2.2.1) fun r18 =>
  tif ((!(decide (r18 = (0 : Int))))) (
  some false) (
  obind (at? y5.1 (IntKind.wrap .i64 ((((List.length y5.1) : Nat) : Int) - (1 : Int)))) fun r19 =>
  tif ((!(decide (y5.2.2.2.2.2.1.2.1 = r19.1)))) (
  some false) (
  tif ((decide ((0 : Int) ≤ (IntKind.wrap .i64 ((((List.length y5.1) : Nat) : Int) - (if y5.2.2.2.2.1.1 < (((List.length y5.1) : Nat) : Int) then y5.2.2.2.2.1.1 else (((List.length y5.1) : Nat) : Int))))))) (
  tif ((decide ((Int.toNat (IntKind.wrap .i64 ((((List.length y5.1) : Nat) : Int) - (if y5.2.2.2.2.1.1 < (((List.length y5.1) : Nat) : Int) then y5.2.2.2.2.1.1 else (((List.length y5.1) : Nat) : Int))))) ≤ (List.length y5.1)))) (
  obind (r12_SameList n y5.2.2.2.2.2.1.2.2.1.2.2 (List.drop (Int.toNat (IntKind.wrap .i64 ((((List.length y5.1) : Nat) : Int) - (if y5.2.2.2.2.1.1 < (((List.length y5.1) : Nat) : Int) then y5.2.2.2.2.1.1 else (((List.length y5.1) : Nat) : Int))))) (List.take (List.length y5.1) y5.1))) fun r20 =>
  tif ((!r20)) (
  some false) (
  tif ((decide (y5.2.2.2.2.1.2.1.2.1 = (0 : Int)))) (
  none) (
  tif ((decide (y5.2.2.2.1 < (if (if y5.2.2.1 < (IntKind.wrap .i64 ((IntKind.wrap .i64 ((IntKind.wrap .i64 (Int.tdiv y5.2.2.2.2.2.1.2.1 y5.2.2.2.2.1.2.1.2.1)) - y5.2.2.2.2.1.2.2.1.2.1)) + (1 : Int))) then (IntKind.wrap .i64 ((IntKind.wrap .i64 ((IntKind.wrap .i64 (Int.tdiv y5.2.2.2.2.2.1.2.1 y5.2.2.2.2.1.2.1.2.1)) - y5.2.2.2.2.1.2.2.1.2.1)) + (1 : Int))) else y5.2.2.1) < (0 : Int) then (0 : Int) else (if y5.2.2.1 < (IntKind.wrap .i64 ((IntKind.wrap .i64 ((IntKind.wrap .i64 (Int.tdiv y5.2.2.2.2.2.1.2.1 y5.2.2.2.2.1.2.1.2.1)) - y5.2.2.2.2.1.2.2.1.2.1)) + (1 : Int))) then (IntKind.wrap .i64 ((IntKind.wrap .i64 ((IntKind.wrap .i64 (Int.tdiv y5.2.2.2.2.2.1.2.1 y5.2.2.2.2.1.2.1.2.1)) - y5.2.2.2.2.1.2.2.1.2.1)) + (1 : Int))) else y5.2.2.1))))) (
  some true) (
  obind (l15_SeriesExact_l24 n loopFuel ((1 : Int), ((if (if y5.2.2.1 < (IntKind.wrap .i64 ((IntKind.wrap .i64 ((IntKind.wrap .i64 (Int.tdiv y5.2.2.2.2.2.1.2.1 y5.2.2.2.2.1.2.1.2.1)) - y5.2.2.2.2.1.2.2.1.2.1)) + (1 : Int))) then (IntKind.wrap .i64 ((IntKind.wrap .i64 ((IntKind.wrap .i64 (Int.tdiv y5.2.2.2.2.2.1.2.1 y5.2.2.2.2.1.2.1.2.1)) - y5.2.2.2.2.1.2.2.1.2.1)) + (1 : Int))) else y5.2.2.1) < (0 : Int) then (0 : Int) else (if y5.2.2.1 < (IntKind.wrap .i64 ((IntKind.wrap .i64 ((IntKind.wrap .i64 (Int.tdiv y5.2.2.2.2.2.1.2.1 y5.2.2.2.2.1.2.1.2.1)) - y5.2.2.2.2.1.2.2.1.2.1)) + (1 : Int))) then (IntKind.wrap .i64 ((IntKind.wrap .i64 ((IntKind.wrap .i64 (Int.tdiv y5.2.2.2.2.2.1.2.1 y5.2.2.2.2.1.2.1.2.1)) - y5.2.2.2.2.1.2.2.1.2.1)) + (1 : Int))) else y5.2.2.1)), (y5.2.2.2.1, (y5.2.2.2.2.1, (y5.2.2.2.2.2.1, ([], (y5.1, ((((List.length y5.1) : Nat) : Int), ((0 : Int), ())))))))))) fun r21 =>
  selim (fun y22 =>
  tif ((decide (y22.1 = (0 : Int)))) (
  obind (cell_Of n y22.2.2.2.2.2.1) fun r23 =>
  obind (series_Range n y22.2.2.2.1 y22.2.2.2.2.1 (0 : Int) y22.2.1 y22.2.2.1) fun r24 =>
  tif ((decide (r23.2 = (0 : Int)))) (
  tif ((decide (r24.2 = (0 : Int)))) (
  some ((decide (r24.1.1 = r23.1.1)) && ((decide (r24.1.2.1.1 = r23.1.2.1.1)) && ((decide (r24.1.2.1.2.1 = r23.1.2.1.2.1)) && ((decide (r24.1.2.1.2.2.1 = r23.1.2.1.2.2.1)) && ((r24.1.2.1.2.2.2 == r23.1.2.1.2.2.2) && ((decide (r24.1.2.2.1.1 = r23.1.2.2.1.1)) && ((decide (r24.1.2.2.1.2.1 = r23.1.2.2.1.2.1)) && ((decide (r24.1.2.2.1.2.2.1 = r23.1.2.2.1.2.2.1)) && ((r24.1.2.2.1.2.2.2 == r23.1.2.2.1.2.2.2) && ((decide (r24.1.2.2.2.1.1 = r23.1.2.2.2.1.1)) && ((decide (r24.1.2.2.2.1.2 = r23.1.2.2.2.1.2)) && ((decide (r24.1.2.2.2.2.1 = r23.1.2.2.2.2.1)) && ((decide (r24.1.2.2.2.2.2.1 = r23.1.2.2.2.2.2.1)) && (decide (r24.1.2.2.2.2.2.2 = r23.1.2.2.2.2.2.2)))))))))))))))) (
  some false)) (
  some false)) (
  tif ((decide (y22.1 = (1 : Int)))) (
  obind (cell_Of n y22.2.2.2.2.2.1) fun r25 =>
  obind (series_Range n y22.2.2.2.1 y22.2.2.2.2.1 (1 : Int) y22.2.1 y22.2.2.1) fun r26 =>
  tif ((decide (r25.2 = (0 : Int)))) (
  tif ((decide (r26.2 = (0 : Int)))) (
  some ((decide (r26.1.1 = r25.1.1)) && ((decide (r26.1.2.1.1 = r25.1.2.1.1)) && ((decide (r26.1.2.1.2.1 = r25.1.2.1.2.1)) && ((decide (r26.1.2.1.2.2.1 = r25.1.2.1.2.2.1)) && ((r26.1.2.1.2.2.2 == r25.1.2.1.2.2.2) && ((decide (r26.1.2.2.1.1 = r25.1.2.2.1.1)) && ((decide (r26.1.2.2.1.2.1 = r25.1.2.2.1.2.1)) && ((decide (r26.1.2.2.1.2.2.1 = r25.1.2.2.1.2.2.1)) && ((r26.1.2.2.1.2.2.2 == r25.1.2.2.1.2.2.2) && ((decide (r26.1.2.2.2.1.1 = r25.1.2.2.2.1.1)) && ((decide (r26.1.2.2.2.1.2 = r25.1.2.2.2.1.2)) && ((decide (r26.1.2.2.2.2.1 = r25.1.2.2.2.2.1)) && ((decide (r26.1.2.2.2.2.2.1 = r25.1.2.2.2.2.2.1)) && (decide (r26.1.2.2.2.2.2.2 = r25.1.2.2.2.2.2.2)))))))))))))))) (
  some false)) (
  some false)) (
  tif ((decide (y22.1 = (2 : Int)))) (
  obind (cell_Of n y22.2.2.2.2.2.1) fun r27 =>
  obind (series_Range n y22.2.2.2.1 y22.2.2.2.2.1 (2 : Int) y22.2.1 y22.2.2.1) fun r28 =>
  tif ((decide (r27.2 = (0 : Int)))) (
  tif ((decide (r28.2 = (0 : Int)))) (
  some ((decide (r28.1.1 = r27.1.1)) && ((decide (r28.1.2.1.1 = r27.1.2.1.1)) && ((decide (r28.1.2.1.2.1 = r27.1.2.1.2.1)) && ((decide (r28.1.2.1.2.2.1 = r27.1.2.1.2.2.1)) && ((r28.1.2.1.2.2.2 == r27.1.2.1.2.2.2) && ((decide (r28.1.2.2.1.1 = r27.1.2.2.1.1)) && ((decide (r28.1.2.2.1.2.1 = r27.1.2.2.1.2.1)) && ((decide (r28.1.2.2.1.2.2.1 = r27.1.2.2.1.2.2.1)) && ((r28.1.2.2.1.2.2.2 == r27.1.2.2.1.2.2.2) && ((decide (r28.1.2.2.2.1.1 = r27.1.2.2.2.1.1)) && ((decide (r28.1.2.2.2.1.2 = r27.1.2.2.2.1.2)) && ((decide (r28.1.2.2.2.2.1 = r27.1.2.2.2.2.1)) && ((decide (r28.1.2.2.2.2.2.1 = r27.1.2.2.2.2.2.1)) && (decide (r28.1.2.2.2.2.2.2 = r27.1.2.2.2.2.2.2)))))))))))))))) (
  some false)) (
  some false)) (
  none)))) (fun z29 =>
  some z29) r21)))) (
  none)) (
  none)))) (
  tif ((decide (y5.2.1 = (2 : Int)))) (
  obind (series_Check n y5.2.2.2.2.1 y5.2.2.2.2.2.1) fun r30 =>
  tif ((!(decide (r30 = (0 : Int))))) (
  some false) (
  obind (at? y5.1 (IntKind.wrap .i64 ((((List.length y5.1) : Nat) : Int) - (1 : Int)))) fun r31 =>
  tif ((!(decide (y5.2.2.2.2.2.1.2.1 = r31.1)))) (
  some false) (
  tif ((decide ((0 : Int) ≤ (IntKind.wrap .i64 ((((List.length y5.1) : Nat) : Int) - (if y5.2.2.2.2.1.1 < (((List.length y5.1) : Nat) : Int) then y5.2.2.2.2.1.1 else (((List.length y5.1) : Nat) : Int))))))) (
  tif ((decide ((Int.toNat (IntKind.wrap .i64 ((((List.length y5.1) : Nat) : Int) - (if y5.2.2.2.2.1.1 < (((List.length y5.1) : Nat) : Int) then y5.2.2.2.2.1.1 else (((List.length y5.1) : Nat) : Int))))) ≤ (List.length y5.1)))) (
  obind (r12_SameList n y5.2.2.2.2.2.1.2.2.1.2.2 (List.drop (Int.toNat (IntKind.wrap .i64 ((((List.length y5.1) : Nat) : Int) - (if y5.2.2.2.2.1.1 < (((List.length y5.1) : Nat) : Int) then y5.2.2.2.2.1.1 else (((List.length y5.1) : Nat) : Int))))) (List.take (List.length y5.1) y5.1))) fun r32 =>
  tif ((!r32)) (
  some false) (
  tif ((decide (y5.2.2.2.2.1.2.1.2.2 = (0 : Int)))) (
  none) (
  tif ((decide (y5.2.2.2.1 < (if (if y5.2.2.1 < (IntKind.wrap .i64 ((IntKind.wrap .i64 ((IntKind.wrap .i64 (Int.tdiv y5.2.2.2.2.2.1.2.1 y5.2.2.2.2.1.2.1.2.2)) - y5.2.2.2.2.1.2.2.1.2.2)) + (1 : Int))) then (IntKind.wrap .i64 ((IntKind.wrap .i64 ((IntKind.wrap .i64 (Int.tdiv y5.2.2.2.2.2.1.2.1 y5.2.2.2.2.1.2.1.2.2)) - y5.2.2.2.2.1.2.2.1.2.2)) + (1 : Int))) else y5.2.2.1) < (0 : Int) then (0 : Int) else (if y5.2.2.1 < (IntKind.wrap .i64 ((IntKind.wrap .i64 ((IntKind.wrap .i64 (Int.tdiv y5.2.2.2.2.2.1.2.1 y5.2.2.2.2.1.2.1.2.2)) - y5.2.2.2.2.1.2.2.1.2.2)) + (1 : Int))) then (IntKind.wrap .i64 ((IntKind.wrap .i64 ((IntKind.wrap .i64 (Int.tdiv y5.2.2.2.2.2.1.2.1 y5.2.2.2.2.1.2.1.2.2)) - y5.2.2.2.2.1.2.2.1.2.2)) + (1 : Int))) else y5.2.2.1))))) (
  some true) (
  obind (l15_SeriesExact_l24 n loopFuel ((2 : Int), ((if (if y5.2.2.1 < (IntKind.wrap .i64 ((IntKind.wrap .i64 ((IntKind.wrap .i64 (Int.tdiv y5.2.2.2.2.2.1.2.1 y5.2.2.2.2.1.2.1.2.2)) - y5.2.2.2.2.1.2.2.1.2.2)) + (1 : Int))) then (IntKind.wrap .i64 ((IntKind.wrap .i64 ((IntKind.wrap .i64 (Int.tdiv y5.2.2.2.2.2.1.2.1 y5.2.2.2.2.1.2.1.2.2)) - y5.2.2.2.2.1.2.2.1.2.2)) + (1 : Int))) else y5.2.2.1) < (0 : Int) then (0 : Int) else (if y5.2.2.1 < (IntKind.wrap .i64 ((IntKind.wrap .i64 ((IntKind.wrap .i64 (Int.tdiv y5.2.2.2.2.2.1.2.1 y5.2.2.2.2.1.2.1.2.2)) - y5.2.2.2.2.1.2.2.1.2.2)) + (1 : Int))) then (IntKind.wrap .i64 ((IntKind.wrap .i64 ((IntKind.wrap .i64 (Int.tdiv y5.2.2.2.2.2.1.2.1 y5.2.2.2.2.1.2.1.2.2)) - y5.2.2.2.2.1.2.2.1.2.2)) + (1 : Int))) else y5.2.2.1)), (y5.2.2.2.1, (y5.2.2.2.2.1, (y5.2.2.2.2.2.1, ([], (y5.1, ((((List.length y5.1) : Nat) : Int), ((0 : Int), ())))))))))) fun r33 =>
  selim (fun y34 =>
  tif ((decide (y34.1 = (0 : Int)))) (
  obind (cell_Of n y34.2.2.2.2.2.1) fun r35 =>
  obind (series_Range n y34.2.2.2.1 y34.2.2.2.2.1 (0 : Int) y34.2.1 y34.2.2.1) fun r36 =>
  tif ((decide (r35.2 = (0 : Int)))) (
  tif ((decide (r36.2 = (0 : Int)))) (
  some ((decide (r36.1.1 = r35.1.1)) && ((decide (r36.1.2.1.1 = r35.1.2.1.1)) && ((decide (r36.1.2.1.2.1 = r35.1.2.1.2.1)) && ((decide (r36.1.2.1.2.2.1 = r35.1.2.1.2.2.1)) && ((r36.1.2.1.2.2.2 == r35.1.2.1.2.2.2) && ((decide (r36.1.2.2.1.1 = r35.1.2.2.1.1)) && ((decide (r36.1.2.2.1.2.1 = r35.1.2.2.1.2.1)) && ((decide (r36.1.2.2.1.2.2.1 = r35.1.2.2.1.2.2.1)) && ((r36.1.2.2.1.2.2.2 == r35.1.2.2.1.2.2.2) && ((decide (r36.1.2.2.2.1.1 = r35.1.2.2.2.1.1)) && ((decide (r36.1.2.2.2.1.2 = r35.1.2.2.2.1.2)) && ((decide (r36.1.2.2.2.2.1 = r35.1.2.2.2.2.1)) && ((decide (r36.1.2.2.2.2.2.1 = r35.1.2.2.2.2.2.1)) && (decide (r36.1.2.2.2.2.2.2 = r35.1.2.2.2.2.2.2)))))))))))))))) (
  some false)) (
  some false)) (
  tif ((decide (y34.1 = (1 : Int)))) (
  obind (cell_Of n y34.2.2.2.2.2.1) fun r37 =>
  obind (series_Range n y34.2.2.2.1 y34.2.2.2.2.1 (1 : Int) y34.2.1 y34.2.2.1) fun r38 =>
  tif ((decide (r37.2 = (0 : Int)))) (
  tif ((decide (r38.2 = (0 : Int)))) (
  some ((decide (r38.1.1 = r37.1.1)) && ((decide (r38.1.2.1.1 = r37.1.2.1.1)) && ((decide (r38.1.2.1.2.1 = r37.1.2.1.2.1)) && ((decide (r38.1.2.1.2.2.1 = r37.1.2.1.2.2.1)) && ((r38.1.2.1.2.2.2 == r37.1.2.1.2.2.2) && ((decide (r38.1.2.2.1.1 = r37.1.2.2.1.1)) && ((decide (r38.1.2.2.1.2.1 = r37.1.2.2.1.2.1)) && ((decide (r38.1.2.2.1.2.2.1 = r37.1.2.2.1.2.2.1)) && ((r38.1.2.2.1.2.2.2 == r37.1.2.2.1.2.2.2) && ((decide (r38.1.2.2.2.1.1 = r37.1.2.2.2.1.1)) && ((decide (r38.1.2.2.2.1.2 = r37.1.2.2.2.1.2)) && ((decide (r38.1.2.2.2.2.1 = r37.1.2.2.2.2.1)) && ((decide (r38.1.2.2.2.2.2.1 = r37.1.2.2.2.2.2.1)) && (decide (r38.1.2.2.2.2.2.2 = r37.1.2.2.2.2.2.2)))))))))))))))) (
  some false)) (
  some false)) (
  tif ((decide (y34.1 = (2 : Int)))) (
  obind (cell_Of n y34.2.2.2.2.2.1) fun r39 =>
  obind (series_Range n y34.2.2.2.1 y34.2.2.2.2.1 (2 : Int) y34.2.1 y34.2.2.1) fun r40 =>
  tif ((decide (r39.2 = (0 : Int)))) (
  tif ((decide (r40.2 = (0 : Int)))) (
  some ((decide (r40.1.1 = r39.1.1)) && ((decide (r40.1.2.1.1 = r39.1.2.1.1)) && ((decide (r40.1.2.1.2.1 = r39.1.2.1.2.1)) && ((decide (r40.1.2.1.2.2.1 = r39.1.2.1.2.2.1)) && ((r40.1.2.1.2.2.2 == r39.1.2.1.2.2.2) && ((decide (r40.1.2.2.1.1 = r39.1.2.2.1.1)) && ((decide (r40.1.2.2.1.2.1 = r39.1.2.2.1.2.1)) && ((decide (r40.1.2.2.1.2.2.1 = r39.1.2.2.1.2.2.1)) && ((r40.1.2.2.1.2.2.2 == r39.1.2.2.1.2.2.2) && ((decide (r40.1.2.2.2.1.1 = r39.1.2.2.2.1.1)) && ((decide (r40.1.2.2.2.1.2 = r39.1.2.2.2.1.2)) && ((decide (r40.1.2.2.2.2.1 = r39.1.2.2.2.2.1)) && ((decide (r40.1.2.2.2.2.2.1 = r39.1.2.2.2.2.2.1)) && (decide (r40.1.2.2.2.2.2.2 = r39.1.2.2.2.2.2.2)))))))))))))))) (
  some false)) (
  some false)) (
  none)))) (fun z41 =>
  some z41) r33)))) (
  none)) (
  none)))) (
  none)))) (fun z42 =>
  some z42) r4))))))) (
  tif ((decide (k = (1 : Int)))) (
  obind (l15_lives n ) fun r43 =>
  tif ((!r43)) (
  some false) (
  obind (series_New n c ((((97 : UInt8) :: []), []) :: [])) fun r44 =>
  tif ((!(decide (r44.2 = (0 : Int))))) (
  some true) (
  obind (l15_Small n r44.1) fun r45 =>
  tif ((decide (r45 = (0 : Int)))) (
  some true) (
  tif ((decide ((60 : Int) < (((List.length l) : Nat) : Int)))) (
  some true) (
  tif ((decide ((((List.length l) : Nat) : Int) = (0 : Int)))) (
  some true) (
  obind (cell_Of n l) fun r46 =>
  tif ((!(decide (r46.2 = (0 : Int))))) (
  some true) (
  obind (l15_SeriesExact_l10 n loopFuel (l, ((1 : Int), (i, (j, (c, (r44.1, (l, ((((List.length l) : Nat) : Int), ((0 : Int), ())))))))))) fun r47 =>
  selim (fun y48 =>
  tif ((decide (y48.2.1 = (0 : Int)))) (
  obind (series_Check n y48.2.2.2.2.1 y48.2.2.2.2.2.1) fun r49 =>
  tif ((!(decide (r49 = (0 : Int))))) (
  some false) (
  obind (at? y48.1 (IntKind.wrap .i64 ((((List.length y48.1) : Nat) : Int) - (1 : Int)))) fun r50 =>
  tif ((!(decide (y48.2.2.2.2.2.1.2.1 = r50.1)))) (
  some false) (
  tif ((decide ((0 : Int) ≤ (IntKind.wrap .i64 ((((List.length y48.1) : Nat) : Int) - (if y48.2.2.2.2.1.1 < (((List.length y48.1) : Nat) : Int) then y48.2.2.2.2.1.1 else (((List.length y48.1) : Nat) : Int))))))) (
  tif ((decide ((Int.toNat (IntKind.wrap .i64 ((((List.length y48.1) : Nat) : Int) - (if y48.2.2.2.2.1.1 < (((List.length y48.1) : Nat) : Int) then y48.2.2.2.2.1.1 else (((List.length y48.1) : Nat) : Int))))) ≤ (List.length y48.1)))) (
  obind (r12_SameList n y48.2.2.2.2.2.1.2.2.1.2.2 (List.drop (Int.toNat (IntKind.wrap .i64 ((((List.length y48.1) : Nat) : Int) - (if y48.2.2.2.2.1.1 < (((List.length y48.1) : Nat) : Int) then y48.2.2.2.2.1.1 else (((List.length y48.1) : Nat) : Int))))) (List.take (List.length y48.1) y48.1))) fun r51 =>
  tif ((!r51)) (
  some false) (
  tif ((decide (y48.2.2.2.2.1.2.1.1 = (0 : Int)))) (
  none) (
  tif ((decide (y48.2.2.2.1 < (if (if y48.2.2.1 < (IntKind.wrap .i64 ((IntKind.wrap .i64 ((IntKind.wrap .i64 (Int.tdiv y48.2.2.2.2.2.1.2.1 y48.2.2.2.2.1.2.1.1)) - y48.2.2.2.2.1.2.2.1.1)) + (1 : Int))) then (IntKind.wrap .i64 ((IntKind.wrap .i64 ((IntKind.wrap .i64 (Int.tdiv y48.2.2.2.2.2.1.2.1 y48.2.2.2.2.1.2.1.1)) - y48.2.2.2.2.1.2.2.1.1)) + (1 : Int))) else y48.2.2.1) < (0 : Int) then (0 : Int) else (if y48.2.2.1 < (IntKind.wrap .i64 ((IntKind.wrap .i64 ((IntKind.wrap .i64 (Int.tdiv y48.2.2.2.2.2.1.2.1 y48.2.2.2.2.1.2.1.1)) - y48.2.2.2.2.1.2.2.1.1)) + (1 : Int))) then (IntKind.wrap .i64 ((IntKind.wrap .i64 ((IntKind.wrap .i64 (Int.tdiv y48.2.2.2.2.2.1.2.1 y48.2.2.2.2.1.2.1.1)) - y48.2.2.2.2.1.2.2.1.1)) + (1 : Int))) else y48.2.2.1))))) (
  some true) (
  obind (l15_SeriesExact_l24 n loopFuel ((0 : Int), ((if (if y48.2.2.1 < (IntKind.wrap .i64 ((IntKind.wrap .i64 ((IntKind.wrap .i64 (Int.tdiv y48.2.2.2.2.2.1.2.1 y48.2.2.2.2.1.2.1.1)) - y48.2.2.2.2.1.2.2.1.1)) + (1 : Int))) then (IntKind.wrap .i64 ((IntKind.wrap .i64 ((IntKind.wrap .i64 (Int.tdiv y48.2.2.2.2.2.1.2.1 y48.2.2.2.2.1.2.1.1)) - y48.2.2.2.2.1.2.2.1.1)) + (1 : Int))) else y48.2.2.1) < (0 : Int) then (0 : Int) else (if y48.2.2.1 < (IntKind.wrap .i64 ((IntKind.wrap .i64 ((IntKind.wrap .i64 (Int.tdiv y48.2.2.2.2.2.1.2.1 y48.2.2.2.2.1.2.1.1)) - y48.2.2.2.2.1.2.2.1.1)) + (1 : Int))) then (IntKind.wrap .i64 ((IntKind.wrap .i64 ((IntKind.wrap .i64 (Int.tdiv y48.2.2.2.2.2.1.2.1 y48.2.2.2.2.1.2.1.1)) - y48.2.2.2.2.1.2.2.1.1)) + (1 : Int))) else y48.2.2.1)), (y48.2.2.2.1, (y48.2.2.2.2.1, (y48.2.2.2.2.2.1, ([], (y48.1, ((((List.length y48.1) : Nat) : Int), ((0 : Int), ())))))))))) fun r52 =>
  selim (fun y53 =>
  tif ((decide (y53.1 = (0 : Int)))) (
  obind (cell_Of n y53.2.2.2.2.2.1) fun r54 =>
  obind (series_Range n y53.2.2.2.1 y53.2.2.2.2.1 (0 : Int) y53.2.1 y53.2.2.1) fun r55 =>
  tif ((decide (r54.2 = (0 : Int)))) (
  tif ((decide (r55.2 = (0 : Int)))) (
  some ((decide (r55.1.1 = r54.1.1)) && ((decide (r55.1.2.1.1 = r54.1.2.1.1)) && ((decide (r55.1.2.1.2.1 = r54.1.2.1.2.1)) && ((decide (r55.1.2.1.2.2.1 = r54.1.2.1.2.2.1)) && ((r55.1.2.1.2.2.2 == r54.1.2.1.2.2.2) && ((decide (r55.1.2.2.1.1 = r54.1.2.2.1.1)) && ((decide (r55.1.2.2.1.2.1 = r54.1.2.2.1.2.1)) && ((decide (r55.1.2.2.1.2.2.1 = r54.1.2.2.1.2.2.1)) && ((r55.1.2.2.1.2.2.2 == r54.1.2.2.1.2.2.2) && ((decide (r55.1.2.2.2.1.1 = r54.1.2.2.2.1.1)) && ((decide (r55.1.2.2.2.1.2 = r54.1.2.2.2.1.2)) && ((decide (r55.1.2.2.2.2.1 = r54.1.2.2.2.2.1)) && ((decide (r55.1.2.2.2.2.2.1 = r54.1.2.2.2.2.2.1)) && (decide (r55.1.2.2.2.2.2.2 = r54.1.2.2.2.2.2.2)))))))))))))))) (
  some false)) (
  some false)) (
  tif ((decide (y53.1 = (1 : Int)))) (
  obind (cell_Of n y53.2.2.2.2.2.1) fun r56 =>
  obind (series_Range n y53.2.2.2.1 y53.2.2.2.2.1 (1 : Int) y53.2.1 y53.2.2.1) fun r57 =>
  tif ((decide (r56.2 = (0 : Int)))) (
  tif ((decide (r57.2 = (0 : Int)))) (
  some ((decide (r57.1.1 = r56.1.1)) && ((decide (r57.1.2.1.1 = r56.1.2.1.1)) && ((decide (r57.1.2.1.2.1 = r56.1.2.1.2.1)) && ((decide (r57.1.2.1.2.2.1 = r56.1.2.1.2.2.1)) && ((r57.1.2.1.2.2.2 == r56.1.2.1.2.2.2) && ((decide (r57.1.2.2.1.1 = r56.1.2.2.1.1)) && ((decide (r57.1.2.2.1.2.1 = r56.1.2.2.1.2.1)) && ((decide (r57.1.2.2.1.2.2.1 = r56.1.2.2.1.2.2.1)) && ((r57.1.2.2.1.2.2.2 == r56.1.2.2.1.2.2.2) && ((decide (r57.1.2.2.2.1.1 = r56.1.2.2.2.1.1)) && ((decide (r57.1.2.2.2.1.2 = r56.1.2.2.2.1.2)) && ((decide (r57.1.2.2.2.2.1 = r56.1.2.2.2.2.1)) && ((decide (r57.1.2.2.2.2.2.1 = r56.1.2.2.2.2.2.1)) && (decide (r57.1.2.2.2.2.2.2 = r56.1.2.2.2.2.2.2)))))))))))))))) (
  some false)) (
  some false)) (
  tif ((decide (y53.1 = (2 : Int)))) (
  obind (cell_Of n y53.2.2.2.2.2.1) fun r58 =>
  obind (series_Range n y53.2.2.2.1 y53.2.2.2.2.1 (2 : Int) y53.2.1 y53.2.2.1) fun r59 =>
  tif ((decide (r58.2 = (0 : Int)))) (
  tif ((decide (r59.2 = (0 : Int)))) (
  some ((decide (r59.1.1 = r58.1.1)) && ((decide (r59.1.2.1.1 = r58.1.2.1.1)) && ((decide (r59.1.2.1.2.1 = r58.1.2.1.2.1)) && ((decide (r59.1.2.1.2.2.1 = r58.1.2.1.2.2.1)) && ((r59.1.2.1.2.2.2 == r58.1.2.1.2.2.2) && ((decide (r59.1.2.2.1.1 = r58.1.2.2.1.1)) && ((decide (r59.1.2.2.1.2.1 = r58.1.2.2.1.2.1)) && ((decide (r59.1.2.2.1.2.2.1 = r58.1.2.2.1.2.2.1)) && ((r59.1.2.2.1.2.2.2 == r58.1.2.2.1.2.2.2) && ((decide (r59.1.2.2.2.1.1 = r58.1.2.2.2.1.1)) && ((decide (r59.1.2.2.2.1.2 = r58.1.2.2.2.1.2)) && ((decide (r59.1.2.2.2.2.1 = r58.1.2.2.2.2.1)) && ((decide (r59.1.2.2.2.2.2.1 = r58.1.2.2.2.2.2.1)) && (decide (r59.1.2.2.2.2.2.2 = r58.1.2.2.2.2.2.2)))))))))))))))) (
  some false)) (
  some false)) (
  none)))) (fun z60 =>
  some z60) r52)))) (
  none)) (
  none)))) (
  tif ((decide (y48.2.1 = (1 : Int)))) (
  obind (series_Check n y48.2.2.2.2.1 y48.2.2.2.2.2.1) fun r61 =>
  tif ((!(decide (r61 = (0 : Int))))) (
  some false) (
  obind (at? y48.1 (IntKind.wrap .i64 ((((List.length y48.1) : Nat) : Int) - (1 : Int)))) fun r62 =>
  tif ((!(decide (y48.2.2.2.2.2.1.2.1 = r62.1)))) (
  some false) (
  tif ((decide ((0 : Int) ≤ (IntKind.wrap .i64 ((((List.length y48.1) : Nat) : Int) - (if y48.2.2.2.2.1.1 < (((List.length y48.1) : Nat) : Int) then y48.2.2.2.2.1.1 else (((List.length y48.1) : Nat) : Int))))))) (
  tif ((decide ((Int.toNat (IntKind.wrap .i64 ((((List.length y48.1) : Nat) : Int) - (if y48.2.2.2.2.1.1 < (((List.length y48.1) : Nat) : Int) then y48.2.2.2.2.1.1 else (((List.length y48.1) : Nat) : Int))))) ≤ (List.length y48.1)))) (
  obind (r12_SameList n y48.2.2.2.2.2.1.2.2.1.2.2 (List.drop (Int.toNat (IntKind.wrap .i64 ((((List.length y48.1) : Nat) : Int) - (if y48.2.2.2.2.1.1 < (((List.length y48.1) : Nat) : Int) then y48.2.2.2.2.1.1 else (((List.length y48.1) : Nat) : Int))))) (List.take (List.length y48.1) y48.1))) fun r63 =>
  tif ((!r63)) (
  some false) (
  tif ((decide (y48.2.2.2.2.1.2.1.2.1 = (0 : Int)))) (
  none) (
  tif ((decide (y48.2.2.2.1 < (if (if y48.2.2.1 < (IntKind.wrap .i64 ((IntKind.wrap .i64 ((IntKind.wrap .i64 (Int.tdiv y48.2.2.2.2.2.1.2.1 y48.2.2.2.2.1.2.1.2.1)) - y48.2.2.2.2.1.2.2.1.2.1)) + (1 : Int))) then (IntKind.wrap .i64 ((IntKind.wrap .i64 ((IntKind.wrap .i64 (Int.tdiv y48.2.2.2.2.2.1.2.1 y48.2.2.2.2.1.2.1.2.1)) - y48.2.2.2.2.1.2.2.1.2.1)) + (1 : Int))) else y48.2.2.1) < (0 : Int) then (0 : Int) else (if y48.2.2.1 < (IntKind.wrap .i64 ((IntKind.wrap .i64 ((IntKind.wrap .i64 (Int.tdiv y48.2.2.2.2.2.1.2.1 y48.2.2.2.2.1.2.1.2.1)) - y48.2.2.2.2.1.2.2.1.2.1)) + (1 : Int))) then (IntKind.wrap .i64 ((IntKind.wrap .i64 ((IntKind.wrap .i64 (Int.tdiv y48.2.2.2.2.2.1.2.1 y48.2.2.2.2.1.2.1.2.1)) - y48.2.2.2.2.1.2.2.1.2.1)) + (1 : Int))) else y48.2.2.1))))) (
  some true) (
  obind (l15_SeriesExact_l24 n loopFuel ((1 : Int), ((if (if y48.2.2.1 < (IntKind.wrap .i64 ((IntKind.wrap .i64 ((IntKind.wrap .i64 (Int.tdiv y48.2.2.2.2.2.1.2.1 y48.2.2.2.2.1.2.1.2.1)) - y48.2.2.2.2.1.2.2.1.2.1)) + (1 : Int))) then (IntKind.wrap .i64 ((IntKind.wrap .i64 ((IntKind.wrap .i64 (Int.tdiv y48.2.2.2.2.2.1.2.1 y48.2.2.2.2.1.2.1.2.1)) - y48.2.2.2.2.1.2.2.1.2.1)) + (1 : Int))) else y48.2.2.1) < (0 : Int) then (0 : Int) else (if y48.2.2.1 < (IntKind.wrap .i64 ((IntKind.wrap .i64 ((IntKind.wrap .i64 (Int.tdiv y48.2.2.2.2.2.1.2.1 y48.2.2.2.2.1.2.1.2.1)) - y48.2.2.2.2.1.2.2.1.2.1)) + (1 : Int))) then (IntKind.wrap .i64 ((IntKind.wrap .i64 ((IntKind.wrap .i64 (Int.tdiv y48.2.2.2.2.2.1.2.1 y48.2.2.2.2.1.2.1.2.1)) - y48.2.2.2.2.1.2.2.1.2.1)) + (1 : Int))) else y48.2.2.1)), (y48.2.2.2.1, (y48.2.2.2.2.1, (y48.2.2.2.2.2.1, ([], (y48.1, ((((List.length y48.1) : Nat) : Int), ((0 : Int), ())))))))))) fun r64 =>
  selim (fun y65 =>
  tif ((decide (y65.1 = (0 : Int)))) (
  obind (cell_Of n y65.2.2.2.2.2.1) fun r66 =>
  obind (series_Range n y65.2.2.2.1 y65.2.2.2.2.1 (0 : Int) y65.2.1 y65.2.2.1) fun r67 =>
  tif ((decide (r66.2 = (0 : Int)))) (
  tif ((decide (r67.2 = (0 : Int)))) (
  some ((decide (r67.1.1 = r66.1.1)) && ((decide (r67.1.2.1.1 = r66.1.2.1.1)) && ((decide (r67.1.2.1.2.1 = r66.1.2.1.2.1)) && ((decide (r67.1.2.1.2.2.1 = r66.1.2.1.2.2.1)) && ((r67.1.2.1.2.2.2 == r66.1.2.1.2.2.2) && ((decide (r67.1.2.2.1.1 = r66.1.2.2.1.1)) && ((decide (r67.1.2.2.1.2.1 = r66.1.2.2.1.2.1)) && ((decide (r67.1.2.2.1.2.2.1 = r66.1.2.2.1.2.2.1)) && ((r67.1.2.2.1.2.2.2 == r66.1.2.2.1.2.2.2) && ((decide (r67.1.2.2.2.1.1 = r66.1.2.2.2.1.1)) && ((decide (r67.1.2.2.2.1.2 = r66.1.2.2.2.1.2)) && ((decide (r67.1.2.2.2.2.1 = r66.1.2.2.2.2.1)) && ((decide (r67.1.2.2.2.2.2.1 = r66.1.2.2.2.2.2.1)) && (decide (r67.1.2.2.2.2.2.2 = r66.1.2.2.2.2.2.2)))))))))))))))) (
  some false)) (
  some false)) (
  tif ((decide (y65.1 = (1 : Int)))) (
  obind (cell_Of n y65.2.2.2.2.2.1) fun r68 =>
  obind (series_Range n y65.2.2.2.1 y65.2.2.2.2.1 (1 : Int) y65.2.1 y65.2.2.1) fun r69 =>
  tif ((decide (r68.2 = (0 : Int)))) (
  tif ((decide (r69.2 = (0 : Int)))) (
  some ((decide (r69.1.1 = r68.1.1)) && ((decide (r69.1.2.1.1 = r68.1.2.1.1)) && ((decide (r69.1.2.1.2.1 = r68.1.2.1.2.1)) && ((decide (r69.1.2.1.2.2.1 = r68.1.2.1.2.2.1)) && ((r69.1.2.1.2.2.2 == r68.1.2.1.2.2.2) && ((decide (r69.1.2.2.1.1 = r68.1.2.2.1.1)) && ((decide (r69.1.2.2.1.2.1 = r68.1.2.2.1.2.1)) && ((decide (r69.1.2.2.1.2.2.1 = r68.1.2.2.1.2.2.1)) && ((r69.1.2.2.1.2.2.2 == r68.1.2.2.1.2.2.2) && ((decide (r69.1.2.2.2.1.1 = r68.1.2.2.2.1.1)) && ((decide (r69.1.2.2.2.1.2 = r68.1.2.2.2.1.2)) && ((decide (r69.1.2.2.2.2.1 = r68.1.2.2.2.2.1)) && ((decide (r69.1.2.2.2.2.2.1 = r68.1.2.2.2.2.2.1)) && (decide (r69.1.2.2.2.2.2.2 = r68.1.2.2.2.2.2.2)))))))))))))))) (
  some false)) (
  some false)) (
  tif ((decide (y65.1 = (2 : Int)))) (
  obind (cell_Of n y65.2.2.2.2.2.1) fun r70 =>
  obind (series_Range n y65.2.2.2.1 y65.2.2.2.2.1 (2 : Int) y65.2.1 y65.2.2.1) fun r71 =>
  tif ((decide (r70.2 = (0 : Int)))) (
  tif ((decide (r71.2 = (0 : Int)))) (
  some ((decide (r71.1.1 = r70.1.1)) && ((decide (r71.1.2.1.1 = r70.1.2.1.1)) && ((decide (r71.1.2.1.2.1 = r70.1.2.1.2.1)) && ((decide (r71.1.2.1.2.2.1 = r70.1.2.1.2.2.1)) && ((r71.1.2.1.2.2.2 == r70.1.2.1.2.2.2) && ((decide (r71.1.2.2.1.1 = r70.1.2.2.1.1)) && ((decide (r71.1.2.2.1.2.1 = r70.1.2.2.1.2.1)) && ((decide (r71.1.2.2.1.2.2.1 = r70.1.2.2.1.2.2.1)) && ((r71.1.2.2.1.2.2.2 == r70.1.2.2.1.2.2.2) && ((decide (r71.1.2.2.2.1.1 = r70.1.2.2.2.1.1)) && ((decide (r71.1.2.2.2.1.2 = r70.1.2.2.2.1.2)) && ((decide (r71.1.2.2.2.2.1 = r70.1.2.2.2.2.1)) && ((decide (r71.1.2.2.2.2.2.1 = r70.1.2.2.2.2.2.1)) && (decide (r71.1.2.2.2.2.2.2 = r70.1.2.2.2.2.2.2)))))))))))))))) (
  some false)) (
  some false)) (
  none)))) (fun z72 =>
  some z72) r64)))) (
  none)) (
  none)))) (
  tif ((decide (y48.2.1 = (2 : Int)))) (
  obind (series_Check n y48.2.2.2.2.1 y48.2.2.2.2.2.1) fun r73 =>
  tif ((!(decide (r73 = (0 : Int))))) (
  some false) (
  obind (at? y48.1 (IntKind.wrap .i64 ((((List.length y48.1) : Nat) : Int) - (1 : Int)))) fun r74 =>
  tif ((!(decide (y48.2.2.2.2.2.1.2.1 = r74.1)))) (
  some false) (
  tif ((decide ((0 : Int) ≤ (IntKind.wrap .i64 ((((List.length y48.1) : Nat) : Int) - (if y48.2.2.2.2.1.1 < (((List.length y48.1) : Nat) : Int) then y48.2.2.2.2.1.1 else (((List.length y48.1) : Nat) : Int))))))) (
  tif ((decide ((Int.toNat (IntKind.wrap .i64 ((((List.length y48.1) : Nat) : Int) - (if y48.2.2.2.2.1.1 < (((List.length y48.1) : Nat) : Int) then y48.2.2.2.2.1.1 else (((List.length y48.1) : Nat) : Int))))) ≤ (List.length y48.1)))) (
  obind (r12_SameList n y48.2.2.2.2.2.1.2.2.1.2.2 (List.drop (Int.toNat (IntKind.wrap .i64 ((((List.length y48.1) : Nat) : Int) - (if y48.2.2.2.2.1.1 < (((List.length y48.1) : Nat) : Int) then y48.2.2.2.2.1.1 else (((List.length y48.1) : Nat) : Int))))) (List.take (List.length y48.1) y48.1))) fun r75 =>
  tif ((!r75)) (
  some false) (
  tif ((decide (y48.2.2.2.2.1.2.1.2.2 = (0 : Int)))) (
  none) (
  tif ((decide (y48.2.2.2.1 < (if (if y48.2.2.1 < (IntKind.wrap .i64 ((IntKind.wrap .i64 ((IntKind.wrap .i64 (Int.tdiv y48.2.2.2.2.2.1.2.1 y48.2.2.2.2.1.2.1.2.2)) - y48.2.2.2.2.1.2.2.1.2.2)) + (1 : Int))) then (IntKind.wrap .i64 ((IntKind.wrap .i64 ((IntKind.wrap .i64 (Int.tdiv y48.2.2.2.2.2.1.2.1 y48.2.2.2.2.1.2.1.2.2)) - y48.2.2.2.2.1.2.2.1.2.2)) + (1 : Int))) else y48.2.2.1) < (0 : Int) then (0 : Int) else (if y48.2.2.1 < (IntKind.wrap .i64 ((IntKind.wrap .i64 ((IntKind.wrap .i64 (Int.tdiv y48.2.2.2.2.2.1.2.1 y48.2.2.2.2.1.2.1.2.2)) - y48.2.2.2.2.1.2.2.1.2.2)) + (1 : Int))) then (IntKind.wrap .i64 ((IntKind.wrap .i64 ((IntKind.wrap .i64 (Int.tdiv y48.2.2.2.2.2.1.2.1 y48.2.2.2.2.1.2.1.2.2)) - y48.2.2.2.2.1.2.2.1.2.2)) + (1 : Int))) else y48.2.2.1))))) (
  some true) (
  obind (l15_SeriesExact_l24 n loopFuel ((2 : Int), ((if (if y48.2.2.1 < (IntKind.wrap .i64 ((IntKind.wrap .i64 ((IntKind.wrap .i64 (Int.tdiv y48.2.2.2.2.2.1.2.1 y48.2.2.2.2.1.2.1.2.2)) - y48.2.2.2.2.1.2.2.1.2.2)) + (1 : Int))) then (IntKind.wrap .i64 ((IntKind.wrap .i64 ((IntKind.wrap .i64 (Int.tdiv y48.2.2.2.2.2.1.2.1 y48.2.2.2.2.1.2.1.2.2)) - y48.2.2.2.2.1.2.2.1.2.2)) + (1 : Int))) else y48.2.2.1) < (0 : Int) then (0 : Int) else (if y48.2.2.1 < (IntKind.wrap .i64 ((IntKind.wrap .i64 ((IntKind.wrap .i64 (Int.tdiv y48.2.2.2.2.2.1.2.1 y48.2.2.2.2.1.2.1.2.2)) - y48.2.2.2.2.1.2.2.1.2.2)) + (1 : Int))) then (IntKind.wrap .i64 ((IntKind.wrap .i64 ((IntKind.wrap .i64 (Int.tdiv y48.2.2.2.2.2.1.2.1 y48.2.2.2.2.1.2.1.2.2)) - y48.2.2.2.2.1.2.2.1.2.2)) + (1 : Int))) else y48.2.2.1)), (y48.2.2.2.1, (y48.2.2.2.2.1, (y48.2.2.2.2.2.1, ([], (y48.1, ((((List.length y48.1) : Nat) : Int), ((0 : Int), ())))))))))) fun r76 =>
  selim (fun y77 =>
  tif ((decide (y77.1 = (0 : Int)))) (
  obind (cell_Of n y77.2.2.2.2.2.1) fun r78 =>
  obind (series_Range n y77.2.2.2.1 y77.2.2.2.2.1 (0 : Int) y77.2.1 y77.2.2.1) fun r79 =>
  tif ((decide (r78.2 = (0 : Int)))) (
  tif ((decide (r79.2 = (0 : Int)))) (
  some ((decide (r79.1.1 = r78.1.1)) && ((decide (r79.1.2.1.1 = r78.1.2.1.1)) && ((decide (r79.1.2.1.2.1 = r78.1.2.1.2.1)) && ((decide (r79.1.2.1.2.2.1 = r78.1.2.1.2.2.1)) && ((r79.1.2.1.2.2.2 == r78.1.2.1.2.2.2) && ((decide (r79.1.2.2.1.1 = r78.1.2.2.1.1)) && ((decide (r79.1.2.2.1.2.1 = r78.1.2.2.1.2.1)) && ((decide (r79.1.2.2.1.2.2.1 = r78.1.2.2.1.2.2.1)) && ((r79.1.2.2.1.2.2.2 == r78.1.2.2.1.2.2.2) && ((decide (r79.1.2.2.2.1.1 = r78.1.2.2.2.1.1)) && ((decide (r79.1.2.2.2.1.2 = r78.1.2.2.2.1.2)) && ((decide (r79.1.2.2.2.2.1 = r78.1.2.2.2.2.1)) && ((decide (r79.1.2.2.2.2.2.1 = r78.1.2.2.2.2.2.1)) && (decide (r79.1.2.2.2.2.2.2 = r78.1.2.2.2.2.2.2)))))))))))))))) (
  some false)) (
  some false)) (
  tif ((decide (y77.1 = (1 : Int)))) (
  obind (cell_Of n y77.2.2.2.2.2.1) fun r80 =>
  obind (series_Range n y77.2.2.2.1 y77.2.2.2.2.1 (1 : Int) y77.2.1 y77.2.2.1) fun r81 =>
  tif ((decide (r80.2 = (0 : Int)))) (
  tif ((decide (r81.2 = (0 : Int)))) (
  some ((decide (r81.1.1 = r80.1.1)) && ((decide (r81.1.2.1.1 = r80.1.2.1.1)) && ((decide (r81.1.2.1.2.1 = r80.1.2.1.2.1)) && ((decide (r81.1.2.1.2.2.1 = r80.1.2.1.2.2.1)) && ((r81.1.2.1.2.2.2 == r80.1.2.1.2.2.2) && ((decide (r81.1.2.2.1.1 = r80.1.2.2.1.1)) && ((decide (r81.1.2.2.1.2.1 = r80.1.2.2.1.2.1)) && ((decide (r81.1.2.2.1.2.2.1 = r80.1.2.2.1.2.2.1)) && ((r81.1.2.2.1.2.2.2 == r80.1.2.2.1.2.2.2) && ((decide (r81.1.2.2.2.1.1 = r80.1.2.2.2.1.1)) && ((decide (r81.1.2.2.2.1.2 = r80.1.2.2.2.1.2)) && ((decide (r81.1.2.2.2.2.1 = r80.1.2.2.2.2.1)) && ((decide (r81.1.2.2.2.2.2.1 = r80.1.2.2.2.2.2.1)) && (decide (r81.1.2.2.2.2.2.2 = r80.1.2.2.2.2.2.2)))))))))))))))) (
  some false)) (
  some false)) (
  tif ((decide (y77.1 = (2 : Int)))) (
  obind (cell_Of n y77.2.2.2.2.2.1) fun r82 =>
  obind (series_Range n y77.2.2.2.1 y77.2.2.2.2.1 (2 : Int) y77.2.1 y77.2.2.1) fun r83 =>
  tif ((decide (r82.2 = (0 : Int)))) (
  tif ((decide (r83.2 = (0 : Int)))) (
  some ((decide (r83.1.1 = r82.1.1)) && ((decide (r83.1.2.1.1 = r82.1.2.1.1)) && ((decide (r83.1.2.1.2.1 = r82.1.2.1.2.1)) && ((decide (r83.1.2.1.2.2.1 = r82.1.2.1.2.2.1)) && ((r83.1.2.1.2.2.2 == r82.1.2.1.2.2.2) && ((decide (r83.1.2.2.1.1 = r82.1.2.2.1.1)) && ((decide (r83.1.2.2.1.2.1 = r82.1.2.2.1.2.1)) && ((decide (r83.1.2.2.1.2.2.1 = r82.1.2.2.1.2.2.1)) && ((r83.1.2.2.1.2.2.2 == r82.1.2.2.1.2.2.2) && ((decide (r83.1.2.2.2.1.1 = r82.1.2.2.2.1.1)) && ((decide (r83.1.2.2.2.1.2 = r82.1.2.2.2.1.2)) && ((decide (r83.1.2.2.2.2.1 = r82.1.2.2.2.2.1)) && ((decide (r83.1.2.2.2.2.2.1 = r82.1.2.2.2.2.2.1)) && (decide (r83.1.2.2.2.2.2.2 = r82.1.2.2.2.2.2.2)))))))))))))))) (
  some false)) (
  some false)) (
  none)))) (fun z84 =>
  some z84) r76)))) (
  none)) (
  none)))) (
  none)))) (fun z85 =>
  some z85) r47))))))) (
  tif ((decide (k = (2 : Int)))) (
  obind (l15_lives n ) fun r86 =>
  tif ((!r86)) (
  some false) (
  obind (series_New n c ((((97 : UInt8) :: []), []) :: [])) fun r87 =>
  tif ((!(decide (r87.2 = (0 : Int))))) (
  some true) (
  obind (l15_Small n r87.1) fun r88 =>
  tif ((decide (r88 = (0 : Int)))) (
  some true) (
  tif ((decide ((60 : Int) < (((List.length l) : Nat) : Int)))) (
  some true) (
  tif ((decide ((((List.length l) : Nat) : Int) = (0 : Int)))) (
  some true) (
  obind (cell_Of n l) fun r89 =>
  tif ((!(decide (r89.2 = (0 : Int))))) (
  some true) (
  obind (l15_SeriesExact_l10 n loopFuel (l, ((2 : Int), (i, (j, (c, (r87.1, (l, ((((List.length l) : Nat) : Int), ((0 : Int), ())))))))))) fun r90 =>
  selim (fun y91 =>
  tif ((decide (y91.2.1 = (0 : Int)))) (
  obind (series_Check n y91.2.2.2.2.1 y91.2.2.2.2.2.1) fun r92 =>
  tif ((!(decide (r92 = (0 : Int))))) (
  some false) (
  obind (at? y91.1 (IntKind.wrap .i64 ((((List.length y91.1) : Nat) : Int) - (1 : Int)))) fun r93 =>
  tif ((!(decide (y91.2.2.2.2.2.1.2.1 = r93.1)))) (
  some false) (
  tif ((decide ((0 : Int) ≤ (IntKind.wrap .i64 ((((List.length y91.1) : Nat) : Int) - (if y91.2.2.2.2.1.1 < (((List.length y91.1) : Nat) : Int) then y91.2.2.2.2.1.1 else (((List.length y91.1) : Nat) : Int))))))) (
  tif ((decide ((Int.toNat (IntKind.wrap .i64 ((((List.length y91.1) : Nat) : Int) - (if y91.2.2.2.2.1.1 < (((List.length y91.1) : Nat) : Int) then y91.2.2.2.2.1.1 else (((List.length y91.1) : Nat) : Int))))) ≤ (List.length y91.1)))) (
  obind (r12_SameList n y91.2.2.2.2.2.1.2.2.1.2.2 (List.drop (Int.toNat (IntKind.wrap .i64 ((((List.length y91.1) : Nat) : Int) - (if y91.2.2.2.2.1.1 < (((List.length y91.1) : Nat) : Int) then y91.2.2.2.2.1.1 else (((List.length y91.1) : Nat) : Int))))) (List.take (List.length y91.1) y91.1))) fun r94 =>
  tif ((!r94)) (
  some false) (
  tif ((decide (y91.2.2.2.2.1.2.1.1 = (0 : Int)))) (
  none) (
  tif ((decide (y91.2.2.2.1 < (if (if y91.2.2.1 < (IntKind.wrap .i64 ((IntKind.wrap .i64 ((IntKind.wrap .i64 (Int.tdiv y91.2.2.2.2.2.1.2.1 y91.2.2.2.2.1.2.1.1)) - y91.2.2.2.2.1.2.2.1.1)) + (1 : Int))) then (IntKind.wrap .i64 ((IntKind.wrap .i64 ((IntKind.wrap .i64 (Int.tdiv y91.2.2.2.2.2.1.2.1 y91.2.2.2.2.1.2.1.1)) - y91.2.2.2.2.1.2.2.1.1)) + (1 : Int))) else y91.2.2.1) < (0 : Int) then (0 : Int) else (if y91.2.2.1 < (IntKind.wrap .i64 ((IntKind.wrap .i64 ((IntKind.wrap .i64 (Int.tdiv y91.2.2.2.2.2.1.2.1 y91.2.2.2.2.1.2.1.1)) - y91.2.2.2.2.1.2.2.1.1)) + (1 : Int))) then (IntKind.wrap .i64 ((IntKind.wrap .i64 ((IntKind.wrap .i64 (Int.tdiv y91.2.2.2.2.2.1.2.1 y91.2.2.2.2.1.2.1.1)) - y91.2.2.2.2.1.2.2.1.1)) + (1 : Int))) else y91.2.2.1))))) (
  some true) (
  obind (l15_SeriesExact_l24 n loopFuel ((0 : Int), ((if (if y91.2.2.1 < (IntKind.wrap .i64 ((IntKind.wrap .i64 ((IntKind.wrap .i64 (Int.tdiv y91.2.2.2.2.2.1.2.1 y91.2.2.2.2.1.2.1.1)) - y91.2.2.2.2.1.2.2.1.1)) + (1 : Int))) then (IntKind.wrap .i64 ((IntKind.wrap .i64 ((IntKind.wrap .i64 (Int.tdiv y91.2.2.2.2.2.1.2.1 y91.2.2.2.2.1.2.1.1)) - y91.2.2.2.2.1.2.2.1.1)) + (1 : Int))) else y91.2.2.1) < (0 : Int) then (0 : Int) else (if y91.2.2.1 < (IntKind.wrap .i64 ((IntKind.wrap .i64 ((IntKind.wrap .i64 (Int.tdiv y91.2.2.2.2.2.1.2.1 y91.2.2.2.2.1.2.1.1)) - y91.2.2.2.2.1.2.2.1.1)) + (1 : Int))) then (IntKind.wrap .i64 ((IntKind.wrap .i64 ((IntKind.wrap .i64 (Int.tdiv y91.2.2.2.2.2.1.2.1 y91.2.2.2.2.1.2.1.1)) - y91.2.2.2.2.1.2.2.1.1)) + (1 : Int))) else y91.2.2.1)), (y91.2.2.2.1, (y91.2.2.2.2.1, (y91.2.2.2.2.2.1, ([], (y91.1, ((((List.length y91.1) : Nat) : Int), ((0 : Int), ())))))))))) fun r95 =>
  selim (fun y96 =>
  tif ((decide (y96.1 = (0 : Int)))) (
  obind (cell_Of n y96.2.2.2.2.2.1) fun r97 =>
  obind (series_Range n y96.2.2.2.1 y96.2.2.2.2.1 (0 : Int) y96.2.1 y96.2.2.1) fun r98 =>
  tif ((decide (r97.2 = (0 : Int)))) (
  tif ((decide (r98.2 = (0 : Int)))) (
  some ((decide (r98.1.1 = r97.1.1)) && ((decide (r98.1.2.1.1 = r97.1.2.1.1)) && ((decide (r98.1.2.1.2.1 = r97.1.2.1.2.1)) && ((decide (r98.1.2.1.2.2.1 = r97.1.2.1.2.2.1)) && ((r98.1.2.1.2.2.2 == r97.1.2.1.2.2.2) && ((decide (r98.1.2.2.1.1 = r97.1.2.2.1.1)) && ((decide (r98.1.2.2.1.2.1 = r97.1.2.2.1.2.1)) && ((decide (r98.1.2.2.1.2.2.1 = r97.1.2.2.1.2.2.1)) && ((r98.1.2.2.1.2.2.2 == r97.1.2.2.1.2.2.2) && ((decide (r98.1.2.2.2.1.1 = r97.1.2.2.2.1.1)) && ((decide (r98.1.2.2.2.1.2 = r97.1.2.2.2.1.2)) && ((decide (r98.1.2.2.2.2.1 = r97.1.2.2.2.2.1)) && ((decide (r98.1.2.2.2.2.2.1 = r97.1.2.2.2.2.2.1)) && (decide (r98.1.2.2.2.2.2.2 = r97.1.2.2.2.2.2.2)))))))))))))))) (
  some false)) (
  some false)) (
  tif ((decide (y96.1 = (1 : Int)))) (
  obind (cell_Of n y96.2.2.2.2.2.1) fun r99 =>
  obind (series_Range n y96.2.2.2.1 y96.2.2.2.2.1 (1 : Int) y96.2.1 y96.2.2.1) fun r100 =>
  tif ((decide (r99.2 = (0 : Int)))) (
  tif ((decide (r100.2 = (0 : Int)))) (
  some ((decide (r100.1.1 = r99.1.1)) && ((decide (r100.1.2.1.1 = r99.1.2.1.1)) && ((decide (r100.1.2.1.2.1 = r99.1.2.1.2.1)) && ((decide (r100.1.2.1.2.2.1 = r99.1.2.1.2.2.1)) && ((r100.1.2.1.2.2.2 == r99.1.2.1.2.2.2) && ((decide (r100.1.2.2.1.1 = r99.1.2.2.1.1)) && ((decide (r100.1.2.2.1.2.1 = r99.1.2.2.1.2.1)) && ((decide (r100.1.2.2.1.2.2.1 = r99.1.2.2.1.2.2.1)) && ((r100.1.2.2.1.2.2.2 == r99.1.2.2.1.2.2.2) && ((decide (r100.1.2.2.2.1.1 = r99.1.2.2.2.1.1)) && ((decide (r100.1.2.2.2.1.2 = r99.1.2.2.2.1.2)) && ((decide (r100.1.2.2.2.2.1 = r99.1.2.2.2.2.1)) && ((decide (r100.1.2.2.2.2.2.1 = r99.1.2.2.2.2.2.1)) && (decide (r100.1.2.2.2.2.2.2 = r99.1.2.2.2.2.2.2)))))))))))))))) (
  some false)) (
  some false)) (
  tif ((decide (y96.1 = (2 : Int)))) (
  obind (cell_Of n y96.2.2.2.2.2.1) fun r101 =>
  obind (series_Range n y96.2.2.2.1 y96.2.2.2.2.1 (2 : Int) y96.2.1 y96.2.2.1) fun r102 =>
  tif ((decide (r101.2 = (0 : Int)))) (
  tif ((decide (r102.2 = (0 : Int)))) (
  some ((decide (r102.1.1 = r101.1.1)) && ((decide (r102.1.2.1.1 = r101.1.2.1.1)) && ((decide (r102.1.2.1.2.1 = r101.1.2.1.2.1)) && ((decide (r102.1.2.1.2.2.1 = r101.1.2.1.2.2.1)) && ((r102.1.2.1.2.2.2 == r101.1.2.1.2.2.2) && ((decide (r102.1.2.2.1.1 = r101.1.2.2.1.1)) && ((decide (r102.1.2.2.1.2.1 = r101.1.2.2.1.2.1)) && ((decide (r102.1.2.2.1.2.2.1 = r101.1.2.2.1.2.2.1)) && ((r102.1.2.2.1.2.2.2 == r101.1.2.2.1.2.2.2) && ((decide (r102.1.2.2.2.1.1 = r101.1.2.2.2.1.1)) && ((decide (r102.1.2.2.2.1.2 = r101.1.2.2.2.1.2)) && ((decide (r102.1.2.2.2.2.1 = r101.1.2.2.2.2.1)) && ((decide (r102.1.2.2.2.2.2.1 = r101.1.2.2.2.2.2.1)) && (decide (r102.1.2.2.2.2.2.2 = r101.1.2.2.2.2.2.2)))))))))))))))) (
  some false)) (
  some false)) (
  none)))) (fun z103 =>
  some z103) r95)))) (
  none)) (
  none)))) (
  tif ((decide (y91.2.1 = (1 : Int)))) (
  obind (series_Check n y91.2.2.2.2.1 y91.2.2.2.2.2.1) fun r104 =>
  tif ((!(decide (r104 = (0 : Int))))) (
  some false) (
  obind (at? y91.1 (IntKind.wrap .i64 ((((List.length y91.1) : Nat) : Int) - (1 : Int)))) fun r105 =>
  tif ((!(decide (y91.2.2.2.2.2.1.2.1 = r105.1)))) (
  some false) (
  tif ((decide ((0 : Int) ≤ (IntKind.wrap .i64 ((((List.length y91.1) : Nat) : Int) - (if y91.2.2.2.2.1.1 < (((List.length y91.1) : Nat) : Int) then y91.2.2.2.2.1.1 else (((List.length y91.1) : Nat) : Int))))))) (
  tif ((decide ((Int.toNat (IntKind.wrap .i64 ((((List.length y91.1) : Nat) : Int) - (if y91.2.2.2.2.1.1 < (((List.length y91.1) : Nat) : Int) then y91.2.2.2.2.1.1 else (((List.length y91.1) : Nat) : Int))))) ≤ (List.length y91.1)))) (
  obind (r12_SameList n y91.2.2.2.2.2.1.2.2.1.2.2 (List.drop (Int.toNat (IntKind.wrap .i64 ((((List.length y91.1) : Nat) : Int) - (if y91.2.2.2.2.1.1 < (((List.length y91.1) : Nat) : Int) then y91.2.2.2.2.1.1 else (((List.length y91.1) : Nat) : Int))))) (List.take (List.length y91.1) y91.1))) fun r106 =>
  tif ((!r106)) (
  some false) (
  tif ((decide (y91.2.2.2.2.1.2.1.2.1 = (0 : Int)))) (
  none) (
  tif ((decide (y91.2.2.2.1 < (if (if y91.2.2.1 < (IntKind.wrap .i64 ((IntKind.wrap .i64 ((IntKind.wrap .i64 (Int.tdiv y91.2.2.2.2.2.1.2.1 y91.2.2.2.2.1.2.1.2.1)) - y91.2.2.2.2.1.2.2.1.2.1)) + (1 : Int))) then (IntKind.wrap .i64 ((IntKind.wrap .i64 ((IntKind.wrap .i64 (Int.tdiv y91.2.2.2.2.2.1.2.1 y91.2.2.2.2.1.2.1.2.1)) - y91.2.2.2.2.1.2.2.1.2.1)) + (1 : Int))) else y91.2.2.1) < (0 : Int) then (0 : Int) else (if y91.2.2.1 < (IntKind.wrap .i64 ((IntKind.wrap .i64 ((IntKind.wrap .i64 (Int.tdiv y91.2.2.2.2.2.1.2.1 y91.2.2.2.2.1.2.1.2.1)) - y91.2.2.2.2.1.2.2.1.2.1)) + (1 : Int))) then (IntKind.wrap .i64 ((IntKind.wrap .i64 ((IntKind.wrap .i64 (Int.tdiv y91.2.2.2.2.2.1.2.1 y91.2.2.2.2.1.2.1.2.1)) - y91.2.2.2.2.1.2.2.1.2.1)) + (1 : Int))) else y91.2.2.1))))) (
  some true) (
  obind (l15_SeriesExact_l24 n loopFuel ((1 : Int), ((if (if y91.2.2.1 < (IntKind.wrap .i64 ((IntKind.wrap .i64 ((IntKind.wrap .i64 (Int.tdiv y91.2.2.2.2.2.1.2.1 y91.2.2.2.2.1.2.1.2.1)) - y91.2.2.2.2.1.2.2.1.2.1)) + (1 : Int))) then (IntKind.wrap .i64 ((IntKind.wrap .i64 ((IntKind.wrap .i64 (Int.tdiv y91.2.2.2.2.2.1.2.1 y91.2.2.2.2.1.2.1.2.1)) - y91.2.2.2.2.1.2.2.1.2.1)) + (1 : Int))) else y91.2.2.1) < (0 : Int) then (0 : Int) else (if y91.2.2.1 < (IntKind.wrap .i64 ((IntKind.wrap .i64 ((IntKind.wrap .i64 (Int.tdiv y91.2.2.2.2.2.1.2.1 y91.2.2.2.2.1.2.1.2.1)) - y91.2.2.2.2.1.2.2.1.2.1)) + (1 : Int))) then (IntKind.wrap .i64 ((IntKind.wrap .i64 ((IntKind.wrap .i64 (Int.tdiv y91.2.2.2.2.2.1.2.1 y91.2.2.2.2.1.2.1.2.1)) - y91.2.2.2.2.1.2.2.1.2.1)) + (1 : Int))) else y91.2.2.1)), (y91.2.2.2.1, (y91.2.2.2.2.1, (y91.2.2.2.2.2.1, ([], (y91.1, ((((List.length y91.1) : Nat) : Int), ((0 : Int), ())))))))))) fun r107 =>
  selim (fun y108 =>
  tif ((decide (y108.1 = (0 : Int)))) (
  obind (cell_Of n y108.2.2.2.2.2.1) fun r109 =>
  obind (series_Range n y108.2.2.2.1 y108.2.2.2.2.1 (0 : Int) y108.2.1 y108.2.2.1) fun r110 =>
  tif ((decide (r109.2 = (0 : Int)))) (
  tif ((decide (r110.2 = (0 : Int)))) (
  some ((decide (r110.1.1 = r109.1.1)) && ((decide (r110.1.2.1.1 = r109.1.2.1.1)) && ((decide (r110.1.2.1.2.1 = r109.1.2.1.2.1)) && ((decide (r110.1.2.1.2.2.1 = r109.1.2.1.2.2.1)) && ((r110.1.2.1.2.2.2 == r109.1.2.1.2.2.2) && ((decide (r110.1.2.2.1.1 = r109.1.2.2.1.1)) && ((decide (r110.1.2.2.1.2.1 = r109.1.2.2.1.2.1)) && ((decide (r110.1.2.2.1.2.2.1 = r109.1.2.2.1.2.2.1)) && ((r110.1.2.2.1.2.2.2 == r109.1.2.2.1.2.2.2) && ((decide (r110.1.2.2.2.1.1 = r109.1.2.2.2.1.1)) && ((decide (r110.1.2.2.2.1.2 = r109.1.2.2.2.1.2)) && ((decide (r110.1.2.2.2.2.1 = r109.1.2.2.2.2.1)) && ((decide (r110.1.2.2.2.2.2.1 = r109.1.2.2.2.2.2.1)) && (decide (r110.1.2.2.2.2.2.2 = r109.1.2.2.2.2.2.2)))))))))))))))) (
  some false)) (
  some false)) (
  tif ((decide (y108.1 = (1 : Int)))) (
  obind (cell_Of n y108.2.2.2.2.2.1) fun r111 =>
  obind (series_Range n y108.2.2.2.1 y108.2.2.2.2.1 (1 : Int) y108.2.1 y108.2.2.1) fun r112 =>
  tif ((decide (r111.2 = (0 : Int)))) (
  tif ((decide (r112.2 = (0 : Int)))) (
  some ((decide (r112.1.1 = r111.1.1)) && ((decide (r112.1.2.1.1 = r111.1.2.1.1)) && ((decide (r112.1.2.1.2.1 = r111.1.2.1.2.1)) && ((decide (r112.1.2.1.2.2.1 = r111.1.2.1.2.2.1)) && ((r112.1.2.1.2.2.2 == r111.1.2.1.2.2.2) && ((decide (r112.1.2.2.1.1 = r111.1.2.2.1.1)) && ((decide (r112.1.2.2.1.2.1 = r111.1.2.2.1.2.1)) && ((decide (r112.1.2.2.1.2.2.1 = r111.1.2.2.1.2.2.1)) && ((r112.1.2.2.1.2.2.2 == r111.1.2.2.1.2.2.2) && ((decide (r112.1.2.2.2.1.1 = r111.1.2.2.2.1.1)) && ((decide (r112.1.2.2.2.1.2 = r111.1.2.2.2.1.2)) && ((decide (r112.1.2.2.2.2.1 = r111.1.2.2.2.2.1)) && ((decide (r112.1.2.2.2.2.2.1 = r111.1.2.2.2.2.2.1)) && (decide (r112.1.2.2.2.2.2.2 = r111.1.2.2.2.2.2.2)))))))))))))))) (
  some false)) (
  some false)) (
  tif ((decide (y108.1 = (2 : Int)))) (
  obind (cell_Of n y108.2.2.2.2.2.1) fun r113 =>
  obind (series_Range n y108.2.2.2.1 y108.2.2.2.2.1 (2 : Int) y108.2.1 y108.2.2.1) fun r114 =>
  tif ((decide (r113.2 = (0 : Int)))) (
  tif ((decide (r114.2 = (0 : Int)))) (
  some ((decide (r114.1.1 = r113.1.1)) && ((decide (r114.1.2.1.1 = r113.1.2.1.1)) && ((decide (r114.1.2.1.2.1 = r113.1.2.1.2.1)) && ((decide (r114.1.2.1.2.2.1 = r113.1.2.1.2.2.1)) && ((r114.1.2.1.2.2.2 == r113.1.2.1.2.2.2) && ((decide (r114.1.2.2.1.1 = r113.1.2.2.1.1)) && ((decide (r114.1.2.2.1.2.1 = r113.1.2.2.1.2.1)) && ((decide (r114.1.2.2.1.2.2.1 = r113.1.2.2.1.2.2.1)) && ((r114.1.2.2.1.2.2.2 == r113.1.2.2.1.2.2.2) && ((decide (r114.1.2.2.2.1.1 = r113.1.2.2.2.1.1)) && ((decide (r114.1.2.2.2.1.2 = r113.1.2.2.2.1.2)) && ((decide (r114.1.2.2.2.2.1 = r113.1.2.2.2.2.1)) && ((decide (r114.1.2.2.2.2.2.1 = r113.1.2.2.2.2.2.1)) && (decide (r114.1.2.2.2.2.2.2 = r113.1.2.2.2.2.2.2)))))))))))))))) (
  some false)) (
  some false)) (
  none)))) (fun z115 =>
  some z115) r107)))) (
  none)) (
  none)))) (
  tif ((decide (y91.2.1 = (2 : Int)))) (
  obind (series_Check n y91.2.2.2.2.1 y91.2.2.2.2.2.1) fun r116 =>
  tif ((!(decide (r116 = (0 : Int))))) (
  some false) (
  obind (at? y91.1 (IntKind.wrap .i64 ((((List.length y91.1) : Nat) : Int) - (1 : Int)))) fun r117 =>
  tif ((!(decide (y91.2.2.2.2.2.1.2.1 = r117.1)))) (
  some false) (
  tif ((decide ((0 : Int) ≤ (IntKind.wrap .i64 ((((List.length y91.1) : Nat) : Int) - (if y91.2.2.2.2.1.1 < (((List.length y91.1) : Nat) : Int) then y91.2.2.2.2.1.1 else (((List.length y91.1) : Nat) : Int))))))) (
  tif ((decide ((Int.toNat (IntKind.wrap .i64 ((((List.length y91.1) : Nat) : Int) - (if y91.2.2.2.2.1.1 < (((List.length y91.1) : Nat) : Int) then y91.2.2.2.2.1.1 else (((List.length y91.1) : Nat) : Int))))) ≤ (List.length y91.1)))) (
  obind (r12_SameList n y91.2.2.2.2.2.1.2.2.1.2.2 (List.drop (Int.toNat (IntKind.wrap .i64 ((((List.length y91.1) : Nat) : Int) - (if y91.2.2.2.2.1.1 < (((List.length y91.1) : Nat) : Int) then y91.2.2.2.2.1.1 else (((List.length y91.1) : Nat) : Int))))) (List.take (List.length y91.1) y91.1))) fun r118 =>
  tif ((!r118)) (
  some false) (
  tif ((decide (y91.2.2.2.2.1.2.1.2.2 = (0 : Int)))) (
  none) (
  tif ((decide (y91.2.2.2.1 < (if (if y91.2.2.1 < (IntKind.wrap .i64 ((IntKind.wrap .i64 ((IntKind.wrap .i64 (Int.tdiv y91.2.2.2.2.2.1.2.1 y91.2.2.2.2.1.2.1.2.2)) - y91.2.2.2.2.1.2.2.1.2.2)) + (1 : Int))) then (IntKind.wrap .i64 ((IntKind.wrap .i64 ((IntKind.wrap .i64 (Int.tdiv y91.2.2.2.2.2.1.2.1 y91.2.2.2.2.1.2.1.2.2)) - y91.2.2.2.2.1.2.2.1.2.2)) + (1 : Int))) else y91.2.2.1) < (0 : Int) then (0 : Int) else (if y91.2.2.1 < (IntKind.wrap .i64 ((IntKind.wrap .i64 ((IntKind.wrap .i64 (Int.tdiv y91.2.2.2.2.2.1.2.1 y91.2.2.2.2.1.2.1.2.2)) - y91.2.2.2.2.1.2.2.1.2.2)) + (1 : Int))) then (IntKind.wrap .i64 ((IntKind.wrap .i64 ((IntKind.wrap .i64 (Int.tdiv y91.2.2.2.2.2.1.2.1 y91.2.2.2.2.1.2.1.2.2)) - y91.2.2.2.2.1.2.2.1.2.2)) + (1 : Int))) else y91.2.2.1))))) (
  some true) (
  obind (l15_SeriesExact_l24 n loopFuel ((2 : Int), ((if (if y91.2.2.1 < (IntKind.wrap .i64 ((IntKind.wrap .i64 ((IntKind.wrap .i64 (Int.tdiv y91.2.2.2.2.2.1.2.1 y91.2.2.2.2.1.2.1.2.2)) - y91.2.2.2.2.1.2.2.1.2.2)) + (1 : Int))) then (IntKind.wrap .i64 ((IntKind.wrap .i64 ((IntKind.wrap .i64 (Int.tdiv y91.2.2.2.2.2.1.2.1 y91.2.2.2.2.1.2.1.2.2)) - y91.2.2.2.2.1.2.2.1.2.2)) + (1 : Int))) else y91.2.2.1) < (0 : Int) then (0 : Int) else (if y91.2.2.1 < (IntKind.wrap .i64 ((IntKind.wrap .i64 ((IntKind.wrap .i64 (Int.tdiv y91.2.2.2.2.2.1.2.1 y91.2.2.2.2.1.2.1.2.2)) - y91.2.2.2.2.1.2.2.1.2.2)) + (1 : Int))) then (IntKind.wrap .i64 ((IntKind.wrap .i64 ((IntKind.wrap .i64 (Int.tdiv y91.2.2.2.2.2.1.2.1 y91.2.2.2.2.1.2.1.2.2)) - y91.2.2.2.2.1.2.2.1.2.2)) + (1 : Int))) else y91.2.2.1)), (y91.2.2.2.1, (y91.2.2.2.2.1, (y91.2.2.2.2.2.1, ([], (y91.1, ((((List.length y91.1) : Nat) : Int), ((0 : Int), ())))))))))) fun r119 =>
  selim (fun y120 =>
  tif ((decide (y120.1 = (0 : Int)))) (
  obind (cell_Of n y120.2.2.2.2.2.1) fun r121 =>
  obind (series_Range n y120.2.2.2.1 y120.2.2.2.2.1 (0 : Int) y120.2.1 y120.2.2.1) fun r122 =>
  tif ((decide (r121.2 = (0 : Int)))) (
  tif ((decide (r122.2 = (0 : Int)))) (
  some ((decide (r122.1.1 = r121.1.1)) && ((decide (r122.1.2.1.1 = r121.1.2.1.1)) && ((decide (r122.1.2.1.2.1 = r121.1.2.1.2.1)) && ((decide (r122.1.2.1.2.2.1 = r121.1.2.1.2.2.1)) && ((r122.1.2.1.2.2.2 == r121.1.2.1.2.2.2) && ((decide (r122.1.2.2.1.1 = r121.1.2.2.1.1)) && ((decide (r122.1.2.2.1.2.1 = r121.1.2.2.1.2.1)) && ((decide (r122.1.2.2.1.2.2.1 = r121.1.2.2.1.2.2.1)) && ((r122.1.2.2.1.2.2.2 == r121.1.2.2.1.2.2.2) && ((decide (r122.1.2.2.2.1.1 = r121.1.2.2.2.1.1)) && ((decide (r122.1.2.2.2.1.2 = r121.1.2.2.2.1.2)) && ((decide (r122.1.2.2.2.2.1 = r121.1.2.2.2.2.1)) && ((decide (r122.1.2.2.2.2.2.1 = r121.1.2.2.2.2.2.1)) && (decide (r122.1.2.2.2.2.2.2 = r121.1.2.2.2.2.2.2)))))))))))))))) (
  some false)) (
  some false)) (
  tif ((decide (y120.1 = (1 : Int)))) (
  obind (cell_Of n y120.2.2.2.2.2.1) fun r123 =>
  obind (series_Range n y120.2.2.2.1 y120.2.2.2.2.1 (1 : Int) y120.2.1 y120.2.2.1) fun r124 =>
  tif ((decide (r123.2 = (0 : Int)))) (
  tif ((decide (r124.2 = (0 : Int)))) (
  some ((decide (r124.1.1 = r123.1.1)) && ((decide (r124.1.2.1.1 = r123.1.2.1.1)) && ((decide (r124.1.2.1.2.1 = r123.1.2.1.2.1)) && ((decide (r124.1.2.1.2.2.1 = r123.1.2.1.2.2.1)) && ((r124.1.2.1.2.2.2 == r123.1.2.1.2.2.2) && ((decide (r124.1.2.2.1.1 = r123.1.2.2.1.1)) && ((decide (r124.1.2.2.1.2.1 = r123.1.2.2.1.2.1)) && ((decide (r124.1.2.2.1.2.2.1 = r123.1.2.2.1.2.2.1)) && ((r124.1.2.2.1.2.2.2 == r123.1.2.2.1.2.2.2) && ((decide (r124.1.2.2.2.1.1 = r123.1.2.2.2.1.1)) && ((decide (r124.1.2.2.2.1.2 = r123.1.2.2.2.1.2)) && ((decide (r124.1.2.2.2.2.1 = r123.1.2.2.2.2.1)) && ((decide (r124.1.2.2.2.2.2.1 = r123.1.2.2.2.2.2.1)) && (decide (r124.1.2.2.2.2.2.2 = r123.1.2.2.2.2.2.2)))))))))))))))) (
  some false)) (
  some false)) (
  tif ((decide (y120.1 = (2 : Int)))) (
  obind (cell_Of n y120.2.2.2.2.2.1) fun r125 =>
  obind (series_Range n y120.2.2.2.1 y120.2.2.2.2.1 (2 : Int) y120.2.1 y120.2.2.1) fun r126 =>
  tif ((decide (r125.2 = (0 : Int)))) (
  tif ((decide (r126.2 = (0 : Int)))) (
  some ((decide (r126.1.1 = r125.1.1)) && ((decide (r126.1.2.1.1 = r125.1.2.1.1)) && ((decide (r126.1.2.1.2.1 = r125.1.2.1.2.1)) && ((decide (r126.1.2.1.2.2.1 = r125.1.2.1.2.2.1)) && ((r126.1.2.1.2.2.2 == r125.1.2.1.2.2.2) && ((decide (r126.1.2.2.1.1 = r125.1.2.2.1.1)) && ((decide (r126.1.2.2.1.2.1 = r125.1.2.2.1.2.1)) && ((decide (r126.1.2.2.1.2.2.1 = r125.1.2.2.1.2.2.1)) && ((r126.1.2.2.1.2.2.2 == r125.1.2.2.1.2.2.2) && ((decide (r126.1.2.2.2.1.1 = r125.1.2.2.2.1.1)) && ((decide (r126.1.2.2.2.1.2 = r125.1.2.2.2.1.2)) && ((decide (r126.1.2.2.2.2.1 = r125.1.2.2.2.2.1)) && ((decide (r126.1.2.2.2.2.2.1 = r125.1.2.2.2.2.2.1)) && (decide (r126.1.2.2.2.2.2.2 = r125.1.2.2.2.2.2.2)))))))))))))))) (
  some false)) (
  some false)) (
  none)))) (fun z127 =>
  some z127) r119)))) (
  none)) (
  none)))) (
  none)))) (fun z128 =>
  some z128) r90))))))) (
  obind (l15_lives n ) fun r129 =>
  tif ((!r129)) (
  some false) (
  obind (series_New n c ((((97 : UInt8) :: []), []) :: [])) fun r130 =>
  tif ((!(decide (r130.2 = (0 : Int))))) (
  some true) (
  obind (l15_Small n r130.1) fun r131 =>
  tif ((decide (r131 = (0 : Int)))) (
  some true) (
  tif ((decide ((60 : Int) < (((List.length l) : Nat) : Int)))) (
  some true) (
  tif ((decide ((((List.length l) : Nat) : Int) = (0 : Int)))) (
  some true) (
  tif ((decide (k < (0 : Int)))) (
  some true) (
  tif ((decide ((2 : Int) < k))) (
  some true) (
  obind (cell_Of n l) fun r132 =>
  tif ((!(decide (r132.2 = (0 : Int))))) (
  some true) (
  none))))))))))) := by kernel_rfl
theorem l15_SeriesExact_l10_eq (n f : Nat) (l : (List TEvent)) (k : Int) (i : Int) (j : Int) (c_ : TConfig) (s : TSeries) (s68 : (List TEvent)) (s69 : Int) (s70 : Int) : l15_SeriesExact_l10 n (f + 1) (l, k, i, j, c_, s, s68, s69, s70, ()) =
  tif ((decide (s70 < s69))) (
  obind (at? s68 s70) fun r0 =>
  obind (series_Put n c_ s r0) fun r1 =>
  tif ((!(decide (r1.2 = (0 : Int))))) (
  some (.inr false)) (
  l15_SeriesExact_l10 n f (l, (k, (i, (j, (c_, (r1.1, (s68, (s69, ((IntKind.wrap .i64 (s70 + (1 : Int))), ()))))))))))) (
  some (.inl (l, (k, (i, (j, (c_, (s, ())))))))) := by kernel_rfl
theorem l15_SeriesExact_l24_eq (n f : Nat) (k : Int) (i : Int) (j : Int) (c_ : TConfig) (s : TSeries) (some_ : (List TEvent)) (s136 : (List TEvent)) (s137 : Int) (s138 : Int) : l15_SeriesExact_l24 n (f + 1) (k, i, j, c_, s, some_, s136, s137, s138, ()) =
  tif ((decide (s138 < s137))) (
  obind (at? s136 s138) fun r0 =>
  tif ((decide (k = (0 : Int)))) (
  tif ((decide (c_.2.1.1 = (0 : Int)))) (
  none) (
  tif ((decide (i ≤ (IntKind.wrap .i64 (Int.tdiv r0.1 c_.2.1.1))))) (
  tif ((decide ((IntKind.wrap .i64 (Int.tdiv r0.1 c_.2.1.1)) < j))) (
  tif ((decide ((((List.length some_) + 1) * 32) ≤ 140737488355328))) (
  l15_SeriesExact_l24 n f (k, (i, (j, (c_, (s, ((some_ ++ (r0 :: [])), (s136, (s137, ((IntKind.wrap .i64 (s138 + (1 : Int))), ())))))))))) (
  none)) (
  l15_SeriesExact_l24 n f (k, (i, (j, (c_, (s, (some_, (s136, (s137, ((IntKind.wrap .i64 (s138 + (1 : Int))), ()))))))))))) (
  l15_SeriesExact_l24 n f (k, (i, (j, (c_, (s, (some_, (s136, (s137, ((IntKind.wrap .i64 (s138 + (1 : Int))), ())))))))))))) (
  tif ((decide (k = (1 : Int)))) (
  tif ((decide (c_.2.1.2.1 = (0 : Int)))) (
  none) (
  tif ((decide (i ≤ (IntKind.wrap .i64 (Int.tdiv r0.1 c_.2.1.2.1))))) (
  tif ((decide ((IntKind.wrap .i64 (Int.tdiv r0.1 c_.2.1.2.1)) < j))) (
  tif ((decide ((((List.length some_) + 1) * 32) ≤ 140737488355328))) (
  l15_SeriesExact_l24 n f (k, (i, (j, (c_, (s, ((some_ ++ (r0 :: [])), (s136, (s137, ((IntKind.wrap .i64 (s138 + (1 : Int))), ())))))))))) (
  none)) (
  l15_SeriesExact_l24 n f (k, (i, (j, (c_, (s, (some_, (s136, (s137, ((IntKind.wrap .i64 (s138 + (1 : Int))), ()))))))))))) (
  l15_SeriesExact_l24 n f (k, (i, (j, (c_, (s, (some_, (s136, (s137, ((IntKind.wrap .i64 (s138 + (1 : Int))), ())))))))))))) (
  tif ((decide (k = (2 : Int)))) (
  tif ((decide (c_.2.1.2.2 = (0 : Int)))) (
  none) (
  tif ((decide (i ≤ (IntKind.wrap .i64 (Int.tdiv r0.1 c_.2.1.2.2))))) (
  tif ((decide ((IntKind.wrap .i64 (Int.tdiv r0.1 c_.2.1.2.2)) < j))) (
  tif ((decide ((((List.length some_) + 1) * 32) ≤ 140737488355328))) (
  l15_SeriesExact_l24 n f (k, (i, (j, (c_, (s, ((some_ ++ (r0 :: [])), (s136, (s137, ((IntKind.wrap .i64 (s138 + (1 : Int))), ())))))))))) (
  none)) (
  l15_SeriesExact_l24 n f (k, (i, (j, (c_, (s, (some_, (s136, (s137, ((IntKind.wrap .i64 (s138 + (1 : Int))), ()))))))))))) (
  l15_SeriesExact_l24 n f (k, (i, (j, (c_, (s, (some_, (s136, (s137, ((IntKind.wrap .i64 (s138 + (1 : Int))), ())))))))))))) (
  none)))) (
  some (.inl (k, (i, (j, (c_, (s, (some_, ())))))))) := by kernel_rfl
theorem l15_Small_eq (n : Nat) (s : TSeries) : l15_Small (n + 1) s =
  obind (l05_Small n s.1) fun r0 =>
  tif ((decide (r0 = (0 : Int)))) (
  some (0 : Int)) (
  tif ((decide ((60 : Int) < (((List.length s.2.2.1.2.2) : Nat) : Int)))) (
  some (0 : Int)) (
  obind (l14_Small n s.2.2.2.1) fun r1 =>
  some r1)) := by kernel_rfl
theorem series_Put_eq (n : Nat) (c : TConfig) (s : TSeries) (e : TEvent) : series_Put (n + 1) c s e =
  obind (series_open n c s) fun r0 =>
  oelim (r0.1) (
  tif ((!(decide (r0.2 = (0 : Int))))) (
  some (([], ((0 : Int), (((0 : Int), ((0 : Int), [])), (([], ([], [])), ((0 : Int), ((0 : Int), (((0 : Int), ((0 : Int), ((0 : Int), false))), (((0 : Int), ((0 : Int), ((0 : Int), false))), (((0 : Int), (0 : Int)), ((0 : Int), ((0 : Int), (0 : Int)))))))))))), (2 : Int))) (
  obind (event_Check n e) fun r1 =>
  tif ((!(decide (r1 = (0 : Int))))) (
  some (([], ((0 : Int), (((0 : Int), ((0 : Int), [])), (([], ([], [])), ((0 : Int), ((0 : Int), (((0 : Int), ((0 : Int), ((0 : Int), false))), (((0 : Int), ((0 : Int), ((0 : Int), false))), (((0 : Int), (0 : Int)), ((0 : Int), ((0 : Int), (0 : Int)))))))))))), (2 : Int))) (
  tif ((decide (e.1 ≤ s.2.1))) (
  some (([], ((0 : Int), (((0 : Int), ((0 : Int), [])), (([], ([], [])), ((0 : Int), ((0 : Int), (((0 : Int), ((0 : Int), ((0 : Int), false))), (((0 : Int), ((0 : Int), ((0 : Int), false))), (((0 : Int), (0 : Int)), ((0 : Int), ((0 : Int), (0 : Int)))))))))))), (9 : Int))) (
  tif ((decide (c.2.1.1 = (0 : Int)))) (
  none) (
  none))))) fun r2 =>
  tif ((!(decide (r0.2 = (0 : Int))))) (
  some (([], ((0 : Int), (((0 : Int), ((0 : Int), [])), (([], ([], [])), ((0 : Int), ((0 : Int), (((0 : Int), ((0 : Int), ((0 : Int), false))), (((0 : Int), ((0 : Int), ((0 : Int), false))), (((0 : Int), (0 : Int)), ((0 : Int), ((0 : Int), (0 : Int)))))))))))), (2 : Int))) (
  obind (event_Check n e) fun r3 =>
  tif ((!(decide (r3 = (0 : Int))))) (
  some (([], ((0 : Int), (((0 : Int), ((0 : Int), [])), (([], ([], [])), ((0 : Int), ((0 : Int), (((0 : Int), ((0 : Int), ((0 : Int), false))), (((0 : Int), ((0 : Int), ((0 : Int), false))), (((0 : Int), (0 : Int)), ((0 : Int), ((0 : Int), (0 : Int)))))))))))), (2 : Int))) (
  tif ((decide (e.1 ≤ s.2.1))) (
  some (([], ((0 : Int), (((0 : Int), ((0 : Int), [])), (([], ([], [])), ((0 : Int), ((0 : Int), (((0 : Int), ((0 : Int), ((0 : Int), false))), (((0 : Int), ((0 : Int), ((0 : Int), false))), (((0 : Int), (0 : Int)), ((0 : Int), ((0 : Int), (0 : Int)))))))))))), (9 : Int))) (
  tif ((decide (c.2.1.1 = (0 : Int)))) (
  none) (
  obind (series_kept_turn n r2 (IntKind.wrap .i64 (Int.tdiv e.1 c.2.1.1))) fun r4 =>
  tif ((!(decide (r4.1 = (0 : Int))))) (
  some (([], ((0 : Int), (((0 : Int), ((0 : Int), [])), (([], ([], [])), ((0 : Int), ((0 : Int), (((0 : Int), ((0 : Int), ((0 : Int), false))), (((0 : Int), ((0 : Int), ((0 : Int), false))), (((0 : Int), (0 : Int)), ((0 : Int), ((0 : Int), (0 : Int)))))))))))), r4.1)) (
  obind (series_kept_add n r4.2 (IntKind.wrap .i64 (Int.tdiv e.1 c.2.1.1)) e) fun r5 =>
  tif ((!(decide (r5.1 = (0 : Int))))) (
  some (([], ((0 : Int), (((0 : Int), ((0 : Int), [])), (([], ([], [])), ((0 : Int), ((0 : Int), (((0 : Int), ((0 : Int), ((0 : Int), false))), (((0 : Int), ((0 : Int), ((0 : Int), false))), (((0 : Int), (0 : Int)), ((0 : Int), ((0 : Int), (0 : Int)))))))))))), r5.1)) (
  some (r5.2.2, (0 : Int)))))))) := by kernel_rfl
end Go.Proofs.YtapadkjknnfifaaGreat
