/-
  What each function comes to by one step of the flat reading. Printed by program; the kernel looks at each.
-/
import Derived.Test.YtapadkjknnfifaaGreatTr0
import Derived.KernelRfl
set_option linter.unusedVariables false
namespace Go.Proofs.YtapadkjknnfifaaGreat
open Go.Flat
theorem l15_SeriesAgree_eq (n : Nat) (c : TConfig) (l : (List TEvent)) (k : Int) (i : Int) (j : Int) : l15_SeriesAgree (n + 1) c l k i j =
  tif ((decide (k = (1 : Int)))) (
  obind (l15_lives n ) fun r0 =>
  tif ((!r0)) (
  some false) (
  obind (series_New n c ((((97 : UInt8) :: []), []) :: [])) fun r1 =>
  tif ((!(decide (r1.2 = (0 : Int))))) (
  some true) (
  obind (l15_Small n r1.1) fun r2 =>
  tif ((decide (r2 = (0 : Int)))) (
  some true) (
  tif ((decide ((60 : Int) < (((List.length l) : Nat) : Int)))) (
  some true) (
  tif ((decide (i < (0 : Int)))) (
  some true) (
  tif ((decide (j < i))) (
  some true) (
  tif ((decide (c.2.1.2.1 = (0 : Int)))) (
  none) (
  tif ((decide ((IntKind.wrap .i64 (Int.tdiv (35184372088832 : Int) c.2.1.2.1)) < j))) (
  some true) (
  obind (l15_SeriesAgree_l7 n loopFuel ((1 : Int), (i, (j, (c, (r1.1, (l, ((((List.length l) : Nat) : Int), ((0 : Int), ()))))))))) fun r3 =>
  selim (fun y4 =>
  tif ((decide (y4.1 = (1 : Int)))) (
  tif ((decide (y4.2.2.2.1.2.1.1 = (0 : Int)))) (
  none) (
  tif ((decide ((0 : Int) ≤ y4.2.2.2.2.1.2.1))) (
  tif ((decide (y4.2.2.2.1.2.1.2.1 = (0 : Int)))) (
  none) (
  tif ((decide (y4.2.1 ≤ (IntKind.wrap .i64 ((IntKind.wrap .i64 (Int.tdiv y4.2.2.2.2.1.2.1 y4.2.2.2.1.2.1.2.1)) - y4.2.2.2.1.2.2.1.2.1))))) (
  some true) (
  tif ((decide (y4.2.2.2.1.2.1.1 = (0 : Int)))) (
  none) (
  tif ((decide ((IntKind.wrap .i64 (y4.2.1 * (IntKind.wrap .i64 (Int.tdiv y4.2.2.2.1.2.1.2.1 y4.2.2.2.1.2.1.1)))) ≤ (IntKind.wrap .i64 ((IntKind.wrap .i64 (Int.tdiv y4.2.2.2.2.1.2.1 y4.2.2.2.1.2.1.1)) - y4.2.2.2.1.2.2.1.1))))) (
  some true) (
  obind (series_Range n y4.2.2.2.1 y4.2.2.2.2.1 (1 : Int) y4.2.1 y4.2.2.1) fun r5 =>
  obind (series_Range n y4.2.2.2.1 y4.2.2.2.2.1 (0 : Int) (IntKind.wrap .i64 (y4.2.1 * (IntKind.wrap .i64 (Int.tdiv y4.2.2.2.1.2.1.2.1 y4.2.2.2.1.2.1.1)))) (IntKind.wrap .i64 (y4.2.2.1 * (IntKind.wrap .i64 (Int.tdiv y4.2.2.2.1.2.1.2.1 y4.2.2.2.1.2.1.1))))) fun r6 =>
  tif ((decide (r5.2 = (0 : Int)))) (
  tif ((decide (r6.2 = (0 : Int)))) (
  some ((decide (r5.1.1 = r6.1.1)) && ((decide (r5.1.2.1.1 = r6.1.2.1.1)) && ((decide (r5.1.2.1.2.1 = r6.1.2.1.2.1)) && ((decide (r5.1.2.1.2.2.1 = r6.1.2.1.2.2.1)) && ((r5.1.2.1.2.2.2 == r6.1.2.1.2.2.2) && ((decide (r5.1.2.2.1.1 = r6.1.2.2.1.1)) && ((decide (r5.1.2.2.1.2.1 = r6.1.2.2.1.2.1)) && ((decide (r5.1.2.2.1.2.2.1 = r6.1.2.2.1.2.2.1)) && ((r5.1.2.2.1.2.2.2 == r6.1.2.2.1.2.2.2) && ((decide (r5.1.2.2.2.1.1 = r6.1.2.2.2.1.1)) && ((decide (r5.1.2.2.2.1.2 = r6.1.2.2.2.1.2)) && ((decide (r5.1.2.2.2.2.1 = r6.1.2.2.2.2.1)) && ((decide (r5.1.2.2.2.2.2.1 = r6.1.2.2.2.2.2.1)) && (decide (r5.1.2.2.2.2.2.2 = r6.1.2.2.2.2.2.2)))))))))))))))) (
  some false)) (
  some false)))))) (
  obind (series_Range n y4.2.2.2.1 y4.2.2.2.2.1 (1 : Int) y4.2.1 y4.2.2.1) fun r7 =>
  obind (series_Range n y4.2.2.2.1 y4.2.2.2.2.1 (0 : Int) (IntKind.wrap .i64 (y4.2.1 * (IntKind.wrap .i64 (Int.tdiv y4.2.2.2.1.2.1.2.1 y4.2.2.2.1.2.1.1)))) (IntKind.wrap .i64 (y4.2.2.1 * (IntKind.wrap .i64 (Int.tdiv y4.2.2.2.1.2.1.2.1 y4.2.2.2.1.2.1.1))))) fun r8 =>
  tif ((decide (r7.2 = (0 : Int)))) (
  tif ((decide (r8.2 = (0 : Int)))) (
  some ((decide (r7.1.1 = r8.1.1)) && ((decide (r7.1.2.1.1 = r8.1.2.1.1)) && ((decide (r7.1.2.1.2.1 = r8.1.2.1.2.1)) && ((decide (r7.1.2.1.2.2.1 = r8.1.2.1.2.2.1)) && ((r7.1.2.1.2.2.2 == r8.1.2.1.2.2.2) && ((decide (r7.1.2.2.1.1 = r8.1.2.2.1.1)) && ((decide (r7.1.2.2.1.2.1 = r8.1.2.2.1.2.1)) && ((decide (r7.1.2.2.1.2.2.1 = r8.1.2.2.1.2.2.1)) && ((r7.1.2.2.1.2.2.2 == r8.1.2.2.1.2.2.2) && ((decide (r7.1.2.2.2.1.1 = r8.1.2.2.2.1.1)) && ((decide (r7.1.2.2.2.1.2 = r8.1.2.2.2.1.2)) && ((decide (r7.1.2.2.2.2.1 = r8.1.2.2.2.2.1)) && ((decide (r7.1.2.2.2.2.2.1 = r8.1.2.2.2.2.2.1)) && (decide (r7.1.2.2.2.2.2.2 = r8.1.2.2.2.2.2.2)))))))))))))))) (
  some false)) (
  some false)))) (
  tif ((decide (y4.1 = (2 : Int)))) (
  tif ((decide (y4.2.2.2.1.2.1.2.1 = (0 : Int)))) (
  none) (
  tif ((decide ((0 : Int) ≤ y4.2.2.2.2.1.2.1))) (
  tif ((decide (y4.2.2.2.1.2.1.2.2 = (0 : Int)))) (
  none) (
  tif ((decide (y4.2.1 ≤ (IntKind.wrap .i64 ((IntKind.wrap .i64 (Int.tdiv y4.2.2.2.2.1.2.1 y4.2.2.2.1.2.1.2.2)) - y4.2.2.2.1.2.2.1.2.2))))) (
  some true) (
  tif ((decide (y4.2.2.2.1.2.1.2.1 = (0 : Int)))) (
  none) (
  tif ((decide ((IntKind.wrap .i64 (y4.2.1 * (IntKind.wrap .i64 (Int.tdiv y4.2.2.2.1.2.1.2.2 y4.2.2.2.1.2.1.2.1)))) ≤ (IntKind.wrap .i64 ((IntKind.wrap .i64 (Int.tdiv y4.2.2.2.2.1.2.1 y4.2.2.2.1.2.1.2.1)) - y4.2.2.2.1.2.2.1.2.1))))) (
  some true) (
  obind (series_Range n y4.2.2.2.1 y4.2.2.2.2.1 (2 : Int) y4.2.1 y4.2.2.1) fun r9 =>
  obind (series_Range n y4.2.2.2.1 y4.2.2.2.2.1 (1 : Int) (IntKind.wrap .i64 (y4.2.1 * (IntKind.wrap .i64 (Int.tdiv y4.2.2.2.1.2.1.2.2 y4.2.2.2.1.2.1.2.1)))) (IntKind.wrap .i64 (y4.2.2.1 * (IntKind.wrap .i64 (Int.tdiv y4.2.2.2.1.2.1.2.2 y4.2.2.2.1.2.1.2.1))))) fun r10 =>
  tif ((decide (r9.2 = (0 : Int)))) (
  tif ((decide (r10.2 = (0 : Int)))) (
  some ((decide (r9.1.1 = r10.1.1)) && ((decide (r9.1.2.1.1 = r10.1.2.1.1)) && ((decide (r9.1.2.1.2.1 = r10.1.2.1.2.1)) && ((decide (r9.1.2.1.2.2.1 = r10.1.2.1.2.2.1)) && ((r9.1.2.1.2.2.2 == r10.1.2.1.2.2.2) && ((decide (r9.1.2.2.1.1 = r10.1.2.2.1.1)) && ((decide (r9.1.2.2.1.2.1 = r10.1.2.2.1.2.1)) && ((decide (r9.1.2.2.1.2.2.1 = r10.1.2.2.1.2.2.1)) && ((r9.1.2.2.1.2.2.2 == r10.1.2.2.1.2.2.2) && ((decide (r9.1.2.2.2.1.1 = r10.1.2.2.2.1.1)) && ((decide (r9.1.2.2.2.1.2 = r10.1.2.2.2.1.2)) && ((decide (r9.1.2.2.2.2.1 = r10.1.2.2.2.2.1)) && ((decide (r9.1.2.2.2.2.2.1 = r10.1.2.2.2.2.2.1)) && (decide (r9.1.2.2.2.2.2.2 = r10.1.2.2.2.2.2.2)))))))))))))))) (
  some false)) (
  some false)))))) (
  obind (series_Range n y4.2.2.2.1 y4.2.2.2.2.1 (2 : Int) y4.2.1 y4.2.2.1) fun r11 =>
  obind (series_Range n y4.2.2.2.1 y4.2.2.2.2.1 (1 : Int) (IntKind.wrap .i64 (y4.2.1 * (IntKind.wrap .i64 (Int.tdiv y4.2.2.2.1.2.1.2.2 y4.2.2.2.1.2.1.2.1)))) (IntKind.wrap .i64 (y4.2.2.1 * (IntKind.wrap .i64 (Int.tdiv y4.2.2.2.1.2.1.2.2 y4.2.2.2.1.2.1.2.1))))) fun r12 =>
  tif ((decide (r11.2 = (0 : Int)))) (
  tif ((decide (r12.2 = (0 : Int)))) (
  some ((decide (r11.1.1 = r12.1.1)) && ((decide (r11.1.2.1.1 = r12.1.2.1.1)) && ((decide (r11.1.2.1.2.1 = r12.1.2.1.2.1)) && ((decide (r11.1.2.1.2.2.1 = r12.1.2.1.2.2.1)) && ((r11.1.2.1.2.2.2 == r12.1.2.1.2.2.2) && ((decide (r11.1.2.2.1.1 = r12.1.2.2.1.1)) && ((decide (r11.1.2.2.1.2.1 = r12.1.2.2.1.2.1)) && ((decide (r11.1.2.2.1.2.2.1 = r12.1.2.2.1.2.2.1)) && ((r11.1.2.2.1.2.2.2 == r12.1.2.2.1.2.2.2) && ((decide (r11.1.2.2.2.1.1 = r12.1.2.2.2.1.1)) && ((decide (r11.1.2.2.2.1.2 = r12.1.2.2.2.1.2)) && ((decide (r11.1.2.2.2.2.1 = r12.1.2.2.2.2.1)) && ((decide (r11.1.2.2.2.2.2.1 = r12.1.2.2.2.2.2.1)) && (decide (r11.1.2.2.2.2.2.2 = r12.1.2.2.2.2.2.2)))))))))))))))) (
  some false)) (
  some false)))) (
  none))) (fun z13 =>
  some z13) r3))))))))) (
  tif ((decide (k = (2 : Int)))) (
  obind (l15_lives n ) fun r14 =>
  tif ((!r14)) (
  some false) (
  obind (series_New n c ((((97 : UInt8) :: []), []) :: [])) fun r15 =>
  tif ((!(decide (r15.2 = (0 : Int))))) (
  some true) (
  obind (l15_Small n r15.1) fun r16 =>
  tif ((decide (r16 = (0 : Int)))) (
  some true) (
  tif ((decide ((60 : Int) < (((List.length l) : Nat) : Int)))) (
  some true) (
  tif ((decide (i < (0 : Int)))) (
  some true) (
  tif ((decide (j < i))) (
  some true) (
  tif ((decide (c.2.1.2.2 = (0 : Int)))) (
  none) (
  tif ((decide ((IntKind.wrap .i64 (Int.tdiv (35184372088832 : Int) c.2.1.2.2)) < j))) (
  some true) (
  obind (l15_SeriesAgree_l7 n loopFuel ((2 : Int), (i, (j, (c, (r15.1, (l, ((((List.length l) : Nat) : Int), ((0 : Int), ()))))))))) fun r17 =>
  selim (fun y18 =>
  tif ((decide (y18.1 = (1 : Int)))) (
  tif ((decide (y18.2.2.2.1.2.1.1 = (0 : Int)))) (
  none) (
  tif ((decide ((0 : Int) ≤ y18.2.2.2.2.1.2.1))) (
  tif ((decide (y18.2.2.2.1.2.1.2.1 = (0 : Int)))) (
  none) (
  tif ((decide (y18.2.1 ≤ (IntKind.wrap .i64 ((IntKind.wrap .i64 (Int.tdiv y18.2.2.2.2.1.2.1 y18.2.2.2.1.2.1.2.1)) - y18.2.2.2.1.2.2.1.2.1))))) (
  some true) (
  tif ((decide (y18.2.2.2.1.2.1.1 = (0 : Int)))) (
  none) (
  tif ((decide ((IntKind.wrap .i64 (y18.2.1 * (IntKind.wrap .i64 (Int.tdiv y18.2.2.2.1.2.1.2.1 y18.2.2.2.1.2.1.1)))) ≤ (IntKind.wrap .i64 ((IntKind.wrap .i64 (Int.tdiv y18.2.2.2.2.1.2.1 y18.2.2.2.1.2.1.1)) - y18.2.2.2.1.2.2.1.1))))) (
  some true) (
  obind (series_Range n y18.2.2.2.1 y18.2.2.2.2.1 (1 : Int) y18.2.1 y18.2.2.1) fun r19 =>
  obind (series_Range n y18.2.2.2.1 y18.2.2.2.2.1 (0 : Int) (IntKind.wrap .i64 (y18.2.1 * (IntKind.wrap .i64 (Int.tdiv y18.2.2.2.1.2.1.2.1 y18.2.2.2.1.2.1.1)))) (IntKind.wrap .i64 (y18.2.2.1 * (IntKind.wrap .i64 (Int.tdiv y18.2.2.2.1.2.1.2.1 y18.2.2.2.1.2.1.1))))) fun r20 =>
  tif ((decide (r19.2 = (0 : Int)))) (
  tif ((decide (r20.2 = (0 : Int)))) (
  some ((decide (r19.1.1 = r20.1.1)) && ((decide (r19.1.2.1.1 = r20.1.2.1.1)) && ((decide (r19.1.2.1.2.1 = r20.1.2.1.2.1)) && ((decide (r19.1.2.1.2.2.1 = r20.1.2.1.2.2.1)) && ((r19.1.2.1.2.2.2 == r20.1.2.1.2.2.2) && ((decide (r19.1.2.2.1.1 = r20.1.2.2.1.1)) && ((decide (r19.1.2.2.1.2.1 = r20.1.2.2.1.2.1)) && ((decide (r19.1.2.2.1.2.2.1 = r20.1.2.2.1.2.2.1)) && ((r19.1.2.2.1.2.2.2 == r20.1.2.2.1.2.2.2) && ((decide (r19.1.2.2.2.1.1 = r20.1.2.2.2.1.1)) && ((decide (r19.1.2.2.2.1.2 = r20.1.2.2.2.1.2)) && ((decide (r19.1.2.2.2.2.1 = r20.1.2.2.2.2.1)) && ((decide (r19.1.2.2.2.2.2.1 = r20.1.2.2.2.2.2.1)) && (decide (r19.1.2.2.2.2.2.2 = r20.1.2.2.2.2.2.2)))))))))))))))) (
  some false)) (
  some false)))))) (
  obind (series_Range n y18.2.2.2.1 y18.2.2.2.2.1 (1 : Int) y18.2.1 y18.2.2.1) fun r21 =>
  obind (series_Range n y18.2.2.2.1 y18.2.2.2.2.1 (0 : Int) (IntKind.wrap .i64 (y18.2.1 * (IntKind.wrap .i64 (Int.tdiv y18.2.2.2.1.2.1.2.1 y18.2.2.2.1.2.1.1)))) (IntKind.wrap .i64 (y18.2.2.1 * (IntKind.wrap .i64 (Int.tdiv y18.2.2.2.1.2.1.2.1 y18.2.2.2.1.2.1.1))))) fun r22 =>
  tif ((decide (r21.2 = (0 : Int)))) (
  tif ((decide (r22.2 = (0 : Int)))) (
  some ((decide (r21.1.1 = r22.1.1)) && ((decide (r21.1.2.1.1 = r22.1.2.1.1)) && ((decide (r21.1.2.1.2.1 = r22.1.2.1.2.1)) && ((decide (r21.1.2.1.2.2.1 = r22.1.2.1.2.2.1)) && ((r21.1.2.1.2.2.2 == r22.1.2.1.2.2.2) && ((decide (r21.1.2.2.1.1 = r22.1.2.2.1.1)) && ((decide (r21.1.2.2.1.2.1 = r22.1.2.2.1.2.1)) && ((decide (r21.1.2.2.1.2.2.1 = r22.1.2.2.1.2.2.1)) && ((r21.1.2.2.1.2.2.2 == r22.1.2.2.1.2.2.2) && ((decide (r21.1.2.2.2.1.1 = r22.1.2.2.2.1.1)) && ((decide (r21.1.2.2.2.1.2 = r22.1.2.2.2.1.2)) && ((decide (r21.1.2.2.2.2.1 = r22.1.2.2.2.2.1)) && ((decide (r21.1.2.2.2.2.2.1 = r22.1.2.2.2.2.2.1)) && (decide (r21.1.2.2.2.2.2.2 = r22.1.2.2.2.2.2.2)))))))))))))))) (
  some false)) (
  some false)))) (
  tif ((decide (y18.1 = (2 : Int)))) (
  tif ((decide (y18.2.2.2.1.2.1.2.1 = (0 : Int)))) (
  none) (
  tif ((decide ((0 : Int) ≤ y18.2.2.2.2.1.2.1))) (
  tif ((decide (y18.2.2.2.1.2.1.2.2 = (0 : Int)))) (
  none) (
  tif ((decide (y18.2.1 ≤ (IntKind.wrap .i64 ((IntKind.wrap .i64 (Int.tdiv y18.2.2.2.2.1.2.1 y18.2.2.2.1.2.1.2.2)) - y18.2.2.2.1.2.2.1.2.2))))) (
  some true) (
  tif ((decide (y18.2.2.2.1.2.1.2.1 = (0 : Int)))) (
  none) (
  tif ((decide ((IntKind.wrap .i64 (y18.2.1 * (IntKind.wrap .i64 (Int.tdiv y18.2.2.2.1.2.1.2.2 y18.2.2.2.1.2.1.2.1)))) ≤ (IntKind.wrap .i64 ((IntKind.wrap .i64 (Int.tdiv y18.2.2.2.2.1.2.1 y18.2.2.2.1.2.1.2.1)) - y18.2.2.2.1.2.2.1.2.1))))) (
  some true) (
  obind (series_Range n y18.2.2.2.1 y18.2.2.2.2.1 (2 : Int) y18.2.1 y18.2.2.1) fun r23 =>
  obind (series_Range n y18.2.2.2.1 y18.2.2.2.2.1 (1 : Int) (IntKind.wrap .i64 (y18.2.1 * (IntKind.wrap .i64 (Int.tdiv y18.2.2.2.1.2.1.2.2 y18.2.2.2.1.2.1.2.1)))) (IntKind.wrap .i64 (y18.2.2.1 * (IntKind.wrap .i64 (Int.tdiv y18.2.2.2.1.2.1.2.2 y18.2.2.2.1.2.1.2.1))))) fun r24 =>
  tif ((decide (r23.2 = (0 : Int)))) (
  tif ((decide (r24.2 = (0 : Int)))) (
  some ((decide (r23.1.1 = r24.1.1)) && ((decide (r23.1.2.1.1 = r24.1.2.1.1)) && ((decide (r23.1.2.1.2.1 = r24.1.2.1.2.1)) && ((decide (r23.1.2.1.2.2.1 = r24.1.2.1.2.2.1)) && ((r23.1.2.1.2.2.2 == r24.1.2.1.2.2.2) && ((decide (r23.1.2.2.1.1 = r24.1.2.2.1.1)) && ((decide (r23.1.2.2.1.2.1 = r24.1.2.2.1.2.1)) && ((decide (r23.1.2.2.1.2.2.1 = r24.1.2.2.1.2.2.1)) && ((r23.1.2.2.1.2.2.2 == r24.1.2.2.1.2.2.2) && ((decide (r23.1.2.2.2.1.1 = r24.1.2.2.2.1.1)) && ((decide (r23.1.2.2.2.1.2 = r24.1.2.2.2.1.2)) && ((decide (r23.1.2.2.2.2.1 = r24.1.2.2.2.2.1)) && ((decide (r23.1.2.2.2.2.2.1 = r24.1.2.2.2.2.2.1)) && (decide (r23.1.2.2.2.2.2.2 = r24.1.2.2.2.2.2.2)))))))))))))))) (
  some false)) (
  some false)))))) (
  obind (series_Range n y18.2.2.2.1 y18.2.2.2.2.1 (2 : Int) y18.2.1 y18.2.2.1) fun r25 =>
  obind (series_Range n y18.2.2.2.1 y18.2.2.2.2.1 (1 : Int) (IntKind.wrap .i64 (y18.2.1 * (IntKind.wrap .i64 (Int.tdiv y18.2.2.2.1.2.1.2.2 y18.2.2.2.1.2.1.2.1)))) (IntKind.wrap .i64 (y18.2.2.1 * (IntKind.wrap .i64 (Int.tdiv y18.2.2.2.1.2.1.2.2 y18.2.2.2.1.2.1.2.1))))) fun r26 =>
  tif ((decide (r25.2 = (0 : Int)))) (
  tif ((decide (r26.2 = (0 : Int)))) (
  some ((decide (r25.1.1 = r26.1.1)) && ((decide (r25.1.2.1.1 = r26.1.2.1.1)) && ((decide (r25.1.2.1.2.1 = r26.1.2.1.2.1)) && ((decide (r25.1.2.1.2.2.1 = r26.1.2.1.2.2.1)) && ((r25.1.2.1.2.2.2 == r26.1.2.1.2.2.2) && ((decide (r25.1.2.2.1.1 = r26.1.2.2.1.1)) && ((decide (r25.1.2.2.1.2.1 = r26.1.2.2.1.2.1)) && ((decide (r25.1.2.2.1.2.2.1 = r26.1.2.2.1.2.2.1)) && ((r25.1.2.2.1.2.2.2 == r26.1.2.2.1.2.2.2) && ((decide (r25.1.2.2.2.1.1 = r26.1.2.2.2.1.1)) && ((decide (r25.1.2.2.2.1.2 = r26.1.2.2.2.1.2)) && ((decide (r25.1.2.2.2.2.1 = r26.1.2.2.2.2.1)) && ((decide (r25.1.2.2.2.2.2.1 = r26.1.2.2.2.2.2.1)) && (decide (r25.1.2.2.2.2.2.2 = r26.1.2.2.2.2.2.2)))))))))))))))) (
  some false)) (
  some false)))) (
  none))) (fun z27 =>
  some z27) r17))))))))) (
  obind (l15_lives n ) fun r28 =>
  tif ((!r28)) (
  some false) (
  obind (series_New n c ((((97 : UInt8) :: []), []) :: [])) fun r29 =>
  tif ((!(decide (r29.2 = (0 : Int))))) (
  some true) (
  obind (l15_Small n r29.1) fun r30 =>
  tif ((decide (r30 = (0 : Int)))) (
  some true) (
  tif ((decide ((60 : Int) < (((List.length l) : Nat) : Int)))) (
  some true) (
  tif ((decide (k < (1 : Int)))) (
  some true) (
  tif ((decide ((2 : Int) < k))) (
  some true) (
  tif ((decide (i < (0 : Int)))) (
  some true) (
  tif ((decide (j < i))) (
  some true) (
  tif ((decide (k = (0 : Int)))) (
  tif ((decide (c.2.1.1 = (0 : Int)))) (
  none) (
  tif ((decide ((IntKind.wrap .i64 (Int.tdiv (35184372088832 : Int) c.2.1.1)) < j))) (
  some true) (
  none))) (
  tif ((decide (k = (1 : Int)))) (
  tif ((decide (c.2.1.2.1 = (0 : Int)))) (
  none) (
  tif ((decide ((IntKind.wrap .i64 (Int.tdiv (35184372088832 : Int) c.2.1.2.1)) < j))) (
  some true) (
  none))) (
  tif ((decide (k = (2 : Int)))) (
  tif ((decide (c.2.1.2.2 = (0 : Int)))) (
  none) (
  tif ((decide ((IntKind.wrap .i64 (Int.tdiv (35184372088832 : Int) c.2.1.2.2)) < j))) (
  some true) (
  none))) (
  none))))))))))))) := by kernel_rfl
theorem l15_SeriesAgree_l7_eq (n f : Nat) (k : Int) (i : Int) (j : Int) (c_ : TConfig) (s : TSeries) (s69 : (List TEvent)) (s70 : Int) (s71 : Int) : l15_SeriesAgree_l7 n (f + 1) (k, i, j, c_, s, s69, s70, s71, ()) =
  tif ((decide (s71 < s70))) (
  obind (at? s69 s71) fun r0 =>
  obind (series_Put n c_ s r0) fun r1 =>
  tif ((decide (r1.2 = (0 : Int)))) (
  l15_SeriesAgree_l7 n f (k, (i, (j, (c_, (r1.1, (s69, (s70, ((IntKind.wrap .i64 (s71 + (1 : Int))), ()))))))))) (
  l15_SeriesAgree_l7 n f (k, (i, (j, (c_, (s, (s69, (s70, ((IntKind.wrap .i64 (s71 + (1 : Int))), ())))))))))) (
  some (.inl (k, (i, (j, (c_, (s, ()))))))) := by kernel_rfl
theorem l15_Small_eq (n : Nat) (s : TSeries) : l15_Small (n + 1) s =
  obind (l05_Small n s.1) fun r0 =>
  tif ((decide (r0 = (0 : Int)))) (
  some (0 : Int)) (
  tif ((decide ((60 : Int) < (((List.length s.2.2.1.2.2) : Nat) : Int)))) (
  some (0 : Int)) (
  obind (l14_Small n s.2.2.2.1) fun r1 =>
  some r1)) := by kernel_rfl
theorem series_Put_eq (n : Nat) (c : TConfig) (s : TSeries) (e : TEvent) : series_Put (n + 1) c s e =
  obind (series_open n c s) fun r0 =>
  oelim (r0.1) (
  tif ((!(decide (r0.2 = (0 : Int))))) (
  some (([], ((0 : Int), (((0 : Int), ((0 : Int), [])), (([], ([], [])), ((0 : Int), ((0 : Int), (((0 : Int), ((0 : Int), ((0 : Int), false))), (((0 : Int), ((0 : Int), ((0 : Int), false))), (((0 : Int), (0 : Int)), ((0 : Int), ((0 : Int), (0 : Int)))))))))))), (2 : Int))) (
  obind (event_Check n e) fun r1 =>
  tif ((!(decide (r1 = (0 : Int))))) (
  some (([], ((0 : Int), (((0 : Int), ((0 : Int), [])), (([], ([], [])), ((0 : Int), ((0 : Int), (((0 : Int), ((0 : Int), ((0 : Int), false))), (((0 : Int), ((0 : Int), ((0 : Int), false))), (((0 : Int), (0 : Int)), ((0 : Int), ((0 : Int), (0 : Int)))))))))))), (2 : Int))) (
  tif ((decide (e.1 ≤ s.2.1))) (
  some (([], ((0 : Int), (((0 : Int), ((0 : Int), [])), (([], ([], [])), ((0 : Int), ((0 : Int), (((0 : Int), ((0 : Int), ((0 : Int), false))), (((0 : Int), ((0 : Int), ((0 : Int), false))), (((0 : Int), (0 : Int)), ((0 : Int), ((0 : Int), (0 : Int)))))))))))), (9 : Int))) (
  tif ((decide (c.2.1.1 = (0 : Int)))) (
  none) (
  none))))) fun r2 =>
  tif ((!(decide (r0.2 = (0 : Int))))) (
  some (([], ((0 : Int), (((0 : Int), ((0 : Int), [])), (([], ([], [])), ((0 : Int), ((0 : Int), (((0 : Int), ((0 : Int), ((0 : Int), false))), (((0 : Int), ((0 : Int), ((0 : Int), false))), (((0 : Int), (0 : Int)), ((0 : Int), ((0 : Int), (0 : Int)))))))))))), (2 : Int))) (
  obind (event_Check n e) fun r3 =>
  tif ((!(decide (r3 = (0 : Int))))) (
  some (([], ((0 : Int), (((0 : Int), ((0 : Int), [])), (([], ([], [])), ((0 : Int), ((0 : Int), (((0 : Int), ((0 : Int), ((0 : Int), false))), (((0 : Int), ((0 : Int), ((0 : Int), false))), (((0 : Int), (0 : Int)), ((0 : Int), ((0 : Int), (0 : Int)))))))))))), (2 : Int))) (
  tif ((decide (e.1 ≤ s.2.1))) (
  some (([], ((0 : Int), (((0 : Int), ((0 : Int), [])), (([], ([], [])), ((0 : Int), ((0 : Int), (((0 : Int), ((0 : Int), ((0 : Int), false))), (((0 : Int), ((0 : Int), ((0 : Int), false))), (((0 : Int), (0 : Int)), ((0 : Int), ((0 : Int), (0 : Int)))))))))))), (9 : Int))) (
  tif ((decide (c.2.1.1 = (0 : Int)))) (
  none) (
  obind (series_kept_turn n r2 (IntKind.wrap .i64 (Int.tdiv e.1 c.2.1.1))) fun r4 =>
  tif ((!(decide (r4.1 = (0 : Int))))) (
  some (([], ((0 : Int), (((0 : Int), ((0 : Int), [])), (([], ([], [])), ((0 : Int), ((0 : Int), (((0 : Int), ((0 : Int), ((0 : Int), false))), (((0 : Int), ((0 : Int), ((0 : Int), false))), (((0 : Int), (0 : Int)), ((0 : Int), ((0 : Int), (0 : Int)))))))))))), r4.1)) (
  obind (series_kept_add n r4.2 (IntKind.wrap .i64 (Int.tdiv e.1 c.2.1.1)) e) fun r5 =>
  tif ((!(decide (r5.1 = (0 : Int))))) (
  some (([], ((0 : Int), (((0 : Int), ((0 : Int), [])), (([], ([], [])), ((0 : Int), ((0 : Int), (((0 : Int), ((0 : Int), ((0 : Int), false))), (((0 : Int), ((0 : Int), ((0 : Int), false))), (((0 : Int), (0 : Int)), ((0 : Int), ((0 : Int), (0 : Int)))))))))))), r5.1)) (
  some (r5.2.2, (0 : Int)))))))) := by kernel_rfl
end Go.Proofs.YtapadkjknnfifaaGreat
