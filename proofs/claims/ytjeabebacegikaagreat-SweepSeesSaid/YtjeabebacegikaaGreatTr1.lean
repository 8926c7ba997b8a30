/-
  What each function comes to by one step of the flat reading. Printed by program; the kernel looks at each.
-/
import Derived.Test.YtjeabebacegikaaGreatTr0
import Derived.KernelRfl
set_option linter.unusedVariables false
namespace Go.Proofs.YtjeabebacegikaaGreat
open Go.Flat
theorem l21_SweepTells_eq (n : Nat) (s : TState) : l21_SweepTells (n + 1) s =
  obind (l17_Small n s) fun r0 =>
  tif ((decide (r0 = (0 : Int)))) (
  obind (l21_lives n ) fun r1 =>
  some r1) (
  obind (sweep_Do n s) fun r2 =>
  obind (r21_Do n s) fun r3 =>
  obind (sweep_Clean n s) fun r4 =>
  obind (r21_Clean n s) fun r5 =>
  obind (l21_lives n ) fun r6 =>
  tif (r6) (
  obind (r17_Same n r2.1 r3.1) fun r7 =>
  tif (r7) (
  tif ((decide (r2.2.1 = r3.2.1))) (
  tif ((decide (r2.2.2 = r3.2.2))) (
  obind (r17_Same n r4.1 r5.1) fun r8 =>
  tif (r8) (
  tif ((decide (r4.2 = r5.2))) (
  obind (sweep_Due n s) fun r9 =>
  obind (r21_Due n s) fun r10 =>
  obind (r06_Same n r9 r10) fun r11 =>
  some r11) (
  some false)) (
  some false)) (
  some false)) (
  some false)) (
  some false)) (
  some false)) := by kernel_rfl
theorem l21_SweepTwice_eq (n : Nat) (s : TState) : l21_SweepTwice (n + 1) s =
  obind (l21_lives n ) fun r0 =>
  tif ((!r0)) (
  some false) (
  obind (l17_Small n s) fun r1 =>
  tif ((decide (r1 = (0 : Int)))) (
  some true) (
  obind (state_Check n s) fun r2 =>
  tif ((!(decide (r2 = (0 : Int))))) (
  some true) (
  obind (sweep_Do n s) fun r3 =>
  obind (sweep_Do n r3.1) fun r4 =>
  obind (sweep_Clean n r3.1) fun r5 =>
  obind (sweep_Clean n r5.1) fun r6 =>
  tif ((decide (r3.2.2 = (0 : Int)))) (
  tif ((decide (r4.2.2 = (0 : Int)))) (
  tif ((decide (r4.2.1 = (0 : Int)))) (
  obind (state_Same n r3.1 r4.1) fun r7 =>
  tif (r7) (
  obind (sweep_Due n r3.1) fun r8 =>
  tif ((decide ((((List.length r8) : Nat) : Int) = (0 : Int)))) (
  tif ((decide (r5.2 = (0 : Int)))) (
  tif ((decide (r6.2 = (0 : Int)))) (
  obind (state_Same n r5.1 r6.1) fun r9 =>
  some r9) (
  some false)) (
  some false)) (
  some false)) (
  some false)) (
  some false)) (
  some false)) (
  some false)))) := by kernel_rfl
theorem l21_SweepSees_eq (n : Nat) (s : TState) (k : Int) (i : Int) (j : Int) : l21_SweepSees (n + 1) s k i j =
  tif ((decide (k = (0 : Int)))) (
  obind (l21_lives n ) fun r0 =>
  tif ((!r0)) (
  some false) (
  obind (l17_Small n s) fun r1 =>
  tif ((decide (r1 = (0 : Int)))) (
  some true) (
  obind (state_Check n s) fun r2 =>
  tif ((!(decide (r2 = (0 : Int))))) (
  some true) (
  obind (sweep_Do n s) fun r3 =>
  obind (sweep_Clean n r3.1) fun r4 =>
  tif ((!(decide (r3.2.2 = (0 : Int))))) (
  some false) (
  tif ((!(decide (r4.2 = (0 : Int))))) (
  some false) (
  obind (state_Check n r3.1) fun r5 =>
  tif ((!(decide (r5 = (0 : Int))))) (
  some false) (
  obind (state_Check n r4.1) fun r6 =>
  tif ((!(decide (r6 = (0 : Int))))) (
  some false) (
  obind (state_Many n r3.1) fun r7 =>
  obind (state_Many n s) fun r8 =>
  tif ((!(decide (r7 = (IntKind.wrap .i64 (r8 - r3.2.1)))))) (
  some false) (
  obind (state_Many n r4.1) fun r9 =>
  obind (state_Many n r3.1) fun r10 =>
  tif ((!(decide (r9 = r10)))) (
  some false) (
  tif ((decide (s.1.2.1.1 = (0 : Int)))) (
  none) (
  tif ((decide (j < (if (if i < (IntKind.wrap .i64 ((IntKind.wrap .i64 ((IntKind.wrap .i64 (Int.tdiv s.2.1 s.1.2.1.1)) - s.1.2.2.1.1)) + (1 : Int))) then (IntKind.wrap .i64 ((IntKind.wrap .i64 ((IntKind.wrap .i64 (Int.tdiv s.2.1 s.1.2.1.1)) - s.1.2.2.1.1)) + (1 : Int))) else i) < (0 : Int) then (0 : Int) else (if i < (IntKind.wrap .i64 ((IntKind.wrap .i64 ((IntKind.wrap .i64 (Int.tdiv s.2.1 s.1.2.1.1)) - s.1.2.2.1.1)) + (1 : Int))) then (IntKind.wrap .i64 ((IntKind.wrap .i64 ((IntKind.wrap .i64 (Int.tdiv s.2.1 s.1.2.1.1)) - s.1.2.2.1.1)) + (1 : Int))) else i))))) (
  some true) (
  obind (state_Live n s) fun r11 =>
  obind (l21_SweepSees_l13 n loopFuel ((0 : Int), ((if (if i < (IntKind.wrap .i64 ((IntKind.wrap .i64 ((IntKind.wrap .i64 (Int.tdiv s.2.1 s.1.2.1.1)) - s.1.2.2.1.1)) + (1 : Int))) then (IntKind.wrap .i64 ((IntKind.wrap .i64 ((IntKind.wrap .i64 (Int.tdiv s.2.1 s.1.2.1.1)) - s.1.2.2.1.1)) + (1 : Int))) else i) < (0 : Int) then (0 : Int) else (if i < (IntKind.wrap .i64 ((IntKind.wrap .i64 ((IntKind.wrap .i64 (Int.tdiv s.2.1 s.1.2.1.1)) - s.1.2.2.1.1)) + (1 : Int))) then (IntKind.wrap .i64 ((IntKind.wrap .i64 ((IntKind.wrap .i64 (Int.tdiv s.2.1 s.1.2.1.1)) - s.1.2.2.1.1)) + (1 : Int))) else i)), (j, (s, (r3.1, (r4.1, (r11, ((((List.length r11) : Nat) : Int), ((0 : Int), ())))))))))) fun r12 =>
  selim (fun y13 =>
  some true) (fun z14 =>
  some z14) r12)))))))))))) (
  tif ((decide (k = (1 : Int)))) (
  obind (l21_lives n ) fun r15 =>
  tif ((!r15)) (
  some false) (
  obind (l17_Small n s) fun r16 =>
  tif ((decide (r16 = (0 : Int)))) (
  some true) (
  obind (state_Check n s) fun r17 =>
  tif ((!(decide (r17 = (0 : Int))))) (
  some true) (
  obind (sweep_Do n s) fun r18 =>
  obind (sweep_Clean n r18.1) fun r19 =>
  tif ((!(decide (r18.2.2 = (0 : Int))))) (
  some false) (
  tif ((!(decide (r19.2 = (0 : Int))))) (
  some false) (
  obind (state_Check n r18.1) fun r20 =>
  tif ((!(decide (r20 = (0 : Int))))) (
  some false) (
  obind (state_Check n r19.1) fun r21 =>
  tif ((!(decide (r21 = (0 : Int))))) (
  some false) (
  obind (state_Many n r18.1) fun r22 =>
  obind (state_Many n s) fun r23 =>
  tif ((!(decide (r22 = (IntKind.wrap .i64 (r23 - r18.2.1)))))) (
  some false) (
  obind (state_Many n r19.1) fun r24 =>
  obind (state_Many n r18.1) fun r25 =>
  tif ((!(decide (r24 = r25)))) (
  some false) (
  tif ((decide (s.1.2.1.2.1 = (0 : Int)))) (
  none) (
  tif ((decide (j < (if (if i < (IntKind.wrap .i64 ((IntKind.wrap .i64 ((IntKind.wrap .i64 (Int.tdiv s.2.1 s.1.2.1.2.1)) - s.1.2.2.1.2.1)) + (1 : Int))) then (IntKind.wrap .i64 ((IntKind.wrap .i64 ((IntKind.wrap .i64 (Int.tdiv s.2.1 s.1.2.1.2.1)) - s.1.2.2.1.2.1)) + (1 : Int))) else i) < (0 : Int) then (0 : Int) else (if i < (IntKind.wrap .i64 ((IntKind.wrap .i64 ((IntKind.wrap .i64 (Int.tdiv s.2.1 s.1.2.1.2.1)) - s.1.2.2.1.2.1)) + (1 : Int))) then (IntKind.wrap .i64 ((IntKind.wrap .i64 ((IntKind.wrap .i64 (Int.tdiv s.2.1 s.1.2.1.2.1)) - s.1.2.2.1.2.1)) + (1 : Int))) else i))))) (
  some true) (
  obind (state_Live n s) fun r26 =>
  obind (l21_SweepSees_l13 n loopFuel ((1 : Int), ((if (if i < (IntKind.wrap .i64 ((IntKind.wrap .i64 ((IntKind.wrap .i64 (Int.tdiv s.2.1 s.1.2.1.2.1)) - s.1.2.2.1.2.1)) + (1 : Int))) then (IntKind.wrap .i64 ((IntKind.wrap .i64 ((IntKind.wrap .i64 (Int.tdiv s.2.1 s.1.2.1.2.1)) - s.1.2.2.1.2.1)) + (1 : Int))) else i) < (0 : Int) then (0 : Int) else (if i < (IntKind.wrap .i64 ((IntKind.wrap .i64 ((IntKind.wrap .i64 (Int.tdiv s.2.1 s.1.2.1.2.1)) - s.1.2.2.1.2.1)) + (1 : Int))) then (IntKind.wrap .i64 ((IntKind.wrap .i64 ((IntKind.wrap .i64 (Int.tdiv s.2.1 s.1.2.1.2.1)) - s.1.2.2.1.2.1)) + (1 : Int))) else i)), (j, (s, (r18.1, (r19.1, (r26, ((((List.length r26) : Nat) : Int), ((0 : Int), ())))))))))) fun r27 =>
  selim (fun y28 =>
  some true) (fun z29 =>
  some z29) r27)))))))))))) (
  tif ((decide (k = (2 : Int)))) (
  obind (l21_lives n ) fun r30 =>
  tif ((!r30)) (
  some false) (
  obind (l17_Small n s) fun r31 =>
  tif ((decide (r31 = (0 : Int)))) (
  some true) (
  obind (state_Check n s) fun r32 =>
  tif ((!(decide (r32 = (0 : Int))))) (
  some true) (
  obind (sweep_Do n s) fun r33 =>
  obind (sweep_Clean n r33.1) fun r34 =>
  tif ((!(decide (r33.2.2 = (0 : Int))))) (
  some false) (
  tif ((!(decide (r34.2 = (0 : Int))))) (
  some false) (
  obind (state_Check n r33.1) fun r35 =>
  tif ((!(decide (r35 = (0 : Int))))) (
  some false) (
  obind (state_Check n r34.1) fun r36 =>
  tif ((!(decide (r36 = (0 : Int))))) (
  some false) (
  obind (state_Many n r33.1) fun r37 =>
  obind (state_Many n s) fun r38 =>
  tif ((!(decide (r37 = (IntKind.wrap .i64 (r38 - r33.2.1)))))) (
  some false) (
  obind (state_Many n r34.1) fun r39 =>
  obind (state_Many n r33.1) fun r40 =>
  tif ((!(decide (r39 = r40)))) (
  some false) (
  tif ((decide (s.1.2.1.2.2 = (0 : Int)))) (
  none) (
  tif ((decide (j < (if (if i < (IntKind.wrap .i64 ((IntKind.wrap .i64 ((IntKind.wrap .i64 (Int.tdiv s.2.1 s.1.2.1.2.2)) - s.1.2.2.1.2.2)) + (1 : Int))) then (IntKind.wrap .i64 ((IntKind.wrap .i64 ((IntKind.wrap .i64 (Int.tdiv s.2.1 s.1.2.1.2.2)) - s.1.2.2.1.2.2)) + (1 : Int))) else i) < (0 : Int) then (0 : Int) else (if i < (IntKind.wrap .i64 ((IntKind.wrap .i64 ((IntKind.wrap .i64 (Int.tdiv s.2.1 s.1.2.1.2.2)) - s.1.2.2.1.2.2)) + (1 : Int))) then (IntKind.wrap .i64 ((IntKind.wrap .i64 ((IntKind.wrap .i64 (Int.tdiv s.2.1 s.1.2.1.2.2)) - s.1.2.2.1.2.2)) + (1 : Int))) else i))))) (
  some true) (
  obind (state_Live n s) fun r41 =>
  obind (l21_SweepSees_l13 n loopFuel ((2 : Int), ((if (if i < (IntKind.wrap .i64 ((IntKind.wrap .i64 ((IntKind.wrap .i64 (Int.tdiv s.2.1 s.1.2.1.2.2)) - s.1.2.2.1.2.2)) + (1 : Int))) then (IntKind.wrap .i64 ((IntKind.wrap .i64 ((IntKind.wrap .i64 (Int.tdiv s.2.1 s.1.2.1.2.2)) - s.1.2.2.1.2.2)) + (1 : Int))) else i) < (0 : Int) then (0 : Int) else (if i < (IntKind.wrap .i64 ((IntKind.wrap .i64 ((IntKind.wrap .i64 (Int.tdiv s.2.1 s.1.2.1.2.2)) - s.1.2.2.1.2.2)) + (1 : Int))) then (IntKind.wrap .i64 ((IntKind.wrap .i64 ((IntKind.wrap .i64 (Int.tdiv s.2.1 s.1.2.1.2.2)) - s.1.2.2.1.2.2)) + (1 : Int))) else i)), (j, (s, (r33.1, (r34.1, (r41, ((((List.length r41) : Nat) : Int), ((0 : Int), ())))))))))) fun r42 =>
  selim (fun y43 =>
  some true) (fun z44 =>
  some z44) r42)))))))))))) (
  obind (l21_lives n ) fun r45 =>
  tif ((!r45)) (
  some false) (
  obind (l17_Small n s) fun r46 =>
  tif ((decide (r46 = (0 : Int)))) (
  some true) (
  obind (state_Check n s) fun r47 =>
  tif ((!(decide (r47 = (0 : Int))))) (
  some true) (
  tif ((decide (k < (0 : Int)))) (
  some true) (
  tif ((decide ((2 : Int) < k))) (
  some true) (
  obind (sweep_Do n s) fun r48 =>
  obind (sweep_Clean n r48.1) fun r49 =>
  tif ((!(decide (r48.2.2 = (0 : Int))))) (
  some false) (
  tif ((!(decide (r49.2 = (0 : Int))))) (
  some false) (
  obind (state_Check n r48.1) fun r50 =>
  tif ((!(decide (r50 = (0 : Int))))) (
  some false) (
  obind (state_Check n r49.1) fun r51 =>
  tif ((!(decide (r51 = (0 : Int))))) (
  some false) (
  obind (state_Many n r48.1) fun r52 =>
  obind (state_Many n s) fun r53 =>
  tif ((!(decide (r52 = (IntKind.wrap .i64 (r53 - r48.2.1)))))) (
  some false) (
  obind (state_Many n r49.1) fun r54 =>
  obind (state_Many n r48.1) fun r55 =>
  tif ((!(decide (r54 = r55)))) (
  some false) (
  tif ((decide (k = (0 : Int)))) (
  tif ((decide (s.1.2.1.1 = (0 : Int)))) (
  none) (
  tif ((decide (k = (0 : Int)))) (
  tif ((decide (j < (if (if i < (IntKind.wrap .i64 ((IntKind.wrap .i64 ((IntKind.wrap .i64 (Int.tdiv s.2.1 s.1.2.1.1)) - s.1.2.2.1.1)) + (1 : Int))) then (IntKind.wrap .i64 ((IntKind.wrap .i64 ((IntKind.wrap .i64 (Int.tdiv s.2.1 s.1.2.1.1)) - s.1.2.2.1.1)) + (1 : Int))) else i) < (0 : Int) then (0 : Int) else (if i < (IntKind.wrap .i64 ((IntKind.wrap .i64 ((IntKind.wrap .i64 (Int.tdiv s.2.1 s.1.2.1.1)) - s.1.2.2.1.1)) + (1 : Int))) then (IntKind.wrap .i64 ((IntKind.wrap .i64 ((IntKind.wrap .i64 (Int.tdiv s.2.1 s.1.2.1.1)) - s.1.2.2.1.1)) + (1 : Int))) else i))))) (
  some true) (
  obind (state_Live n s) fun r56 =>
  none)) (
  tif ((decide (k = (1 : Int)))) (
  tif ((decide (j < (if (if i < (IntKind.wrap .i64 ((IntKind.wrap .i64 ((IntKind.wrap .i64 (Int.tdiv s.2.1 s.1.2.1.1)) - s.1.2.2.1.2.1)) + (1 : Int))) then (IntKind.wrap .i64 ((IntKind.wrap .i64 ((IntKind.wrap .i64 (Int.tdiv s.2.1 s.1.2.1.1)) - s.1.2.2.1.2.1)) + (1 : Int))) else i) < (0 : Int) then (0 : Int) else (if i < (IntKind.wrap .i64 ((IntKind.wrap .i64 ((IntKind.wrap .i64 (Int.tdiv s.2.1 s.1.2.1.1)) - s.1.2.2.1.2.1)) + (1 : Int))) then (IntKind.wrap .i64 ((IntKind.wrap .i64 ((IntKind.wrap .i64 (Int.tdiv s.2.1 s.1.2.1.1)) - s.1.2.2.1.2.1)) + (1 : Int))) else i))))) (
  some true) (
  obind (state_Live n s) fun r57 =>
  none)) (
  tif ((decide (k = (2 : Int)))) (
  tif ((decide (j < (if (if i < (IntKind.wrap .i64 ((IntKind.wrap .i64 ((IntKind.wrap .i64 (Int.tdiv s.2.1 s.1.2.1.1)) - s.1.2.2.1.2.2)) + (1 : Int))) then (IntKind.wrap .i64 ((IntKind.wrap .i64 ((IntKind.wrap .i64 (Int.tdiv s.2.1 s.1.2.1.1)) - s.1.2.2.1.2.2)) + (1 : Int))) else i) < (0 : Int) then (0 : Int) else (if i < (IntKind.wrap .i64 ((IntKind.wrap .i64 ((IntKind.wrap .i64 (Int.tdiv s.2.1 s.1.2.1.1)) - s.1.2.2.1.2.2)) + (1 : Int))) then (IntKind.wrap .i64 ((IntKind.wrap .i64 ((IntKind.wrap .i64 (Int.tdiv s.2.1 s.1.2.1.1)) - s.1.2.2.1.2.2)) + (1 : Int))) else i))))) (
  some true) (
  obind (state_Live n s) fun r58 =>
  none)) (
  none))))) (
  tif ((decide (k = (1 : Int)))) (
  tif ((decide (s.1.2.1.2.1 = (0 : Int)))) (
  none) (
  tif ((decide (k = (0 : Int)))) (
  tif ((decide (j < (if (if i < (IntKind.wrap .i64 ((IntKind.wrap .i64 ((IntKind.wrap .i64 (Int.tdiv s.2.1 s.1.2.1.2.1)) - s.1.2.2.1.1)) + (1 : Int))) then (IntKind.wrap .i64 ((IntKind.wrap .i64 ((IntKind.wrap .i64 (Int.tdiv s.2.1 s.1.2.1.2.1)) - s.1.2.2.1.1)) + (1 : Int))) else i) < (0 : Int) then (0 : Int) else (if i < (IntKind.wrap .i64 ((IntKind.wrap .i64 ((IntKind.wrap .i64 (Int.tdiv s.2.1 s.1.2.1.2.1)) - s.1.2.2.1.1)) + (1 : Int))) then (IntKind.wrap .i64 ((IntKind.wrap .i64 ((IntKind.wrap .i64 (Int.tdiv s.2.1 s.1.2.1.2.1)) - s.1.2.2.1.1)) + (1 : Int))) else i))))) (
  some true) (
  obind (state_Live n s) fun r59 =>
  none)) (
  tif ((decide (k = (1 : Int)))) (
  tif ((decide (j < (if (if i < (IntKind.wrap .i64 ((IntKind.wrap .i64 ((IntKind.wrap .i64 (Int.tdiv s.2.1 s.1.2.1.2.1)) - s.1.2.2.1.2.1)) + (1 : Int))) then (IntKind.wrap .i64 ((IntKind.wrap .i64 ((IntKind.wrap .i64 (Int.tdiv s.2.1 s.1.2.1.2.1)) - s.1.2.2.1.2.1)) + (1 : Int))) else i) < (0 : Int) then (0 : Int) else (if i < (IntKind.wrap .i64 ((IntKind.wrap .i64 ((IntKind.wrap .i64 (Int.tdiv s.2.1 s.1.2.1.2.1)) - s.1.2.2.1.2.1)) + (1 : Int))) then (IntKind.wrap .i64 ((IntKind.wrap .i64 ((IntKind.wrap .i64 (Int.tdiv s.2.1 s.1.2.1.2.1)) - s.1.2.2.1.2.1)) + (1 : Int))) else i))))) (
  some true) (
  obind (state_Live n s) fun r60 =>
  none)) (
  tif ((decide (k = (2 : Int)))) (
  tif ((decide (j < (if (if i < (IntKind.wrap .i64 ((IntKind.wrap .i64 ((IntKind.wrap .i64 (Int.tdiv s.2.1 s.1.2.1.2.1)) - s.1.2.2.1.2.2)) + (1 : Int))) then (IntKind.wrap .i64 ((IntKind.wrap .i64 ((IntKind.wrap .i64 (Int.tdiv s.2.1 s.1.2.1.2.1)) - s.1.2.2.1.2.2)) + (1 : Int))) else i) < (0 : Int) then (0 : Int) else (if i < (IntKind.wrap .i64 ((IntKind.wrap .i64 ((IntKind.wrap .i64 (Int.tdiv s.2.1 s.1.2.1.2.1)) - s.1.2.2.1.2.2)) + (1 : Int))) then (IntKind.wrap .i64 ((IntKind.wrap .i64 ((IntKind.wrap .i64 (Int.tdiv s.2.1 s.1.2.1.2.1)) - s.1.2.2.1.2.2)) + (1 : Int))) else i))))) (
  some true) (
  obind (state_Live n s) fun r61 =>
  none)) (
  none))))) (
  tif ((decide (k = (2 : Int)))) (
  tif ((decide (s.1.2.1.2.2 = (0 : Int)))) (
  none) (
  tif ((decide (k = (0 : Int)))) (
  tif ((decide (j < (if (if i < (IntKind.wrap .i64 ((IntKind.wrap .i64 ((IntKind.wrap .i64 (Int.tdiv s.2.1 s.1.2.1.2.2)) - s.1.2.2.1.1)) + (1 : Int))) then (IntKind.wrap .i64 ((IntKind.wrap .i64 ((IntKind.wrap .i64 (Int.tdiv s.2.1 s.1.2.1.2.2)) - s.1.2.2.1.1)) + (1 : Int))) else i) < (0 : Int) then (0 : Int) else (if i < (IntKind.wrap .i64 ((IntKind.wrap .i64 ((IntKind.wrap .i64 (Int.tdiv s.2.1 s.1.2.1.2.2)) - s.1.2.2.1.1)) + (1 : Int))) then (IntKind.wrap .i64 ((IntKind.wrap .i64 ((IntKind.wrap .i64 (Int.tdiv s.2.1 s.1.2.1.2.2)) - s.1.2.2.1.1)) + (1 : Int))) else i))))) (
  some true) (
  obind (state_Live n s) fun r62 =>
  none)) (
  tif ((decide (k = (1 : Int)))) (
  tif ((decide (j < (if (if i < (IntKind.wrap .i64 ((IntKind.wrap .i64 ((IntKind.wrap .i64 (Int.tdiv s.2.1 s.1.2.1.2.2)) - s.1.2.2.1.2.1)) + (1 : Int))) then (IntKind.wrap .i64 ((IntKind.wrap .i64 ((IntKind.wrap .i64 (Int.tdiv s.2.1 s.1.2.1.2.2)) - s.1.2.2.1.2.1)) + (1 : Int))) else i) < (0 : Int) then (0 : Int) else (if i < (IntKind.wrap .i64 ((IntKind.wrap .i64 ((IntKind.wrap .i64 (Int.tdiv s.2.1 s.1.2.1.2.2)) - s.1.2.2.1.2.1)) + (1 : Int))) then (IntKind.wrap .i64 ((IntKind.wrap .i64 ((IntKind.wrap .i64 (Int.tdiv s.2.1 s.1.2.1.2.2)) - s.1.2.2.1.2.1)) + (1 : Int))) else i))))) (
  some true) (
  obind (state_Live n s) fun r63 =>
  none)) (
  tif ((decide (k = (2 : Int)))) (
  tif ((decide (j < (if (if i < (IntKind.wrap .i64 ((IntKind.wrap .i64 ((IntKind.wrap .i64 (Int.tdiv s.2.1 s.1.2.1.2.2)) - s.1.2.2.1.2.2)) + (1 : Int))) then (IntKind.wrap .i64 ((IntKind.wrap .i64 ((IntKind.wrap .i64 (Int.tdiv s.2.1 s.1.2.1.2.2)) - s.1.2.2.1.2.2)) + (1 : Int))) else i) < (0 : Int) then (0 : Int) else (if i < (IntKind.wrap .i64 ((IntKind.wrap .i64 ((IntKind.wrap .i64 (Int.tdiv s.2.1 s.1.2.1.2.2)) - s.1.2.2.1.2.2)) + (1 : Int))) then (IntKind.wrap .i64 ((IntKind.wrap .i64 ((IntKind.wrap .i64 (Int.tdiv s.2.1 s.1.2.1.2.2)) - s.1.2.2.1.2.2)) + (1 : Int))) else i))))) (
  some true) (
  obind (state_Live n s) fun r64 =>
  none)) (
  none))))) (
  none))))))))))))))))) := by kernel_rfl
theorem l21_SweepSees_l13_eq (n f : Nat) (k : Int) (i : Int) (j : Int) (s_ : TState) (t : TState) (u : TState) (s102 : (List Int)) (s103 : Int) (s104 : Int) : l21_SweepSees_l13 n (f + 1) (k, i, j, s_, t, u, s102, s103, s104, ()) =
  tif ((decide (s104 < s103))) (
  obind (at? s102 s104) fun r0 =>
  obind ((s102)[(Int.toNat s104)]?) fun r1 =>
  obind (at? s_.2.2.2 r1) fun r2 =>
  obind (series_Range n s_.1 r2 k i j) fun r3 =>
  tif ((!(decide (r3.2 = (0 : Int))))) (
  some (.inr false)) (
  obind (state_Lives n u r1) fun r4 =>
  tif ((!r4)) (
  tif ((!(decide (r3.1.1 = (0 : Int))))) (
  some (.inr false)) (
  obind (state_Lives n t r1) fun r5 =>
  tif (r5) (
  some (.inr false)) (
  l21_SweepSees_l13 n f (k, (i, (j, (s_, (t, (u, (s102, (s103, ((IntKind.wrap .i64 (s104 + (1 : Int))), ())))))))))))) (
  obind (at? u.2.2.2 r1) fun r6 =>
  obind (series_Range n u.1 r6 k i j) fun r7 =>
  tif ((!(decide (r7.2 = (0 : Int))))) (
  some (.inr false)) (
  tif ((!((decide (r3.1.1 = r7.1.1)) && ((decide (r3.1.2.1.1 = r7.1.2.1.1)) && ((decide (r3.1.2.1.2.1 = r7.1.2.1.2.1)) && ((decide (r3.1.2.1.2.2.1 = r7.1.2.1.2.2.1)) && ((r3.1.2.1.2.2.2 == r7.1.2.1.2.2.2) && ((decide (r3.1.2.2.1.1 = r7.1.2.2.1.1)) && ((decide (r3.1.2.2.1.2.1 = r7.1.2.2.1.2.1)) && ((decide (r3.1.2.2.1.2.2.1 = r7.1.2.2.1.2.2.1)) && ((r3.1.2.2.1.2.2.2 == r7.1.2.2.1.2.2.2) && ((decide (r3.1.2.2.2.1.1 = r7.1.2.2.2.1.1)) && ((decide (r3.1.2.2.2.1.2 = r7.1.2.2.2.1.2)) && ((decide (r3.1.2.2.2.2.1 = r7.1.2.2.2.2.1)) && ((decide (r3.1.2.2.2.2.2.1 = r7.1.2.2.2.2.2.1)) && (decide (r3.1.2.2.2.2.2.2 = r7.1.2.2.2.2.2.2))))))))))))))))) (
  some (.inr false)) (
  l21_SweepSees_l13 n f (k, (i, (j, (s_, (t, (u, (s102, (s103, ((IntKind.wrap .i64 (s104 + (1 : Int))), ())))))))))))))) (
  some (.inl ())) := by kernel_rfl
theorem l17_Small_eq (n : Nat) (s : TState) : l17_Small (n + 1) s =
  tif ((decide ((8 : Int) < (((List.length s.2.2.2) : Nat) : Int)))) (
  some (0 : Int)) (
  obind (l17_Small_l4 n loopFuel (s.2.2.2, ((((List.length s.2.2.2) : Nat) : Int), ((0 : Int), ())))) fun r0 =>
  selim (fun y1 =>
  some (1 : Int)) (fun z2 =>
  some z2) r0) := by kernel_rfl
theorem l17_Small_l4_eq (n f : Nat) (s10 : (List TSeries)) (s11 : Int) (s12 : Int) : l17_Small_l4 n (f + 1) (s10, s11, s12, ()) =
  tif ((decide (s12 < s11))) (
  obind (at? s10 s12) fun r0 =>
  obind (l15_Small n r0) fun r1 =>
  tif ((decide (r1 = (0 : Int)))) (
  some (.inr (0 : Int))) (
  l17_Small_l4 n f (s10, (s11, ((IntKind.wrap .i64 (s12 + (1 : Int))), ()))))) (
  some (.inl ())) := by kernel_rfl
theorem sweep_Do_eq (n : Nat) (s : TState) : sweep_Do (n + 1) s =
  obind (state_Check n s) fun r0 =>
  tif ((!(decide (r0 = (0 : Int))))) (
  some ((((0 : Int), (((0 : Int), ((0 : Int), (0 : Int))), (((0 : Int), ((0 : Int), (0 : Int))), ((0 : Int), (0 : Int))))), ((0 : Int), ((0 : Int), []))), ((0 : Int), r0))) (
  obind (sweep_Due n s) fun r1 =>
  some ((s.1, (s.2.1, (s.2.1, s.2.2.2))), ((((List.length r1) : Nat) : Int), (0 : Int)))) := by kernel_rfl
theorem r21_Do_eq (n : Nat) (s : TState) : r21_Do (n + 1) s =
  obind (r17_Check n s) fun r0 =>
  tif ((!(decide (r0 = (0 : Int))))) (
  some ((((0 : Int), (((0 : Int), ((0 : Int), (0 : Int))), (((0 : Int), ((0 : Int), (0 : Int))), ((0 : Int), (0 : Int))))), ((0 : Int), ((0 : Int), []))), ((0 : Int), (2 : Int)))) (
  obind (r21_Due n s) fun r1 =>
  some ((s.1, (s.2.1, (s.2.1, s.2.2.2))), ((((List.length r1) : Nat) : Int), (0 : Int)))) := by kernel_rfl
theorem sweep_Clean_eq (n : Nat) (s : TState) : sweep_Clean (n + 1) s =
  obind (state_Check n s) fun r0 =>
  tif ((!(decide (r0 = (0 : Int))))) (
  some ((((0 : Int), (((0 : Int), ((0 : Int), (0 : Int))), (((0 : Int), ((0 : Int), (0 : Int))), ((0 : Int), (0 : Int))))), ((0 : Int), ((0 : Int), []))), r0)) (
  tif (((decide ((0 : Int) ≤ (((List.length s.2.2.2) : Nat) : Int))) && ((decide ((((List.length s.2.2.2) : Nat) : Int) ≤ (((List.length s.2.2.2) : Nat) : Int))) && (decide (((((List.length s.2.2.2) : Nat) : Int) * (264 : Int)) ≤ (140737488355328 : Int)))))) (
  obind (state_Live n s) fun r1 =>
  obind (sweep_Clean_l6 n loopFuel (s, ((((0 : Int), (((0 : Int), ((0 : Int), (0 : Int))), (((0 : Int), ((0 : Int), (0 : Int))), ((0 : Int), (0 : Int))))), ((0 : Int), ((0 : Int), []))), ((List.replicate (Int.toNat (((List.length s.2.2.2) : Nat) : Int)) ([], ((0 : Int), (((0 : Int), ((0 : Int), [])), (([], ([], [])), ((0 : Int), ((0 : Int), (((0 : Int), ((0 : Int), ((0 : Int), false))), (((0 : Int), ((0 : Int), ((0 : Int), false))), (((0 : Int), (0 : Int)), ((0 : Int), ((0 : Int), (0 : Int))))))))))))), (r1, ((((List.length r1) : Nat) : Int), ((0 : Int), ()))))))) fun r2 =>
  selim (fun y3 =>
  some ((y3.1.1, (y3.1.2.1, (y3.1.2.2.1, y3.2.2.1))), (0 : Int))) (fun z4 =>
  some z4) r2) (
  none)) := by kernel_rfl
theorem sweep_Clean_l6_eq (n f : Nat) (s_ : TState) (s2 : TState) (out : (List TSeries)) (s24 : (List Int)) (s25 : Int) (s26 : Int) : sweep_Clean_l6 n (f + 1) (s_, s2, out, s24, s25, s26, ()) =
  tif ((decide (s26 < s25))) (
  obind (at? s24 s26) fun r0 =>
  obind ((s24)[(Int.toNat s26)]?) fun r1 =>
  obind (at? s_.2.2.2 r1) fun r2 =>
  obind (sweep_Clean_l10 n loopFuel (s_, (s2, (out, (r1, (r2, (s24, (s25, (s26, (s_.1.2.1, ((0 : Int), ()))))))))))) fun r3 =>
  selim (fun y4 =>
  obind (at? y4.2.2.1 y4.2.2.2.1) fun r5 =>
  obind ((y4.2.2.1)[(Int.toNat y4.2.2.2.1)]?) fun r6 =>
  sweep_Clean_l6 n f (y4.1, (y4.2.1, ((List.set y4.2.2.1 (Int.toNat y4.2.2.2.1) y4.2.2.2.2.1), (y4.2.2.2.2.2.1, (y4.2.2.2.2.2.2.1, ((IntKind.wrap .i64 (y4.2.2.2.2.2.2.2.1 + (1 : Int))), ()))))))) (fun z7 =>
  some (.inr z7)) r3) (
  some (.inl (s_, (s2, (out, ()))))) := by kernel_rfl
theorem sweep_Clean_l10_eq_0 (n f : Nat) (s_ : TState) (s2 : TState) (out : (List TSeries)) (i : Int) (x : TSeries) (s24 : (List Int)) (s25 : Int) (s26 : Int) (s37 : (Int × (Int × Int))) : sweep_Clean_l10 n (f + 1) (s_, s2, out, i, x, s24, s25, s26, s37, (0 : Int), ()) =
  obind (window_Oldest n s_.2.1 s37.1 s_.1.2.2.1.1) fun r0 =>
  tif ((!(decide (r0.2 = (0 : Int))))) (
  some (.inr ((((0 : Int), (((0 : Int), ((0 : Int), (0 : Int))), (((0 : Int), ((0 : Int), (0 : Int))), ((0 : Int), (0 : Int))))), ((0 : Int), ((0 : Int), []))), r0.2))) (
  obind (sweep_fade n s_.1 x (0 : Int) r0.1) fun r1 =>
  sweep_Clean_l10 n f (s_, (s2, (out, (i, ((x.1, (x.2.1, (x.2.2.1, ((r1, x.2.2.2.1.2), x.2.2.2.2)))), (s24, (s25, (s26, (s37, ((1 : Int), ()))))))))))) := by kernel_rfl
theorem sweep_Clean_l10_eq_1 (n f : Nat) (s_ : TState) (s2 : TState) (out : (List TSeries)) (i : Int) (x : TSeries) (s24 : (List Int)) (s25 : Int) (s26 : Int) (s37 : (Int × (Int × Int))) : sweep_Clean_l10 n (f + 1) (s_, s2, out, i, x, s24, s25, s26, s37, (1 : Int), ()) =
  obind (window_Oldest n s_.2.1 s37.2.1 s_.1.2.2.1.2.1) fun r0 =>
  tif ((!(decide (r0.2 = (0 : Int))))) (
  some (.inr ((((0 : Int), (((0 : Int), ((0 : Int), (0 : Int))), (((0 : Int), ((0 : Int), (0 : Int))), ((0 : Int), (0 : Int))))), ((0 : Int), ((0 : Int), []))), r0.2))) (
  obind (sweep_fade n s_.1 x (1 : Int) r0.1) fun r1 =>
  sweep_Clean_l10 n f (s_, (s2, (out, (i, ((x.1, (x.2.1, (x.2.2.1, ((x.2.2.2.1.1, (r1, x.2.2.2.1.2.2)), x.2.2.2.2)))), (s24, (s25, (s26, (s37, ((2 : Int), ()))))))))))) := by kernel_rfl
theorem sweep_Clean_l10_eq_2 (n f : Nat) (s_ : TState) (s2 : TState) (out : (List TSeries)) (i : Int) (x : TSeries) (s24 : (List Int)) (s25 : Int) (s26 : Int) (s37 : (Int × (Int × Int))) : sweep_Clean_l10 n (f + 1) (s_, s2, out, i, x, s24, s25, s26, s37, (2 : Int), ()) =
  obind (window_Oldest n s_.2.1 s37.2.2 s_.1.2.2.1.2.2) fun r0 =>
  tif ((!(decide (r0.2 = (0 : Int))))) (
  some (.inr ((((0 : Int), (((0 : Int), ((0 : Int), (0 : Int))), (((0 : Int), ((0 : Int), (0 : Int))), ((0 : Int), (0 : Int))))), ((0 : Int), ((0 : Int), []))), r0.2))) (
  obind (sweep_fade n s_.1 x (2 : Int) r0.1) fun r1 =>
  sweep_Clean_l10 n f (s_, (s2, (out, (i, ((x.1, (x.2.1, (x.2.2.1, ((x.2.2.2.1.1, (x.2.2.2.1.2.1, r1)), x.2.2.2.2)))), (s24, (s25, (s26, (s37, ((3 : Int), ()))))))))))) := by kernel_rfl
theorem sweep_Clean_l10_eq_3 (n f : Nat) (s_ : TState) (s2 : TState) (out : (List TSeries)) (i : Int) (x : TSeries) (s24 : (List Int)) (s25 : Int) (s26 : Int) (s37 : (Int × (Int × Int))) : sweep_Clean_l10 n (f + 1) (s_, s2, out, i, x, s24, s25, s26, s37, (3 : Int), ()) =
  some (.inl (s_, (s2, (out, (i, (x, (s24, (s25, (s26, ()))))))))) := by kernel_rfl
theorem r21_Clean_eq (n : Nat) (s : TState) : r21_Clean (n + 1) s =
  obind (r17_Check n s) fun r0 =>
  tif ((!(decide (r0 = (0 : Int))))) (
  some ((((0 : Int), (((0 : Int), ((0 : Int), (0 : Int))), (((0 : Int), ((0 : Int), (0 : Int))), ((0 : Int), (0 : Int))))), ((0 : Int), ((0 : Int), []))), (2 : Int))) (
  tif (((decide ((0 : Int) ≤ (((List.length s.2.2.2) : Nat) : Int))) && ((decide ((((List.length s.2.2.2) : Nat) : Int) ≤ (((List.length s.2.2.2) : Nat) : Int))) && (decide (((((List.length s.2.2.2) : Nat) : Int) * (264 : Int)) ≤ (140737488355328 : Int)))))) (
  obind (r17_Live n s) fun r1 =>
  obind (r21_Clean_l5 n loopFuel (s, ((((0 : Int), (((0 : Int), ((0 : Int), (0 : Int))), (((0 : Int), ((0 : Int), (0 : Int))), ((0 : Int), (0 : Int))))), ((0 : Int), ((0 : Int), []))), ((List.replicate (Int.toNat (((List.length s.2.2.2) : Nat) : Int)) ([], ((0 : Int), (((0 : Int), ((0 : Int), [])), (([], ([], [])), ((0 : Int), ((0 : Int), (((0 : Int), ((0 : Int), ((0 : Int), false))), (((0 : Int), ((0 : Int), ((0 : Int), false))), (((0 : Int), (0 : Int)), ((0 : Int), ((0 : Int), (0 : Int))))))))))))), (r1, ((((List.length r1) : Nat) : Int), ((0 : Int), ()))))))) fun r2 =>
  selim (fun y3 =>
  some ((y3.1.1, (y3.1.2.1, (y3.1.2.2.1, y3.2.2.1))), (0 : Int))) (fun z4 =>
  some z4) r2) (
  none)) := by kernel_rfl
theorem r21_Clean_l5_eq (n f : Nat) (s_ : TState) (s2 : TState) (out : (List TSeries)) (s23 : (List Int)) (s24 : Int) (s25 : Int) : r21_Clean_l5 n (f + 1) (s_, s2, out, s23, s24, s25, ()) =
  tif ((decide (s25 < s24))) (
  obind (at? s23 s25) fun r0 =>
  obind (at? s_.2.2.2 r0) fun r1 =>
  obind (r21_Clean_l9 n loopFuel (s_, (s2, (out, (r0, (r1, ((0 : Int), (s23, (s24, (s25, ())))))))))) fun r2 =>
  selim (fun y3 =>
  obind (at? y3.2.2.1 y3.2.2.2.1) fun r4 =>
  obind ((y3.2.2.1)[(Int.toNat y3.2.2.2.1)]?) fun r5 =>
  r21_Clean_l5 n f (y3.1, (y3.2.1, ((List.set y3.2.2.1 (Int.toNat y3.2.2.2.1) y3.2.2.2.2.1), (y3.2.2.2.2.2.1, (y3.2.2.2.2.2.2.1, ((IntKind.wrap .i64 (y3.2.2.2.2.2.2.2.1 + (1 : Int))), ()))))))) (fun z6 =>
  some (.inr z6)) r2) (
  some (.inl (s_, (s2, (out, ()))))) := by kernel_rfl
theorem r21_Clean_l9_eq_0 (n f : Nat) (s_ : TState) (s2 : TState) (out : (List TSeries)) (i : Int) (x : TSeries) (s23 : (List Int)) (s24 : Int) (s25 : Int) : r21_Clean_l9 n (f + 1) (s_, s2, out, i, x, (0 : Int), s23, s24, s25, ()) =
  obind (r09_Oldest n s_.2.1 s_.1.2.1.1 s_.1.2.2.1.1) fun r0 =>
  tif ((decide (((0 + (List.length x.2.2.2.1.1)) * 120) ≤ 140737488355328))) (
  obind (r21_Clean_l14 n loopFuel (s_, (s2, (out, (i, (x, ((0 : Int), (r0.1, (([] ++ x.2.2.2.1.1), (s23, (s24, (s25, ((((List.length ([] ++ x.2.2.2.1.1)) : Nat) : Int), ((0 : Int), ())))))))))))))) fun r1 =>
  selim (fun y2 =>
  tif ((decide (y2.2.2.2.2.2.1 = (0 : Int)))) (
  r21_Clean_l9 n f (y2.1, (y2.2.1, (y2.2.2.1, (y2.2.2.2.1, ((y2.2.2.2.2.1.1, (y2.2.2.2.2.1.2.1, (y2.2.2.2.2.1.2.2.1, ((y2.2.2.2.2.2.2.1, y2.2.2.2.2.1.2.2.2.1.2), y2.2.2.2.2.1.2.2.2.2)))), ((IntKind.wrap .i64 (y2.2.2.2.2.2.1 + (1 : Int))), (y2.2.2.2.2.2.2.2.1, (y2.2.2.2.2.2.2.2.2.1, (y2.2.2.2.2.2.2.2.2.2.1, ())))))))))) (
  tif ((decide (y2.2.2.2.2.2.1 = (1 : Int)))) (
  r21_Clean_l9 n f (y2.1, (y2.2.1, (y2.2.2.1, (y2.2.2.2.1, ((y2.2.2.2.2.1.1, (y2.2.2.2.2.1.2.1, (y2.2.2.2.2.1.2.2.1, ((y2.2.2.2.2.1.2.2.2.1.1, (y2.2.2.2.2.2.2.1, y2.2.2.2.2.1.2.2.2.1.2.2)), y2.2.2.2.2.1.2.2.2.2)))), ((IntKind.wrap .i64 (y2.2.2.2.2.2.1 + (1 : Int))), (y2.2.2.2.2.2.2.2.1, (y2.2.2.2.2.2.2.2.2.1, (y2.2.2.2.2.2.2.2.2.2.1, ())))))))))) (
  tif ((decide (y2.2.2.2.2.2.1 = (2 : Int)))) (
  r21_Clean_l9 n f (y2.1, (y2.2.1, (y2.2.2.1, (y2.2.2.2.1, ((y2.2.2.2.2.1.1, (y2.2.2.2.2.1.2.1, (y2.2.2.2.2.1.2.2.1, ((y2.2.2.2.2.1.2.2.2.1.1, (y2.2.2.2.2.1.2.2.2.1.2.1, y2.2.2.2.2.2.2.1)), y2.2.2.2.2.1.2.2.2.2)))), ((IntKind.wrap .i64 (y2.2.2.2.2.2.1 + (1 : Int))), (y2.2.2.2.2.2.2.2.1, (y2.2.2.2.2.2.2.2.2.1, (y2.2.2.2.2.2.2.2.2.2.1, ())))))))))) (
  none)))) (fun z3 =>
  some (.inr z3)) r1) (
  none) := by kernel_rfl
theorem r21_Clean_l9_eq_1 (n f : Nat) (s_ : TState) (s2 : TState) (out : (List TSeries)) (i : Int) (x : TSeries) (s23 : (List Int)) (s24 : Int) (s25 : Int) : r21_Clean_l9 n (f + 1) (s_, s2, out, i, x, (1 : Int), s23, s24, s25, ()) =
  obind (r09_Oldest n s_.2.1 s_.1.2.1.2.1 s_.1.2.2.1.2.1) fun r0 =>
  tif ((decide (((0 + (List.length x.2.2.2.1.2.1)) * 120) ≤ 140737488355328))) (
  obind (r21_Clean_l14 n loopFuel (s_, (s2, (out, (i, (x, ((1 : Int), (r0.1, (([] ++ x.2.2.2.1.2.1), (s23, (s24, (s25, ((((List.length ([] ++ x.2.2.2.1.2.1)) : Nat) : Int), ((0 : Int), ())))))))))))))) fun r1 =>
  selim (fun y2 =>
  tif ((decide (y2.2.2.2.2.2.1 = (0 : Int)))) (
  r21_Clean_l9 n f (y2.1, (y2.2.1, (y2.2.2.1, (y2.2.2.2.1, ((y2.2.2.2.2.1.1, (y2.2.2.2.2.1.2.1, (y2.2.2.2.2.1.2.2.1, ((y2.2.2.2.2.2.2.1, y2.2.2.2.2.1.2.2.2.1.2), y2.2.2.2.2.1.2.2.2.2)))), ((IntKind.wrap .i64 (y2.2.2.2.2.2.1 + (1 : Int))), (y2.2.2.2.2.2.2.2.1, (y2.2.2.2.2.2.2.2.2.1, (y2.2.2.2.2.2.2.2.2.2.1, ())))))))))) (
  tif ((decide (y2.2.2.2.2.2.1 = (1 : Int)))) (
  r21_Clean_l9 n f (y2.1, (y2.2.1, (y2.2.2.1, (y2.2.2.2.1, ((y2.2.2.2.2.1.1, (y2.2.2.2.2.1.2.1, (y2.2.2.2.2.1.2.2.1, ((y2.2.2.2.2.1.2.2.2.1.1, (y2.2.2.2.2.2.2.1, y2.2.2.2.2.1.2.2.2.1.2.2)), y2.2.2.2.2.1.2.2.2.2)))), ((IntKind.wrap .i64 (y2.2.2.2.2.2.1 + (1 : Int))), (y2.2.2.2.2.2.2.2.1, (y2.2.2.2.2.2.2.2.2.1, (y2.2.2.2.2.2.2.2.2.2.1, ())))))))))) (
  tif ((decide (y2.2.2.2.2.2.1 = (2 : Int)))) (
  r21_Clean_l9 n f (y2.1, (y2.2.1, (y2.2.2.1, (y2.2.2.2.1, ((y2.2.2.2.2.1.1, (y2.2.2.2.2.1.2.1, (y2.2.2.2.2.1.2.2.1, ((y2.2.2.2.2.1.2.2.2.1.1, (y2.2.2.2.2.1.2.2.2.1.2.1, y2.2.2.2.2.2.2.1)), y2.2.2.2.2.1.2.2.2.2)))), ((IntKind.wrap .i64 (y2.2.2.2.2.2.1 + (1 : Int))), (y2.2.2.2.2.2.2.2.1, (y2.2.2.2.2.2.2.2.2.1, (y2.2.2.2.2.2.2.2.2.2.1, ())))))))))) (
  none)))) (fun z3 =>
  some (.inr z3)) r1) (
  none) := by kernel_rfl
theorem r21_Clean_l9_eq_2 (n f : Nat) (s_ : TState) (s2 : TState) (out : (List TSeries)) (i : Int) (x : TSeries) (s23 : (List Int)) (s24 : Int) (s25 : Int) : r21_Clean_l9 n (f + 1) (s_, s2, out, i, x, (2 : Int), s23, s24, s25, ()) =
  obind (r09_Oldest n s_.2.1 s_.1.2.1.2.2 s_.1.2.2.1.2.2) fun r0 =>
  tif ((decide (((0 + (List.length x.2.2.2.1.2.2)) * 120) ≤ 140737488355328))) (
  obind (r21_Clean_l14 n loopFuel (s_, (s2, (out, (i, (x, ((2 : Int), (r0.1, (([] ++ x.2.2.2.1.2.2), (s23, (s24, (s25, ((((List.length ([] ++ x.2.2.2.1.2.2)) : Nat) : Int), ((0 : Int), ())))))))))))))) fun r1 =>
  selim (fun y2 =>
  tif ((decide (y2.2.2.2.2.2.1 = (0 : Int)))) (
  r21_Clean_l9 n f (y2.1, (y2.2.1, (y2.2.2.1, (y2.2.2.2.1, ((y2.2.2.2.2.1.1, (y2.2.2.2.2.1.2.1, (y2.2.2.2.2.1.2.2.1, ((y2.2.2.2.2.2.2.1, y2.2.2.2.2.1.2.2.2.1.2), y2.2.2.2.2.1.2.2.2.2)))), ((IntKind.wrap .i64 (y2.2.2.2.2.2.1 + (1 : Int))), (y2.2.2.2.2.2.2.2.1, (y2.2.2.2.2.2.2.2.2.1, (y2.2.2.2.2.2.2.2.2.2.1, ())))))))))) (
  tif ((decide (y2.2.2.2.2.2.1 = (1 : Int)))) (
  r21_Clean_l9 n f (y2.1, (y2.2.1, (y2.2.2.1, (y2.2.2.2.1, ((y2.2.2.2.2.1.1, (y2.2.2.2.2.1.2.1, (y2.2.2.2.2.1.2.2.1, ((y2.2.2.2.2.1.2.2.2.1.1, (y2.2.2.2.2.2.2.1, y2.2.2.2.2.1.2.2.2.1.2.2)), y2.2.2.2.2.1.2.2.2.2)))), ((IntKind.wrap .i64 (y2.2.2.2.2.2.1 + (1 : Int))), (y2.2.2.2.2.2.2.2.1, (y2.2.2.2.2.2.2.2.2.1, (y2.2.2.2.2.2.2.2.2.2.1, ())))))))))) (
  tif ((decide (y2.2.2.2.2.2.1 = (2 : Int)))) (
  r21_Clean_l9 n f (y2.1, (y2.2.1, (y2.2.2.1, (y2.2.2.2.1, ((y2.2.2.2.2.1.1, (y2.2.2.2.2.1.2.1, (y2.2.2.2.2.1.2.2.1, ((y2.2.2.2.2.1.2.2.2.1.1, (y2.2.2.2.2.1.2.2.2.1.2.1, y2.2.2.2.2.2.2.1)), y2.2.2.2.2.1.2.2.2.2)))), ((IntKind.wrap .i64 (y2.2.2.2.2.2.1 + (1 : Int))), (y2.2.2.2.2.2.2.2.1, (y2.2.2.2.2.2.2.2.2.1, (y2.2.2.2.2.2.2.2.2.2.1, ())))))))))) (
  none)))) (fun z3 =>
  some (.inr z3)) r1) (
  none) := by kernel_rfl
theorem r21_Clean_l9_eq_3 (n f : Nat) (s_ : TState) (s2 : TState) (out : (List TSeries)) (i : Int) (x : TSeries) (s23 : (List Int)) (s24 : Int) (s25 : Int) : r21_Clean_l9 n (f + 1) (s_, s2, out, i, x, (3 : Int), s23, s24, s25, ()) =
  some (.inl (s_, (s2, (out, (i, (x, (s23, (s24, (s25, ()))))))))) := by kernel_rfl
theorem r21_Clean_l14_eq (n f : Nat) (s_ : TState) (s2 : TState) (out : (List TSeries)) (i : Int) (x : TSeries) (k : Int) (o : Int) (l : (List TSlot)) (s23 : (List Int)) (s24 : Int) (s25 : Int) (s61 : Int) (s62 : Int) : r21_Clean_l14 n (f + 1) (s_, s2, out, i, x, k, o, l, s23, s24, s25, s61, s62, ()) =
  tif ((decide (s62 < s61))) (
  obind (at? l s62) fun r0 =>
  obind ((l)[(Int.toNat s62)]?) fun r1 =>
  obind (r21_above n s_.1 x.2.1 k r1.1) fun r2 =>
  obind (at? l s62) fun r3 =>
  obind ((l)[(Int.toNat s62)]?) fun r4 =>
  tif ((decide (r4.1 < o))) (
  tif ((!r2)) (
  obind (at? l s62) fun r5 =>
  obind ((l)[(Int.toNat s62)]?) fun r6 =>
  r21_Clean_l14 n f (s_, (s2, (out, (i, (x, (k, (o, ((List.set l (Int.toNat s62) ((0 : Int), ((0 : Int), (((0 : Int), ((0 : Int), ((0 : Int), false))), (((0 : Int), ((0 : Int), ((0 : Int), false))), (((0 : Int), (0 : Int)), ((0 : Int), ((0 : Int), (0 : Int))))))))), (s23, (s24, (s25, (s61, ((IntKind.wrap .i64 (s62 + (1 : Int))), ())))))))))))))) (
  r21_Clean_l14 n f (s_, (s2, (out, (i, (x, (k, (o, (l, (s23, (s24, (s25, (s61, ((IntKind.wrap .i64 (s62 + (1 : Int))), ()))))))))))))))) (
  r21_Clean_l14 n f (s_, (s2, (out, (i, (x, (k, (o, (l, (s23, (s24, (s25, (s61, ((IntKind.wrap .i64 (s62 + (1 : Int))), ()))))))))))))))) (
  some (.inl (s_, (s2, (out, (i, (x, (k, (l, (s23, (s24, (s25, ())))))))))))) := by kernel_rfl
theorem r17_Same_eq (n : Nat) (a : TState) (b : TState) : r17_Same (n + 1) a b =
  tif ((!((decide (a.1.1 = b.1.1)) && ((decide (a.1.2.1.1 = b.1.2.1.1)) && ((decide (a.1.2.1.2.1 = b.1.2.1.2.1)) && ((decide (a.1.2.1.2.2 = b.1.2.1.2.2)) && ((decide (a.1.2.2.1.1 = b.1.2.2.1.1)) && ((decide (a.1.2.2.1.2.1 = b.1.2.2.1.2.1)) && ((decide (a.1.2.2.1.2.2 = b.1.2.2.1.2.2)) && ((decide (a.1.2.2.2.1 = b.1.2.2.2.1)) && (decide (a.1.2.2.2.2 = b.1.2.2.2.2)))))))))))) (
  some false) (
  tif ((!(decide (a.2.1 = b.2.1)))) (
  some false) (
  tif ((!(decide (a.2.2.1 = b.2.2.1)))) (
  some false) (
  tif ((!(decide ((((List.length a.2.2.2) : Nat) : Int) = (((List.length b.2.2.2) : Nat) : Int))))) (
  some false) (
  obind (r17_Same_l4 n loopFuel (a, (b, ((((List.length a.2.2.2) : Nat) : Int), ((0 : Int), ()))))) fun r0 =>
  selim (fun y1 =>
  some true) (fun z2 =>
  some z2) r0)))) := by kernel_rfl
theorem r17_Same_l4_eq (n f : Nat) (a_ : TState) (b_ : TState) (s36 : Int) (s37 : Int) : r17_Same_l4 n (f + 1) (a_, b_, s36, s37, ()) =
  tif ((decide (s37 < s36))) (
  obind (at? a_.2.2.2 s37) fun r0 =>
  obind (at? b_.2.2.2 s37) fun r1 =>
  obind (r15_Same n r0 r1) fun r2 =>
  tif ((!r2)) (
  some (.inr false)) (
  r17_Same_l4 n f (a_, (b_, (s36, ((IntKind.wrap .i64 (s37 + (1 : Int))), ())))))) (
  some (.inl ())) := by kernel_rfl
theorem r06_Same_eq (n : Nat) (a : (List Int)) (b : (List Int)) : r06_Same (n + 1) a b =
  tif ((!(decide ((((List.length a) : Nat) : Int) = (((List.length b) : Nat) : Int))))) (
  some false) (
  obind (r06_Same_l4 n loopFuel (a, (b, ((((List.length a) : Nat) : Int), ((0 : Int), ()))))) fun r0 =>
  selim (fun y1 =>
  some true) (fun z2 =>
  some z2) r0) := by kernel_rfl
theorem r06_Same_l4_eq (n f : Nat) (a : (List Int)) (b : (List Int)) (s12 : Int) (s13 : Int) : r06_Same_l4 n (f + 1) (a, b, s12, s13, ()) =
  tif ((decide (s13 < s12))) (
  obind (at? a s13) fun r0 =>
  obind (at? b s13) fun r1 =>
  tif ((!(decide (r0 = r1)))) (
  some (.inr false)) (
  r06_Same_l4 n f (a, (b, (s12, ((IntKind.wrap .i64 (s13 + (1 : Int))), ())))))) (
  some (.inl ())) := by kernel_rfl
theorem sweep_Due_eq (n : Nat) (s : TState) : sweep_Due (n + 1) s =
  obind (state_Check n s) fun r0 =>
  tif ((!(decide (r0 = (0 : Int))))) (
  some []) (
  obind (state_Live n s) fun r1 =>
  obind (slices_DeleteFunc_int n r1 (fun y2 => sweep_Due_1 n y2.1 s)) fun r3 =>
  some r3) := by kernel_rfl
theorem r21_Due_eq (n : Nat) (s : TState) : r21_Due (n + 1) s =
  obind (r17_Check n s) fun r0 =>
  tif ((!(decide (r0 = (0 : Int))))) (
  some []) (
  obind (r17_Live n s) fun r1 =>
  obind (r21_Due_l5 n loopFuel (s, ([], (r1, ((((List.length r1) : Nat) : Int), ((0 : Int), ())))))) fun r2 =>
  selim (fun y3 =>
  some y3.1) (fun z4 =>
  some z4) r2) := by kernel_rfl
theorem r21_Due_l5_eq (n f : Nat) (s_ : TState) (out : (List Int)) (s10 : (List Int)) (s11 : Int) (s12 : Int) : r21_Due_l5 n (f + 1) (s_, out, s10, s11, s12, ()) =
  tif ((decide (s12 < s11))) (
  obind (at? s10 s12) fun r0 =>
  obind (at? s_.2.2.2 r0) fun r1 =>
  obind (r15_Dead n s_.1 r1.2.1 s_.2.1) fun r2 =>
  tif (r2) (
  tif ((decide ((((List.length out) + 1) * 8) ≤ 140737488355328))) (
  r21_Due_l5 n f (s_, ((out ++ (r0 :: [])), (s10, (s11, ((IntKind.wrap .i64 (s12 + (1 : Int))), ())))))) (
  none)) (
  r21_Due_l5 n f (s_, (out, (s10, (s11, ((IntKind.wrap .i64 (s12 + (1 : Int))), ()))))))) (
  some (.inl (out, ()))) := by kernel_rfl
theorem state_Check_eq (n : Nat) (s : TState) : state_Check (n + 1) s =
  obind (state_open n s) fun r0 =>
  tif ((!(decide (r0.2 = (0 : Int))))) (
  some (2 : Int)) (
  obind (state_view_clock n r0.1) fun r1 =>
  tif ((!r1)) (
  some (2 : Int)) (
  obind (state_view_place n r0.1 (fun y2 => state_Check_1 n y2.1 r0.1)) fun r3 =>
  tif ((decide ((0 : Int) ≤ r3))) (
  some (2 : Int)) (
  some (0 : Int)))) := by kernel_rfl
theorem state_Same_eq (n : Nat) (a : TState) (b : TState) : state_Same (n + 1) a b =
  tif (((decide (a.1.1 = b.1.1)) && ((decide (a.1.2.1.1 = b.1.2.1.1)) && ((decide (a.1.2.1.2.1 = b.1.2.1.2.1)) && ((decide (a.1.2.1.2.2 = b.1.2.1.2.2)) && ((decide (a.1.2.2.1.1 = b.1.2.2.1.1)) && ((decide (a.1.2.2.1.2.1 = b.1.2.2.1.2.1)) && ((decide (a.1.2.2.1.2.2 = b.1.2.2.1.2.2)) && ((decide (a.1.2.2.2.1 = b.1.2.2.2.1)) && (decide (a.1.2.2.2.2 = b.1.2.2.2.2))))))))))) (
  tif ((decide (a.2.1 = b.2.1))) (
  tif ((decide (a.2.2.1 = b.2.2.1))) (
  obind (slices_EqualFunc_SeriesSeries_Series_Series n a.2.2.2 b.2.2.2 (fun y0 => series_Same n y0.1 y0.2.1)) fun r1 =>
  some r1) (
  some false)) (
  some false)) (
  some false) := by kernel_rfl
theorem state_Many_eq (n : Nat) (s : TState) : state_Many (n + 1) s =
  obind (state_Live n s) fun r0 =>
  some (((List.length r0) : Nat) : Int) := by kernel_rfl
theorem state_Live_eq (n : Nat) (s : TState) : state_Live (n + 1) s =
  obind (state_open n s) fun r0 =>
  tif ((!(decide (r0.2 = (0 : Int))))) (
  some []) (
  obind (state_Live_l6 n loopFuel (r0.1, ([], ((((List.length r0.1.2.2.2) : Nat) : Int), ((0 : Int), ()))))) fun r1 =>
  selim (fun y2 =>
  some y2.1) (fun z3 =>
  some z3) r1) := by kernel_rfl
theorem state_Live_l6_eq (n f : Nat) (v : TState) (out : (List Int)) (s17 : Int) (s18 : Int) : state_Live_l6 n (f + 1) (v, out, s17, s18, ()) =
  tif ((decide (s18 < s17))) (
  obind (state_view_lives n v s18) fun r0 =>
  tif (r0) (
  tif ((decide ((((List.length out) + 1) * 8) ≤ 140737488355328))) (
  state_Live_l6 n f (v, ((out ++ (s18 :: [])), (s17, ((IntKind.wrap .i64 (s18 + (1 : Int))), ()))))) (
  none)) (
  state_Live_l6 n f (v, (out, (s17, ((IntKind.wrap .i64 (s18 + (1 : Int))), ())))))) (
  some (.inl (out, ()))) := by kernel_rfl
theorem series_Range_eq (n : Nat) (c : TConfig) (s : TSeries) (k : Int) (i : Int) (j : Int) : series_Range (n + 1) c s k i j =
  obind (series_open n c s) fun r0 =>
  oelim (r0.1) (
  tif ((!(decide (r0.2 = (0 : Int))))) (
  some (((0 : Int), (((0 : Int), ((0 : Int), ((0 : Int), false))), (((0 : Int), ((0 : Int), ((0 : Int), false))), (((0 : Int), (0 : Int)), ((0 : Int), ((0 : Int), (0 : Int))))))), r0.2)) (
  tif ((decide (k < (0 : Int)))) (
  some (((0 : Int), (((0 : Int), ((0 : Int), ((0 : Int), false))), (((0 : Int), ((0 : Int), ((0 : Int), false))), (((0 : Int), (0 : Int)), ((0 : Int), ((0 : Int), (0 : Int))))))), (1 : Int))) (
  tif ((decide ((3 : Int) ≤ k))) (
  some (((0 : Int), (((0 : Int), ((0 : Int), ((0 : Int), false))), (((0 : Int), ((0 : Int), ((0 : Int), false))), (((0 : Int), (0 : Int)), ((0 : Int), ((0 : Int), (0 : Int))))))), (1 : Int))) (
  tif ((decide (i < (0 : Int)))) (
  some (((0 : Int), (((0 : Int), ((0 : Int), ((0 : Int), false))), (((0 : Int), ((0 : Int), ((0 : Int), false))), (((0 : Int), (0 : Int)), ((0 : Int), ((0 : Int), (0 : Int))))))), (1 : Int))) (
  tif ((decide (j < i))) (
  some (((0 : Int), (((0 : Int), ((0 : Int), ((0 : Int), false))), (((0 : Int), ((0 : Int), ((0 : Int), false))), (((0 : Int), (0 : Int)), ((0 : Int), ((0 : Int), (0 : Int))))))), (1 : Int))) (
  none)))))) fun r1 =>
  tif ((!(decide (r0.2 = (0 : Int))))) (
  some (((0 : Int), (((0 : Int), ((0 : Int), ((0 : Int), false))), (((0 : Int), ((0 : Int), ((0 : Int), false))), (((0 : Int), (0 : Int)), ((0 : Int), ((0 : Int), (0 : Int))))))), r0.2)) (
  tif ((decide (k < (0 : Int)))) (
  some (((0 : Int), (((0 : Int), ((0 : Int), ((0 : Int), false))), (((0 : Int), ((0 : Int), ((0 : Int), false))), (((0 : Int), (0 : Int)), ((0 : Int), ((0 : Int), (0 : Int))))))), (1 : Int))) (
  tif ((decide ((3 : Int) ≤ k))) (
  some (((0 : Int), (((0 : Int), ((0 : Int), ((0 : Int), false))), (((0 : Int), ((0 : Int), ((0 : Int), false))), (((0 : Int), (0 : Int)), ((0 : Int), ((0 : Int), (0 : Int))))))), (1 : Int))) (
  tif ((decide (i < (0 : Int)))) (
  some (((0 : Int), (((0 : Int), ((0 : Int), ((0 : Int), false))), (((0 : Int), ((0 : Int), ((0 : Int), false))), (((0 : Int), (0 : Int)), ((0 : Int), ((0 : Int), (0 : Int))))))), (1 : Int))) (
  tif ((decide (j < i))) (
  some (((0 : Int), (((0 : Int), ((0 : Int), ((0 : Int), false))), (((0 : Int), ((0 : Int), ((0 : Int), false))), (((0 : Int), (0 : Int)), ((0 : Int), ((0 : Int), (0 : Int))))))), (1 : Int))) (
  obind (series_kept_span n r1 k i j) fun r2 =>
  some r2))))) := by kernel_rfl
theorem state_Lives_eq (n : Nat) (s : TState) (i : Int) : state_Lives (n + 1) s i =
  obind (state_open n s) fun r0 =>
  tif ((decide (r0.2 = (0 : Int)))) (
  tif ((decide ((0 : Int) ≤ i))) (
  tif ((decide (i < (((List.length s.2.2.2) : Nat) : Int)))) (
  obind (state_view_lives n r0.1 i) fun r1 =>
  some r1) (
  some false)) (
  some false)) (
  some false) := by kernel_rfl
theorem l15_Small_eq (n : Nat) (s : TSeries) : l15_Small (n + 1) s =
  obind (l05_Small n s.1) fun r0 =>
  tif ((decide (r0 = (0 : Int)))) (
  some (0 : Int)) (
  tif ((decide ((60 : Int) < (((List.length s.2.2.1.2.2) : Nat) : Int)))) (
  some (0 : Int)) (
  obind (l14_Small n s.2.2.2.1) fun r1 =>
  some r1)) := by kernel_rfl
theorem r17_Check_eq (n : Nat) (s : TState) : r17_Check (n + 1) s =
  obind (r17_whole n s) fun r0 =>
  tif ((!r0)) (
  some (2 : Int)) (
  obind (r17_time n s.2.1) fun r1 =>
  tif ((!r1)) (
  some (2 : Int)) (
  tif ((!(decide (s.2.2.1 = ((-1) : Int))))) (
  obind (r17_time n s.2.2.1) fun r2 =>
  tif ((!r2)) (
  some (2 : Int)) (
  tif ((decide (s.2.1 < s.2.2.1))) (
  some (2 : Int)) (
  obind (r17_Mark n s) fun r3 =>
  obind (r17_Check_l5 n loopFuel (s, ((IntKind.wrap .i64 (r3 + s.1.2.1.1)), (s.2.2.2, ((((List.length s.2.2.2) : Nat) : Int), ((0 : Int), ())))))) fun r4 =>
  selim (fun y5 =>
  some (0 : Int)) (fun z6 =>
  some z6) r4))) (
  tif ((decide (s.2.1 < s.2.2.1))) (
  some (2 : Int)) (
  obind (r17_Mark n s) fun r7 =>
  obind (r17_Check_l5 n loopFuel (s, ((IntKind.wrap .i64 (r7 + s.1.2.1.1)), (s.2.2.2, ((((List.length s.2.2.2) : Nat) : Int), ((0 : Int), ())))))) fun r8 =>
  selim (fun y9 =>
  some (0 : Int)) (fun z10 =>
  some z10) r8)))) := by kernel_rfl
theorem r17_Check_l5_eq (n f : Nat) (s_ : TState) (end_ : Int) (s42 : (List TSeries)) (s43 : Int) (s44 : Int) : r17_Check_l5 n (f + 1) (s_, end_, s42, s43, s44, ()) =
  tif ((decide (s44 < s43))) (
  obind (at? s42 s44) fun r0 =>
  obind (r17_Empty n r0) fun r1 =>
  tif (r1) (
  r17_Check_l5 n f (s_, (end_, (s42, (s43, ((IntKind.wrap .i64 (s44 + (1 : Int))), ())))))) (
  obind (r15_Check n s_.1 r0) fun r2 =>
  tif ((!(decide (r2 = (0 : Int))))) (
  some (.inr (2 : Int))) (
  tif ((decide (r0.2.1 < (0 : Int)))) (
  some (.inr (2 : Int))) (
  tif ((decide (end_ ≤ r0.2.1))) (
  some (.inr (2 : Int))) (
  tif (((decide ((0 : Int) ≤ s44)) && (decide (s44 ≤ (((List.length s_.2.2.2) : Nat) : Int))))) (
  obind (r17_Check_l11 n loopFuel (s_, (end_, (s44, (r0, (s42, (s43, (s44, ((((List.length (List.drop 0 (List.take (Int.toNat s44) s_.2.2.2))) : Nat) : Int), ((0 : Int), ())))))))))) fun r3 =>
  selim (fun y4 =>
  r17_Check_l5 n f (y4.1, (y4.2.1, (y4.2.2.1, (y4.2.2.2.1, ((IntKind.wrap .i64 (y4.2.2.2.2.1 + (1 : Int))), ())))))) (fun z5 =>
  some (.inr z5)) r3) (
  none)))))) (
  some (.inl ())) := by kernel_rfl
theorem r17_Check_l11_eq (n f : Nat) (s_ : TState) (end_ : Int) (i : Int) (x : TSeries) (s42 : (List TSeries)) (s43 : Int) (s44 : Int) (s71 : Int) (s72 : Int) : r17_Check_l11 n (f + 1) (s_, end_, i, x, s42, s43, s44, s71, s72, ()) =
  tif ((decide (s72 < s71))) (
  obind (r17_lives n s_ i) fun r0 =>
  tif (r0) (
  obind (r17_lives n s_ s72) fun r1 =>
  tif (r1) (
  obind (at? s_.2.2.2 s72) fun r2 =>
  obind (r05_Same n r2.1 x.1) fun r3 =>
  tif (r3) (
  some (.inr (2 : Int))) (
  r17_Check_l11 n f (s_, (end_, (i, (x, (s42, (s43, (s44, (s71, ((IntKind.wrap .i64 (s72 + (1 : Int))), ()))))))))))) (
  r17_Check_l11 n f (s_, (end_, (i, (x, (s42, (s43, (s44, (s71, ((IntKind.wrap .i64 (s72 + (1 : Int))), ()))))))))))) (
  r17_Check_l11 n f (s_, (end_, (i, (x, (s42, (s43, (s44, (s71, ((IntKind.wrap .i64 (s72 + (1 : Int))), ()))))))))))) (
  some (.inl (s_, (end_, (s42, (s43, (s44, ()))))))) := by kernel_rfl
theorem window_Oldest_eq (n : Nat) (now : Int) (w : Int) (n_ : Int) : window_Oldest (n + 1) now w n_ =
  obind (window_Of n now w) fun r0 =>
  tif ((!(decide (r0.2 = (0 : Int))))) (
  some ((0 : Int), (1 : Int))) (
  obind (window_in_int n n_ (1 : Int) (4096 : Int)) fun r1 =>
  tif ((!r1)) (
  some ((0 : Int), (1 : Int))) (
  some ((if (0 : Int) < (IntKind.wrap .i64 ((IntKind.wrap .i64 (r0.1 + (1 : Int))) - n_)) then (IntKind.wrap .i64 ((IntKind.wrap .i64 (r0.1 + (1 : Int))) - n_)) else (0 : Int)), (0 : Int)))) := by kernel_rfl
theorem sweep_fade_eq_0 (n : Nat) (c : TConfig) (x : TSeries) (oldest : Int) : sweep_fade (n + 1) c x (0 : Int) oldest =
  obind (sweep_needed n c x.2.1 (0 : Int)) fun r0 =>
  obind (slices_Clone_Slot n x.2.2.2.1.1) fun r1 =>
  obind (sweep_fade_l4 n loopFuel (oldest, (r0.1, (r0.2, (r1, ((((List.length r1) : Nat) : Int), ((0 : Int), ()))))))) fun r2 =>
  selim (fun y3 =>
  some y3.1) (fun z4 =>
  some z4) r2 := by kernel_rfl
theorem sweep_fade_eq_1 (n : Nat) (c : TConfig) (x : TSeries) (oldest : Int) : sweep_fade (n + 1) c x (1 : Int) oldest =
  obind (sweep_needed n c x.2.1 (1 : Int)) fun r0 =>
  obind (slices_Clone_Slot n x.2.2.2.1.2.1) fun r1 =>
  obind (sweep_fade_l4 n loopFuel (oldest, (r0.1, (r0.2, (r1, ((((List.length r1) : Nat) : Int), ((0 : Int), ()))))))) fun r2 =>
  selim (fun y3 =>
  some y3.1) (fun z4 =>
  some z4) r2 := by kernel_rfl
theorem sweep_fade_eq_2 (n : Nat) (c : TConfig) (x : TSeries) (oldest : Int) : sweep_fade (n + 1) c x (2 : Int) oldest =
  obind (sweep_needed n c x.2.1 (2 : Int)) fun r0 =>
  obind (slices_Clone_Slot n x.2.2.2.1.2.2) fun r1 =>
  obind (sweep_fade_l4 n loopFuel (oldest, (r0.1, (r0.2, (r1, ((((List.length r1) : Nat) : Int), ((0 : Int), ()))))))) fun r2 =>
  selim (fun y3 =>
  some y3.1) (fun z4 =>
  some z4) r2 := by kernel_rfl
theorem sweep_fade_l4_eq (n f : Nat) (oldest : Int) (from_ : Int) (to : Int) (out : (List TSlot)) (s28 : Int) (s29 : Int) : sweep_fade_l4 n (f + 1) (oldest, from_, to, out, s28, s29, ()) =
  tif ((decide (s29 < s28))) (
  obind (at? out s29) fun r0 =>
  obind ((out)[(Int.toNat s29)]?) fun r1 =>
  tif ((decide (r1.1 < oldest))) (
  tif ((decide (r1.1 < from_))) (
  obind (at? out s29) fun r2 =>
  obind ((out)[(Int.toNat s29)]?) fun r3 =>
  sweep_fade_l4 n f (oldest, (from_, (to, ((List.set out (Int.toNat s29) ((0 : Int), ((0 : Int), (((0 : Int), ((0 : Int), ((0 : Int), false))), (((0 : Int), ((0 : Int), ((0 : Int), false))), (((0 : Int), (0 : Int)), ((0 : Int), ((0 : Int), (0 : Int))))))))), (s28, ((IntKind.wrap .i64 (s29 + (1 : Int))), ()))))))) (
  tif ((decide (to ≤ r1.1))) (
  obind (at? out s29) fun r4 =>
  obind ((out)[(Int.toNat s29)]?) fun r5 =>
  sweep_fade_l4 n f (oldest, (from_, (to, ((List.set out (Int.toNat s29) ((0 : Int), ((0 : Int), (((0 : Int), ((0 : Int), ((0 : Int), false))), (((0 : Int), ((0 : Int), ((0 : Int), false))), (((0 : Int), (0 : Int)), ((0 : Int), ((0 : Int), (0 : Int))))))))), (s28, ((IntKind.wrap .i64 (s29 + (1 : Int))), ()))))))) (
  sweep_fade_l4 n f (oldest, (from_, (to, (out, (s28, ((IntKind.wrap .i64 (s29 + (1 : Int))), ()))))))))) (
  sweep_fade_l4 n f (oldest, (from_, (to, (out, (s28, ((IntKind.wrap .i64 (s29 + (1 : Int))), ())))))))) (
  some (.inl (out, ()))) := by kernel_rfl
theorem r17_Live_eq (n : Nat) (s : TState) : r17_Live (n + 1) s =
  obind (r17_whole n s) fun r0 =>
  tif ((!r0)) (
  some []) (
  obind (r17_Live_l5 n loopFuel (s, ([], ((((List.length s.2.2.2) : Nat) : Int), ((0 : Int), ()))))) fun r1 =>
  selim (fun y2 =>
  some y2.1) (fun z3 =>
  some z3) r1) := by kernel_rfl
theorem r17_Live_l5_eq (n f : Nat) (s_ : TState) (out : (List Int)) (s10 : Int) (s11 : Int) : r17_Live_l5 n (f + 1) (s_, out, s10, s11, ()) =
  tif ((decide (s11 < s10))) (
  obind (r17_lives n s_ s11) fun r0 =>
  tif (r0) (
  tif ((decide ((((List.length out) + 1) * 8) ≤ 140737488355328))) (
  r17_Live_l5 n f (s_, ((out ++ (s11 :: [])), (s10, ((IntKind.wrap .i64 (s11 + (1 : Int))), ()))))) (
  none)) (
  r17_Live_l5 n f (s_, (out, (s10, ((IntKind.wrap .i64 (s11 + (1 : Int))), ())))))) (
  some (.inl (out, ()))) := by kernel_rfl
theorem r09_Oldest_eq (n : Nat) (now : Int) (w : Int) (n_ : Int) : r09_Oldest (n + 1) now w n_ =
  obind (r09_Of n now w) fun r0 =>
  tif ((!(decide (r0.2 = (0 : Int))))) (
  some ((0 : Int), (1 : Int))) (
  tif ((decide (n_ < (1 : Int)))) (
  some ((0 : Int), (1 : Int))) (
  tif ((decide ((4096 : Int) < n_))) (
  some ((0 : Int), (1 : Int))) (
  some ((if (IntKind.wrap .i64 ((IntKind.wrap .i64 (r0.1 - n_)) + (1 : Int))) < (0 : Int) then (0 : Int) else (IntKind.wrap .i64 ((IntKind.wrap .i64 (r0.1 - n_)) + (1 : Int)))), (0 : Int))))) := by kernel_rfl
theorem r21_above_eq_0 (n : Nat) (c : TConfig) (last : Int) (i : Int) : r21_above (n + 1) c last (0 : Int) i =
  obind (r10_Factor n c (1 : Int)) fun r0 =>
  tif ((decide (r0 = (0 : Int)))) (
  none) (
  tif ((decide (c.2.1.2.1 = (0 : Int)))) (
  none) (
  some (decide ((IntKind.wrap .i64 (Int.tdiv i r0)) = (IntKind.wrap .i64 (Int.tdiv last c.2.1.2.1)))))) := by kernel_rfl
theorem r21_above_eq_1 (n : Nat) (c : TConfig) (last : Int) (i : Int) : r21_above (n + 1) c last (1 : Int) i =
  obind (r10_Factor n c (2 : Int)) fun r0 =>
  tif ((decide (r0 = (0 : Int)))) (
  none) (
  tif ((decide (c.2.1.2.2 = (0 : Int)))) (
  none) (
  some (decide ((IntKind.wrap .i64 (Int.tdiv i r0)) = (IntKind.wrap .i64 (Int.tdiv last c.2.1.2.2)))))) := by kernel_rfl
theorem r21_above_eq_2 (n : Nat) (c : TConfig) (last : Int) (i : Int) : r21_above (n + 1) c last (2 : Int) i =
  some false := by kernel_rfl
theorem r15_Same_eq (n : Nat) (a : TSeries) (b : TSeries) : r15_Same (n + 1) a b =
  obind (r05_Same n a.1 b.1) fun r0 =>
  tif (r0) (
  tif ((decide (a.2.1 = b.2.1))) (
  obind (r12_Same n a.2.2.1 b.2.2.1) fun r1 =>
  tif (r1) (
  obind (r14_Same n a.2.2.2.1 b.2.2.2.1) fun r2 =>
  tif (r2) (
  some ((decide (a.2.2.2.2.1 = b.2.2.2.2.1)) && ((decide (a.2.2.2.2.2.1 = b.2.2.2.2.2.1)) && ((decide (a.2.2.2.2.2.2.1.1 = b.2.2.2.2.2.2.1.1)) && ((decide (a.2.2.2.2.2.2.1.2.1 = b.2.2.2.2.2.2.1.2.1)) && ((decide (a.2.2.2.2.2.2.1.2.2.1 = b.2.2.2.2.2.2.1.2.2.1)) && ((a.2.2.2.2.2.2.1.2.2.2 == b.2.2.2.2.2.2.1.2.2.2) && ((decide (a.2.2.2.2.2.2.2.1.1 = b.2.2.2.2.2.2.2.1.1)) && ((decide (a.2.2.2.2.2.2.2.1.2.1 = b.2.2.2.2.2.2.2.1.2.1)) && ((decide (a.2.2.2.2.2.2.2.1.2.2.1 = b.2.2.2.2.2.2.2.1.2.2.1)) && ((a.2.2.2.2.2.2.2.1.2.2.2 == b.2.2.2.2.2.2.2.1.2.2.2) && ((decide (a.2.2.2.2.2.2.2.2.1.1 = b.2.2.2.2.2.2.2.2.1.1)) && ((decide (a.2.2.2.2.2.2.2.2.1.2 = b.2.2.2.2.2.2.2.2.1.2)) && ((decide (a.2.2.2.2.2.2.2.2.2.1 = b.2.2.2.2.2.2.2.2.2.1)) && ((decide (a.2.2.2.2.2.2.2.2.2.2.1 = b.2.2.2.2.2.2.2.2.2.2.1)) && (decide (a.2.2.2.2.2.2.2.2.2.2.2 = b.2.2.2.2.2.2.2.2.2.2.2))))))))))))))))) (
  some false)) (
  some false)) (
  some false)) (
  some false) := by kernel_rfl
theorem slices_DeleteFunc_int_eq (n : Nat) (s : (List Int)) (del : ((Int × Unit) → Option Bool)) : slices_DeleteFunc_int (n + 1) s del =
  obind (slices_IndexFunc_int n s del) fun r0 =>
  tif ((decide (r0 = ((-1) : Int)))) (
  some s) (
  obind (slices_DeleteFunc_int_l5 n loopFuel (s, (del, (r0, ((IntKind.wrap .i64 (r0 + (1 : Int))), ()))))) fun r1 =>
  selim (fun y2 =>
  tif ((decide ((0 : Int) ≤ y2.2.1))) (
  tif ((decide ((Int.toNat y2.2.1) ≤ (List.length y2.1)))) (
  tif ((decide (((Int.toNat y2.2.1) + ((List.length y2.1) - (Int.toNat y2.2.1))) ≤ (List.length y2.1)))) (
  tif (((decide ((0 : Int) ≤ y2.2.1)) && (decide (y2.2.1 ≤ (((List.length (Go.Flat.putRow y2.1 (Int.toNat y2.2.1) (List.replicate ((List.length y2.1) - (Int.toNat y2.2.1)) (0 : Int)))) : Nat) : Int))))) (
  some (List.take ((Int.toNat y2.2.1) - 0) (Go.Flat.putRow y2.1 (Int.toNat y2.2.1) (List.replicate ((List.length y2.1) - (Int.toNat y2.2.1)) (0 : Int))))) (
  none)) (
  none)) (
  none)) (
  none)) (fun z3 =>
  some z3) r1) := by kernel_rfl
theorem slices_DeleteFunc_int_l5_eq (n f : Nat) (s : (List Int)) (del : ((Int × Unit) → Option Bool)) (i : Int) (j : Int) : slices_DeleteFunc_int_l5 n (f + 1) (s, del, i, j, ()) =
  tif ((decide (j < (((List.length s) : Nat) : Int)))) (
  obind (at? s j) fun r0 =>
  obind ((s)[(Int.toNat j)]?) fun r1 =>
  obind (del (r1, ())) fun r2 =>
  tif ((!r2)) (
  obind (at? s i) fun r3 =>
  obind ((s)[(Int.toNat i)]?) fun r4 =>
  slices_DeleteFunc_int_l5 n f ((List.set s (Int.toNat i) r1), (del, ((IntKind.wrap .i64 (i + (1 : Int))), ((IntKind.wrap .i64 (j + (1 : Int))), ()))))) (
  slices_DeleteFunc_int_l5 n f (s, (del, (i, ((IntKind.wrap .i64 (j + (1 : Int))), ())))))) (
  some (.inl (s, (i, ())))) := by kernel_rfl
theorem sweep_Due_1_eq (n : Nat) (i : Int) (p1 : TState) : sweep_Due_1 (n + 1) i p1 =
  obind (at? p1.2.2.2 i) fun r0 =>
  obind (series_Dead n p1.1 r0.2.1 p1.2.1) fun r1 =>
  some (!r1) := by kernel_rfl
theorem series_Dead_eq (n : Nat) (c : TConfig) (last : Int) (now : Int) : series_Dead (n + 1) c last now =
  obind (conf_Check n c) fun r0 =>
  tif ((decide (r0 = (0 : Int)))) (
  obind (window_Gone n last now c.2.1.1 c.2.2.1.1) fun r1 =>
  tif (r1) (
  obind (window_Gone n last now c.2.1.2.1 c.2.2.1.2.1) fun r2 =>
  tif (r2) (
  obind (window_Gone n last now c.2.1.2.2 c.2.2.1.2.2) fun r3 =>
  tif (r3) (
  some r3) (
  some r3)) (
  some r2)) (
  some r1)) (
  some (decide (r0 = (0 : Int)))) := by kernel_rfl
theorem r15_Dead_eq (n : Nat) (c : TConfig) (last : Int) (now : Int) : r15_Dead (n + 1) c last now =
  obind (r10_Check n c) fun r0 =>
  tif ((!(decide (r0 = (0 : Int))))) (
  some false) (
  obind (r09_Gone n last now c.2.1.1 c.2.2.1.1) fun r1 =>
  tif ((!r1)) (
  some false) (
  obind (r09_Gone n last now c.2.1.2.1 c.2.2.1.2.1) fun r2 =>
  tif ((!r2)) (
  some false) (
  obind (r09_Gone n last now c.2.1.2.2 c.2.2.1.2.2) fun r3 =>
  tif ((!r3)) (
  some false) (
  some true)))) := by kernel_rfl
theorem state_open_eq (n : Nat) (s : TState) : state_open (n + 1) s =
  obind (conf_Check n s.1) fun r0 =>
  tif ((!(decide (r0 = (0 : Int))))) (
  some ((((0 : Int), (((0 : Int), ((0 : Int), (0 : Int))), (((0 : Int), ((0 : Int), (0 : Int))), ((0 : Int), (0 : Int))))), ((0 : Int), ((0 : Int), []))), (2 : Int))) (
  tif ((!(decide ((((List.length s.2.2.2) : Nat) : Int) = s.1.2.2.2.1)))) (
  some ((((0 : Int), (((0 : Int), ((0 : Int), (0 : Int))), (((0 : Int), ((0 : Int), (0 : Int))), ((0 : Int), (0 : Int))))), ((0 : Int), ((0 : Int), []))), (2 : Int))) (
  some (s, (0 : Int)))) := by kernel_rfl
theorem state_view_clock_eq (n : Nat) (v : TState) : state_view_clock (n + 1) v =
  obind (state_time n v.2.1) fun r0 =>
  tif (r0) (
  tif ((decide (v.2.2.1 = ((-1) : Int)))) (
  some (decide (v.2.2.1 ≤ v.2.1))) (
  obind (state_time n v.2.2.1) fun r1 =>
  tif (r1) (
  some (decide (v.2.2.1 ≤ v.2.1))) (
  some false))) (
  some false) := by kernel_rfl
theorem state_view_place_eq (n : Nat) (v : TState) (is : ((Int × Unit) → Option Bool)) : state_view_place (n + 1) v is =
  obind (state_view_place_l2 n loopFuel (is, ((((List.length v.2.2.2) : Nat) : Int), ((0 : Int), ())))) fun r0 =>
  selim (fun y1 =>
  some ((-1) : Int)) (fun z2 =>
  some z2) r0 := by kernel_rfl
theorem state_view_place_l2_eq (n f : Nat) (is : ((Int × Unit) → Option Bool)) (s9 : Int) (s10 : Int) : state_view_place_l2 n (f + 1) (is, s9, s10, ()) =
  tif ((decide (s10 < s9))) (
  obind (is (s10, ())) fun r0 =>
  tif (r0) (
  some (.inr s10)) (
  state_view_place_l2 n f (is, (s9, ((IntKind.wrap .i64 (s10 + (1 : Int))), ()))))) (
  some (.inl ())) := by kernel_rfl
theorem state_Check_1_eq (n : Nat) (i : Int) (p1 : TState) : state_Check_1 (n + 1) i p1 =
  obind (state_view_right n p1 i) fun r0 =>
  some (!r0) := by kernel_rfl
theorem state_view_right_eq (n : Nat) (v : TState) (i : Int) : state_view_right (n + 1) v i =
  obind (at? v.2.2.2 i) fun r0 =>
  obind (state_empty n r0) fun r1 =>
  tif (r1) (
  some true) (
  obind (series_Check n v.1 r0) fun r2 =>
  tif ((decide (r2 = (0 : Int)))) (
  tif ((decide ((0 : Int) ≤ r0.2.1))) (
  obind (state_view_mark n v) fun r3 =>
  tif ((decide (r0.2.1 < (IntKind.wrap .i64 (r3 + v.1.2.1.1))))) (
  obind (state_view_twin n v i) fun r4 =>
  some (!r4)) (
  some false)) (
  some false)) (
  some false)) := by kernel_rfl
theorem slices_EqualFunc_SeriesSeries_Series_Series_eq (n : Nat) (s1 : (List TSeries)) (s2 : (List TSeries)) (eq : ((TSeries × (TSeries × Unit)) → Option Bool)) : slices_EqualFunc_SeriesSeries_Series_Series (n + 1) s1 s2 eq =
  tif ((!(decide ((((List.length s1) : Nat) : Int) = (((List.length s2) : Nat) : Int))))) (
  some false) (
  obind (slices_EqualFunc_SeriesSeries_Series_Series_l4 n loopFuel (s2, (eq, (s1, ((((List.length s1) : Nat) : Int), ((0 : Int), ())))))) fun r0 =>
  selim (fun y1 =>
  some true) (fun z2 =>
  some z2) r0) := by kernel_rfl
theorem slices_EqualFunc_SeriesSeries_Series_Series_l4_eq (n f : Nat) (s2 : (List TSeries)) (eq : ((TSeries × (TSeries × Unit)) → Option Bool)) (s15 : (List TSeries)) (s16 : Int) (s17 : Int) : slices_EqualFunc_SeriesSeries_Series_Series_l4 n (f + 1) (s2, eq, s15, s16, s17, ()) =
  tif ((decide (s17 < s16))) (
  obind (at? s15 s17) fun r0 =>
  obind (at? s2 s17) fun r1 =>
  obind (eq (r0, (r1, ()))) fun r2 =>
  tif ((!r2)) (
  some (.inr false)) (
  slices_EqualFunc_SeriesSeries_Series_Series_l4 n f (s2, (eq, (s15, (s16, ((IntKind.wrap .i64 (s17 + (1 : Int))), ()))))))) (
  some (.inl ())) := by kernel_rfl
theorem series_Same_eq (n : Nat) (a : TSeries) (b : TSeries) : series_Same (n + 1) a b =
  obind (label_Same n a.1 b.1) fun r0 =>
  tif (r0) (
  tif ((decide (a.2.1 = b.2.1))) (
  obind (raw_Same n a.2.2.1 b.2.2.1) fun r1 =>
  tif (r1) (
  tif (((decide (a.2.2.2.2.1 = b.2.2.2.2.1)) && ((decide (a.2.2.2.2.2.1 = b.2.2.2.2.2.1)) && ((decide (a.2.2.2.2.2.2.1.1 = b.2.2.2.2.2.2.1.1)) && ((decide (a.2.2.2.2.2.2.1.2.1 = b.2.2.2.2.2.2.1.2.1)) && ((decide (a.2.2.2.2.2.2.1.2.2.1 = b.2.2.2.2.2.2.1.2.2.1)) && ((a.2.2.2.2.2.2.1.2.2.2 == b.2.2.2.2.2.2.1.2.2.2) && ((decide (a.2.2.2.2.2.2.2.1.1 = b.2.2.2.2.2.2.2.1.1)) && ((decide (a.2.2.2.2.2.2.2.1.2.1 = b.2.2.2.2.2.2.2.1.2.1)) && ((decide (a.2.2.2.2.2.2.2.1.2.2.1 = b.2.2.2.2.2.2.2.1.2.2.1)) && ((a.2.2.2.2.2.2.2.1.2.2.2 == b.2.2.2.2.2.2.2.1.2.2.2) && ((decide (a.2.2.2.2.2.2.2.2.1.1 = b.2.2.2.2.2.2.2.2.1.1)) && ((decide (a.2.2.2.2.2.2.2.2.1.2 = b.2.2.2.2.2.2.2.2.1.2)) && ((decide (a.2.2.2.2.2.2.2.2.2.1 = b.2.2.2.2.2.2.2.2.2.1)) && ((decide (a.2.2.2.2.2.2.2.2.2.2.1 = b.2.2.2.2.2.2.2.2.2.2.1)) && (decide (a.2.2.2.2.2.2.2.2.2.2.2 = b.2.2.2.2.2.2.2.2.2.2.2))))))))))))))))) (
  obind (slices_Equal_Slot n a.2.2.2.1.1 b.2.2.2.1.1) fun r2 =>
  tif (r2) (
  obind (slices_Equal_Slot n a.2.2.2.1.2.1 b.2.2.2.1.2.1) fun r3 =>
  tif (r3) (
  obind (slices_Equal_Slot n a.2.2.2.1.2.2 b.2.2.2.1.2.2) fun r4 =>
  some r4) (
  some false)) (
  some false)) (
  some false)) (
  some false)) (
  some false)) (
  some false) := by kernel_rfl
theorem state_view_lives_eq (n : Nat) (v : TState) (i : Int) : state_view_lives (n + 1) v i =
  obind (at? v.2.2.2 i) fun r0 =>
  obind (state_empty n r0) fun r1 =>
  tif ((!r1)) (
  tif ((decide (v.2.2.1 = ((-1) : Int)))) (
  some true) (
  obind (series_Dead n v.1 r0.2.1 v.2.2.1) fun r2 =>
  some (!r2))) (
  some false) := by kernel_rfl
theorem series_open_eq (n : Nat) (c : TConfig) (s : TSeries) : series_open (n + 1) c s =
  obind (fold_Check n c s.2.2.2.1) fun r0 =>
  tif ((!(decide (r0 = (0 : Int))))) (
  some (none, (2 : Int))) (
  obind (label_Check n s.1) fun r1 =>
  tif ((!(decide (r1 = (0 : Int))))) (
  some (none, (2 : Int))) (
  obind (raw_Check n s.2.2.1 c.1) fun r2 =>
  tif ((!(decide (r2 = (0 : Int))))) (
  some (none, (2 : Int))) (
  tif ((decide (s.2.1 = ((-1) : Int)))) (
  obind (series_kept_fresh n (c, s)) fun r3 =>
  tif (r3) (
  some ((some (c, s)), (0 : Int))) (
  tif ((!(decide (s.2.1 = ((-1) : Int))))) (
  obind (series_kept_ends n (c, s)) fun r4 =>
  tif (r4) (
  some ((some (c, s)), (0 : Int))) (
  some (none, (2 : Int)))) (
  some (none, (2 : Int))))) (
  tif ((!(decide (s.2.1 = ((-1) : Int))))) (
  obind (series_kept_ends n (c, s)) fun r5 =>
  tif (r5) (
  some ((some (c, s)), (0 : Int))) (
  some (none, (2 : Int)))) (
  some (none, (2 : Int))))))) := by kernel_rfl
theorem series_kept_span_eq_0 (n : Nat) (s : Tseries_kept) (i : Int) (j : Int) : series_kept_span (n + 1) s (0 : Int) i j =
  tif ((decide (s.2.2.1 = ((-1) : Int)))) (
  some (((0 : Int), (((0 : Int), ((0 : Int), ((0 : Int), false))), (((0 : Int), ((0 : Int), ((0 : Int), false))), (((0 : Int), (0 : Int)), ((0 : Int), ((0 : Int), (0 : Int))))))), (0 : Int))) (
  tif ((decide (s.1.2.1.1 = (0 : Int)))) (
  none) (
  obind (tier_Fold n s.2.2.2.2.1.1 i j) fun r0 =>
  tif ((!(decide (r0.2 = (0 : Int))))) (
  some r0) (
  tif ((decide ((IntKind.wrap .i64 (Int.tdiv s.2.2.1 s.1.2.1.1)) < i))) (
  some r0) (
  tif ((decide (j ≤ (IntKind.wrap .i64 (Int.tdiv s.2.2.1 s.1.2.1.1))))) (
  some r0) (
  obind (series_kept_now n s (0 : Int)) fun r1 =>
  tif ((!(decide (r1.2 = (0 : Int))))) (
  some (((0 : Int), (((0 : Int), ((0 : Int), ((0 : Int), false))), (((0 : Int), ((0 : Int), ((0 : Int), false))), (((0 : Int), (0 : Int)), ((0 : Int), ((0 : Int), (0 : Int))))))), r1.2)) (
  obind (cell_Merge n r0.1 r1.1) fun r2 =>
  some r2)))))) := by kernel_rfl
theorem series_kept_span_eq_1 (n : Nat) (s : Tseries_kept) (i : Int) (j : Int) : series_kept_span (n + 1) s (1 : Int) i j =
  tif ((decide (s.2.2.1 = ((-1) : Int)))) (
  some (((0 : Int), (((0 : Int), ((0 : Int), ((0 : Int), false))), (((0 : Int), ((0 : Int), ((0 : Int), false))), (((0 : Int), (0 : Int)), ((0 : Int), ((0 : Int), (0 : Int))))))), (0 : Int))) (
  tif ((decide (s.1.2.1.2.1 = (0 : Int)))) (
  none) (
  obind (tier_Fold n s.2.2.2.2.1.2.1 i j) fun r0 =>
  tif ((!(decide (r0.2 = (0 : Int))))) (
  some r0) (
  tif ((decide ((IntKind.wrap .i64 (Int.tdiv s.2.2.1 s.1.2.1.2.1)) < i))) (
  some r0) (
  tif ((decide (j ≤ (IntKind.wrap .i64 (Int.tdiv s.2.2.1 s.1.2.1.2.1))))) (
  some r0) (
  obind (series_kept_now n s (1 : Int)) fun r1 =>
  tif ((!(decide (r1.2 = (0 : Int))))) (
  some (((0 : Int), (((0 : Int), ((0 : Int), ((0 : Int), false))), (((0 : Int), ((0 : Int), ((0 : Int), false))), (((0 : Int), (0 : Int)), ((0 : Int), ((0 : Int), (0 : Int))))))), r1.2)) (
  obind (cell_Merge n r0.1 r1.1) fun r2 =>
  some r2)))))) := by kernel_rfl
theorem series_kept_span_eq_2 (n : Nat) (s : Tseries_kept) (i : Int) (j : Int) : series_kept_span (n + 1) s (2 : Int) i j =
  tif ((decide (s.2.2.1 = ((-1) : Int)))) (
  some (((0 : Int), (((0 : Int), ((0 : Int), ((0 : Int), false))), (((0 : Int), ((0 : Int), ((0 : Int), false))), (((0 : Int), (0 : Int)), ((0 : Int), ((0 : Int), (0 : Int))))))), (0 : Int))) (
  tif ((decide (s.1.2.1.2.2 = (0 : Int)))) (
  none) (
  obind (tier_Fold n s.2.2.2.2.1.2.2 i j) fun r0 =>
  tif ((!(decide (r0.2 = (0 : Int))))) (
  some r0) (
  tif ((decide ((IntKind.wrap .i64 (Int.tdiv s.2.2.1 s.1.2.1.2.2)) < i))) (
  some r0) (
  tif ((decide (j ≤ (IntKind.wrap .i64 (Int.tdiv s.2.2.1 s.1.2.1.2.2))))) (
  some r0) (
  obind (series_kept_now n s (2 : Int)) fun r1 =>
  tif ((!(decide (r1.2 = (0 : Int))))) (
  some (((0 : Int), (((0 : Int), ((0 : Int), ((0 : Int), false))), (((0 : Int), ((0 : Int), ((0 : Int), false))), (((0 : Int), (0 : Int)), ((0 : Int), ((0 : Int), (0 : Int))))))), r1.2)) (
  obind (cell_Merge n r0.1 r1.1) fun r2 =>
  some r2)))))) := by kernel_rfl
theorem l05_Small_eq (n : Nat) (l : (List (List UInt8 × List UInt8))) : l05_Small (n + 1) l =
  obind (l05_Small_l2 n loopFuel (l, ((((List.length l) : Nat) : Int), ((0 : Int), ())))) fun r0 =>
  selim (fun y1 =>
  some (1 : Int)) (fun z2 =>
  some z2) r0 := by kernel_rfl
theorem l05_Small_l2_eq (n f : Nat) (s5 : (List (List UInt8 × List UInt8))) (s6 : Int) (s7 : Int) : l05_Small_l2 n (f + 1) (s5, s6, s7, ()) =
  tif ((decide (s7 < s6))) (
  obind (at? s5 s7) fun r0 =>
  tif ((decide (s7 = (40 : Int)))) (
  some (.inr (0 : Int))) (
  tif ((decide ((1000 : Int) < (((List.length r0.1) : Nat) : Int)))) (
  some (.inr (0 : Int))) (
  tif ((decide ((1000 : Int) < (((List.length r0.2) : Nat) : Int)))) (
  some (.inr (0 : Int))) (
  l05_Small_l2 n f (s5, (s6, ((IntKind.wrap .i64 (s7 + (1 : Int))), ()))))))) (
  some (.inl ())) := by kernel_rfl
theorem l14_Small_eq (n : Nat) (s : ((List TSlot) × ((List TSlot) × (List TSlot)))) : l14_Small (n + 1) s =
  obind (l14_Small_l2 n loopFuel (s, ((0 : Int), ()))) fun r0 =>
  selim (fun y1 =>
  some (1 : Int)) (fun z2 =>
  some z2) r0 := by kernel_rfl
theorem l14_Small_l2_eq (n f : Nat) (s_ : ((List TSlot) × ((List TSlot) × (List TSlot)))) (s4 : Int) : l14_Small_l2 n (f + 1) (s_, s4, ()) =
  tif ((decide (s4 < (3 : Int)))) (
  tif ((decide (s4 = (0 : Int)))) (
  tif ((decide ((40 : Int) < (((List.length s_.1) : Nat) : Int)))) (
  some (.inr (0 : Int))) (
  l14_Small_l2 n f (s_, ((IntKind.wrap .i64 (s4 + (1 : Int))), ())))) (
  tif ((decide (s4 = (1 : Int)))) (
  tif ((decide ((40 : Int) < (((List.length s_.2.1) : Nat) : Int)))) (
  some (.inr (0 : Int))) (
  l14_Small_l2 n f (s_, ((IntKind.wrap .i64 (s4 + (1 : Int))), ())))) (
  tif ((decide (s4 = (2 : Int)))) (
  tif ((decide ((40 : Int) < (((List.length s_.2.2) : Nat) : Int)))) (
  some (.inr (0 : Int))) (
  l14_Small_l2 n f (s_, ((IntKind.wrap .i64 (s4 + (1 : Int))), ())))) (
  none)))) (
  some (.inl ())) := by kernel_rfl
theorem r17_whole_eq (n : Nat) (s : TState) : r17_whole (n + 1) s =
  obind (r10_Check n s.1) fun r0 =>
  tif ((decide (r0 = (0 : Int)))) (
  some (decide ((((List.length s.2.2.2) : Nat) : Int) = s.1.2.2.2.1))) (
  some false) := by kernel_rfl
theorem r17_time_eq (n : Nat) (t : Int) : r17_time (n + 1) t =
  tif ((decide ((0 : Int) ≤ t))) (
  some (decide (t < (35184372088832 : Int)))) (
  some false) := by kernel_rfl
theorem r17_Mark_eq (n : Nat) (s : TState) : r17_Mark (n + 1) s =
  obind (r17_whole n s) fun r0 =>
  tif ((!r0)) (
  some (0 : Int)) (
  obind (r17_time n s.2.1) fun r1 =>
  tif ((!r1)) (
  some (0 : Int)) (
  tif ((decide (s.1.2.1.1 = (0 : Int)))) (
  none) (
  some (IntKind.wrap .i64 ((IntKind.wrap .i64 (Int.tdiv s.2.1 s.1.2.1.1)) * s.1.2.1.1))))) := by kernel_rfl
theorem r17_Empty_eq (n : Nat) (s : TSeries) : r17_Empty (n + 1) s =
  obind (r15_Same n s ([], ((0 : Int), (((0 : Int), ((0 : Int), [])), (([], ([], [])), ((0 : Int), ((0 : Int), (((0 : Int), ((0 : Int), ((0 : Int), false))), (((0 : Int), ((0 : Int), ((0 : Int), false))), (((0 : Int), (0 : Int)), ((0 : Int), ((0 : Int), (0 : Int))))))))))))) fun r0 =>
  some r0 := by kernel_rfl
theorem r15_Check_eq (n : Nat) (c : TConfig) (s : TSeries) : r15_Check (n + 1) c s =
  obind (r10_Check n c) fun r0 =>
  tif ((!(decide (r0 = (0 : Int))))) (
  some (2 : Int)) (
  obind (r05_Check n s.1) fun r1 =>
  tif ((!(decide (r1 = (0 : Int))))) (
  some (2 : Int)) (
  obind (r12_Check n s.2.2.1 c.1) fun r2 =>
  tif ((!(decide (r2 = (0 : Int))))) (
  some (2 : Int)) (
  obind (r14_Check n c s.2.2.2.1) fun r3 =>
  tif ((!(decide (r3 = (0 : Int))))) (
  some (2 : Int)) (
  tif ((decide (s.2.1 = ((-1) : Int)))) (
  tif ((decide ((0 : Int) < (((List.length s.2.2.1.2.2) : Nat) : Int)))) (
  some (2 : Int)) (
  tif ((!((decide (s.2.2.2.2.1 = (0 : Int))) && ((decide (s.2.2.2.2.2.1 = (0 : Int))) && ((decide (s.2.2.2.2.2.2.1.1 = (0 : Int))) && ((decide (s.2.2.2.2.2.2.1.2.1 = (0 : Int))) && ((decide (s.2.2.2.2.2.2.1.2.2.1 = (0 : Int))) && ((s.2.2.2.2.2.2.1.2.2.2 == false) && ((decide (s.2.2.2.2.2.2.2.1.1 = (0 : Int))) && ((decide (s.2.2.2.2.2.2.2.1.2.1 = (0 : Int))) && ((decide (s.2.2.2.2.2.2.2.1.2.2.1 = (0 : Int))) && ((s.2.2.2.2.2.2.2.1.2.2.2 == false) && ((decide (s.2.2.2.2.2.2.2.2.1.1 = (0 : Int))) && ((decide (s.2.2.2.2.2.2.2.2.1.2 = (0 : Int))) && ((decide (s.2.2.2.2.2.2.2.2.2.1 = (0 : Int))) && ((decide (s.2.2.2.2.2.2.2.2.2.2.1 = (0 : Int))) && (decide (s.2.2.2.2.2.2.2.2.2.2.2 = (0 : Int))))))))))))))))))) (
  some (2 : Int)) (
  obind (r15_Check_l7 n loopFuel (s, ((0 : Int), ()))) fun r4 =>
  selim (fun y5 =>
  some (0 : Int)) (fun z6 =>
  some z6) r4))) (
  obind (r12_Last n s.2.2.1) fun r7 =>
  tif ((!(decide (r7.2 = (0 : Int))))) (
  some (2 : Int)) (
  tif ((!(decide (r7.1.1 = s.2.1)))) (
  some (2 : Int)) (
  obind (r13_Fits n s.2.2.2.2.2 c.2.1.1 s.2.2.2.2.1) fun r8 =>
  tif ((!r8)) (
  some (2 : Int)) (
  tif ((!(decide (s.2.2.2.2.2.2.2.1.1 = s.2.1)))) (
  some (2 : Int)) (
  obind (r15_Check_l16 n loopFuel (c, (s, ((0 : Int), ())))) fun r9 =>
  selim (fun y10 =>
  some (0 : Int)) (fun z11 =>
  some z11) r9))))))))) := by kernel_rfl
theorem r15_Check_l7_eq (n f : Nat) (s_ : TSeries) (k : Int) : r15_Check_l7 n (f + 1) (s_, k, ()) =
  tif ((decide (k < (3 : Int)))) (
  tif ((decide (k = (0 : Int)))) (
  obind (r13_All n s_.2.2.2.1.1) fun r0 =>
  tif ((decide ((0 : Int) < (((List.length r0) : Nat) : Int)))) (
  some (.inr (2 : Int))) (
  r15_Check_l7 n f (s_, ((IntKind.wrap .i64 (k + (1 : Int))), ())))) (
  tif ((decide (k = (1 : Int)))) (
  obind (r13_All n s_.2.2.2.1.2.1) fun r1 =>
  tif ((decide ((0 : Int) < (((List.length r1) : Nat) : Int)))) (
  some (.inr (2 : Int))) (
  r15_Check_l7 n f (s_, ((IntKind.wrap .i64 (k + (1 : Int))), ())))) (
  tif ((decide (k = (2 : Int)))) (
  obind (r13_All n s_.2.2.2.1.2.2) fun r2 =>
  tif ((decide ((0 : Int) < (((List.length r2) : Nat) : Int)))) (
  some (.inr (2 : Int))) (
  r15_Check_l7 n f (s_, ((IntKind.wrap .i64 (k + (1 : Int))), ())))) (
  none)))) (
  some (.inl ())) := by kernel_rfl
theorem r15_Check_l16_eq (n f : Nat) (c_ : TConfig) (s_ : TSeries) (k_ : Int) : r15_Check_l16 n (f + 1) (c_, s_, k_, ()) =
  tif ((decide (k_ < (3 : Int)))) (
  tif ((decide (k_ = (0 : Int)))) (
  obind (r13_All n s_.2.2.2.1.1) fun r0 =>
  obind (r15_Check_l19 n loopFuel (c_, (s_, (k_, (r0, ((((List.length r0) : Nat) : Int), ((0 : Int), ()))))))) fun r1 =>
  selim (fun y2 =>
  r15_Check_l16 n f (y2.1, (y2.2.1, ((IntKind.wrap .i64 (y2.2.2.1 + (1 : Int))), ())))) (fun z3 =>
  some (.inr z3)) r1) (
  tif ((decide (k_ = (1 : Int)))) (
  obind (r13_All n s_.2.2.2.1.2.1) fun r4 =>
  obind (r15_Check_l19 n loopFuel (c_, (s_, (k_, (r4, ((((List.length r4) : Nat) : Int), ((0 : Int), ()))))))) fun r5 =>
  selim (fun y6 =>
  r15_Check_l16 n f (y6.1, (y6.2.1, ((IntKind.wrap .i64 (y6.2.2.1 + (1 : Int))), ())))) (fun z7 =>
  some (.inr z7)) r5) (
  tif ((decide (k_ = (2 : Int)))) (
  obind (r13_All n s_.2.2.2.1.2.2) fun r8 =>
  obind (r15_Check_l19 n loopFuel (c_, (s_, (k_, (r8, ((((List.length r8) : Nat) : Int), ((0 : Int), ()))))))) fun r9 =>
  selim (fun y10 =>
  r15_Check_l16 n f (y10.1, (y10.2.1, ((IntKind.wrap .i64 (y10.2.2.1 + (1 : Int))), ())))) (fun z11 =>
  some (.inr z11)) r9) (
  none)))) (
  some (.inl ())) := by kernel_rfl
theorem r15_Check_l19_eq (n f : Nat) (c_ : TConfig) (s_ : TSeries) (k_ : Int) (s106 : (List TSlot)) (s107 : Int) (s108 : Int) : r15_Check_l19 n (f + 1) (c_, s_, k_, s106, s107, s108, ()) =
  tif ((decide (s108 < s107))) (
  obind (at? s106 s108) fun r0 =>
  tif ((decide (k_ = (0 : Int)))) (
  tif ((decide (c_.2.1.1 = (0 : Int)))) (
  none) (
  tif ((decide ((IntKind.wrap .i64 (Int.tdiv s_.2.1 c_.2.1.1)) ≤ r0.1))) (
  some (.inr (2 : Int))) (
  r15_Check_l19 n f (c_, (s_, (k_, (s106, (s107, ((IntKind.wrap .i64 (s108 + (1 : Int))), ()))))))))) (
  tif ((decide (k_ = (1 : Int)))) (
  tif ((decide (c_.2.1.2.1 = (0 : Int)))) (
  none) (
  tif ((decide ((IntKind.wrap .i64 (Int.tdiv s_.2.1 c_.2.1.2.1)) ≤ r0.1))) (
  some (.inr (2 : Int))) (
  r15_Check_l19 n f (c_, (s_, (k_, (s106, (s107, ((IntKind.wrap .i64 (s108 + (1 : Int))), ()))))))))) (
  tif ((decide (k_ = (2 : Int)))) (
  tif ((decide (c_.2.1.2.2 = (0 : Int)))) (
  none) (
  tif ((decide ((IntKind.wrap .i64 (Int.tdiv s_.2.1 c_.2.1.2.2)) ≤ r0.1))) (
  some (.inr (2 : Int))) (
  r15_Check_l19 n f (c_, (s_, (k_, (s106, (s107, ((IntKind.wrap .i64 (s108 + (1 : Int))), ()))))))))) (
  none)))) (
  some (.inl (c_, (s_, (k_, ()))))) := by kernel_rfl
theorem r17_lives_eq (n : Nat) (s : TState) (i : Int) : r17_lives (n + 1) s i =
  obind (at? s.2.2.2 i) fun r0 =>
  obind (r17_Empty n r0) fun r1 =>
  tif ((!r1)) (
  tif ((decide (s.2.2.1 = ((-1) : Int)))) (
  some true) (
  obind (at? s.2.2.2 i) fun r2 =>
  obind (r15_Dead n s.1 r2.2.1 s.2.2.1) fun r3 =>
  some (!r3))) (
  some false) := by kernel_rfl
theorem r05_Same_eq (n : Nat) (a : (List (List UInt8 × List UInt8))) (b : (List (List UInt8 × List UInt8))) : r05_Same (n + 1) a b =
  tif ((!(decide ((((List.length a) : Nat) : Int) = (((List.length b) : Nat) : Int))))) (
  some false) (
  obind (r05_Same_l4 n loopFuel (a, (b, ((((List.length a) : Nat) : Int), ((0 : Int), ()))))) fun r0 =>
  selim (fun y1 =>
  some true) (fun z2 =>
  some z2) r0) := by kernel_rfl
theorem r05_Same_l4_eq (n f : Nat) (a : (List (List UInt8 × List UInt8))) (b : (List (List UInt8 × List UInt8))) (s12 : Int) (s13 : Int) : r05_Same_l4 n (f + 1) (a, b, s12, s13, ()) =
  tif ((decide (s13 < s12))) (
  obind (at? a s13) fun r0 =>
  obind (at? b s13) fun r1 =>
  tif ((!((r0.1 == r1.1) && (r0.2 == r1.2)))) (
  some (.inr false)) (
  r05_Same_l4 n f (a, (b, (s12, ((IntKind.wrap .i64 (s13 + (1 : Int))), ())))))) (
  some (.inl ())) := by kernel_rfl
theorem window_Of_eq (n : Nat) (t : Int) (w : Int) : window_Of (n + 1) t w =
  obind (window_in_int64 n t (0 : Int) (35184372088831 : Int)) fun r0 =>
  tif ((!r0)) (
  some ((0 : Int), (1 : Int))) (
  obind (window_width n w) fun r1 =>
  tif ((!r1)) (
  some ((0 : Int), (1 : Int))) (
  tif ((decide (w = (0 : Int)))) (
  none) (
  some ((IntKind.wrap .i64 (Int.tdiv t w)), (0 : Int))))) := by kernel_rfl
theorem window_in_int_eq (n : Nat) (n_ : Int) (low : Int) (high : Int) : window_in_int (n + 1) n_ low high =
  tif ((decide (low ≤ n_))) (
  some (decide (n_ ≤ high))) (
  some false) := by kernel_rfl
theorem sweep_needed_eq_0 (n : Nat) (c : TConfig) (last : Int) : sweep_needed (n + 1) c last (0 : Int) =
  tif ((decide (c.2.1.1 = (0 : Int)))) (
  none) (
  tif ((decide (c.2.1.2.1 = (0 : Int)))) (
  none) (
  some ((IntKind.wrap .i64 ((IntKind.wrap .i64 (Int.tdiv last c.2.1.2.1)) * (IntKind.wrap .i64 (Int.tdiv c.2.1.2.1 c.2.1.1)))), (IntKind.wrap .i64 ((IntKind.wrap .i64 ((IntKind.wrap .i64 (Int.tdiv last c.2.1.2.1)) * (IntKind.wrap .i64 (Int.tdiv c.2.1.2.1 c.2.1.1)))) + (IntKind.wrap .i64 (Int.tdiv c.2.1.2.1 c.2.1.1))))))) := by kernel_rfl
theorem sweep_needed_eq_1 (n : Nat) (c : TConfig) (last : Int) : sweep_needed (n + 1) c last (1 : Int) =
  tif ((decide (c.2.1.2.1 = (0 : Int)))) (
  none) (
  tif ((decide (c.2.1.2.2 = (0 : Int)))) (
  none) (
  some ((IntKind.wrap .i64 ((IntKind.wrap .i64 (Int.tdiv last c.2.1.2.2)) * (IntKind.wrap .i64 (Int.tdiv c.2.1.2.2 c.2.1.2.1)))), (IntKind.wrap .i64 ((IntKind.wrap .i64 ((IntKind.wrap .i64 (Int.tdiv last c.2.1.2.2)) * (IntKind.wrap .i64 (Int.tdiv c.2.1.2.2 c.2.1.2.1)))) + (IntKind.wrap .i64 (Int.tdiv c.2.1.2.2 c.2.1.2.1))))))) := by kernel_rfl
theorem sweep_needed_eq_2 (n : Nat) (c : TConfig) (last : Int) : sweep_needed (n + 1) c last (2 : Int) =
  some ((0 : Int), (0 : Int)) := by kernel_rfl
theorem slices_Clone_Slot_eq (n : Nat) (s : (List TSlot)) : slices_Clone_Slot (n + 1) s =
  tif ((decide ((List.length s) = 0))) (
  both (
  some []) (
  tif ((decide (((0 + (List.length s)) * 120) ≤ 140737488355328))) (
  some ([] ++ s)) (
  none))) (
  tif ((decide (((0 + (List.length s)) * 120) ≤ 140737488355328))) (
  some ([] ++ s)) (
  none)) := by kernel_rfl
theorem r09_Of_eq (n : Nat) (t : Int) (w : Int) : r09_Of (n + 1) t w =
  tif ((decide (t < (0 : Int)))) (
  some ((0 : Int), (1 : Int))) (
  tif ((decide ((35184372088832 : Int) ≤ t))) (
  some ((0 : Int), (1 : Int))) (
  obind (r09_width n w) fun r0 =>
  tif ((!r0)) (
  some ((0 : Int), (1 : Int))) (
  tif ((decide (w = (0 : Int)))) (
  none) (
  tif ((decide (w = (0 : Int)))) (
  none) (
  some ((IntKind.wrap .i64 (Int.tdiv (IntKind.wrap .i64 (t - (Int.tmod t w))) w)), (0 : Int))))))) := by kernel_rfl
theorem r10_Factor_eq (n : Nat) (c : TConfig) (tier : Int) : r10_Factor (n + 1) c tier =
  obind (r10_Check n c) fun r0 =>
  tif ((!(decide (r0 = (0 : Int))))) (
  some (0 : Int)) (
  tif ((decide (tier < (1 : Int)))) (
  some (0 : Int)) (
  tif ((decide ((2 : Int) < tier))) (
  some (0 : Int)) (
  tif ((decide (tier = (0 : Int)))) (
  tif ((decide ((IntKind.wrap .i64 (tier - (1 : Int))) = (0 : Int)))) (
  tif ((decide (c.2.1.1 = (0 : Int)))) (
  none) (
  some (IntKind.wrap .i64 (Int.tdiv c.2.1.1 c.2.1.1)))) (
  tif ((decide ((IntKind.wrap .i64 (tier - (1 : Int))) = (1 : Int)))) (
  tif ((decide (c.2.1.2.1 = (0 : Int)))) (
  none) (
  some (IntKind.wrap .i64 (Int.tdiv c.2.1.1 c.2.1.2.1)))) (
  tif ((decide ((IntKind.wrap .i64 (tier - (1 : Int))) = (2 : Int)))) (
  tif ((decide (c.2.1.2.2 = (0 : Int)))) (
  none) (
  some (IntKind.wrap .i64 (Int.tdiv c.2.1.1 c.2.1.2.2)))) (
  none)))) (
  tif ((decide (tier = (1 : Int)))) (
  tif ((decide ((IntKind.wrap .i64 (tier - (1 : Int))) = (0 : Int)))) (
  tif ((decide (c.2.1.1 = (0 : Int)))) (
  none) (
  some (IntKind.wrap .i64 (Int.tdiv c.2.1.2.1 c.2.1.1)))) (
  tif ((decide ((IntKind.wrap .i64 (tier - (1 : Int))) = (1 : Int)))) (
  tif ((decide (c.2.1.2.1 = (0 : Int)))) (
  none) (
  some (IntKind.wrap .i64 (Int.tdiv c.2.1.2.1 c.2.1.2.1)))) (
  tif ((decide ((IntKind.wrap .i64 (tier - (1 : Int))) = (2 : Int)))) (
  tif ((decide (c.2.1.2.2 = (0 : Int)))) (
  none) (
  some (IntKind.wrap .i64 (Int.tdiv c.2.1.2.1 c.2.1.2.2)))) (
  none)))) (
  tif ((decide (tier = (2 : Int)))) (
  tif ((decide ((IntKind.wrap .i64 (tier - (1 : Int))) = (0 : Int)))) (
  tif ((decide (c.2.1.1 = (0 : Int)))) (
  none) (
  some (IntKind.wrap .i64 (Int.tdiv c.2.1.2.2 c.2.1.1)))) (
  tif ((decide ((IntKind.wrap .i64 (tier - (1 : Int))) = (1 : Int)))) (
  tif ((decide (c.2.1.2.1 = (0 : Int)))) (
  none) (
  some (IntKind.wrap .i64 (Int.tdiv c.2.1.2.2 c.2.1.2.1)))) (
  tif ((decide ((IntKind.wrap .i64 (tier - (1 : Int))) = (2 : Int)))) (
  tif ((decide (c.2.1.2.2 = (0 : Int)))) (
  none) (
  some (IntKind.wrap .i64 (Int.tdiv c.2.1.2.2 c.2.1.2.2)))) (
  none)))) (
  none)))))) := by kernel_rfl
theorem r12_Same_eq (n : Nat) (a : (Int × (Int × (List TEvent)))) (b : (Int × (Int × (List TEvent)))) : r12_Same (n + 1) a b =
  tif ((decide (a.1 = b.1))) (
  tif ((decide (a.2.1 = b.2.1))) (
  obind (r12_SameList n a.2.2 b.2.2) fun r0 =>
  some r0) (
  some false)) (
  some false) := by kernel_rfl
theorem r14_Same_eq (n : Nat) (a : ((List TSlot) × ((List TSlot) × (List TSlot)))) (b : ((List TSlot) × ((List TSlot) × (List TSlot)))) : r14_Same (n + 1) a b =
  obind (r13_Same n a.1 b.1) fun r0 =>
  tif ((!r0)) (
  some false) (
  obind (r13_Same n a.2.1 b.2.1) fun r1 =>
  tif ((!r1)) (
  some false) (
  obind (r13_Same n a.2.2 b.2.2) fun r2 =>
  tif ((!r2)) (
  some false) (
  some true))) := by kernel_rfl
theorem slices_IndexFunc_int_eq (n : Nat) (s : (List Int)) (f_ : ((Int × Unit) → Option Bool)) : slices_IndexFunc_int (n + 1) s f_ =
  obind (slices_IndexFunc_int_l2 n loopFuel (s, (f_, ((((List.length s) : Nat) : Int), ((0 : Int), ()))))) fun r0 =>
  selim (fun y1 =>
  some ((-1) : Int)) (fun z2 =>
  some z2) r0 := by kernel_rfl
theorem slices_IndexFunc_int_l2_eq (n f : Nat) (s : (List Int)) (f_ : ((Int × Unit) → Option Bool)) (s7 : Int) (s8 : Int) : slices_IndexFunc_int_l2 n (f + 1) (s, f_, s7, s8, ()) =
  tif ((decide (s8 < s7))) (
  obind (at? s s8) fun r0 =>
  obind (f_ (r0, ())) fun r1 =>
  tif (r1) (
  some (.inr s8)) (
  slices_IndexFunc_int_l2 n f (s, (f_, (s7, ((IntKind.wrap .i64 (s8 + (1 : Int))), ())))))) (
  some (.inl ())) := by kernel_rfl
theorem conf_Check_eq (n : Nat) (c : TConfig) : conf_Check (n + 1) c =
  obind (conf_in_int n c.1 (1 : Int) (4096 : Int)) fun r0 =>
  tif (r0) (
  obind (conf_in_int n c.2.2.2.1 (1 : Int) (65536 : Int)) fun r1 =>
  tif (r1) (
  obind (conf_in_int n c.2.2.2.2 (1 : Int) (8192 : Int)) fun r2 =>
  tif (r2) (
  obind (conf_in_int64 n c.2.1.1 (1 : Int) (1099511627776 : Int)) fun r3 =>
  tif (r3) (
  obind (conf_in_int n c.2.2.1.1 (1 : Int) (4096 : Int)) fun r4 =>
  tif (r4) (
  obind (conf_in_int64 n c.2.1.2.1 (1 : Int) (1099511627776 : Int)) fun r5 =>
  tif (r5) (
  obind (conf_in_int n c.2.2.1.2.1 (1 : Int) (4096 : Int)) fun r6 =>
  tif (r6) (
  obind (conf_in_int64 n c.2.1.2.2 (1 : Int) (1099511627776 : Int)) fun r7 =>
  tif (r7) (
  obind (conf_in_int n c.2.2.1.2.2 (1 : Int) (4096 : Int)) fun r8 =>
  tif (r8) (
  tif ((decide (c.2.1.1 = (0 : Int)))) (
  none) (
  tif ((decide ((Int.tmod c.2.1.2.1 c.2.1.1) = (0 : Int)))) (
  tif ((decide (c.2.1.1 = (0 : Int)))) (
  none) (
  tif ((decide ((IntKind.wrap .i64 (Int.tdiv c.2.1.2.1 c.2.1.1)) ≤ c.2.2.1.1))) (
  tif ((decide (c.2.1.2.1 = (0 : Int)))) (
  none) (
  tif ((decide ((Int.tmod c.2.1.2.2 c.2.1.2.1) = (0 : Int)))) (
  tif ((decide (c.2.1.2.1 = (0 : Int)))) (
  none) (
  tif ((decide ((IntKind.wrap .i64 (Int.tdiv c.2.1.2.2 c.2.1.2.1)) ≤ c.2.2.1.2.1))) (
  tif ((!(decide ((IntKind.wrap .i64 (Int.tdiv c.2.1.2.2 c.2.1.2.1)) ≤ c.2.2.1.2.1)))) (
  some (2 : Int)) (
  obind (conf_place n c) fun r9 =>
  tif ((decide (c.2.2.2.2 ≤ r9))) (
  some (2 : Int)) (
  some (0 : Int)))) (
  tif ((!(decide ((IntKind.wrap .i64 (Int.tdiv c.2.1.2.2 c.2.1.2.1)) ≤ c.2.2.1.2.1)))) (
  some (2 : Int)) (
  obind (conf_place n c) fun r10 =>
  tif ((decide (c.2.2.2.2 ≤ r10))) (
  some (2 : Int)) (
  some (0 : Int)))))) (
  some (2 : Int)))) (
  tif ((!(decide ((IntKind.wrap .i64 (Int.tdiv c.2.1.2.1 c.2.1.1)) ≤ c.2.2.1.1)))) (
  some (2 : Int)) (
  obind (conf_place n c) fun r11 =>
  tif ((decide (c.2.2.2.2 ≤ r11))) (
  some (2 : Int)) (
  some (0 : Int)))))) (
  some (2 : Int)))) (
  tif ((!r8)) (
  some (2 : Int)) (
  obind (conf_place n c) fun r12 =>
  tif ((decide (c.2.2.2.2 ≤ r12))) (
  some (2 : Int)) (
  some (0 : Int))))) (
  some (2 : Int))) (
  some (2 : Int))) (
  some (2 : Int))) (
  some (2 : Int))) (
  some (2 : Int))) (
  some (2 : Int))) (
  some (2 : Int))) (
  some (2 : Int)) := by kernel_rfl
theorem window_Gone_eq (n : Nat) (t : Int) (now : Int) (w : Int) (n_ : Int) : window_Gone (n + 1) t now w n_ =
  obind (window_Of n t w) fun r0 =>
  obind (window_Oldest n now w n_) fun r1 =>
  tif ((decide (r0.2 = (0 : Int)))) (
  tif ((decide (r1.2 = (0 : Int)))) (
  some (decide (r0.1 < r1.1))) (
  some false)) (
  some false) := by kernel_rfl
theorem r10_Check_eq (n : Nat) (c : TConfig) : r10_Check (n + 1) c =
  tif ((decide (c.1 < (1 : Int)))) (
  some (2 : Int)) (
  tif ((decide ((4096 : Int) < c.1))) (
  some (2 : Int)) (
  tif ((decide (c.2.2.2.1 < (1 : Int)))) (
  some (2 : Int)) (
  tif ((decide ((65536 : Int) < c.2.2.2.1))) (
  some (2 : Int)) (
  tif ((decide (c.2.2.2.2 < (1 : Int)))) (
  some (2 : Int)) (
  tif ((decide ((8192 : Int) < c.2.2.2.2))) (
  some (2 : Int)) (
  tif ((decide (c.2.1.1 < (1 : Int)))) (
  some (2 : Int)) (
  tif ((decide ((1099511627776 : Int) < c.2.1.1))) (
  some (2 : Int)) (
  tif ((decide (c.2.2.1.1 < (1 : Int)))) (
  some (2 : Int)) (
  tif ((decide ((4096 : Int) < c.2.2.1.1))) (
  some (2 : Int)) (
  tif ((decide (c.2.1.2.1 < (1 : Int)))) (
  some (2 : Int)) (
  tif ((decide ((1099511627776 : Int) < c.2.1.2.1))) (
  some (2 : Int)) (
  tif ((decide (c.2.2.1.2.1 < (1 : Int)))) (
  some (2 : Int)) (
  tif ((decide ((4096 : Int) < c.2.2.1.2.1))) (
  some (2 : Int)) (
  tif ((decide (c.2.1.1 = (0 : Int)))) (
  none) (
  tif ((!(decide ((Int.tmod c.2.1.2.1 c.2.1.1) = (0 : Int))))) (
  some (2 : Int)) (
  tif ((decide (c.2.1.1 = (0 : Int)))) (
  none) (
  tif ((decide (c.2.2.1.1 < (IntKind.wrap .i64 (Int.tdiv c.2.1.2.1 c.2.1.1))))) (
  some (2 : Int)) (
  tif ((decide (c.2.1.2.2 < (1 : Int)))) (
  some (2 : Int)) (
  tif ((decide ((1099511627776 : Int) < c.2.1.2.2))) (
  some (2 : Int)) (
  tif ((decide (c.2.2.1.2.2 < (1 : Int)))) (
  some (2 : Int)) (
  tif ((decide ((4096 : Int) < c.2.2.1.2.2))) (
  some (2 : Int)) (
  tif ((decide (c.2.1.2.1 = (0 : Int)))) (
  none) (
  tif ((!(decide ((Int.tmod c.2.1.2.2 c.2.1.2.1) = (0 : Int))))) (
  some (2 : Int)) (
  tif ((decide (c.2.1.2.1 = (0 : Int)))) (
  none) (
  tif ((decide (c.2.2.1.2.1 < (IntKind.wrap .i64 (Int.tdiv c.2.1.2.2 c.2.1.2.1))))) (
  some (2 : Int)) (
  obind (r10_place n c) fun r0 =>
  tif ((decide (c.2.2.2.2 ≤ r0))) (
  some (2 : Int)) (
  some (0 : Int)))))))))))))))))))))))))))) := by kernel_rfl
theorem r09_Gone_eq (n : Nat) (t : Int) (now : Int) (w : Int) (n_ : Int) : r09_Gone (n + 1) t now w n_ =
  obind (r09_Of n t w) fun r0 =>
  obind (r09_Oldest n now w n_) fun r1 =>
  tif ((decide (r0.2 = (0 : Int)))) (
  tif ((decide (r1.2 = (0 : Int)))) (
  some (decide (r0.1 < r1.1))) (
  some false)) (
  some false) := by kernel_rfl
theorem state_time_eq (n : Nat) (t : Int) : state_time (n + 1) t =
  tif ((decide ((0 : Int) ≤ t))) (
  some (decide (t < (35184372088832 : Int)))) (
  some false) := by kernel_rfl
theorem state_empty_eq (n : Nat) (s : TSeries) : state_empty (n + 1) s =
  obind (series_Same n s ([], ((0 : Int), (((0 : Int), ((0 : Int), [])), (([], ([], [])), ((0 : Int), ((0 : Int), (((0 : Int), ((0 : Int), ((0 : Int), false))), (((0 : Int), ((0 : Int), ((0 : Int), false))), (((0 : Int), (0 : Int)), ((0 : Int), ((0 : Int), (0 : Int))))))))))))) fun r0 =>
  some r0 := by kernel_rfl
theorem series_Check_eq (n : Nat) (c : TConfig) (s : TSeries) : series_Check (n + 1) c s =
  obind (series_open n c s) fun r0 =>
  oelim (r0.1) (
  some r0.2) fun r1 =>
  some r0.2 := by kernel_rfl
theorem state_view_mark_eq (n : Nat) (v : TState) : state_view_mark (n + 1) v =
  tif ((decide (v.1.2.1.1 = (0 : Int)))) (
  none) (
  some (IntKind.wrap .i64 (v.2.1 - (Int.tmod v.2.1 v.1.2.1.1)))) := by kernel_rfl
theorem state_view_twin_eq (n : Nat) (v : TState) (i : Int) : state_view_twin (n + 1) v i =
  obind (state_view_place n v (fun y0 => state_view_twin_1 n y0.1 i v)) fun r1 =>
  tif ((decide (r1 < i))) (
  obind (state_view_lives n v i) fun r2 =>
  some r2) (
  some false) := by kernel_rfl
theorem label_Same_eq (n : Nat) (a : (List (List UInt8 × List UInt8))) (b : (List (List UInt8 × List UInt8))) : label_Same (n + 1) a b =
  obind (slices_Equal_Label n a b) fun r0 =>
  some r0 := by kernel_rfl
theorem raw_Same_eq (n : Nat) (a : (Int × (Int × (List TEvent)))) (b : (Int × (Int × (List TEvent)))) : raw_Same (n + 1) a b =
  tif ((decide (a.1 = b.1))) (
  tif ((decide (a.2.1 = b.2.1))) (
  obind (slices_Equal_Event n a.2.2 b.2.2) fun r0 =>
  some r0) (
  some false)) (
  some false) := by kernel_rfl
theorem slices_Equal_Slot_eq (n : Nat) (s1 : (List TSlot)) (s2 : (List TSlot)) : slices_Equal_Slot (n + 1) s1 s2 =
  tif ((!(decide ((((List.length s1) : Nat) : Int) = (((List.length s2) : Nat) : Int))))) (
  some false) (
  obind (slices_Equal_Slot_l4 n loopFuel (s1, (s2, ((((List.length s1) : Nat) : Int), ((0 : Int), ()))))) fun r0 =>
  selim (fun y1 =>
  some true) (fun z2 =>
  some z2) r0) := by kernel_rfl
theorem slices_Equal_Slot_l4_eq (n f : Nat) (s1 : (List TSlot)) (s2 : (List TSlot)) (s12 : Int) (s13 : Int) : slices_Equal_Slot_l4 n (f + 1) (s1, s2, s12, s13, ()) =
  tif ((decide (s13 < s12))) (
  obind (at? s1 s13) fun r0 =>
  obind (at? s2 s13) fun r1 =>
  tif ((!((decide (r0.1 = r1.1)) && ((decide (r0.2.1 = r1.2.1)) && ((decide (r0.2.2.1.1 = r1.2.2.1.1)) && ((decide (r0.2.2.1.2.1 = r1.2.2.1.2.1)) && ((decide (r0.2.2.1.2.2.1 = r1.2.2.1.2.2.1)) && ((r0.2.2.1.2.2.2 == r1.2.2.1.2.2.2) && ((decide (r0.2.2.2.1.1 = r1.2.2.2.1.1)) && ((decide (r0.2.2.2.1.2.1 = r1.2.2.2.1.2.1)) && ((decide (r0.2.2.2.1.2.2.1 = r1.2.2.2.1.2.2.1)) && ((r0.2.2.2.1.2.2.2 == r1.2.2.2.1.2.2.2) && ((decide (r0.2.2.2.2.1.1 = r1.2.2.2.2.1.1)) && ((decide (r0.2.2.2.2.1.2 = r1.2.2.2.2.1.2)) && ((decide (r0.2.2.2.2.2.1 = r1.2.2.2.2.2.1)) && ((decide (r0.2.2.2.2.2.2.1 = r1.2.2.2.2.2.2.1)) && (decide (r0.2.2.2.2.2.2.2 = r1.2.2.2.2.2.2.2)))))))))))))))))) (
  some (.inr false)) (
  slices_Equal_Slot_l4 n f (s1, (s2, (s12, ((IntKind.wrap .i64 (s13 + (1 : Int))), ())))))) (
  some (.inl ())) := by kernel_rfl
theorem fold_Check_eq (n : Nat) (c : TConfig) (s : ((List TSlot) × ((List TSlot) × (List TSlot)))) : fold_Check (n + 1) c s =
  obind (fold_open n c s) fun r0 =>
  oelim (r0.1) (
  some r0.2) fun r1 =>
  some r0.2 := by kernel_rfl
theorem label_Check_eq (n : Nat) (l : (List (List UInt8 × List UInt8))) : label_Check (n + 1) l =
  tif ((decide ((((List.length l) : Nat) : Int) = (0 : Int)))) (
  some (8 : Int)) (
  tif ((decide ((16 : Int) < (((List.length l) : Nat) : Int)))) (
  some (8 : Int)) (
  obind (label_Check_l5 n loopFuel (l, ((256 : Int), (l, ((((List.length l) : Nat) : Int), ((0 : Int), ())))))) fun r0 =>
  selim (fun y1 =>
  some (0 : Int)) (fun z2 =>
  some z2) r0)) := by kernel_rfl
theorem label_Check_l5_eq (n f : Nat) (l : (List (List UInt8 × List UInt8))) (left : Int) (s14 : (List (List UInt8 × List UInt8))) (s15 : Int) (s16 : Int) : label_Check_l5 n (f + 1) (l, left, s14, s15, s16, ()) =
  tif ((decide (s16 < s15))) (
  obind (at? s14 s16) fun r0 =>
  obind (label_name n r0.1) fun r1 =>
  tif ((!r1)) (
  some (.inr (8 : Int))) (
  tif ((decide ((128 : Int) < (((List.length r0.2) : Nat) : Int)))) (
  some (.inr (8 : Int))) (
  tif ((decide ((IntKind.wrap .i64 (left - (IntKind.wrap .i64 ((((List.length r0.1) : Nat) : Int) + (((List.length r0.2) : Nat) : Int))))) < (0 : Int)))) (
  some (.inr (8 : Int))) (
  tif ((decide ((0 : Int) < s16))) (
  obind (at? l (IntKind.wrap .i64 (s16 - (1 : Int)))) fun r2 =>
  tif ((!(Go.Op.bytesLess r2.1 r0.1))) (
  some (.inr (8 : Int))) (
  label_Check_l5 n f (l, ((IntKind.wrap .i64 (left - (IntKind.wrap .i64 ((((List.length r0.1) : Nat) : Int) + (((List.length r0.2) : Nat) : Int))))), (s14, (s15, ((IntKind.wrap .i64 (s16 + (1 : Int))), ()))))))) (
  label_Check_l5 n f (l, ((IntKind.wrap .i64 (left - (IntKind.wrap .i64 ((((List.length r0.1) : Nat) : Int) + (((List.length r0.2) : Nat) : Int))))), (s14, (s15, ((IntKind.wrap .i64 (s16 + (1 : Int))), ())))))))))) (
  some (.inl ())) := by kernel_rfl
theorem raw_Check_eq (n : Nat) (r : (Int × (Int × (List TEvent)))) (room : Int) : raw_Check (n + 1) r room =
  tif ((decide (room < (1 : Int)))) (
  some (2 : Int)) (
  tif ((decide ((4096 : Int) < room))) (
  some (2 : Int)) (
  tif ((decide (room < (((List.length r.2.2) : Nat) : Int)))) (
  some (2 : Int)) (
  tif ((decide (r.1 < (0 : Int)))) (
  some (2 : Int)) (
  tif ((decide ((70368744177664 : Int) < r.1))) (
  some (2 : Int)) (
  obind (raw_rising n r.2.2) fun r0 =>
  tif ((!r0)) (
  some (2 : Int)) (
  obind (raw_marked n r room) fun r1 =>
  tif ((!r1)) (
  some (2 : Int)) (
  some (0 : Int)))))))) := by kernel_rfl
theorem series_kept_fresh_eq (n : Nat) (s : Tseries_kept) : series_kept_fresh (n + 1) s =
  tif ((decide ((((List.length s.2.2.2.1.2.2) : Nat) : Int) = (0 : Int)))) (
  tif (((decide (s.2.2.2.2.2.1 = (0 : Int))) && ((decide (s.2.2.2.2.2.2.1 = (0 : Int))) && ((decide (s.2.2.2.2.2.2.2.1.1 = (0 : Int))) && ((decide (s.2.2.2.2.2.2.2.1.2.1 = (0 : Int))) && ((decide (s.2.2.2.2.2.2.2.1.2.2.1 = (0 : Int))) && ((s.2.2.2.2.2.2.2.1.2.2.2 == false) && ((decide (s.2.2.2.2.2.2.2.2.1.1 = (0 : Int))) && ((decide (s.2.2.2.2.2.2.2.2.1.2.1 = (0 : Int))) && ((decide (s.2.2.2.2.2.2.2.2.1.2.2.1 = (0 : Int))) && ((s.2.2.2.2.2.2.2.2.1.2.2.2 == false) && ((decide (s.2.2.2.2.2.2.2.2.2.1.1 = (0 : Int))) && ((decide (s.2.2.2.2.2.2.2.2.2.1.2 = (0 : Int))) && ((decide (s.2.2.2.2.2.2.2.2.2.2.1 = (0 : Int))) && ((decide (s.2.2.2.2.2.2.2.2.2.2.2.1 = (0 : Int))) && (decide (s.2.2.2.2.2.2.2.2.2.2.2.2 = (0 : Int)))))))))))))))))) (
  obind (series_behind n s.2.2.2.2.1.1 (0 : Int)) fun r0 =>
  tif ((!r0)) (
  obind (series_behind n s.2.2.2.2.1.2.1 (0 : Int)) fun r1 =>
  tif ((!r1)) (
  obind (series_behind n s.2.2.2.2.1.2.2 (0 : Int)) fun r2 =>
  some (!r2)) (
  some false)) (
  some false)) (
  some false)) (
  some false) := by kernel_rfl
theorem series_kept_ends_eq (n : Nat) (s : Tseries_kept) : series_kept_ends (n + 1) s =
  obind (raw_Last n s.2.2.2.1) fun r0 =>
  tif ((decide (r0.2 = (0 : Int)))) (
  tif ((decide (r0.1.1 = s.2.2.1))) (
  tif ((decide (s.2.2.2.2.2.2.2.2.1.1 = s.2.2.1))) (
  obind (tier_Fits n s.2.2.2.2.2.2 s.1.2.1.1 s.2.2.2.2.2.1) fun r1 =>
  tif (r1) (
  tif ((decide (s.1.2.1.1 = (0 : Int)))) (
  none) (
  obind (series_behind n s.2.2.2.2.1.1 (IntKind.wrap .i64 (Int.tdiv s.2.2.1 s.1.2.1.1))) fun r2 =>
  tif ((!r2)) (
  tif ((decide (s.1.2.1.2.1 = (0 : Int)))) (
  none) (
  obind (series_behind n s.2.2.2.2.1.2.1 (IntKind.wrap .i64 (Int.tdiv s.2.2.1 s.1.2.1.2.1))) fun r3 =>
  tif ((!r3)) (
  tif ((decide (s.1.2.1.2.2 = (0 : Int)))) (
  none) (
  obind (series_behind n s.2.2.2.2.1.2.2 (IntKind.wrap .i64 (Int.tdiv s.2.2.1 s.1.2.1.2.2))) fun r4 =>
  some (!r4))) (
  some false))) (
  some false))) (
  some false)) (
  some false)) (
  some false)) (
  some false) := by kernel_rfl
theorem tier_Fold_eq (n : Nat) (l : (List TSlot)) (i : Int) (k : Int) : tier_Fold (n + 1) l i k =
  tif ((decide (i < (0 : Int)))) (
  some (((0 : Int), (((0 : Int), ((0 : Int), ((0 : Int), false))), (((0 : Int), ((0 : Int), ((0 : Int), false))), (((0 : Int), (0 : Int)), ((0 : Int), ((0 : Int), (0 : Int))))))), (1 : Int))) (
  tif ((decide (k < i))) (
  some (((0 : Int), (((0 : Int), ((0 : Int), ((0 : Int), false))), (((0 : Int), ((0 : Int), ((0 : Int), false))), (((0 : Int), (0 : Int)), ((0 : Int), ((0 : Int), (0 : Int))))))), (1 : Int))) (
  obind (tier_All n l) fun r0 =>
  obind (tier_Fold_l5 n loopFuel (i, (k, (((0 : Int), (((0 : Int), ((0 : Int), ((0 : Int), false))), (((0 : Int), ((0 : Int), ((0 : Int), false))), (((0 : Int), (0 : Int)), ((0 : Int), ((0 : Int), (0 : Int))))))), ([], (r0, ((((List.length r0) : Nat) : Int), ((0 : Int), ())))))))) fun r1 =>
  selim (fun y2 =>
  obind (cell_All n y2.2.1) fun r3 =>
  some r3) (fun z4 =>
  some z4) r1)) := by kernel_rfl
theorem tier_Fold_l5_eq (n f : Nat) (i : Int) (k : Int) (s6 : TCell) (cells : (List TCell)) (s20 : (List TSlot)) (s21 : Int) (s22 : Int) : tier_Fold_l5 n (f + 1) (i, k, s6, cells, s20, s21, s22, ()) =
  tif ((decide (s22 < s21))) (
  obind (at? s20 s22) fun r0 =>
  tif ((decide (i ≤ r0.1))) (
  tif ((decide (r0.1 < k))) (
  tif ((decide ((((List.length cells) + 1) * 112) ≤ 140737488355328))) (
  tier_Fold_l5 n f (i, (k, (s6, ((cells ++ (r0.2 :: [])), (s20, (s21, ((IntKind.wrap .i64 (s22 + (1 : Int))), ())))))))) (
  none)) (
  tier_Fold_l5 n f (i, (k, (s6, (cells, (s20, (s21, ((IntKind.wrap .i64 (s22 + (1 : Int))), ()))))))))) (
  tier_Fold_l5 n f (i, (k, (s6, (cells, (s20, (s21, ((IntKind.wrap .i64 (s22 + (1 : Int))), ()))))))))) (
  some (.inl (s6, (cells, ())))) := by kernel_rfl
theorem series_kept_now_eq_0 (n : Nat) (s : Tseries_kept) : series_kept_now (n + 1) s (0 : Int) =
  some (s.2.2.2.2.2.2, (0 : Int)) := by kernel_rfl
theorem series_kept_now_eq_1 (n : Nat) (s : Tseries_kept) : series_kept_now (n + 1) s (1 : Int) =
  tif ((decide (s.1.2.1.2.1 = (0 : Int)))) (
  none) (
  tif ((decide (s.1.2.1.1 = (0 : Int)))) (
  none) (
  tif ((decide (s.1.2.1.1 = (0 : Int)))) (
  none) (
  obind (tier_Fold n s.2.2.2.2.1.1 (IntKind.wrap .i64 ((IntKind.wrap .i64 (Int.tdiv s.2.2.1 s.1.2.1.2.1)) * (IntKind.wrap .i64 (Int.tdiv s.1.2.1.2.1 s.1.2.1.1)))) (IntKind.wrap .i64 (Int.tdiv s.2.2.1 s.1.2.1.1))) fun r0 =>
  obind (series_kept_now n s (0 : Int)) fun r1 =>
  tif ((!(decide (r0.2 = (0 : Int))))) (
  some (((0 : Int), (((0 : Int), ((0 : Int), ((0 : Int), false))), (((0 : Int), ((0 : Int), ((0 : Int), false))), (((0 : Int), (0 : Int)), ((0 : Int), ((0 : Int), (0 : Int))))))), (if r0.2 < r1.2 then r1.2 else r0.2))) (
  tif ((!(decide (r1.2 = (0 : Int))))) (
  some (((0 : Int), (((0 : Int), ((0 : Int), ((0 : Int), false))), (((0 : Int), ((0 : Int), ((0 : Int), false))), (((0 : Int), (0 : Int)), ((0 : Int), ((0 : Int), (0 : Int))))))), (if r0.2 < r1.2 then r1.2 else r0.2))) (
  obind (cell_Merge n r0.1 r1.1) fun r2 =>
  some r2))))) := by kernel_rfl
theorem series_kept_now_eq_2 (n : Nat) (s : Tseries_kept) : series_kept_now (n + 1) s (2 : Int) =
  tif ((decide (s.1.2.1.2.2 = (0 : Int)))) (
  none) (
  tif ((decide (s.1.2.1.2.1 = (0 : Int)))) (
  none) (
  tif ((decide (s.1.2.1.2.1 = (0 : Int)))) (
  none) (
  obind (tier_Fold n s.2.2.2.2.1.2.1 (IntKind.wrap .i64 ((IntKind.wrap .i64 (Int.tdiv s.2.2.1 s.1.2.1.2.2)) * (IntKind.wrap .i64 (Int.tdiv s.1.2.1.2.2 s.1.2.1.2.1)))) (IntKind.wrap .i64 (Int.tdiv s.2.2.1 s.1.2.1.2.1))) fun r0 =>
  obind (series_kept_now n s (1 : Int)) fun r1 =>
  tif ((!(decide (r0.2 = (0 : Int))))) (
  some (((0 : Int), (((0 : Int), ((0 : Int), ((0 : Int), false))), (((0 : Int), ((0 : Int), ((0 : Int), false))), (((0 : Int), (0 : Int)), ((0 : Int), ((0 : Int), (0 : Int))))))), (if r0.2 < r1.2 then r1.2 else r0.2))) (
  tif ((!(decide (r1.2 = (0 : Int))))) (
  some (((0 : Int), (((0 : Int), ((0 : Int), ((0 : Int), false))), (((0 : Int), ((0 : Int), ((0 : Int), false))), (((0 : Int), (0 : Int)), ((0 : Int), ((0 : Int), (0 : Int))))))), (if r0.2 < r1.2 then r1.2 else r0.2))) (
  obind (cell_Merge n r0.1 r1.1) fun r2 =>
  some r2))))) := by kernel_rfl
theorem cell_Merge_eq (n : Nat) (a : TCell) (b : TCell) : cell_Merge (n + 1) a b =
  obind (cell_Check n a) fun r0 =>
  tif ((!(decide (r0 = (0 : Int))))) (
  some (((0 : Int), (((0 : Int), ((0 : Int), ((0 : Int), false))), (((0 : Int), ((0 : Int), ((0 : Int), false))), (((0 : Int), (0 : Int)), ((0 : Int), ((0 : Int), (0 : Int))))))), (2 : Int))) (
  obind (cell_Check n b) fun r1 =>
  tif ((!(decide (r1 = (0 : Int))))) (
  some (((0 : Int), (((0 : Int), ((0 : Int), ((0 : Int), false))), (((0 : Int), ((0 : Int), ((0 : Int), false))), (((0 : Int), (0 : Int)), ((0 : Int), ((0 : Int), (0 : Int))))))), (2 : Int))) (
  obind (cell_none n a) fun r2 =>
  tif (r2) (
  some (b, (0 : Int))) (
  obind (cell_none n b) fun r3 =>
  tif (r3) (
  some (a, (0 : Int))) (
  obind (cell_join n a b) fun r4 =>
  some r4)))) := by kernel_rfl
theorem event_Check_eq (n : Nat) (e : TEvent) : event_Check (n + 1) e =
  tif ((decide (e.1 < (0 : Int)))) (
  some (2 : Int)) (
  tif ((decide ((35184372088832 : Int) ≤ e.1))) (
  some (2 : Int)) (
  tif ((decide (e.2.2.1 < (0 : Int)))) (
  some (2 : Int)) (
  tif ((decide (e.1 < e.2.2.1))) (
  some (2 : Int)) (
  tif (e.2.2.2) (
  tif ((!((decide (e.1 = e.1)) && ((decide (e.2.1 = (0 : Int))) && ((decide (e.2.2.1 = (0 : Int))) && (e.2.2.2 == true)))))) (
  some (2 : Int)) (
  some (0 : Int))) (
  some (0 : Int)))))) := by kernel_rfl
theorem r05_Check_eq (n : Nat) (l : (List (List UInt8 × List UInt8))) : r05_Check (n + 1) l =
  tif ((decide ((((List.length l) : Nat) : Int) < (1 : Int)))) (
  some (8 : Int)) (
  tif ((decide ((16 : Int) < (((List.length l) : Nat) : Int)))) (
  some (8 : Int)) (
  obind (r05_Check_l5 n loopFuel (l, ((0 : Int), (l, ((((List.length l) : Nat) : Int), ((0 : Int), ())))))) fun r0 =>
  selim (fun y1 =>
  tif ((decide ((256 : Int) < y1.1))) (
  some (8 : Int)) (
  some (0 : Int))) (fun z2 =>
  some z2) r0)) := by kernel_rfl
theorem r05_Check_l5_eq (n f : Nat) (l : (List (List UInt8 × List UInt8))) (all : Int) (s14 : (List (List UInt8 × List UInt8))) (s15 : Int) (s16 : Int) : r05_Check_l5 n (f + 1) (l, all, s14, s15, s16, ()) =
  tif ((decide (s16 < s15))) (
  obind (at? s14 s16) fun r0 =>
  obind (r05_name n r0.1) fun r1 =>
  tif ((!r1)) (
  some (.inr (8 : Int))) (
  tif ((decide ((128 : Int) < (((List.length r0.2) : Nat) : Int)))) (
  some (.inr (8 : Int))) (
  tif ((decide ((0 : Int) < s16))) (
  obind (at? l (IntKind.wrap .i64 (s16 - (1 : Int)))) fun r2 =>
  tif ((!(Go.Op.bytesLess r2.1 r0.1))) (
  some (.inr (8 : Int))) (
  r05_Check_l5 n f (l, ((IntKind.wrap .i64 (all + (IntKind.wrap .i64 ((((List.length r0.1) : Nat) : Int) + (((List.length r0.2) : Nat) : Int))))), (s14, (s15, ((IntKind.wrap .i64 (s16 + (1 : Int))), ()))))))) (
  r05_Check_l5 n f (l, ((IntKind.wrap .i64 (all + (IntKind.wrap .i64 ((((List.length r0.1) : Nat) : Int) + (((List.length r0.2) : Nat) : Int))))), (s14, (s15, ((IntKind.wrap .i64 (s16 + (1 : Int))), ()))))))))) (
  some (.inl (all, ()))) := by kernel_rfl
theorem r12_Check_eq (n : Nat) (r : (Int × (Int × (List TEvent)))) (room : Int) : r12_Check (n + 1) r room =
  tif ((decide (room < (1 : Int)))) (
  some (2 : Int)) (
  tif ((decide ((4096 : Int) < room))) (
  some (2 : Int)) (
  tif ((decide (room < (((List.length r.2.2) : Nat) : Int)))) (
  some (2 : Int)) (
  tif ((decide (r.1 < (0 : Int)))) (
  some (2 : Int)) (
  tif ((decide ((70368744177664 : Int) < r.1))) (
  some (2 : Int)) (
  obind (r12_Check_l4 n loopFuel (room, (r, (r.2.2, ((((List.length r.2.2) : Nat) : Int), ((0 : Int), ())))))) fun r0 =>
  selim (fun y1 =>
  tif ((decide (y1.2.1.1 = (0 : Int)))) (
  tif ((!(decide (y1.2.1.2.1 = (0 : Int))))) (
  some (2 : Int)) (
  some (0 : Int))) (
  tif ((decide (y1.2.1.2.1 < (0 : Int)))) (
  some (2 : Int)) (
  tif ((decide ((35184372088832 : Int) ≤ y1.2.1.2.1))) (
  some (2 : Int)) (
  tif ((!(decide ((((List.length y1.2.1.2.2) : Nat) : Int) = y1.1)))) (
  some (2 : Int)) (
  obind (at? y1.2.1.2.2 (0 : Int)) fun r2 =>
  tif ((decide (r2.1 ≤ y1.2.1.2.1))) (
  some (2 : Int)) (
  some (0 : Int))))))) (fun z3 =>
  some z3) r0))))) := by kernel_rfl
theorem r12_Check_l4_eq (n f : Nat) (room : Int) (r_ : (Int × (Int × (List TEvent)))) (s31 : (List TEvent)) (s32 : Int) (s33 : Int) : r12_Check_l4 n (f + 1) (room, r_, s31, s32, s33, ()) =
  tif ((decide (s33 < s32))) (
  obind (at? s31 s33) fun r0 =>
  obind (r07_Check n r0) fun r1 =>
  tif ((!(decide (r1 = (0 : Int))))) (
  some (.inr (2 : Int))) (
  tif ((decide ((0 : Int) < s33))) (
  obind (at? r_.2.2 (IntKind.wrap .i64 (s33 - (1 : Int)))) fun r2 =>
  tif ((decide (r0.1 ≤ r2.1))) (
  some (.inr (2 : Int))) (
  r12_Check_l4 n f (room, (r_, (s31, (s32, ((IntKind.wrap .i64 (s33 + (1 : Int))), ()))))))) (
  r12_Check_l4 n f (room, (r_, (s31, (s32, ((IntKind.wrap .i64 (s33 + (1 : Int))), ())))))))) (
  some (.inl (room, (r_, ())))) := by kernel_rfl
end Go.Proofs.YtjeabebacegikaaGreat
