/-
  What each function comes to by one step of the flat reading. Printed by program; the kernel looks at each.
-/
import Derived.Test.YthjnbidgliejkaaGreatTr0
import Derived.KernelRfl
set_option linter.unusedVariables false
namespace Go.Proofs.YthjnbidgliejkaaGreat
open Go.Flat
theorem top_TopTurns_eq (n : Nat) (s : TState) (l : (List (List UInt8 × List UInt8))) (m : (List (List UInt8 × List UInt8))) (e : TEvent) (f_ : TEvent) : top_TopTurns (n + 1) s l m e f_ =
  obind (top_begins10 n ) fun r0 =>
  tif ((!r0)) (
  some false) (
  obind (l17_Small n s) fun r1 =>
  tif ((decide (r1 = (0 : Int)))) (
  some true) (
  obind (l05_Small n l) fun r2 =>
  tif ((decide (r2 = (0 : Int)))) (
  some true) (
  obind (l05_Small n m) fun r3 =>
  tif ((decide (r3 = (0 : Int)))) (
  some true) (
  obind (state_Check n s) fun r4 =>
  tif ((!(decide (r4 = (0 : Int))))) (
  some true) (
  obind (state_Find n s l) fun r5 =>
  obind (state_Find n s m) fun r6 =>
  tif ((!(decide (r5.2 = (0 : Int))))) (
  some true) (
  tif ((!(decide (r6.2 = (0 : Int))))) (
  some true) (
  tif ((decide (r5.1 = r6.1))) (
  some true) (
  obind (write_One n s l e) fun r7 =>
  obind (write_One n s m f_) fun r8 =>
  tif ((decide (r7.2 = (0 : Int)))) (
  obind (write_One n r7.1 m f_) fun r9 =>
  tif ((!(decide (r9.2 = r8.2)))) (
  some false) (
  tif ((decide (r8.2 = (0 : Int)))) (
  obind (write_One n r8.1 l e) fun r10 =>
  tif ((!(decide (r10.2 = r7.2)))) (
  some false) (
  tif ((!(decide (r7.2 = (0 : Int))))) (
  some true) (
  tif ((!(decide (r8.2 = (0 : Int))))) (
  some true) (
  obind (state_Same n r9.1 r10.1) fun r11 =>
  some r11)))) (
  tif ((!(decide (r7.2 = (0 : Int))))) (
  some true) (
  tif ((!(decide (r8.2 = (0 : Int))))) (
  some true) (
  obind (state_Same n r9.1 r8.1) fun r12 =>
  some r12))))) (
  tif ((decide (r8.2 = (0 : Int)))) (
  obind (write_One n r8.1 l e) fun r13 =>
  tif ((!(decide (r13.2 = r7.2)))) (
  some false) (
  tif ((!(decide (r7.2 = (0 : Int))))) (
  some true) (
  tif ((!(decide (r8.2 = (0 : Int))))) (
  some true) (
  obind (state_Same n r7.1 r13.1) fun r14 =>
  some r14)))) (
  tif ((!(decide (r7.2 = (0 : Int))))) (
  some true) (
  tif ((!(decide (r8.2 = (0 : Int))))) (
  some true) (
  obind (state_Same n r7.1 r8.1) fun r15 =>
  some r15)))))))))))) := by kernel_rfl
theorem l20_CascadeBack_eq (n : Nat) (s : TState) (now : Int) (l : (List (List UInt8 × List UInt8))) (e : TEvent) (k : Int) : l20_CascadeBack (n + 1) s now l e k =
  tif ((decide (k = (0 : Int)))) (
  obind (l20_lives n ) fun r0 =>
  tif ((!r0)) (
  some false) (
  obind (l17_Small n s) fun r1 =>
  tif ((decide (r1 = (0 : Int)))) (
  some true) (
  obind (l05_Small n l) fun r2 =>
  tif ((decide (r2 = (0 : Int)))) (
  some true) (
  obind (state_Check n s) fun r3 =>
  tif ((!(decide (r3 = (0 : Int))))) (
  some true) (
  obind (cascade_Tick n s now) fun r4 =>
  obind (cascade_Sealed n s (0 : Int)) fun r5 =>
  obind (cascade_Sealed n r4.1 (0 : Int)) fun r6 =>
  obind (cascade_Steps n s now) fun r7 =>
  obind (state_Check n r4.1) fun r8 =>
  tif ((!(decide (r8 = (0 : Int))))) (
  some false) (
  tif ((decide (r4.1.2.1 < s.2.1))) (
  some false) (
  tif ((!(r4.2 == (decide (s.2.1 < r4.1.2.1))))) (
  some false) (
  tif ((!(decide (r5.2 = (0 : Int))))) (
  some false) (
  tif ((!(decide (r6.2 = (0 : Int))))) (
  some false) (
  tif ((!(decide ((IntKind.wrap .i64 (r6.1 - r5.1)) = r7.1)))) (
  some false) (
  tif ((decide (r6.1 < r5.1))) (
  some false) (
  obind (write_One n r4.1 l e) fun r9 =>
  tif ((decide (r9.2 = (0 : Int)))) (
  tif ((decide (s.1.2.1.1 = (0 : Int)))) (
  none) (
  tif ((decide ((IntKind.wrap .i64 (Int.tdiv e.1 s.1.2.1.1)) < r6.1))) (
  some false) (
  obind (cascade_Kept n r4.1 (0 : Int)) fun r10 =>
  tif ((decide (r10.2.2 = (0 : Int)))) (
  tif ((decide (r10.2.1 = r6.1))) (
  tif ((decide (r10.1 ≤ r10.2.1))) (
  some (decide ((IntKind.wrap .i64 (r10.2.1 - r10.1)) < s.1.2.2.1.1))) (
  some false)) (
  some false)) (
  some false)))) (
  obind (cascade_Kept n r4.1 (0 : Int)) fun r11 =>
  tif ((decide (r11.2.2 = (0 : Int)))) (
  tif ((decide (r11.2.1 = r6.1))) (
  tif ((decide (r11.1 ≤ r11.2.1))) (
  some (decide ((IntKind.wrap .i64 (r11.2.1 - r11.1)) < s.1.2.2.1.1))) (
  some false)) (
  some false)) (
  some false)))))))))))))) (
  tif ((decide (k = (1 : Int)))) (
  obind (l20_lives n ) fun r12 =>
  tif ((!r12)) (
  some false) (
  obind (l17_Small n s) fun r13 =>
  tif ((decide (r13 = (0 : Int)))) (
  some true) (
  obind (l05_Small n l) fun r14 =>
  tif ((decide (r14 = (0 : Int)))) (
  some true) (
  obind (state_Check n s) fun r15 =>
  tif ((!(decide (r15 = (0 : Int))))) (
  some true) (
  obind (cascade_Tick n s now) fun r16 =>
  obind (cascade_Sealed n s (1 : Int)) fun r17 =>
  obind (cascade_Sealed n r16.1 (1 : Int)) fun r18 =>
  obind (cascade_Steps n s now) fun r19 =>
  obind (state_Check n r16.1) fun r20 =>
  tif ((!(decide (r20 = (0 : Int))))) (
  some false) (
  tif ((decide (r16.1.2.1 < s.2.1))) (
  some false) (
  tif ((!(r16.2 == (decide (s.2.1 < r16.1.2.1))))) (
  some false) (
  tif ((!(decide (r17.2 = (0 : Int))))) (
  some false) (
  tif ((!(decide (r18.2 = (0 : Int))))) (
  some false) (
  tif ((!(decide ((IntKind.wrap .i64 (r18.1 - r17.1)) = r19.2.1)))) (
  some false) (
  tif ((decide (r18.1 < r17.1))) (
  some false) (
  tif ((decide (r19.1 < r19.2.1))) (
  some false) (
  obind (write_One n r16.1 l e) fun r21 =>
  tif ((decide (r21.2 = (0 : Int)))) (
  tif ((decide (s.1.2.1.2.1 = (0 : Int)))) (
  none) (
  tif ((decide ((IntKind.wrap .i64 (Int.tdiv e.1 s.1.2.1.2.1)) < r18.1))) (
  some false) (
  obind (cascade_Kept n r16.1 (1 : Int)) fun r22 =>
  tif ((decide (r22.2.2 = (0 : Int)))) (
  tif ((decide (r22.2.1 = r18.1))) (
  tif ((decide (r22.1 ≤ r22.2.1))) (
  some (decide ((IntKind.wrap .i64 (r22.2.1 - r22.1)) < s.1.2.2.1.2.1))) (
  some false)) (
  some false)) (
  some false)))) (
  obind (cascade_Kept n r16.1 (1 : Int)) fun r23 =>
  tif ((decide (r23.2.2 = (0 : Int)))) (
  tif ((decide (r23.2.1 = r18.1))) (
  tif ((decide (r23.1 ≤ r23.2.1))) (
  some (decide ((IntKind.wrap .i64 (r23.2.1 - r23.1)) < s.1.2.2.1.2.1))) (
  some false)) (
  some false)) (
  some false))))))))))))))) (
  tif ((decide (k = (2 : Int)))) (
  obind (l20_lives n ) fun r24 =>
  tif ((!r24)) (
  some false) (
  obind (l17_Small n s) fun r25 =>
  tif ((decide (r25 = (0 : Int)))) (
  some true) (
  obind (l05_Small n l) fun r26 =>
  tif ((decide (r26 = (0 : Int)))) (
  some true) (
  obind (state_Check n s) fun r27 =>
  tif ((!(decide (r27 = (0 : Int))))) (
  some true) (
  obind (cascade_Tick n s now) fun r28 =>
  obind (cascade_Sealed n s (2 : Int)) fun r29 =>
  obind (cascade_Sealed n r28.1 (2 : Int)) fun r30 =>
  obind (cascade_Steps n s now) fun r31 =>
  obind (state_Check n r28.1) fun r32 =>
  tif ((!(decide (r32 = (0 : Int))))) (
  some false) (
  tif ((decide (r28.1.2.1 < s.2.1))) (
  some false) (
  tif ((!(r28.2 == (decide (s.2.1 < r28.1.2.1))))) (
  some false) (
  tif ((!(decide (r29.2 = (0 : Int))))) (
  some false) (
  tif ((!(decide (r30.2 = (0 : Int))))) (
  some false) (
  tif ((!(decide ((IntKind.wrap .i64 (r30.1 - r29.1)) = r31.2.2)))) (
  some false) (
  tif ((decide (r30.1 < r29.1))) (
  some false) (
  tif ((decide (r31.2.1 < r31.2.2))) (
  some false) (
  obind (write_One n r28.1 l e) fun r33 =>
  tif ((decide (r33.2 = (0 : Int)))) (
  tif ((decide (s.1.2.1.2.2 = (0 : Int)))) (
  none) (
  tif ((decide ((IntKind.wrap .i64 (Int.tdiv e.1 s.1.2.1.2.2)) < r30.1))) (
  some false) (
  obind (cascade_Kept n r28.1 (2 : Int)) fun r34 =>
  tif ((decide (r34.2.2 = (0 : Int)))) (
  tif ((decide (r34.2.1 = r30.1))) (
  tif ((decide (r34.1 ≤ r34.2.1))) (
  some (decide ((IntKind.wrap .i64 (r34.2.1 - r34.1)) < s.1.2.2.1.2.2))) (
  some false)) (
  some false)) (
  some false)))) (
  obind (cascade_Kept n r28.1 (2 : Int)) fun r35 =>
  tif ((decide (r35.2.2 = (0 : Int)))) (
  tif ((decide (r35.2.1 = r30.1))) (
  tif ((decide (r35.1 ≤ r35.2.1))) (
  some (decide ((IntKind.wrap .i64 (r35.2.1 - r35.1)) < s.1.2.2.1.2.2))) (
  some false)) (
  some false)) (
  some false))))))))))))))) (
  obind (l20_lives n ) fun r36 =>
  tif ((!r36)) (
  some false) (
  obind (l17_Small n s) fun r37 =>
  tif ((decide (r37 = (0 : Int)))) (
  some true) (
  obind (l05_Small n l) fun r38 =>
  tif ((decide (r38 = (0 : Int)))) (
  some true) (
  obind (state_Check n s) fun r39 =>
  tif ((!(decide (r39 = (0 : Int))))) (
  some true) (
  tif ((decide (k < (0 : Int)))) (
  some true) (
  tif ((decide ((2 : Int) < k))) (
  some true) (
  obind (cascade_Tick n s now) fun r40 =>
  obind (cascade_Sealed n s k) fun r41 =>
  obind (cascade_Sealed n r40.1 k) fun r42 =>
  obind (cascade_Steps n s now) fun r43 =>
  obind (state_Check n r40.1) fun r44 =>
  tif ((!(decide (r44 = (0 : Int))))) (
  some false) (
  tif ((decide (r40.1.2.1 < s.2.1))) (
  some false) (
  tif ((!(r40.2 == (decide (s.2.1 < r40.1.2.1))))) (
  some false) (
  tif ((!(decide (r41.2 = (0 : Int))))) (
  some false) (
  tif ((!(decide (r42.2 = (0 : Int))))) (
  some false) (
  tif ((decide (k = (0 : Int)))) (
  tif ((!(decide ((IntKind.wrap .i64 (r42.1 - r41.1)) = r43.1)))) (
  some false) (
  tif ((decide (r42.1 < r41.1))) (
  some false) (
  tif ((decide ((0 : Int) < k))) (
  tif ((decide (k = (0 : Int)))) (
  tif ((decide ((IntKind.wrap .i64 (k - (1 : Int))) = (0 : Int)))) (
  tif ((decide (r43.1 < r43.1))) (
  some false) (
  obind (write_One n r40.1 l e) fun r45 =>
  tif ((decide (r45.2 = (0 : Int)))) (
  tif ((decide (k = (0 : Int)))) (
  tif ((decide (s.1.2.1.1 = (0 : Int)))) (
  none) (
  tif ((decide ((IntKind.wrap .i64 (Int.tdiv e.1 s.1.2.1.1)) < r42.1))) (
  some false) (
  obind (cascade_Kept n r40.1 k) fun r46 =>
  tif ((decide (r46.2.2 = (0 : Int)))) (
  tif ((decide (r46.2.1 = r42.1))) (
  tif ((decide (r46.1 ≤ r46.2.1))) (
  tif ((decide (k = (0 : Int)))) (
  some (decide ((IntKind.wrap .i64 (r46.2.1 - r46.1)) < s.1.2.2.1.1))) (
  tif ((decide (k = (1 : Int)))) (
  some (decide ((IntKind.wrap .i64 (r46.2.1 - r46.1)) < s.1.2.2.1.2.1))) (
  tif ((decide (k = (2 : Int)))) (
  some (decide ((IntKind.wrap .i64 (r46.2.1 - r46.1)) < s.1.2.2.1.2.2))) (
  none)))) (
  some false)) (
  some false)) (
  some false)))) (
  tif ((decide (k = (1 : Int)))) (
  tif ((decide (s.1.2.1.2.1 = (0 : Int)))) (
  none) (
  tif ((decide ((IntKind.wrap .i64 (Int.tdiv e.1 s.1.2.1.2.1)) < r42.1))) (
  some false) (
  obind (cascade_Kept n r40.1 k) fun r47 =>
  tif ((decide (r47.2.2 = (0 : Int)))) (
  tif ((decide (r47.2.1 = r42.1))) (
  tif ((decide (r47.1 ≤ r47.2.1))) (
  tif ((decide (k = (0 : Int)))) (
  some (decide ((IntKind.wrap .i64 (r47.2.1 - r47.1)) < s.1.2.2.1.1))) (
  tif ((decide (k = (1 : Int)))) (
  some (decide ((IntKind.wrap .i64 (r47.2.1 - r47.1)) < s.1.2.2.1.2.1))) (
  tif ((decide (k = (2 : Int)))) (
  some (decide ((IntKind.wrap .i64 (r47.2.1 - r47.1)) < s.1.2.2.1.2.2))) (
  none)))) (
  some false)) (
  some false)) (
  some false)))) (
  tif ((decide (k = (2 : Int)))) (
  tif ((decide (s.1.2.1.2.2 = (0 : Int)))) (
  none) (
  tif ((decide ((IntKind.wrap .i64 (Int.tdiv e.1 s.1.2.1.2.2)) < r42.1))) (
  some false) (
  obind (cascade_Kept n r40.1 k) fun r48 =>
  tif ((decide (r48.2.2 = (0 : Int)))) (
  tif ((decide (r48.2.1 = r42.1))) (
  tif ((decide (r48.1 ≤ r48.2.1))) (
  tif ((decide (k = (0 : Int)))) (
  some (decide ((IntKind.wrap .i64 (r48.2.1 - r48.1)) < s.1.2.2.1.1))) (
  tif ((decide (k = (1 : Int)))) (
  some (decide ((IntKind.wrap .i64 (r48.2.1 - r48.1)) < s.1.2.2.1.2.1))) (
  tif ((decide (k = (2 : Int)))) (
  some (decide ((IntKind.wrap .i64 (r48.2.1 - r48.1)) < s.1.2.2.1.2.2))) (
  none)))) (
  some false)) (
  some false)) (
  some false)))) (
  none)))) (
  obind (cascade_Kept n r40.1 k) fun r49 =>
  tif ((decide (r49.2.2 = (0 : Int)))) (
  tif ((decide (r49.2.1 = r42.1))) (
  tif ((decide (r49.1 ≤ r49.2.1))) (
  tif ((decide (k = (0 : Int)))) (
  some (decide ((IntKind.wrap .i64 (r49.2.1 - r49.1)) < s.1.2.2.1.1))) (
  tif ((decide (k = (1 : Int)))) (
  some (decide ((IntKind.wrap .i64 (r49.2.1 - r49.1)) < s.1.2.2.1.2.1))) (
  tif ((decide (k = (2 : Int)))) (
  some (decide ((IntKind.wrap .i64 (r49.2.1 - r49.1)) < s.1.2.2.1.2.2))) (
  none)))) (
  some false)) (
  some false)) (
  some false)))) (
  tif ((decide ((IntKind.wrap .i64 (k - (1 : Int))) = (1 : Int)))) (
  tif ((decide (r43.2.1 < r43.1))) (
  some false) (
  obind (write_One n r40.1 l e) fun r50 =>
  tif ((decide (r50.2 = (0 : Int)))) (
  tif ((decide (k = (0 : Int)))) (
  tif ((decide (s.1.2.1.1 = (0 : Int)))) (
  none) (
  tif ((decide ((IntKind.wrap .i64 (Int.tdiv e.1 s.1.2.1.1)) < r42.1))) (
  some false) (
  obind (cascade_Kept n r40.1 k) fun r51 =>
  tif ((decide (r51.2.2 = (0 : Int)))) (
  tif ((decide (r51.2.1 = r42.1))) (
  tif ((decide (r51.1 ≤ r51.2.1))) (
  tif ((decide (k = (0 : Int)))) (
  some (decide ((IntKind.wrap .i64 (r51.2.1 - r51.1)) < s.1.2.2.1.1))) (
  tif ((decide (k = (1 : Int)))) (
  some (decide ((IntKind.wrap .i64 (r51.2.1 - r51.1)) < s.1.2.2.1.2.1))) (
  tif ((decide (k = (2 : Int)))) (
  some (decide ((IntKind.wrap .i64 (r51.2.1 - r51.1)) < s.1.2.2.1.2.2))) (
  none)))) (
  some false)) (
  some false)) (
  some false)))) (
  tif ((decide (k = (1 : Int)))) (
  tif ((decide (s.1.2.1.2.1 = (0 : Int)))) (
  none) (
  tif ((decide ((IntKind.wrap .i64 (Int.tdiv e.1 s.1.2.1.2.1)) < r42.1))) (
  some false) (
  obind (cascade_Kept n r40.1 k) fun r52 =>
  tif ((decide (r52.2.2 = (0 : Int)))) (
  tif ((decide (r52.2.1 = r42.1))) (
  tif ((decide (r52.1 ≤ r52.2.1))) (
  tif ((decide (k = (0 : Int)))) (
  some (decide ((IntKind.wrap .i64 (r52.2.1 - r52.1)) < s.1.2.2.1.1))) (
  tif ((decide (k = (1 : Int)))) (
  some (decide ((IntKind.wrap .i64 (r52.2.1 - r52.1)) < s.1.2.2.1.2.1))) (
  tif ((decide (k = (2 : Int)))) (
  some (decide ((IntKind.wrap .i64 (r52.2.1 - r52.1)) < s.1.2.2.1.2.2))) (
  none)))) (
  some false)) (
  some false)) (
  some false)))) (
  tif ((decide (k = (2 : Int)))) (
  tif ((decide (s.1.2.1.2.2 = (0 : Int)))) (
  none) (
  tif ((decide ((IntKind.wrap .i64 (Int.tdiv e.1 s.1.2.1.2.2)) < r42.1))) (
  some false) (
  obind (cascade_Kept n r40.1 k) fun r53 =>
  tif ((decide (r53.2.2 = (0 : Int)))) (
  tif ((decide (r53.2.1 = r42.1))) (
  tif ((decide (r53.1 ≤ r53.2.1))) (
  tif ((decide (k = (0 : Int)))) (
  some (decide ((IntKind.wrap .i64 (r53.2.1 - r53.1)) < s.1.2.2.1.1))) (
  tif ((decide (k = (1 : Int)))) (
  some (decide ((IntKind.wrap .i64 (r53.2.1 - r53.1)) < s.1.2.2.1.2.1))) (
  tif ((decide (k = (2 : Int)))) (
  some (decide ((IntKind.wrap .i64 (r53.2.1 - r53.1)) < s.1.2.2.1.2.2))) (
  none)))) (
  some false)) (
  some false)) (
  some false)))) (
  none)))) (
  obind (cascade_Kept n r40.1 k) fun r54 =>
  tif ((decide (r54.2.2 = (0 : Int)))) (
  tif ((decide (r54.2.1 = r42.1))) (
  tif ((decide (r54.1 ≤ r54.2.1))) (
  tif ((decide (k = (0 : Int)))) (
  some (decide ((IntKind.wrap .i64 (r54.2.1 - r54.1)) < s.1.2.2.1.1))) (
  tif ((decide (k = (1 : Int)))) (
  some (decide ((IntKind.wrap .i64 (r54.2.1 - r54.1)) < s.1.2.2.1.2.1))) (
  tif ((decide (k = (2 : Int)))) (
  some (decide ((IntKind.wrap .i64 (r54.2.1 - r54.1)) < s.1.2.2.1.2.2))) (
  none)))) (
  some false)) (
  some false)) (
  some false)))) (
  tif ((decide ((IntKind.wrap .i64 (k - (1 : Int))) = (2 : Int)))) (
  tif ((decide (r43.2.2 < r43.1))) (
  some false) (
  obind (write_One n r40.1 l e) fun r55 =>
  tif ((decide (r55.2 = (0 : Int)))) (
  tif ((decide (k = (0 : Int)))) (
  tif ((decide (s.1.2.1.1 = (0 : Int)))) (
  none) (
  tif ((decide ((IntKind.wrap .i64 (Int.tdiv e.1 s.1.2.1.1)) < r42.1))) (
  some false) (
  obind (cascade_Kept n r40.1 k) fun r56 =>
  tif ((decide (r56.2.2 = (0 : Int)))) (
  tif ((decide (r56.2.1 = r42.1))) (
  tif ((decide (r56.1 ≤ r56.2.1))) (
  tif ((decide (k = (0 : Int)))) (
  some (decide ((IntKind.wrap .i64 (r56.2.1 - r56.1)) < s.1.2.2.1.1))) (
  tif ((decide (k = (1 : Int)))) (
  some (decide ((IntKind.wrap .i64 (r56.2.1 - r56.1)) < s.1.2.2.1.2.1))) (
  tif ((decide (k = (2 : Int)))) (
  some (decide ((IntKind.wrap .i64 (r56.2.1 - r56.1)) < s.1.2.2.1.2.2))) (
  none)))) (
  some false)) (
  some false)) (
  some false)))) (
  tif ((decide (k = (1 : Int)))) (
  tif ((decide (s.1.2.1.2.1 = (0 : Int)))) (
  none) (
  tif ((decide ((IntKind.wrap .i64 (Int.tdiv e.1 s.1.2.1.2.1)) < r42.1))) (
  some false) (
  obind (cascade_Kept n r40.1 k) fun r57 =>
  tif ((decide (r57.2.2 = (0 : Int)))) (
  tif ((decide (r57.2.1 = r42.1))) (
  tif ((decide (r57.1 ≤ r57.2.1))) (
  tif ((decide (k = (0 : Int)))) (
  some (decide ((IntKind.wrap .i64 (r57.2.1 - r57.1)) < s.1.2.2.1.1))) (
  tif ((decide (k = (1 : Int)))) (
  some (decide ((IntKind.wrap .i64 (r57.2.1 - r57.1)) < s.1.2.2.1.2.1))) (
  tif ((decide (k = (2 : Int)))) (
  some (decide ((IntKind.wrap .i64 (r57.2.1 - r57.1)) < s.1.2.2.1.2.2))) (
  none)))) (
  some false)) (
  some false)) (
  some false)))) (
  tif ((decide (k = (2 : Int)))) (
  tif ((decide (s.1.2.1.2.2 = (0 : Int)))) (
  none) (
  tif ((decide ((IntKind.wrap .i64 (Int.tdiv e.1 s.1.2.1.2.2)) < r42.1))) (
  some false) (
  obind (cascade_Kept n r40.1 k) fun r58 =>
  tif ((decide (r58.2.2 = (0 : Int)))) (
  tif ((decide (r58.2.1 = r42.1))) (
  tif ((decide (r58.1 ≤ r58.2.1))) (
  tif ((decide (k = (0 : Int)))) (
  some (decide ((IntKind.wrap .i64 (r58.2.1 - r58.1)) < s.1.2.2.1.1))) (
  tif ((decide (k = (1 : Int)))) (
  some (decide ((IntKind.wrap .i64 (r58.2.1 - r58.1)) < s.1.2.2.1.2.1))) (
  tif ((decide (k = (2 : Int)))) (
  some (decide ((IntKind.wrap .i64 (r58.2.1 - r58.1)) < s.1.2.2.1.2.2))) (
  none)))) (
  some false)) (
  some false)) (
  some false)))) (
  none)))) (
  obind (cascade_Kept n r40.1 k) fun r59 =>
  tif ((decide (r59.2.2 = (0 : Int)))) (
  tif ((decide (r59.2.1 = r42.1))) (
  tif ((decide (r59.1 ≤ r59.2.1))) (
  tif ((decide (k = (0 : Int)))) (
  some (decide ((IntKind.wrap .i64 (r59.2.1 - r59.1)) < s.1.2.2.1.1))) (
  tif ((decide (k = (1 : Int)))) (
  some (decide ((IntKind.wrap .i64 (r59.2.1 - r59.1)) < s.1.2.2.1.2.1))) (
  tif ((decide (k = (2 : Int)))) (
  some (decide ((IntKind.wrap .i64 (r59.2.1 - r59.1)) < s.1.2.2.1.2.2))) (
  none)))) (
  some false)) (
  some false)) (
  some false)))) (
  none)))) (
  tif ((decide (k = (1 : Int)))) (
  tif ((decide ((IntKind.wrap .i64 (k - (1 : Int))) = (0 : Int)))) (
  tif ((decide (r43.1 < r43.2.1))) (
  some false) (
  obind (write_One n r40.1 l e) fun r60 =>
  tif ((decide (r60.2 = (0 : Int)))) (
  tif ((decide (k = (0 : Int)))) (
  tif ((decide (s.1.2.1.1 = (0 : Int)))) (
  none) (
  tif ((decide ((IntKind.wrap .i64 (Int.tdiv e.1 s.1.2.1.1)) < r42.1))) (
  some false) (
  obind (cascade_Kept n r40.1 k) fun r61 =>
  tif ((decide (r61.2.2 = (0 : Int)))) (
  tif ((decide (r61.2.1 = r42.1))) (
  tif ((decide (r61.1 ≤ r61.2.1))) (
  tif ((decide (k = (0 : Int)))) (
  some (decide ((IntKind.wrap .i64 (r61.2.1 - r61.1)) < s.1.2.2.1.1))) (
  tif ((decide (k = (1 : Int)))) (
  some (decide ((IntKind.wrap .i64 (r61.2.1 - r61.1)) < s.1.2.2.1.2.1))) (
  tif ((decide (k = (2 : Int)))) (
  some (decide ((IntKind.wrap .i64 (r61.2.1 - r61.1)) < s.1.2.2.1.2.2))) (
  none)))) (
  some false)) (
  some false)) (
  some false)))) (
  tif ((decide (k = (1 : Int)))) (
  tif ((decide (s.1.2.1.2.1 = (0 : Int)))) (
  none) (
  tif ((decide ((IntKind.wrap .i64 (Int.tdiv e.1 s.1.2.1.2.1)) < r42.1))) (
  some false) (
  obind (cascade_Kept n r40.1 k) fun r62 =>
  tif ((decide (r62.2.2 = (0 : Int)))) (
  tif ((decide (r62.2.1 = r42.1))) (
  tif ((decide (r62.1 ≤ r62.2.1))) (
  tif ((decide (k = (0 : Int)))) (
  some (decide ((IntKind.wrap .i64 (r62.2.1 - r62.1)) < s.1.2.2.1.1))) (
  tif ((decide (k = (1 : Int)))) (
  some (decide ((IntKind.wrap .i64 (r62.2.1 - r62.1)) < s.1.2.2.1.2.1))) (
  tif ((decide (k = (2 : Int)))) (
  some (decide ((IntKind.wrap .i64 (r62.2.1 - r62.1)) < s.1.2.2.1.2.2))) (
  none)))) (
  some false)) (
  some false)) (
  some false)))) (
  tif ((decide (k = (2 : Int)))) (
  tif ((decide (s.1.2.1.2.2 = (0 : Int)))) (
  none) (
  tif ((decide ((IntKind.wrap .i64 (Int.tdiv e.1 s.1.2.1.2.2)) < r42.1))) (
  some false) (
  obind (cascade_Kept n r40.1 k) fun r63 =>
  tif ((decide (r63.2.2 = (0 : Int)))) (
  tif ((decide (r63.2.1 = r42.1))) (
  tif ((decide (r63.1 ≤ r63.2.1))) (
  tif ((decide (k = (0 : Int)))) (
  some (decide ((IntKind.wrap .i64 (r63.2.1 - r63.1)) < s.1.2.2.1.1))) (
  tif ((decide (k = (1 : Int)))) (
  some (decide ((IntKind.wrap .i64 (r63.2.1 - r63.1)) < s.1.2.2.1.2.1))) (
  tif ((decide (k = (2 : Int)))) (
  some (decide ((IntKind.wrap .i64 (r63.2.1 - r63.1)) < s.1.2.2.1.2.2))) (
  none)))) (
  some false)) (
  some false)) (
  some false)))) (
  none)))) (
  obind (cascade_Kept n r40.1 k) fun r64 =>
  tif ((decide (r64.2.2 = (0 : Int)))) (
  tif ((decide (r64.2.1 = r42.1))) (
  tif ((decide (r64.1 ≤ r64.2.1))) (
  tif ((decide (k = (0 : Int)))) (
  some (decide ((IntKind.wrap .i64 (r64.2.1 - r64.1)) < s.1.2.2.1.1))) (
  tif ((decide (k = (1 : Int)))) (
  some (decide ((IntKind.wrap .i64 (r64.2.1 - r64.1)) < s.1.2.2.1.2.1))) (
  tif ((decide (k = (2 : Int)))) (
  some (decide ((IntKind.wrap .i64 (r64.2.1 - r64.1)) < s.1.2.2.1.2.2))) (
  none)))) (
  some false)) (
  some false)) (
  some false)))) (
  tif ((decide ((IntKind.wrap .i64 (k - (1 : Int))) = (1 : Int)))) (
  tif ((decide (r43.2.1 < r43.2.1))) (
  some false) (
  obind (write_One n r40.1 l e) fun r65 =>
  tif ((decide (r65.2 = (0 : Int)))) (
  tif ((decide (k = (0 : Int)))) (
  tif ((decide (s.1.2.1.1 = (0 : Int)))) (
  none) (
  tif ((decide ((IntKind.wrap .i64 (Int.tdiv e.1 s.1.2.1.1)) < r42.1))) (
  some false) (
  obind (cascade_Kept n r40.1 k) fun r66 =>
  tif ((decide (r66.2.2 = (0 : Int)))) (
  tif ((decide (r66.2.1 = r42.1))) (
  tif ((decide (r66.1 ≤ r66.2.1))) (
  tif ((decide (k = (0 : Int)))) (
  some (decide ((IntKind.wrap .i64 (r66.2.1 - r66.1)) < s.1.2.2.1.1))) (
  tif ((decide (k = (1 : Int)))) (
  some (decide ((IntKind.wrap .i64 (r66.2.1 - r66.1)) < s.1.2.2.1.2.1))) (
  tif ((decide (k = (2 : Int)))) (
  some (decide ((IntKind.wrap .i64 (r66.2.1 - r66.1)) < s.1.2.2.1.2.2))) (
  none)))) (
  some false)) (
  some false)) (
  some false)))) (
  tif ((decide (k = (1 : Int)))) (
  tif ((decide (s.1.2.1.2.1 = (0 : Int)))) (
  none) (
  tif ((decide ((IntKind.wrap .i64 (Int.tdiv e.1 s.1.2.1.2.1)) < r42.1))) (
  some false) (
  obind (cascade_Kept n r40.1 k) fun r67 =>
  tif ((decide (r67.2.2 = (0 : Int)))) (
  tif ((decide (r67.2.1 = r42.1))) (
  tif ((decide (r67.1 ≤ r67.2.1))) (
  tif ((decide (k = (0 : Int)))) (
  some (decide ((IntKind.wrap .i64 (r67.2.1 - r67.1)) < s.1.2.2.1.1))) (
  tif ((decide (k = (1 : Int)))) (
  some (decide ((IntKind.wrap .i64 (r67.2.1 - r67.1)) < s.1.2.2.1.2.1))) (
  tif ((decide (k = (2 : Int)))) (
  some (decide ((IntKind.wrap .i64 (r67.2.1 - r67.1)) < s.1.2.2.1.2.2))) (
  none)))) (
  some false)) (
  some false)) (
  some false)))) (
  tif ((decide (k = (2 : Int)))) (
  tif ((decide (s.1.2.1.2.2 = (0 : Int)))) (
  none) (
  tif ((decide ((IntKind.wrap .i64 (Int.tdiv e.1 s.1.2.1.2.2)) < r42.1))) (
  some false) (
  obind (cascade_Kept n r40.1 k) fun r68 =>
  tif ((decide (r68.2.2 = (0 : Int)))) (
  tif ((decide (r68.2.1 = r42.1))) (
  tif ((decide (r68.1 ≤ r68.2.1))) (
  tif ((decide (k = (0 : Int)))) (
  some (decide ((IntKind.wrap .i64 (r68.2.1 - r68.1)) < s.1.2.2.1.1))) (
  tif ((decide (k = (1 : Int)))) (
  some (decide ((IntKind.wrap .i64 (r68.2.1 - r68.1)) < s.1.2.2.1.2.1))) (
  tif ((decide (k = (2 : Int)))) (
  some (decide ((IntKind.wrap .i64 (r68.2.1 - r68.1)) < s.1.2.2.1.2.2))) (
  none)))) (
  some false)) (
  some false)) (
  some false)))) (
  none)))) (
  obind (cascade_Kept n r40.1 k) fun r69 =>
  tif ((decide (r69.2.2 = (0 : Int)))) (
  tif ((decide (r69.2.1 = r42.1))) (
  tif ((decide (r69.1 ≤ r69.2.1))) (
  tif ((decide (k = (0 : Int)))) (
  some (decide ((IntKind.wrap .i64 (r69.2.1 - r69.1)) < s.1.2.2.1.1))) (
  tif ((decide (k = (1 : Int)))) (
  some (decide ((IntKind.wrap .i64 (r69.2.1 - r69.1)) < s.1.2.2.1.2.1))) (
  tif ((decide (k = (2 : Int)))) (
  some (decide ((IntKind.wrap .i64 (r69.2.1 - r69.1)) < s.1.2.2.1.2.2))) (
  none)))) (
  some false)) (
  some false)) (
  some false)))) (
  tif ((decide ((IntKind.wrap .i64 (k - (1 : Int))) = (2 : Int)))) (
  tif ((decide (r43.2.2 < r43.2.1))) (
  some false) (
  obind (write_One n r40.1 l e) fun r70 =>
  tif ((decide (r70.2 = (0 : Int)))) (
  tif ((decide (k = (0 : Int)))) (
  tif ((decide (s.1.2.1.1 = (0 : Int)))) (
  none) (
  tif ((decide ((IntKind.wrap .i64 (Int.tdiv e.1 s.1.2.1.1)) < r42.1))) (
  some false) (
  obind (cascade_Kept n r40.1 k) fun r71 =>
  tif ((decide (r71.2.2 = (0 : Int)))) (
  tif ((decide (r71.2.1 = r42.1))) (
  tif ((decide (r71.1 ≤ r71.2.1))) (
  tif ((decide (k = (0 : Int)))) (
  some (decide ((IntKind.wrap .i64 (r71.2.1 - r71.1)) < s.1.2.2.1.1))) (
  tif ((decide (k = (1 : Int)))) (
  some (decide ((IntKind.wrap .i64 (r71.2.1 - r71.1)) < s.1.2.2.1.2.1))) (
  tif ((decide (k = (2 : Int)))) (
  some (decide ((IntKind.wrap .i64 (r71.2.1 - r71.1)) < s.1.2.2.1.2.2))) (
  none)))) (
  some false)) (
  some false)) (
  some false)))) (
  tif ((decide (k = (1 : Int)))) (
  tif ((decide (s.1.2.1.2.1 = (0 : Int)))) (
  none) (
  tif ((decide ((IntKind.wrap .i64 (Int.tdiv e.1 s.1.2.1.2.1)) < r42.1))) (
  some false) (
  obind (cascade_Kept n r40.1 k) fun r72 =>
  tif ((decide (r72.2.2 = (0 : Int)))) (
  tif ((decide (r72.2.1 = r42.1))) (
  tif ((decide (r72.1 ≤ r72.2.1))) (
  tif ((decide (k = (0 : Int)))) (
  some (decide ((IntKind.wrap .i64 (r72.2.1 - r72.1)) < s.1.2.2.1.1))) (
  tif ((decide (k = (1 : Int)))) (
  some (decide ((IntKind.wrap .i64 (r72.2.1 - r72.1)) < s.1.2.2.1.2.1))) (
  tif ((decide (k = (2 : Int)))) (
  some (decide ((IntKind.wrap .i64 (r72.2.1 - r72.1)) < s.1.2.2.1.2.2))) (
  none)))) (
  some false)) (
  some false)) (
  some false)))) (
  tif ((decide (k = (2 : Int)))) (
  tif ((decide (s.1.2.1.2.2 = (0 : Int)))) (
  none) (
  tif ((decide ((IntKind.wrap .i64 (Int.tdiv e.1 s.1.2.1.2.2)) < r42.1))) (
  some false) (
  obind (cascade_Kept n r40.1 k) fun r73 =>
  tif ((decide (r73.2.2 = (0 : Int)))) (
  tif ((decide (r73.2.1 = r42.1))) (
  tif ((decide (r73.1 ≤ r73.2.1))) (
  tif ((decide (k = (0 : Int)))) (
  some (decide ((IntKind.wrap .i64 (r73.2.1 - r73.1)) < s.1.2.2.1.1))) (
  tif ((decide (k = (1 : Int)))) (
  some (decide ((IntKind.wrap .i64 (r73.2.1 - r73.1)) < s.1.2.2.1.2.1))) (
  tif ((decide (k = (2 : Int)))) (
  some (decide ((IntKind.wrap .i64 (r73.2.1 - r73.1)) < s.1.2.2.1.2.2))) (
  none)))) (
  some false)) (
  some false)) (
  some false)))) (
  none)))) (
  obind (cascade_Kept n r40.1 k) fun r74 =>
  tif ((decide (r74.2.2 = (0 : Int)))) (
  tif ((decide (r74.2.1 = r42.1))) (
  tif ((decide (r74.1 ≤ r74.2.1))) (
  tif ((decide (k = (0 : Int)))) (
  some (decide ((IntKind.wrap .i64 (r74.2.1 - r74.1)) < s.1.2.2.1.1))) (
  tif ((decide (k = (1 : Int)))) (
  some (decide ((IntKind.wrap .i64 (r74.2.1 - r74.1)) < s.1.2.2.1.2.1))) (
  tif ((decide (k = (2 : Int)))) (
  some (decide ((IntKind.wrap .i64 (r74.2.1 - r74.1)) < s.1.2.2.1.2.2))) (
  none)))) (
  some false)) (
  some false)) (
  some false)))) (
  none)))) (
  tif ((decide (k = (2 : Int)))) (
  tif ((decide ((IntKind.wrap .i64 (k - (1 : Int))) = (0 : Int)))) (
  tif ((decide (r43.1 < r43.2.2))) (
  some false) (
  obind (write_One n r40.1 l e) fun r75 =>
  tif ((decide (r75.2 = (0 : Int)))) (
  tif ((decide (k = (0 : Int)))) (
  tif ((decide (s.1.2.1.1 = (0 : Int)))) (
  none) (
  tif ((decide ((IntKind.wrap .i64 (Int.tdiv e.1 s.1.2.1.1)) < r42.1))) (
  some false) (
  obind (cascade_Kept n r40.1 k) fun r76 =>
  tif ((decide (r76.2.2 = (0 : Int)))) (
  tif ((decide (r76.2.1 = r42.1))) (
  tif ((decide (r76.1 ≤ r76.2.1))) (
  tif ((decide (k = (0 : Int)))) (
  some (decide ((IntKind.wrap .i64 (r76.2.1 - r76.1)) < s.1.2.2.1.1))) (
  tif ((decide (k = (1 : Int)))) (
  some (decide ((IntKind.wrap .i64 (r76.2.1 - r76.1)) < s.1.2.2.1.2.1))) (
  tif ((decide (k = (2 : Int)))) (
  some (decide ((IntKind.wrap .i64 (r76.2.1 - r76.1)) < s.1.2.2.1.2.2))) (
  none)))) (
  some false)) (
  some false)) (
  some false)))) (
  tif ((decide (k = (1 : Int)))) (
  tif ((decide (s.1.2.1.2.1 = (0 : Int)))) (
  none) (
  tif ((decide ((IntKind.wrap .i64 (Int.tdiv e.1 s.1.2.1.2.1)) < r42.1))) (
  some false) (
  obind (cascade_Kept n r40.1 k) fun r77 =>
  tif ((decide (r77.2.2 = (0 : Int)))) (
  tif ((decide (r77.2.1 = r42.1))) (
  tif ((decide (r77.1 ≤ r77.2.1))) (
  tif ((decide (k = (0 : Int)))) (
  some (decide ((IntKind.wrap .i64 (r77.2.1 - r77.1)) < s.1.2.2.1.1))) (
  tif ((decide (k = (1 : Int)))) (
  some (decide ((IntKind.wrap .i64 (r77.2.1 - r77.1)) < s.1.2.2.1.2.1))) (
  tif ((decide (k = (2 : Int)))) (
  some (decide ((IntKind.wrap .i64 (r77.2.1 - r77.1)) < s.1.2.2.1.2.2))) (
  none)))) (
  some false)) (
  some false)) (
  some false)))) (
  tif ((decide (k = (2 : Int)))) (
  tif ((decide (s.1.2.1.2.2 = (0 : Int)))) (
  none) (
  tif ((decide ((IntKind.wrap .i64 (Int.tdiv e.1 s.1.2.1.2.2)) < r42.1))) (
  some false) (
  obind (cascade_Kept n r40.1 k) fun r78 =>
  tif ((decide (r78.2.2 = (0 : Int)))) (
  tif ((decide (r78.2.1 = r42.1))) (
  tif ((decide (r78.1 ≤ r78.2.1))) (
  tif ((decide (k = (0 : Int)))) (
  some (decide ((IntKind.wrap .i64 (r78.2.1 - r78.1)) < s.1.2.2.1.1))) (
  tif ((decide (k = (1 : Int)))) (
  some (decide ((IntKind.wrap .i64 (r78.2.1 - r78.1)) < s.1.2.2.1.2.1))) (
  tif ((decide (k = (2 : Int)))) (
  some (decide ((IntKind.wrap .i64 (r78.2.1 - r78.1)) < s.1.2.2.1.2.2))) (
  none)))) (
  some false)) (
  some false)) (
  some false)))) (
  none)))) (
  obind (cascade_Kept n r40.1 k) fun r79 =>
  tif ((decide (r79.2.2 = (0 : Int)))) (
  tif ((decide (r79.2.1 = r42.1))) (
  tif ((decide (r79.1 ≤ r79.2.1))) (
  tif ((decide (k = (0 : Int)))) (
  some (decide ((IntKind.wrap .i64 (r79.2.1 - r79.1)) < s.1.2.2.1.1))) (
  tif ((decide (k = (1 : Int)))) (
  some (decide ((IntKind.wrap .i64 (r79.2.1 - r79.1)) < s.1.2.2.1.2.1))) (
  tif ((decide (k = (2 : Int)))) (
  some (decide ((IntKind.wrap .i64 (r79.2.1 - r79.1)) < s.1.2.2.1.2.2))) (
  none)))) (
  some false)) (
  some false)) (
  some false)))) (
  tif ((decide ((IntKind.wrap .i64 (k - (1 : Int))) = (1 : Int)))) (
  tif ((decide (r43.2.1 < r43.2.2))) (
  some false) (
  obind (write_One n r40.1 l e) fun r80 =>
  tif ((decide (r80.2 = (0 : Int)))) (
  tif ((decide (k = (0 : Int)))) (
  tif ((decide (s.1.2.1.1 = (0 : Int)))) (
  none) (
  tif ((decide ((IntKind.wrap .i64 (Int.tdiv e.1 s.1.2.1.1)) < r42.1))) (
  some false) (
  obind (cascade_Kept n r40.1 k) fun r81 =>
  tif ((decide (r81.2.2 = (0 : Int)))) (
  tif ((decide (r81.2.1 = r42.1))) (
  tif ((decide (r81.1 ≤ r81.2.1))) (
  tif ((decide (k = (0 : Int)))) (
  some (decide ((IntKind.wrap .i64 (r81.2.1 - r81.1)) < s.1.2.2.1.1))) (
  tif ((decide (k = (1 : Int)))) (
  some (decide ((IntKind.wrap .i64 (r81.2.1 - r81.1)) < s.1.2.2.1.2.1))) (
  tif ((decide (k = (2 : Int)))) (
  some (decide ((IntKind.wrap .i64 (r81.2.1 - r81.1)) < s.1.2.2.1.2.2))) (
  none)))) (
  some false)) (
  some false)) (
  some false)))) (
  tif ((decide (k = (1 : Int)))) (
  tif ((decide (s.1.2.1.2.1 = (0 : Int)))) (
  none) (
  tif ((decide ((IntKind.wrap .i64 (Int.tdiv e.1 s.1.2.1.2.1)) < r42.1))) (
  some false) (
  obind (cascade_Kept n r40.1 k) fun r82 =>
  tif ((decide (r82.2.2 = (0 : Int)))) (
  tif ((decide (r82.2.1 = r42.1))) (
  tif ((decide (r82.1 ≤ r82.2.1))) (
  tif ((decide (k = (0 : Int)))) (
  some (decide ((IntKind.wrap .i64 (r82.2.1 - r82.1)) < s.1.2.2.1.1))) (
  tif ((decide (k = (1 : Int)))) (
  some (decide ((IntKind.wrap .i64 (r82.2.1 - r82.1)) < s.1.2.2.1.2.1))) (
  tif ((decide (k = (2 : Int)))) (
  some (decide ((IntKind.wrap .i64 (r82.2.1 - r82.1)) < s.1.2.2.1.2.2))) (
  none)))) (
  some false)) (
  some false)) (
  some false)))) (
  tif ((decide (k = (2 : Int)))) (
  tif ((decide (s.1.2.1.2.2 = (0 : Int)))) (
  none) (
  tif ((decide ((IntKind.wrap .i64 (Int.tdiv e.1 s.1.2.1.2.2)) < r42.1))) (
  some false) (
  obind (cascade_Kept n r40.1 k) fun r83 =>
  tif ((decide (r83.2.2 = (0 : Int)))) (
  tif ((decide (r83.2.1 = r42.1))) (
  tif ((decide (r83.1 ≤ r83.2.1))) (
  tif ((decide (k = (0 : Int)))) (
  some (decide ((IntKind.wrap .i64 (r83.2.1 - r83.1)) < s.1.2.2.1.1))) (
  tif ((decide (k = (1 : Int)))) (
  some (decide ((IntKind.wrap .i64 (r83.2.1 - r83.1)) < s.1.2.2.1.2.1))) (
  tif ((decide (k = (2 : Int)))) (
  some (decide ((IntKind.wrap .i64 (r83.2.1 - r83.1)) < s.1.2.2.1.2.2))) (
  none)))) (
  some false)) (
  some false)) (
  some false)))) (
  none)))) (
  obind (cascade_Kept n r40.1 k) fun r84 =>
  tif ((decide (r84.2.2 = (0 : Int)))) (
  tif ((decide (r84.2.1 = r42.1))) (
  tif ((decide (r84.1 ≤ r84.2.1))) (
  tif ((decide (k = (0 : Int)))) (
  some (decide ((IntKind.wrap .i64 (r84.2.1 - r84.1)) < s.1.2.2.1.1))) (
  tif ((decide (k = (1 : Int)))) (
  some (decide ((IntKind.wrap .i64 (r84.2.1 - r84.1)) < s.1.2.2.1.2.1))) (
  tif ((decide (k = (2 : Int)))) (
  some (decide ((IntKind.wrap .i64 (r84.2.1 - r84.1)) < s.1.2.2.1.2.2))) (
  none)))) (
  some false)) (
  some false)) (
  some false)))) (
  tif ((decide ((IntKind.wrap .i64 (k - (1 : Int))) = (2 : Int)))) (
  tif ((decide (r43.2.2 < r43.2.2))) (
  some false) (
  obind (write_One n r40.1 l e) fun r85 =>
  tif ((decide (r85.2 = (0 : Int)))) (
  tif ((decide (k = (0 : Int)))) (
  tif ((decide (s.1.2.1.1 = (0 : Int)))) (
  none) (
  tif ((decide ((IntKind.wrap .i64 (Int.tdiv e.1 s.1.2.1.1)) < r42.1))) (
  some false) (
  obind (cascade_Kept n r40.1 k) fun r86 =>
  tif ((decide (r86.2.2 = (0 : Int)))) (
  tif ((decide (r86.2.1 = r42.1))) (
  tif ((decide (r86.1 ≤ r86.2.1))) (
  tif ((decide (k = (0 : Int)))) (
  some (decide ((IntKind.wrap .i64 (r86.2.1 - r86.1)) < s.1.2.2.1.1))) (
  tif ((decide (k = (1 : Int)))) (
  some (decide ((IntKind.wrap .i64 (r86.2.1 - r86.1)) < s.1.2.2.1.2.1))) (
  tif ((decide (k = (2 : Int)))) (
  some (decide ((IntKind.wrap .i64 (r86.2.1 - r86.1)) < s.1.2.2.1.2.2))) (
  none)))) (
  some false)) (
  some false)) (
  some false)))) (
  tif ((decide (k = (1 : Int)))) (
  tif ((decide (s.1.2.1.2.1 = (0 : Int)))) (
  none) (
  tif ((decide ((IntKind.wrap .i64 (Int.tdiv e.1 s.1.2.1.2.1)) < r42.1))) (
  some false) (
  obind (cascade_Kept n r40.1 k) fun r87 =>
  tif ((decide (r87.2.2 = (0 : Int)))) (
  tif ((decide (r87.2.1 = r42.1))) (
  tif ((decide (r87.1 ≤ r87.2.1))) (
  tif ((decide (k = (0 : Int)))) (
  some (decide ((IntKind.wrap .i64 (r87.2.1 - r87.1)) < s.1.2.2.1.1))) (
  tif ((decide (k = (1 : Int)))) (
  some (decide ((IntKind.wrap .i64 (r87.2.1 - r87.1)) < s.1.2.2.1.2.1))) (
  tif ((decide (k = (2 : Int)))) (
  some (decide ((IntKind.wrap .i64 (r87.2.1 - r87.1)) < s.1.2.2.1.2.2))) (
  none)))) (
  some false)) (
  some false)) (
  some false)))) (
  tif ((decide (k = (2 : Int)))) (
  tif ((decide (s.1.2.1.2.2 = (0 : Int)))) (
  none) (
  tif ((decide ((IntKind.wrap .i64 (Int.tdiv e.1 s.1.2.1.2.2)) < r42.1))) (
  some false) (
  obind (cascade_Kept n r40.1 k) fun r88 =>
  tif ((decide (r88.2.2 = (0 : Int)))) (
  tif ((decide (r88.2.1 = r42.1))) (
  tif ((decide (r88.1 ≤ r88.2.1))) (
  tif ((decide (k = (0 : Int)))) (
  some (decide ((IntKind.wrap .i64 (r88.2.1 - r88.1)) < s.1.2.2.1.1))) (
  tif ((decide (k = (1 : Int)))) (
  some (decide ((IntKind.wrap .i64 (r88.2.1 - r88.1)) < s.1.2.2.1.2.1))) (
  tif ((decide (k = (2 : Int)))) (
  some (decide ((IntKind.wrap .i64 (r88.2.1 - r88.1)) < s.1.2.2.1.2.2))) (
  none)))) (
  some false)) (
  some false)) (
  some false)))) (
  none)))) (
  obind (cascade_Kept n r40.1 k) fun r89 =>
  tif ((decide (r89.2.2 = (0 : Int)))) (
  tif ((decide (r89.2.1 = r42.1))) (
  tif ((decide (r89.1 ≤ r89.2.1))) (
  tif ((decide (k = (0 : Int)))) (
  some (decide ((IntKind.wrap .i64 (r89.2.1 - r89.1)) < s.1.2.2.1.1))) (
  tif ((decide (k = (1 : Int)))) (
  some (decide ((IntKind.wrap .i64 (r89.2.1 - r89.1)) < s.1.2.2.1.2.1))) (
  tif ((decide (k = (2 : Int)))) (
  some (decide ((IntKind.wrap .i64 (r89.2.1 - r89.1)) < s.1.2.2.1.2.2))) (
  none)))) (
  some false)) (
  some false)) (
  some false)))) (
  none)))) (
  none)))) (
  obind (write_One n r40.1 l e) fun r90 =>
  tif ((decide (r90.2 = (0 : Int)))) (
  tif ((decide (k = (0 : Int)))) (
  tif ((decide (s.1.2.1.1 = (0 : Int)))) (
  none) (
  tif ((decide ((IntKind.wrap .i64 (Int.tdiv e.1 s.1.2.1.1)) < r42.1))) (
  some false) (
  obind (cascade_Kept n r40.1 k) fun r91 =>
  tif ((decide (r91.2.2 = (0 : Int)))) (
  tif ((decide (r91.2.1 = r42.1))) (
  tif ((decide (r91.1 ≤ r91.2.1))) (
  tif ((decide (k = (0 : Int)))) (
  some (decide ((IntKind.wrap .i64 (r91.2.1 - r91.1)) < s.1.2.2.1.1))) (
  tif ((decide (k = (1 : Int)))) (
  some (decide ((IntKind.wrap .i64 (r91.2.1 - r91.1)) < s.1.2.2.1.2.1))) (
  tif ((decide (k = (2 : Int)))) (
  some (decide ((IntKind.wrap .i64 (r91.2.1 - r91.1)) < s.1.2.2.1.2.2))) (
  none)))) (
  some false)) (
  some false)) (
  some false)))) (
  tif ((decide (k = (1 : Int)))) (
  tif ((decide (s.1.2.1.2.1 = (0 : Int)))) (
  none) (
  tif ((decide ((IntKind.wrap .i64 (Int.tdiv e.1 s.1.2.1.2.1)) < r42.1))) (
  some false) (
  obind (cascade_Kept n r40.1 k) fun r92 =>
  tif ((decide (r92.2.2 = (0 : Int)))) (
  tif ((decide (r92.2.1 = r42.1))) (
  tif ((decide (r92.1 ≤ r92.2.1))) (
  tif ((decide (k = (0 : Int)))) (
  some (decide ((IntKind.wrap .i64 (r92.2.1 - r92.1)) < s.1.2.2.1.1))) (
  tif ((decide (k = (1 : Int)))) (
  some (decide ((IntKind.wrap .i64 (r92.2.1 - r92.1)) < s.1.2.2.1.2.1))) (
  tif ((decide (k = (2 : Int)))) (
  some (decide ((IntKind.wrap .i64 (r92.2.1 - r92.1)) < s.1.2.2.1.2.2))) (
  none)))) (
  some false)) (
  some false)) (
  some false)))) (
  tif ((decide (k = (2 : Int)))) (
  tif ((decide (s.1.2.1.2.2 = (0 : Int)))) (
  none) (
  tif ((decide ((IntKind.wrap .i64 (Int.tdiv e.1 s.1.2.1.2.2)) < r42.1))) (
  some false) (
  obind (cascade_Kept n r40.1 k) fun r93 =>
  tif ((decide (r93.2.2 = (0 : Int)))) (
  tif ((decide (r93.2.1 = r42.1))) (
  tif ((decide (r93.1 ≤ r93.2.1))) (
  tif ((decide (k = (0 : Int)))) (
  some (decide ((IntKind.wrap .i64 (r93.2.1 - r93.1)) < s.1.2.2.1.1))) (
  tif ((decide (k = (1 : Int)))) (
  some (decide ((IntKind.wrap .i64 (r93.2.1 - r93.1)) < s.1.2.2.1.2.1))) (
  tif ((decide (k = (2 : Int)))) (
  some (decide ((IntKind.wrap .i64 (r93.2.1 - r93.1)) < s.1.2.2.1.2.2))) (
  none)))) (
  some false)) (
  some false)) (
  some false)))) (
  none)))) (
  obind (cascade_Kept n r40.1 k) fun r94 =>
  tif ((decide (r94.2.2 = (0 : Int)))) (
  tif ((decide (r94.2.1 = r42.1))) (
  tif ((decide (r94.1 ≤ r94.2.1))) (
  tif ((decide (k = (0 : Int)))) (
  some (decide ((IntKind.wrap .i64 (r94.2.1 - r94.1)) < s.1.2.2.1.1))) (
  tif ((decide (k = (1 : Int)))) (
  some (decide ((IntKind.wrap .i64 (r94.2.1 - r94.1)) < s.1.2.2.1.2.1))) (
  tif ((decide (k = (2 : Int)))) (
  some (decide ((IntKind.wrap .i64 (r94.2.1 - r94.1)) < s.1.2.2.1.2.2))) (
  none)))) (
  some false)) (
  some false)) (
  some false)))))) (
  tif ((decide (k = (1 : Int)))) (
  tif ((!(decide ((IntKind.wrap .i64 (r42.1 - r41.1)) = r43.2.1)))) (
  some false) (
  tif ((decide (r42.1 < r41.1))) (
  some false) (
  tif ((decide ((0 : Int) < k))) (
  tif ((decide (k = (0 : Int)))) (
  tif ((decide ((IntKind.wrap .i64 (k - (1 : Int))) = (0 : Int)))) (
  tif ((decide (r43.1 < r43.1))) (
  some false) (
  obind (write_One n r40.1 l e) fun r95 =>
  tif ((decide (r95.2 = (0 : Int)))) (
  tif ((decide (k = (0 : Int)))) (
  tif ((decide (s.1.2.1.1 = (0 : Int)))) (
  none) (
  tif ((decide ((IntKind.wrap .i64 (Int.tdiv e.1 s.1.2.1.1)) < r42.1))) (
  some false) (
  obind (cascade_Kept n r40.1 k) fun r96 =>
  tif ((decide (r96.2.2 = (0 : Int)))) (
  tif ((decide (r96.2.1 = r42.1))) (
  tif ((decide (r96.1 ≤ r96.2.1))) (
  tif ((decide (k = (0 : Int)))) (
  some (decide ((IntKind.wrap .i64 (r96.2.1 - r96.1)) < s.1.2.2.1.1))) (
  tif ((decide (k = (1 : Int)))) (
  some (decide ((IntKind.wrap .i64 (r96.2.1 - r96.1)) < s.1.2.2.1.2.1))) (
  tif ((decide (k = (2 : Int)))) (
  some (decide ((IntKind.wrap .i64 (r96.2.1 - r96.1)) < s.1.2.2.1.2.2))) (
  none)))) (
  some false)) (
  some false)) (
  some false)))) (
  tif ((decide (k = (1 : Int)))) (
  tif ((decide (s.1.2.1.2.1 = (0 : Int)))) (
  none) (
  tif ((decide ((IntKind.wrap .i64 (Int.tdiv e.1 s.1.2.1.2.1)) < r42.1))) (
  some false) (
  obind (cascade_Kept n r40.1 k) fun r97 =>
  tif ((decide (r97.2.2 = (0 : Int)))) (
  tif ((decide (r97.2.1 = r42.1))) (
  tif ((decide (r97.1 ≤ r97.2.1))) (
  tif ((decide (k = (0 : Int)))) (
  some (decide ((IntKind.wrap .i64 (r97.2.1 - r97.1)) < s.1.2.2.1.1))) (
  tif ((decide (k = (1 : Int)))) (
  some (decide ((IntKind.wrap .i64 (r97.2.1 - r97.1)) < s.1.2.2.1.2.1))) (
  tif ((decide (k = (2 : Int)))) (
  some (decide ((IntKind.wrap .i64 (r97.2.1 - r97.1)) < s.1.2.2.1.2.2))) (
  none)))) (
  some false)) (
  some false)) (
  some false)))) (
  tif ((decide (k = (2 : Int)))) (
  tif ((decide (s.1.2.1.2.2 = (0 : Int)))) (
  none) (
  tif ((decide ((IntKind.wrap .i64 (Int.tdiv e.1 s.1.2.1.2.2)) < r42.1))) (
  some false) (
  obind (cascade_Kept n r40.1 k) fun r98 =>
  tif ((decide (r98.2.2 = (0 : Int)))) (
  tif ((decide (r98.2.1 = r42.1))) (
  tif ((decide (r98.1 ≤ r98.2.1))) (
  tif ((decide (k = (0 : Int)))) (
  some (decide ((IntKind.wrap .i64 (r98.2.1 - r98.1)) < s.1.2.2.1.1))) (
  tif ((decide (k = (1 : Int)))) (
  some (decide ((IntKind.wrap .i64 (r98.2.1 - r98.1)) < s.1.2.2.1.2.1))) (
  tif ((decide (k = (2 : Int)))) (
  some (decide ((IntKind.wrap .i64 (r98.2.1 - r98.1)) < s.1.2.2.1.2.2))) (
  none)))) (
  some false)) (
  some false)) (
  some false)))) (
  none)))) (
  obind (cascade_Kept n r40.1 k) fun r99 =>
  tif ((decide (r99.2.2 = (0 : Int)))) (
  tif ((decide (r99.2.1 = r42.1))) (
  tif ((decide (r99.1 ≤ r99.2.1))) (
  tif ((decide (k = (0 : Int)))) (
  some (decide ((IntKind.wrap .i64 (r99.2.1 - r99.1)) < s.1.2.2.1.1))) (
  tif ((decide (k = (1 : Int)))) (
  some (decide ((IntKind.wrap .i64 (r99.2.1 - r99.1)) < s.1.2.2.1.2.1))) (
  tif ((decide (k = (2 : Int)))) (
  some (decide ((IntKind.wrap .i64 (r99.2.1 - r99.1)) < s.1.2.2.1.2.2))) (
  none)))) (
  some false)) (
  some false)) (
  some false)))) (
  tif ((decide ((IntKind.wrap .i64 (k - (1 : Int))) = (1 : Int)))) (
  tif ((decide (r43.2.1 < r43.1))) (
  some false) (
  obind (write_One n r40.1 l e) fun r100 =>
  tif ((decide (r100.2 = (0 : Int)))) (
  tif ((decide (k = (0 : Int)))) (
  tif ((decide (s.1.2.1.1 = (0 : Int)))) (
  none) (
  tif ((decide ((IntKind.wrap .i64 (Int.tdiv e.1 s.1.2.1.1)) < r42.1))) (
  some false) (
  obind (cascade_Kept n r40.1 k) fun r101 =>
  tif ((decide (r101.2.2 = (0 : Int)))) (
  tif ((decide (r101.2.1 = r42.1))) (
  tif ((decide (r101.1 ≤ r101.2.1))) (
  tif ((decide (k = (0 : Int)))) (
  some (decide ((IntKind.wrap .i64 (r101.2.1 - r101.1)) < s.1.2.2.1.1))) (
  tif ((decide (k = (1 : Int)))) (
  some (decide ((IntKind.wrap .i64 (r101.2.1 - r101.1)) < s.1.2.2.1.2.1))) (
  tif ((decide (k = (2 : Int)))) (
  some (decide ((IntKind.wrap .i64 (r101.2.1 - r101.1)) < s.1.2.2.1.2.2))) (
  none)))) (
  some false)) (
  some false)) (
  some false)))) (
  tif ((decide (k = (1 : Int)))) (
  tif ((decide (s.1.2.1.2.1 = (0 : Int)))) (
  none) (
  tif ((decide ((IntKind.wrap .i64 (Int.tdiv e.1 s.1.2.1.2.1)) < r42.1))) (
  some false) (
  obind (cascade_Kept n r40.1 k) fun r102 =>
  tif ((decide (r102.2.2 = (0 : Int)))) (
  tif ((decide (r102.2.1 = r42.1))) (
  tif ((decide (r102.1 ≤ r102.2.1))) (
  tif ((decide (k = (0 : Int)))) (
  some (decide ((IntKind.wrap .i64 (r102.2.1 - r102.1)) < s.1.2.2.1.1))) (
  tif ((decide (k = (1 : Int)))) (
  some (decide ((IntKind.wrap .i64 (r102.2.1 - r102.1)) < s.1.2.2.1.2.1))) (
  tif ((decide (k = (2 : Int)))) (
  some (decide ((IntKind.wrap .i64 (r102.2.1 - r102.1)) < s.1.2.2.1.2.2))) (
  none)))) (
  some false)) (
  some false)) (
  some false)))) (
  tif ((decide (k = (2 : Int)))) (
  tif ((decide (s.1.2.1.2.2 = (0 : Int)))) (
  none) (
  tif ((decide ((IntKind.wrap .i64 (Int.tdiv e.1 s.1.2.1.2.2)) < r42.1))) (
  some false) (
  obind (cascade_Kept n r40.1 k) fun r103 =>
  tif ((decide (r103.2.2 = (0 : Int)))) (
  tif ((decide (r103.2.1 = r42.1))) (
  tif ((decide (r103.1 ≤ r103.2.1))) (
  tif ((decide (k = (0 : Int)))) (
  some (decide ((IntKind.wrap .i64 (r103.2.1 - r103.1)) < s.1.2.2.1.1))) (
  tif ((decide (k = (1 : Int)))) (
  some (decide ((IntKind.wrap .i64 (r103.2.1 - r103.1)) < s.1.2.2.1.2.1))) (
  tif ((decide (k = (2 : Int)))) (
  some (decide ((IntKind.wrap .i64 (r103.2.1 - r103.1)) < s.1.2.2.1.2.2))) (
  none)))) (
  some false)) (
  some false)) (
  some false)))) (
  none)))) (
  obind (cascade_Kept n r40.1 k) fun r104 =>
  tif ((decide (r104.2.2 = (0 : Int)))) (
  tif ((decide (r104.2.1 = r42.1))) (
  tif ((decide (r104.1 ≤ r104.2.1))) (
  tif ((decide (k = (0 : Int)))) (
  some (decide ((IntKind.wrap .i64 (r104.2.1 - r104.1)) < s.1.2.2.1.1))) (
  tif ((decide (k = (1 : Int)))) (
  some (decide ((IntKind.wrap .i64 (r104.2.1 - r104.1)) < s.1.2.2.1.2.1))) (
  tif ((decide (k = (2 : Int)))) (
  some (decide ((IntKind.wrap .i64 (r104.2.1 - r104.1)) < s.1.2.2.1.2.2))) (
  none)))) (
  some false)) (
  some false)) (
  some false)))) (
  tif ((decide ((IntKind.wrap .i64 (k - (1 : Int))) = (2 : Int)))) (
  tif ((decide (r43.2.2 < r43.1))) (
  some false) (
  obind (write_One n r40.1 l e) fun r105 =>
  tif ((decide (r105.2 = (0 : Int)))) (
  tif ((decide (k = (0 : Int)))) (
  tif ((decide (s.1.2.1.1 = (0 : Int)))) (
  none) (
  tif ((decide ((IntKind.wrap .i64 (Int.tdiv e.1 s.1.2.1.1)) < r42.1))) (
  some false) (
  obind (cascade_Kept n r40.1 k) fun r106 =>
  tif ((decide (r106.2.2 = (0 : Int)))) (
  tif ((decide (r106.2.1 = r42.1))) (
  tif ((decide (r106.1 ≤ r106.2.1))) (
  tif ((decide (k = (0 : Int)))) (
  some (decide ((IntKind.wrap .i64 (r106.2.1 - r106.1)) < s.1.2.2.1.1))) (
  tif ((decide (k = (1 : Int)))) (
  some (decide ((IntKind.wrap .i64 (r106.2.1 - r106.1)) < s.1.2.2.1.2.1))) (
  tif ((decide (k = (2 : Int)))) (
  some (decide ((IntKind.wrap .i64 (r106.2.1 - r106.1)) < s.1.2.2.1.2.2))) (
  none)))) (
  some false)) (
  some false)) (
  some false)))) (
  tif ((decide (k = (1 : Int)))) (
  tif ((decide (s.1.2.1.2.1 = (0 : Int)))) (
  none) (
  tif ((decide ((IntKind.wrap .i64 (Int.tdiv e.1 s.1.2.1.2.1)) < r42.1))) (
  some false) (
  obind (cascade_Kept n r40.1 k) fun r107 =>
  tif ((decide (r107.2.2 = (0 : Int)))) (
  tif ((decide (r107.2.1 = r42.1))) (
  tif ((decide (r107.1 ≤ r107.2.1))) (
  tif ((decide (k = (0 : Int)))) (
  some (decide ((IntKind.wrap .i64 (r107.2.1 - r107.1)) < s.1.2.2.1.1))) (
  tif ((decide (k = (1 : Int)))) (
  some (decide ((IntKind.wrap .i64 (r107.2.1 - r107.1)) < s.1.2.2.1.2.1))) (
  tif ((decide (k = (2 : Int)))) (
  some (decide ((IntKind.wrap .i64 (r107.2.1 - r107.1)) < s.1.2.2.1.2.2))) (
  none)))) (
  some false)) (
  some false)) (
  some false)))) (
  tif ((decide (k = (2 : Int)))) (
  tif ((decide (s.1.2.1.2.2 = (0 : Int)))) (
  none) (
  tif ((decide ((IntKind.wrap .i64 (Int.tdiv e.1 s.1.2.1.2.2)) < r42.1))) (
  some false) (
  obind (cascade_Kept n r40.1 k) fun r108 =>
  tif ((decide (r108.2.2 = (0 : Int)))) (
  tif ((decide (r108.2.1 = r42.1))) (
  tif ((decide (r108.1 ≤ r108.2.1))) (
  tif ((decide (k = (0 : Int)))) (
  some (decide ((IntKind.wrap .i64 (r108.2.1 - r108.1)) < s.1.2.2.1.1))) (
  tif ((decide (k = (1 : Int)))) (
  some (decide ((IntKind.wrap .i64 (r108.2.1 - r108.1)) < s.1.2.2.1.2.1))) (
  tif ((decide (k = (2 : Int)))) (
  some (decide ((IntKind.wrap .i64 (r108.2.1 - r108.1)) < s.1.2.2.1.2.2))) (
  none)))) (
  some false)) (
  some false)) (
  some false)))) (
  none)))) (
  obind (cascade_Kept n r40.1 k) fun r109 =>
  tif ((decide (r109.2.2 = (0 : Int)))) (
  tif ((decide (r109.2.1 = r42.1))) (
  tif ((decide (r109.1 ≤ r109.2.1))) (
  tif ((decide (k = (0 : Int)))) (
  some (decide ((IntKind.wrap .i64 (r109.2.1 - r109.1)) < s.1.2.2.1.1))) (
  tif ((decide (k = (1 : Int)))) (
  some (decide ((IntKind.wrap .i64 (r109.2.1 - r109.1)) < s.1.2.2.1.2.1))) (
  tif ((decide (k = (2 : Int)))) (
  some (decide ((IntKind.wrap .i64 (r109.2.1 - r109.1)) < s.1.2.2.1.2.2))) (
  none)))) (
  some false)) (
  some false)) (
  some false)))) (
  none)))) (
  tif ((decide (k = (1 : Int)))) (
  tif ((decide ((IntKind.wrap .i64 (k - (1 : Int))) = (0 : Int)))) (
  tif ((decide (r43.1 < r43.2.1))) (
  some false) (
  obind (write_One n r40.1 l e) fun r110 =>
  tif ((decide (r110.2 = (0 : Int)))) (
  tif ((decide (k = (0 : Int)))) (
  tif ((decide (s.1.2.1.1 = (0 : Int)))) (
  none) (
  tif ((decide ((IntKind.wrap .i64 (Int.tdiv e.1 s.1.2.1.1)) < r42.1))) (
  some false) (
  obind (cascade_Kept n r40.1 k) fun r111 =>
  tif ((decide (r111.2.2 = (0 : Int)))) (
  tif ((decide (r111.2.1 = r42.1))) (
  tif ((decide (r111.1 ≤ r111.2.1))) (
  tif ((decide (k = (0 : Int)))) (
  some (decide ((IntKind.wrap .i64 (r111.2.1 - r111.1)) < s.1.2.2.1.1))) (
  tif ((decide (k = (1 : Int)))) (
  some (decide ((IntKind.wrap .i64 (r111.2.1 - r111.1)) < s.1.2.2.1.2.1))) (
  tif ((decide (k = (2 : Int)))) (
  some (decide ((IntKind.wrap .i64 (r111.2.1 - r111.1)) < s.1.2.2.1.2.2))) (
  none)))) (
  some false)) (
  some false)) (
  some false)))) (
  tif ((decide (k = (1 : Int)))) (
  tif ((decide (s.1.2.1.2.1 = (0 : Int)))) (
  none) (
  tif ((decide ((IntKind.wrap .i64 (Int.tdiv e.1 s.1.2.1.2.1)) < r42.1))) (
  some false) (
  obind (cascade_Kept n r40.1 k) fun r112 =>
  tif ((decide (r112.2.2 = (0 : Int)))) (
  tif ((decide (r112.2.1 = r42.1))) (
  tif ((decide (r112.1 ≤ r112.2.1))) (
  tif ((decide (k = (0 : Int)))) (
  some (decide ((IntKind.wrap .i64 (r112.2.1 - r112.1)) < s.1.2.2.1.1))) (
  tif ((decide (k = (1 : Int)))) (
  some (decide ((IntKind.wrap .i64 (r112.2.1 - r112.1)) < s.1.2.2.1.2.1))) (
  tif ((decide (k = (2 : Int)))) (
  some (decide ((IntKind.wrap .i64 (r112.2.1 - r112.1)) < s.1.2.2.1.2.2))) (
  none)))) (
  some false)) (
  some false)) (
  some false)))) (
  tif ((decide (k = (2 : Int)))) (
  tif ((decide (s.1.2.1.2.2 = (0 : Int)))) (
  none) (
  tif ((decide ((IntKind.wrap .i64 (Int.tdiv e.1 s.1.2.1.2.2)) < r42.1))) (
  some false) (
  obind (cascade_Kept n r40.1 k) fun r113 =>
  tif ((decide (r113.2.2 = (0 : Int)))) (
  tif ((decide (r113.2.1 = r42.1))) (
  tif ((decide (r113.1 ≤ r113.2.1))) (
  tif ((decide (k = (0 : Int)))) (
  some (decide ((IntKind.wrap .i64 (r113.2.1 - r113.1)) < s.1.2.2.1.1))) (
  tif ((decide (k = (1 : Int)))) (
  some (decide ((IntKind.wrap .i64 (r113.2.1 - r113.1)) < s.1.2.2.1.2.1))) (
  tif ((decide (k = (2 : Int)))) (
  some (decide ((IntKind.wrap .i64 (r113.2.1 - r113.1)) < s.1.2.2.1.2.2))) (
  none)))) (
  some false)) (
  some false)) (
  some false)))) (
  none)))) (
  obind (cascade_Kept n r40.1 k) fun r114 =>
  tif ((decide (r114.2.2 = (0 : Int)))) (
  tif ((decide (r114.2.1 = r42.1))) (
  tif ((decide (r114.1 ≤ r114.2.1))) (
  tif ((decide (k = (0 : Int)))) (
  some (decide ((IntKind.wrap .i64 (r114.2.1 - r114.1)) < s.1.2.2.1.1))) (
  tif ((decide (k = (1 : Int)))) (
  some (decide ((IntKind.wrap .i64 (r114.2.1 - r114.1)) < s.1.2.2.1.2.1))) (
  tif ((decide (k = (2 : Int)))) (
  some (decide ((IntKind.wrap .i64 (r114.2.1 - r114.1)) < s.1.2.2.1.2.2))) (
  none)))) (
  some false)) (
  some false)) (
  some false)))) (
  tif ((decide ((IntKind.wrap .i64 (k - (1 : Int))) = (1 : Int)))) (
  tif ((decide (r43.2.1 < r43.2.1))) (
  some false) (
  obind (write_One n r40.1 l e) fun r115 =>
  tif ((decide (r115.2 = (0 : Int)))) (
  tif ((decide (k = (0 : Int)))) (
  tif ((decide (s.1.2.1.1 = (0 : Int)))) (
  none) (
  tif ((decide ((IntKind.wrap .i64 (Int.tdiv e.1 s.1.2.1.1)) < r42.1))) (
  some false) (
  obind (cascade_Kept n r40.1 k) fun r116 =>
  tif ((decide (r116.2.2 = (0 : Int)))) (
  tif ((decide (r116.2.1 = r42.1))) (
  tif ((decide (r116.1 ≤ r116.2.1))) (
  tif ((decide (k = (0 : Int)))) (
  some (decide ((IntKind.wrap .i64 (r116.2.1 - r116.1)) < s.1.2.2.1.1))) (
  tif ((decide (k = (1 : Int)))) (
  some (decide ((IntKind.wrap .i64 (r116.2.1 - r116.1)) < s.1.2.2.1.2.1))) (
  tif ((decide (k = (2 : Int)))) (
  some (decide ((IntKind.wrap .i64 (r116.2.1 - r116.1)) < s.1.2.2.1.2.2))) (
  none)))) (
  some false)) (
  some false)) (
  some false)))) (
  tif ((decide (k = (1 : Int)))) (
  tif ((decide (s.1.2.1.2.1 = (0 : Int)))) (
  none) (
  tif ((decide ((IntKind.wrap .i64 (Int.tdiv e.1 s.1.2.1.2.1)) < r42.1))) (
  some false) (
  obind (cascade_Kept n r40.1 k) fun r117 =>
  tif ((decide (r117.2.2 = (0 : Int)))) (
  tif ((decide (r117.2.1 = r42.1))) (
  tif ((decide (r117.1 ≤ r117.2.1))) (
  tif ((decide (k = (0 : Int)))) (
  some (decide ((IntKind.wrap .i64 (r117.2.1 - r117.1)) < s.1.2.2.1.1))) (
  tif ((decide (k = (1 : Int)))) (
  some (decide ((IntKind.wrap .i64 (r117.2.1 - r117.1)) < s.1.2.2.1.2.1))) (
  tif ((decide (k = (2 : Int)))) (
  some (decide ((IntKind.wrap .i64 (r117.2.1 - r117.1)) < s.1.2.2.1.2.2))) (
  none)))) (
  some false)) (
  some false)) (
  some false)))) (
  tif ((decide (k = (2 : Int)))) (
  tif ((decide (s.1.2.1.2.2 = (0 : Int)))) (
  none) (
  tif ((decide ((IntKind.wrap .i64 (Int.tdiv e.1 s.1.2.1.2.2)) < r42.1))) (
  some false) (
  obind (cascade_Kept n r40.1 k) fun r118 =>
  tif ((decide (r118.2.2 = (0 : Int)))) (
  tif ((decide (r118.2.1 = r42.1))) (
  tif ((decide (r118.1 ≤ r118.2.1))) (
  tif ((decide (k = (0 : Int)))) (
  some (decide ((IntKind.wrap .i64 (r118.2.1 - r118.1)) < s.1.2.2.1.1))) (
  tif ((decide (k = (1 : Int)))) (
  some (decide ((IntKind.wrap .i64 (r118.2.1 - r118.1)) < s.1.2.2.1.2.1))) (
  tif ((decide (k = (2 : Int)))) (
  some (decide ((IntKind.wrap .i64 (r118.2.1 - r118.1)) < s.1.2.2.1.2.2))) (
  none)))) (
  some false)) (
  some false)) (
  some false)))) (
  none)))) (
  obind (cascade_Kept n r40.1 k) fun r119 =>
  tif ((decide (r119.2.2 = (0 : Int)))) (
  tif ((decide (r119.2.1 = r42.1))) (
  tif ((decide (r119.1 ≤ r119.2.1))) (
  tif ((decide (k = (0 : Int)))) (
  some (decide ((IntKind.wrap .i64 (r119.2.1 - r119.1)) < s.1.2.2.1.1))) (
  tif ((decide (k = (1 : Int)))) (
  some (decide ((IntKind.wrap .i64 (r119.2.1 - r119.1)) < s.1.2.2.1.2.1))) (
  tif ((decide (k = (2 : Int)))) (
  some (decide ((IntKind.wrap .i64 (r119.2.1 - r119.1)) < s.1.2.2.1.2.2))) (
  none)))) (
  some false)) (
  some false)) (
  some false)))) (
  tif ((decide ((IntKind.wrap .i64 (k - (1 : Int))) = (2 : Int)))) (
  tif ((decide (r43.2.2 < r43.2.1))) (
  some false) (
  obind (write_One n r40.1 l e) fun r120 =>
  tif ((decide (r120.2 = (0 : Int)))) (
  tif ((decide (k = (0 : Int)))) (
  tif ((decide (s.1.2.1.1 = (0 : Int)))) (
  none) (
  tif ((decide ((IntKind.wrap .i64 (Int.tdiv e.1 s.1.2.1.1)) < r42.1))) (
  some false) (
  obind (cascade_Kept n r40.1 k) fun r121 =>
  tif ((decide (r121.2.2 = (0 : Int)))) (
  tif ((decide (r121.2.1 = r42.1))) (
  tif ((decide (r121.1 ≤ r121.2.1))) (
  tif ((decide (k = (0 : Int)))) (
  some (decide ((IntKind.wrap .i64 (r121.2.1 - r121.1)) < s.1.2.2.1.1))) (
  tif ((decide (k = (1 : Int)))) (
  some (decide ((IntKind.wrap .i64 (r121.2.1 - r121.1)) < s.1.2.2.1.2.1))) (
  tif ((decide (k = (2 : Int)))) (
  some (decide ((IntKind.wrap .i64 (r121.2.1 - r121.1)) < s.1.2.2.1.2.2))) (
  none)))) (
  some false)) (
  some false)) (
  some false)))) (
  tif ((decide (k = (1 : Int)))) (
  tif ((decide (s.1.2.1.2.1 = (0 : Int)))) (
  none) (
  tif ((decide ((IntKind.wrap .i64 (Int.tdiv e.1 s.1.2.1.2.1)) < r42.1))) (
  some false) (
  obind (cascade_Kept n r40.1 k) fun r122 =>
  tif ((decide (r122.2.2 = (0 : Int)))) (
  tif ((decide (r122.2.1 = r42.1))) (
  tif ((decide (r122.1 ≤ r122.2.1))) (
  tif ((decide (k = (0 : Int)))) (
  some (decide ((IntKind.wrap .i64 (r122.2.1 - r122.1)) < s.1.2.2.1.1))) (
  tif ((decide (k = (1 : Int)))) (
  some (decide ((IntKind.wrap .i64 (r122.2.1 - r122.1)) < s.1.2.2.1.2.1))) (
  tif ((decide (k = (2 : Int)))) (
  some (decide ((IntKind.wrap .i64 (r122.2.1 - r122.1)) < s.1.2.2.1.2.2))) (
  none)))) (
  some false)) (
  some false)) (
  some false)))) (
  tif ((decide (k = (2 : Int)))) (
  tif ((decide (s.1.2.1.2.2 = (0 : Int)))) (
  none) (
  tif ((decide ((IntKind.wrap .i64 (Int.tdiv e.1 s.1.2.1.2.2)) < r42.1))) (
  some false) (
  obind (cascade_Kept n r40.1 k) fun r123 =>
  tif ((decide (r123.2.2 = (0 : Int)))) (
  tif ((decide (r123.2.1 = r42.1))) (
  tif ((decide (r123.1 ≤ r123.2.1))) (
  tif ((decide (k = (0 : Int)))) (
  some (decide ((IntKind.wrap .i64 (r123.2.1 - r123.1)) < s.1.2.2.1.1))) (
  tif ((decide (k = (1 : Int)))) (
  some (decide ((IntKind.wrap .i64 (r123.2.1 - r123.1)) < s.1.2.2.1.2.1))) (
  tif ((decide (k = (2 : Int)))) (
  some (decide ((IntKind.wrap .i64 (r123.2.1 - r123.1)) < s.1.2.2.1.2.2))) (
  none)))) (
  some false)) (
  some false)) (
  some false)))) (
  none)))) (
  obind (cascade_Kept n r40.1 k) fun r124 =>
  tif ((decide (r124.2.2 = (0 : Int)))) (
  tif ((decide (r124.2.1 = r42.1))) (
  tif ((decide (r124.1 ≤ r124.2.1))) (
  tif ((decide (k = (0 : Int)))) (
  some (decide ((IntKind.wrap .i64 (r124.2.1 - r124.1)) < s.1.2.2.1.1))) (
  tif ((decide (k = (1 : Int)))) (
  some (decide ((IntKind.wrap .i64 (r124.2.1 - r124.1)) < s.1.2.2.1.2.1))) (
  tif ((decide (k = (2 : Int)))) (
  some (decide ((IntKind.wrap .i64 (r124.2.1 - r124.1)) < s.1.2.2.1.2.2))) (
  none)))) (
  some false)) (
  some false)) (
  some false)))) (
  none)))) (
  tif ((decide (k = (2 : Int)))) (
  tif ((decide ((IntKind.wrap .i64 (k - (1 : Int))) = (0 : Int)))) (
  tif ((decide (r43.1 < r43.2.2))) (
  some false) (
  obind (write_One n r40.1 l e) fun r125 =>
  tif ((decide (r125.2 = (0 : Int)))) (
  tif ((decide (k = (0 : Int)))) (
  tif ((decide (s.1.2.1.1 = (0 : Int)))) (
  none) (
  tif ((decide ((IntKind.wrap .i64 (Int.tdiv e.1 s.1.2.1.1)) < r42.1))) (
  some false) (
  obind (cascade_Kept n r40.1 k) fun r126 =>
  tif ((decide (r126.2.2 = (0 : Int)))) (
  tif ((decide (r126.2.1 = r42.1))) (
  tif ((decide (r126.1 ≤ r126.2.1))) (
  tif ((decide (k = (0 : Int)))) (
  some (decide ((IntKind.wrap .i64 (r126.2.1 - r126.1)) < s.1.2.2.1.1))) (
  tif ((decide (k = (1 : Int)))) (
  some (decide ((IntKind.wrap .i64 (r126.2.1 - r126.1)) < s.1.2.2.1.2.1))) (
  tif ((decide (k = (2 : Int)))) (
  some (decide ((IntKind.wrap .i64 (r126.2.1 - r126.1)) < s.1.2.2.1.2.2))) (
  none)))) (
  some false)) (
  some false)) (
  some false)))) (
  tif ((decide (k = (1 : Int)))) (
  tif ((decide (s.1.2.1.2.1 = (0 : Int)))) (
  none) (
  tif ((decide ((IntKind.wrap .i64 (Int.tdiv e.1 s.1.2.1.2.1)) < r42.1))) (
  some false) (
  obind (cascade_Kept n r40.1 k) fun r127 =>
  tif ((decide (r127.2.2 = (0 : Int)))) (
  tif ((decide (r127.2.1 = r42.1))) (
  tif ((decide (r127.1 ≤ r127.2.1))) (
  tif ((decide (k = (0 : Int)))) (
  some (decide ((IntKind.wrap .i64 (r127.2.1 - r127.1)) < s.1.2.2.1.1))) (
  tif ((decide (k = (1 : Int)))) (
  some (decide ((IntKind.wrap .i64 (r127.2.1 - r127.1)) < s.1.2.2.1.2.1))) (
  tif ((decide (k = (2 : Int)))) (
  some (decide ((IntKind.wrap .i64 (r127.2.1 - r127.1)) < s.1.2.2.1.2.2))) (
  none)))) (
  some false)) (
  some false)) (
  some false)))) (
  tif ((decide (k = (2 : Int)))) (
  tif ((decide (s.1.2.1.2.2 = (0 : Int)))) (
  none) (
  tif ((decide ((IntKind.wrap .i64 (Int.tdiv e.1 s.1.2.1.2.2)) < r42.1))) (
  some false) (
  obind (cascade_Kept n r40.1 k) fun r128 =>
  tif ((decide (r128.2.2 = (0 : Int)))) (
  tif ((decide (r128.2.1 = r42.1))) (
  tif ((decide (r128.1 ≤ r128.2.1))) (
  tif ((decide (k = (0 : Int)))) (
  some (decide ((IntKind.wrap .i64 (r128.2.1 - r128.1)) < s.1.2.2.1.1))) (
  tif ((decide (k = (1 : Int)))) (
  some (decide ((IntKind.wrap .i64 (r128.2.1 - r128.1)) < s.1.2.2.1.2.1))) (
  tif ((decide (k = (2 : Int)))) (
  some (decide ((IntKind.wrap .i64 (r128.2.1 - r128.1)) < s.1.2.2.1.2.2))) (
  none)))) (
  some false)) (
  some false)) (
  some false)))) (
  none)))) (
  obind (cascade_Kept n r40.1 k) fun r129 =>
  tif ((decide (r129.2.2 = (0 : Int)))) (
  tif ((decide (r129.2.1 = r42.1))) (
  tif ((decide (r129.1 ≤ r129.2.1))) (
  tif ((decide (k = (0 : Int)))) (
  some (decide ((IntKind.wrap .i64 (r129.2.1 - r129.1)) < s.1.2.2.1.1))) (
  tif ((decide (k = (1 : Int)))) (
  some (decide ((IntKind.wrap .i64 (r129.2.1 - r129.1)) < s.1.2.2.1.2.1))) (
  tif ((decide (k = (2 : Int)))) (
  some (decide ((IntKind.wrap .i64 (r129.2.1 - r129.1)) < s.1.2.2.1.2.2))) (
  none)))) (
  some false)) (
  some false)) (
  some false)))) (
  tif ((decide ((IntKind.wrap .i64 (k - (1 : Int))) = (1 : Int)))) (
  tif ((decide (r43.2.1 < r43.2.2))) (
  some false) (
  obind (write_One n r40.1 l e) fun r130 =>
  tif ((decide (r130.2 = (0 : Int)))) (
  tif ((decide (k = (0 : Int)))) (
  tif ((decide (s.1.2.1.1 = (0 : Int)))) (
  none) (
  tif ((decide ((IntKind.wrap .i64 (Int.tdiv e.1 s.1.2.1.1)) < r42.1))) (
  some false) (
  obind (cascade_Kept n r40.1 k) fun r131 =>
  tif ((decide (r131.2.2 = (0 : Int)))) (
  tif ((decide (r131.2.1 = r42.1))) (
  tif ((decide (r131.1 ≤ r131.2.1))) (
  tif ((decide (k = (0 : Int)))) (
  some (decide ((IntKind.wrap .i64 (r131.2.1 - r131.1)) < s.1.2.2.1.1))) (
  tif ((decide (k = (1 : Int)))) (
  some (decide ((IntKind.wrap .i64 (r131.2.1 - r131.1)) < s.1.2.2.1.2.1))) (
  tif ((decide (k = (2 : Int)))) (
  some (decide ((IntKind.wrap .i64 (r131.2.1 - r131.1)) < s.1.2.2.1.2.2))) (
  none)))) (
  some false)) (
  some false)) (
  some false)))) (
  tif ((decide (k = (1 : Int)))) (
  tif ((decide (s.1.2.1.2.1 = (0 : Int)))) (
  none) (
  tif ((decide ((IntKind.wrap .i64 (Int.tdiv e.1 s.1.2.1.2.1)) < r42.1))) (
  some false) (
  obind (cascade_Kept n r40.1 k) fun r132 =>
  tif ((decide (r132.2.2 = (0 : Int)))) (
  tif ((decide (r132.2.1 = r42.1))) (
  tif ((decide (r132.1 ≤ r132.2.1))) (
  tif ((decide (k = (0 : Int)))) (
  some (decide ((IntKind.wrap .i64 (r132.2.1 - r132.1)) < s.1.2.2.1.1))) (
  tif ((decide (k = (1 : Int)))) (
  some (decide ((IntKind.wrap .i64 (r132.2.1 - r132.1)) < s.1.2.2.1.2.1))) (
  tif ((decide (k = (2 : Int)))) (
  some (decide ((IntKind.wrap .i64 (r132.2.1 - r132.1)) < s.1.2.2.1.2.2))) (
  none)))) (
  some false)) (
  some false)) (
  some false)))) (
  tif ((decide (k = (2 : Int)))) (
  tif ((decide (s.1.2.1.2.2 = (0 : Int)))) (
  none) (
  tif ((decide ((IntKind.wrap .i64 (Int.tdiv e.1 s.1.2.1.2.2)) < r42.1))) (
  some false) (
  obind (cascade_Kept n r40.1 k) fun r133 =>
  tif ((decide (r133.2.2 = (0 : Int)))) (
  tif ((decide (r133.2.1 = r42.1))) (
  tif ((decide (r133.1 ≤ r133.2.1))) (
  tif ((decide (k = (0 : Int)))) (
  some (decide ((IntKind.wrap .i64 (r133.2.1 - r133.1)) < s.1.2.2.1.1))) (
  tif ((decide (k = (1 : Int)))) (
  some (decide ((IntKind.wrap .i64 (r133.2.1 - r133.1)) < s.1.2.2.1.2.1))) (
  tif ((decide (k = (2 : Int)))) (
  some (decide ((IntKind.wrap .i64 (r133.2.1 - r133.1)) < s.1.2.2.1.2.2))) (
  none)))) (
  some false)) (
  some false)) (
  some false)))) (
  none)))) (
  obind (cascade_Kept n r40.1 k) fun r134 =>
  tif ((decide (r134.2.2 = (0 : Int)))) (
  tif ((decide (r134.2.1 = r42.1))) (
  tif ((decide (r134.1 ≤ r134.2.1))) (
  tif ((decide (k = (0 : Int)))) (
  some (decide ((IntKind.wrap .i64 (r134.2.1 - r134.1)) < s.1.2.2.1.1))) (
  tif ((decide (k = (1 : Int)))) (
  some (decide ((IntKind.wrap .i64 (r134.2.1 - r134.1)) < s.1.2.2.1.2.1))) (
  tif ((decide (k = (2 : Int)))) (
  some (decide ((IntKind.wrap .i64 (r134.2.1 - r134.1)) < s.1.2.2.1.2.2))) (
  none)))) (
  some false)) (
  some false)) (
  some false)))) (
  tif ((decide ((IntKind.wrap .i64 (k - (1 : Int))) = (2 : Int)))) (
  tif ((decide (r43.2.2 < r43.2.2))) (
  some false) (
  obind (write_One n r40.1 l e) fun r135 =>
  tif ((decide (r135.2 = (0 : Int)))) (
  tif ((decide (k = (0 : Int)))) (
  tif ((decide (s.1.2.1.1 = (0 : Int)))) (
  none) (
  tif ((decide ((IntKind.wrap .i64 (Int.tdiv e.1 s.1.2.1.1)) < r42.1))) (
  some false) (
  obind (cascade_Kept n r40.1 k) fun r136 =>
  tif ((decide (r136.2.2 = (0 : Int)))) (
  tif ((decide (r136.2.1 = r42.1))) (
  tif ((decide (r136.1 ≤ r136.2.1))) (
  tif ((decide (k = (0 : Int)))) (
  some (decide ((IntKind.wrap .i64 (r136.2.1 - r136.1)) < s.1.2.2.1.1))) (
  tif ((decide (k = (1 : Int)))) (
  some (decide ((IntKind.wrap .i64 (r136.2.1 - r136.1)) < s.1.2.2.1.2.1))) (
  tif ((decide (k = (2 : Int)))) (
  some (decide ((IntKind.wrap .i64 (r136.2.1 - r136.1)) < s.1.2.2.1.2.2))) (
  none)))) (
  some false)) (
  some false)) (
  some false)))) (
  tif ((decide (k = (1 : Int)))) (
  tif ((decide (s.1.2.1.2.1 = (0 : Int)))) (
  none) (
  tif ((decide ((IntKind.wrap .i64 (Int.tdiv e.1 s.1.2.1.2.1)) < r42.1))) (
  some false) (
  obind (cascade_Kept n r40.1 k) fun r137 =>
  tif ((decide (r137.2.2 = (0 : Int)))) (
  tif ((decide (r137.2.1 = r42.1))) (
  tif ((decide (r137.1 ≤ r137.2.1))) (
  tif ((decide (k = (0 : Int)))) (
  some (decide ((IntKind.wrap .i64 (r137.2.1 - r137.1)) < s.1.2.2.1.1))) (
  tif ((decide (k = (1 : Int)))) (
  some (decide ((IntKind.wrap .i64 (r137.2.1 - r137.1)) < s.1.2.2.1.2.1))) (
  tif ((decide (k = (2 : Int)))) (
  some (decide ((IntKind.wrap .i64 (r137.2.1 - r137.1)) < s.1.2.2.1.2.2))) (
  none)))) (
  some false)) (
  some false)) (
  some false)))) (
  tif ((decide (k = (2 : Int)))) (
  tif ((decide (s.1.2.1.2.2 = (0 : Int)))) (
  none) (
  tif ((decide ((IntKind.wrap .i64 (Int.tdiv e.1 s.1.2.1.2.2)) < r42.1))) (
  some false) (
  obind (cascade_Kept n r40.1 k) fun r138 =>
  tif ((decide (r138.2.2 = (0 : Int)))) (
  tif ((decide (r138.2.1 = r42.1))) (
  tif ((decide (r138.1 ≤ r138.2.1))) (
  tif ((decide (k = (0 : Int)))) (
  some (decide ((IntKind.wrap .i64 (r138.2.1 - r138.1)) < s.1.2.2.1.1))) (
  tif ((decide (k = (1 : Int)))) (
  some (decide ((IntKind.wrap .i64 (r138.2.1 - r138.1)) < s.1.2.2.1.2.1))) (
  tif ((decide (k = (2 : Int)))) (
  some (decide ((IntKind.wrap .i64 (r138.2.1 - r138.1)) < s.1.2.2.1.2.2))) (
  none)))) (
  some false)) (
  some false)) (
  some false)))) (
  none)))) (
  obind (cascade_Kept n r40.1 k) fun r139 =>
  tif ((decide (r139.2.2 = (0 : Int)))) (
  tif ((decide (r139.2.1 = r42.1))) (
  tif ((decide (r139.1 ≤ r139.2.1))) (
  tif ((decide (k = (0 : Int)))) (
  some (decide ((IntKind.wrap .i64 (r139.2.1 - r139.1)) < s.1.2.2.1.1))) (
  tif ((decide (k = (1 : Int)))) (
  some (decide ((IntKind.wrap .i64 (r139.2.1 - r139.1)) < s.1.2.2.1.2.1))) (
  tif ((decide (k = (2 : Int)))) (
  some (decide ((IntKind.wrap .i64 (r139.2.1 - r139.1)) < s.1.2.2.1.2.2))) (
  none)))) (
  some false)) (
  some false)) (
  some false)))) (
  none)))) (
  none)))) (
  obind (write_One n r40.1 l e) fun r140 =>
  tif ((decide (r140.2 = (0 : Int)))) (
  tif ((decide (k = (0 : Int)))) (
  tif ((decide (s.1.2.1.1 = (0 : Int)))) (
  none) (
  tif ((decide ((IntKind.wrap .i64 (Int.tdiv e.1 s.1.2.1.1)) < r42.1))) (
  some false) (
  obind (cascade_Kept n r40.1 k) fun r141 =>
  tif ((decide (r141.2.2 = (0 : Int)))) (
  tif ((decide (r141.2.1 = r42.1))) (
  tif ((decide (r141.1 ≤ r141.2.1))) (
  tif ((decide (k = (0 : Int)))) (
  some (decide ((IntKind.wrap .i64 (r141.2.1 - r141.1)) < s.1.2.2.1.1))) (
  tif ((decide (k = (1 : Int)))) (
  some (decide ((IntKind.wrap .i64 (r141.2.1 - r141.1)) < s.1.2.2.1.2.1))) (
  tif ((decide (k = (2 : Int)))) (
  some (decide ((IntKind.wrap .i64 (r141.2.1 - r141.1)) < s.1.2.2.1.2.2))) (
  none)))) (
  some false)) (
  some false)) (
  some false)))) (
  tif ((decide (k = (1 : Int)))) (
  tif ((decide (s.1.2.1.2.1 = (0 : Int)))) (
  none) (
  tif ((decide ((IntKind.wrap .i64 (Int.tdiv e.1 s.1.2.1.2.1)) < r42.1))) (
  some false) (
  obind (cascade_Kept n r40.1 k) fun r142 =>
  tif ((decide (r142.2.2 = (0 : Int)))) (
  tif ((decide (r142.2.1 = r42.1))) (
  tif ((decide (r142.1 ≤ r142.2.1))) (
  tif ((decide (k = (0 : Int)))) (
  some (decide ((IntKind.wrap .i64 (r142.2.1 - r142.1)) < s.1.2.2.1.1))) (
  tif ((decide (k = (1 : Int)))) (
  some (decide ((IntKind.wrap .i64 (r142.2.1 - r142.1)) < s.1.2.2.1.2.1))) (
  tif ((decide (k = (2 : Int)))) (
  some (decide ((IntKind.wrap .i64 (r142.2.1 - r142.1)) < s.1.2.2.1.2.2))) (
  none)))) (
  some false)) (
  some false)) (
  some false)))) (
  tif ((decide (k = (2 : Int)))) (
  tif ((decide (s.1.2.1.2.2 = (0 : Int)))) (
  none) (
  tif ((decide ((IntKind.wrap .i64 (Int.tdiv e.1 s.1.2.1.2.2)) < r42.1))) (
  some false) (
  obind (cascade_Kept n r40.1 k) fun r143 =>
  tif ((decide (r143.2.2 = (0 : Int)))) (
  tif ((decide (r143.2.1 = r42.1))) (
  tif ((decide (r143.1 ≤ r143.2.1))) (
  tif ((decide (k = (0 : Int)))) (
  some (decide ((IntKind.wrap .i64 (r143.2.1 - r143.1)) < s.1.2.2.1.1))) (
  tif ((decide (k = (1 : Int)))) (
  some (decide ((IntKind.wrap .i64 (r143.2.1 - r143.1)) < s.1.2.2.1.2.1))) (
  tif ((decide (k = (2 : Int)))) (
  some (decide ((IntKind.wrap .i64 (r143.2.1 - r143.1)) < s.1.2.2.1.2.2))) (
  none)))) (
  some false)) (
  some false)) (
  some false)))) (
  none)))) (
  obind (cascade_Kept n r40.1 k) fun r144 =>
  tif ((decide (r144.2.2 = (0 : Int)))) (
  tif ((decide (r144.2.1 = r42.1))) (
  tif ((decide (r144.1 ≤ r144.2.1))) (
  tif ((decide (k = (0 : Int)))) (
  some (decide ((IntKind.wrap .i64 (r144.2.1 - r144.1)) < s.1.2.2.1.1))) (
  tif ((decide (k = (1 : Int)))) (
  some (decide ((IntKind.wrap .i64 (r144.2.1 - r144.1)) < s.1.2.2.1.2.1))) (
  tif ((decide (k = (2 : Int)))) (
  some (decide ((IntKind.wrap .i64 (r144.2.1 - r144.1)) < s.1.2.2.1.2.2))) (
  none)))) (
  some false)) (
  some false)) (
  some false)))))) (
  tif ((decide (k = (2 : Int)))) (
  tif ((!(decide ((IntKind.wrap .i64 (r42.1 - r41.1)) = r43.2.2)))) (
  some false) (
  tif ((decide (r42.1 < r41.1))) (
  some false) (
  tif ((decide ((0 : Int) < k))) (
  tif ((decide (k = (0 : Int)))) (
  tif ((decide ((IntKind.wrap .i64 (k - (1 : Int))) = (0 : Int)))) (
  tif ((decide (r43.1 < r43.1))) (
  some false) (
  obind (write_One n r40.1 l e) fun r145 =>
  tif ((decide (r145.2 = (0 : Int)))) (
  tif ((decide (k = (0 : Int)))) (
  tif ((decide (s.1.2.1.1 = (0 : Int)))) (
  none) (
  tif ((decide ((IntKind.wrap .i64 (Int.tdiv e.1 s.1.2.1.1)) < r42.1))) (
  some false) (
  obind (cascade_Kept n r40.1 k) fun r146 =>
  tif ((decide (r146.2.2 = (0 : Int)))) (
  tif ((decide (r146.2.1 = r42.1))) (
  tif ((decide (r146.1 ≤ r146.2.1))) (
  tif ((decide (k = (0 : Int)))) (
  some (decide ((IntKind.wrap .i64 (r146.2.1 - r146.1)) < s.1.2.2.1.1))) (
  tif ((decide (k = (1 : Int)))) (
  some (decide ((IntKind.wrap .i64 (r146.2.1 - r146.1)) < s.1.2.2.1.2.1))) (
  tif ((decide (k = (2 : Int)))) (
  some (decide ((IntKind.wrap .i64 (r146.2.1 - r146.1)) < s.1.2.2.1.2.2))) (
  none)))) (
  some false)) (
  some false)) (
  some false)))) (
  tif ((decide (k = (1 : Int)))) (
  tif ((decide (s.1.2.1.2.1 = (0 : Int)))) (
  none) (
  tif ((decide ((IntKind.wrap .i64 (Int.tdiv e.1 s.1.2.1.2.1)) < r42.1))) (
  some false) (
  obind (cascade_Kept n r40.1 k) fun r147 =>
  tif ((decide (r147.2.2 = (0 : Int)))) (
  tif ((decide (r147.2.1 = r42.1))) (
  tif ((decide (r147.1 ≤ r147.2.1))) (
  tif ((decide (k = (0 : Int)))) (
  some (decide ((IntKind.wrap .i64 (r147.2.1 - r147.1)) < s.1.2.2.1.1))) (
  tif ((decide (k = (1 : Int)))) (
  some (decide ((IntKind.wrap .i64 (r147.2.1 - r147.1)) < s.1.2.2.1.2.1))) (
  tif ((decide (k = (2 : Int)))) (
  some (decide ((IntKind.wrap .i64 (r147.2.1 - r147.1)) < s.1.2.2.1.2.2))) (
  none)))) (
  some false)) (
  some false)) (
  some false)))) (
  tif ((decide (k = (2 : Int)))) (
  tif ((decide (s.1.2.1.2.2 = (0 : Int)))) (
  none) (
  tif ((decide ((IntKind.wrap .i64 (Int.tdiv e.1 s.1.2.1.2.2)) < r42.1))) (
  some false) (
  obind (cascade_Kept n r40.1 k) fun r148 =>
  tif ((decide (r148.2.2 = (0 : Int)))) (
  tif ((decide (r148.2.1 = r42.1))) (
  tif ((decide (r148.1 ≤ r148.2.1))) (
  tif ((decide (k = (0 : Int)))) (
  some (decide ((IntKind.wrap .i64 (r148.2.1 - r148.1)) < s.1.2.2.1.1))) (
  tif ((decide (k = (1 : Int)))) (
  some (decide ((IntKind.wrap .i64 (r148.2.1 - r148.1)) < s.1.2.2.1.2.1))) (
  tif ((decide (k = (2 : Int)))) (
  some (decide ((IntKind.wrap .i64 (r148.2.1 - r148.1)) < s.1.2.2.1.2.2))) (
  none)))) (
  some false)) (
  some false)) (
  some false)))) (
  none)))) (
  obind (cascade_Kept n r40.1 k) fun r149 =>
  tif ((decide (r149.2.2 = (0 : Int)))) (
  tif ((decide (r149.2.1 = r42.1))) (
  tif ((decide (r149.1 ≤ r149.2.1))) (
  tif ((decide (k = (0 : Int)))) (
  some (decide ((IntKind.wrap .i64 (r149.2.1 - r149.1)) < s.1.2.2.1.1))) (
  tif ((decide (k = (1 : Int)))) (
  some (decide ((IntKind.wrap .i64 (r149.2.1 - r149.1)) < s.1.2.2.1.2.1))) (
  tif ((decide (k = (2 : Int)))) (
  some (decide ((IntKind.wrap .i64 (r149.2.1 - r149.1)) < s.1.2.2.1.2.2))) (
  none)))) (
  some false)) (
  some false)) (
  some false)))) (
  tif ((decide ((IntKind.wrap .i64 (k - (1 : Int))) = (1 : Int)))) (
  tif ((decide (r43.2.1 < r43.1))) (
  some false) (
  obind (write_One n r40.1 l e) fun r150 =>
  tif ((decide (r150.2 = (0 : Int)))) (
  tif ((decide (k = (0 : Int)))) (
  tif ((decide (s.1.2.1.1 = (0 : Int)))) (
  none) (
  tif ((decide ((IntKind.wrap .i64 (Int.tdiv e.1 s.1.2.1.1)) < r42.1))) (
  some false) (
  obind (cascade_Kept n r40.1 k) fun r151 =>
  tif ((decide (r151.2.2 = (0 : Int)))) (
  tif ((decide (r151.2.1 = r42.1))) (
  tif ((decide (r151.1 ≤ r151.2.1))) (
  tif ((decide (k = (0 : Int)))) (
  some (decide ((IntKind.wrap .i64 (r151.2.1 - r151.1)) < s.1.2.2.1.1))) (
  tif ((decide (k = (1 : Int)))) (
  some (decide ((IntKind.wrap .i64 (r151.2.1 - r151.1)) < s.1.2.2.1.2.1))) (
  tif ((decide (k = (2 : Int)))) (
  some (decide ((IntKind.wrap .i64 (r151.2.1 - r151.1)) < s.1.2.2.1.2.2))) (
  none)))) (
  some false)) (
  some false)) (
  some false)))) (
  tif ((decide (k = (1 : Int)))) (
  tif ((decide (s.1.2.1.2.1 = (0 : Int)))) (
  none) (
  tif ((decide ((IntKind.wrap .i64 (Int.tdiv e.1 s.1.2.1.2.1)) < r42.1))) (
  some false) (
  obind (cascade_Kept n r40.1 k) fun r152 =>
  tif ((decide (r152.2.2 = (0 : Int)))) (
  tif ((decide (r152.2.1 = r42.1))) (
  tif ((decide (r152.1 ≤ r152.2.1))) (
  tif ((decide (k = (0 : Int)))) (
  some (decide ((IntKind.wrap .i64 (r152.2.1 - r152.1)) < s.1.2.2.1.1))) (
  tif ((decide (k = (1 : Int)))) (
  some (decide ((IntKind.wrap .i64 (r152.2.1 - r152.1)) < s.1.2.2.1.2.1))) (
  tif ((decide (k = (2 : Int)))) (
  some (decide ((IntKind.wrap .i64 (r152.2.1 - r152.1)) < s.1.2.2.1.2.2))) (
  none)))) (
  some false)) (
  some false)) (
  some false)))) (
  tif ((decide (k = (2 : Int)))) (
  tif ((decide (s.1.2.1.2.2 = (0 : Int)))) (
  none) (
  tif ((decide ((IntKind.wrap .i64 (Int.tdiv e.1 s.1.2.1.2.2)) < r42.1))) (
  some false) (
  obind (cascade_Kept n r40.1 k) fun r153 =>
  tif ((decide (r153.2.2 = (0 : Int)))) (
  tif ((decide (r153.2.1 = r42.1))) (
  tif ((decide (r153.1 ≤ r153.2.1))) (
  tif ((decide (k = (0 : Int)))) (
  some (decide ((IntKind.wrap .i64 (r153.2.1 - r153.1)) < s.1.2.2.1.1))) (
  tif ((decide (k = (1 : Int)))) (
  some (decide ((IntKind.wrap .i64 (r153.2.1 - r153.1)) < s.1.2.2.1.2.1))) (
  tif ((decide (k = (2 : Int)))) (
  some (decide ((IntKind.wrap .i64 (r153.2.1 - r153.1)) < s.1.2.2.1.2.2))) (
  none)))) (
  some false)) (
  some false)) (
  some false)))) (
  none)))) (
  obind (cascade_Kept n r40.1 k) fun r154 =>
  tif ((decide (r154.2.2 = (0 : Int)))) (
  tif ((decide (r154.2.1 = r42.1))) (
  tif ((decide (r154.1 ≤ r154.2.1))) (
  tif ((decide (k = (0 : Int)))) (
  some (decide ((IntKind.wrap .i64 (r154.2.1 - r154.1)) < s.1.2.2.1.1))) (
  tif ((decide (k = (1 : Int)))) (
  some (decide ((IntKind.wrap .i64 (r154.2.1 - r154.1)) < s.1.2.2.1.2.1))) (
  tif ((decide (k = (2 : Int)))) (
  some (decide ((IntKind.wrap .i64 (r154.2.1 - r154.1)) < s.1.2.2.1.2.2))) (
  none)))) (
  some false)) (
  some false)) (
  some false)))) (
  tif ((decide ((IntKind.wrap .i64 (k - (1 : Int))) = (2 : Int)))) (
  tif ((decide (r43.2.2 < r43.1))) (
  some false) (
  obind (write_One n r40.1 l e) fun r155 =>
  tif ((decide (r155.2 = (0 : Int)))) (
  tif ((decide (k = (0 : Int)))) (
  tif ((decide (s.1.2.1.1 = (0 : Int)))) (
  none) (
  tif ((decide ((IntKind.wrap .i64 (Int.tdiv e.1 s.1.2.1.1)) < r42.1))) (
  some false) (
  obind (cascade_Kept n r40.1 k) fun r156 =>
  tif ((decide (r156.2.2 = (0 : Int)))) (
  tif ((decide (r156.2.1 = r42.1))) (
  tif ((decide (r156.1 ≤ r156.2.1))) (
  tif ((decide (k = (0 : Int)))) (
  some (decide ((IntKind.wrap .i64 (r156.2.1 - r156.1)) < s.1.2.2.1.1))) (
  tif ((decide (k = (1 : Int)))) (
  some (decide ((IntKind.wrap .i64 (r156.2.1 - r156.1)) < s.1.2.2.1.2.1))) (
  tif ((decide (k = (2 : Int)))) (
  some (decide ((IntKind.wrap .i64 (r156.2.1 - r156.1)) < s.1.2.2.1.2.2))) (
  none)))) (
  some false)) (
  some false)) (
  some false)))) (
  tif ((decide (k = (1 : Int)))) (
  tif ((decide (s.1.2.1.2.1 = (0 : Int)))) (
  none) (
  tif ((decide ((IntKind.wrap .i64 (Int.tdiv e.1 s.1.2.1.2.1)) < r42.1))) (
  some false) (
  obind (cascade_Kept n r40.1 k) fun r157 =>
  tif ((decide (r157.2.2 = (0 : Int)))) (
  tif ((decide (r157.2.1 = r42.1))) (
  tif ((decide (r157.1 ≤ r157.2.1))) (
  tif ((decide (k = (0 : Int)))) (
  some (decide ((IntKind.wrap .i64 (r157.2.1 - r157.1)) < s.1.2.2.1.1))) (
  tif ((decide (k = (1 : Int)))) (
  some (decide ((IntKind.wrap .i64 (r157.2.1 - r157.1)) < s.1.2.2.1.2.1))) (
  tif ((decide (k = (2 : Int)))) (
  some (decide ((IntKind.wrap .i64 (r157.2.1 - r157.1)) < s.1.2.2.1.2.2))) (
  none)))) (
  some false)) (
  some false)) (
  some false)))) (
  tif ((decide (k = (2 : Int)))) (
  tif ((decide (s.1.2.1.2.2 = (0 : Int)))) (
  none) (
  tif ((decide ((IntKind.wrap .i64 (Int.tdiv e.1 s.1.2.1.2.2)) < r42.1))) (
  some false) (
  obind (cascade_Kept n r40.1 k) fun r158 =>
  tif ((decide (r158.2.2 = (0 : Int)))) (
  tif ((decide (r158.2.1 = r42.1))) (
  tif ((decide (r158.1 ≤ r158.2.1))) (
  tif ((decide (k = (0 : Int)))) (
  some (decide ((IntKind.wrap .i64 (r158.2.1 - r158.1)) < s.1.2.2.1.1))) (
  tif ((decide (k = (1 : Int)))) (
  some (decide ((IntKind.wrap .i64 (r158.2.1 - r158.1)) < s.1.2.2.1.2.1))) (
  tif ((decide (k = (2 : Int)))) (
  some (decide ((IntKind.wrap .i64 (r158.2.1 - r158.1)) < s.1.2.2.1.2.2))) (
  none)))) (
  some false)) (
  some false)) (
  some false)))) (
  none)))) (
  obind (cascade_Kept n r40.1 k) fun r159 =>
  tif ((decide (r159.2.2 = (0 : Int)))) (
  tif ((decide (r159.2.1 = r42.1))) (
  tif ((decide (r159.1 ≤ r159.2.1))) (
  tif ((decide (k = (0 : Int)))) (
  some (decide ((IntKind.wrap .i64 (r159.2.1 - r159.1)) < s.1.2.2.1.1))) (
  tif ((decide (k = (1 : Int)))) (
  some (decide ((IntKind.wrap .i64 (r159.2.1 - r159.1)) < s.1.2.2.1.2.1))) (
  tif ((decide (k = (2 : Int)))) (
  some (decide ((IntKind.wrap .i64 (r159.2.1 - r159.1)) < s.1.2.2.1.2.2))) (
  none)))) (
  some false)) (
  some false)) (
  some false)))) (
  none)))) (
  tif ((decide (k = (1 : Int)))) (
  tif ((decide ((IntKind.wrap .i64 (k - (1 : Int))) = (0 : Int)))) (
  tif ((decide (r43.1 < r43.2.1))) (
  some false) (
  obind (write_One n r40.1 l e) fun r160 =>
  tif ((decide (r160.2 = (0 : Int)))) (
  tif ((decide (k = (0 : Int)))) (
  tif ((decide (s.1.2.1.1 = (0 : Int)))) (
  none) (
  tif ((decide ((IntKind.wrap .i64 (Int.tdiv e.1 s.1.2.1.1)) < r42.1))) (
  some false) (
  obind (cascade_Kept n r40.1 k) fun r161 =>
  tif ((decide (r161.2.2 = (0 : Int)))) (
  tif ((decide (r161.2.1 = r42.1))) (
  tif ((decide (r161.1 ≤ r161.2.1))) (
  tif ((decide (k = (0 : Int)))) (
  some (decide ((IntKind.wrap .i64 (r161.2.1 - r161.1)) < s.1.2.2.1.1))) (
  tif ((decide (k = (1 : Int)))) (
  some (decide ((IntKind.wrap .i64 (r161.2.1 - r161.1)) < s.1.2.2.1.2.1))) (
  tif ((decide (k = (2 : Int)))) (
  some (decide ((IntKind.wrap .i64 (r161.2.1 - r161.1)) < s.1.2.2.1.2.2))) (
  none)))) (
  some false)) (
  some false)) (
  some false)))) (
  tif ((decide (k = (1 : Int)))) (
  tif ((decide (s.1.2.1.2.1 = (0 : Int)))) (
  none) (
  tif ((decide ((IntKind.wrap .i64 (Int.tdiv e.1 s.1.2.1.2.1)) < r42.1))) (
  some false) (
  obind (cascade_Kept n r40.1 k) fun r162 =>
  tif ((decide (r162.2.2 = (0 : Int)))) (
  tif ((decide (r162.2.1 = r42.1))) (
  tif ((decide (r162.1 ≤ r162.2.1))) (
  tif ((decide (k = (0 : Int)))) (
  some (decide ((IntKind.wrap .i64 (r162.2.1 - r162.1)) < s.1.2.2.1.1))) (
  tif ((decide (k = (1 : Int)))) (
  some (decide ((IntKind.wrap .i64 (r162.2.1 - r162.1)) < s.1.2.2.1.2.1))) (
  tif ((decide (k = (2 : Int)))) (
  some (decide ((IntKind.wrap .i64 (r162.2.1 - r162.1)) < s.1.2.2.1.2.2))) (
  none)))) (
  some false)) (
  some false)) (
  some false)))) (
  tif ((decide (k = (2 : Int)))) (
  tif ((decide (s.1.2.1.2.2 = (0 : Int)))) (
  none) (
  tif ((decide ((IntKind.wrap .i64 (Int.tdiv e.1 s.1.2.1.2.2)) < r42.1))) (
  some false) (
  obind (cascade_Kept n r40.1 k) fun r163 =>
  tif ((decide (r163.2.2 = (0 : Int)))) (
  tif ((decide (r163.2.1 = r42.1))) (
  tif ((decide (r163.1 ≤ r163.2.1))) (
  tif ((decide (k = (0 : Int)))) (
  some (decide ((IntKind.wrap .i64 (r163.2.1 - r163.1)) < s.1.2.2.1.1))) (
  tif ((decide (k = (1 : Int)))) (
  some (decide ((IntKind.wrap .i64 (r163.2.1 - r163.1)) < s.1.2.2.1.2.1))) (
  tif ((decide (k = (2 : Int)))) (
  some (decide ((IntKind.wrap .i64 (r163.2.1 - r163.1)) < s.1.2.2.1.2.2))) (
  none)))) (
  some false)) (
  some false)) (
  some false)))) (
  none)))) (
  obind (cascade_Kept n r40.1 k) fun r164 =>
  tif ((decide (r164.2.2 = (0 : Int)))) (
  tif ((decide (r164.2.1 = r42.1))) (
  tif ((decide (r164.1 ≤ r164.2.1))) (
  tif ((decide (k = (0 : Int)))) (
  some (decide ((IntKind.wrap .i64 (r164.2.1 - r164.1)) < s.1.2.2.1.1))) (
  tif ((decide (k = (1 : Int)))) (
  some (decide ((IntKind.wrap .i64 (r164.2.1 - r164.1)) < s.1.2.2.1.2.1))) (
  tif ((decide (k = (2 : Int)))) (
  some (decide ((IntKind.wrap .i64 (r164.2.1 - r164.1)) < s.1.2.2.1.2.2))) (
  none)))) (
  some false)) (
  some false)) (
  some false)))) (
  tif ((decide ((IntKind.wrap .i64 (k - (1 : Int))) = (1 : Int)))) (
  tif ((decide (r43.2.1 < r43.2.1))) (
  some false) (
  obind (write_One n r40.1 l e) fun r165 =>
  tif ((decide (r165.2 = (0 : Int)))) (
  tif ((decide (k = (0 : Int)))) (
  tif ((decide (s.1.2.1.1 = (0 : Int)))) (
  none) (
  tif ((decide ((IntKind.wrap .i64 (Int.tdiv e.1 s.1.2.1.1)) < r42.1))) (
  some false) (
  obind (cascade_Kept n r40.1 k) fun r166 =>
  tif ((decide (r166.2.2 = (0 : Int)))) (
  tif ((decide (r166.2.1 = r42.1))) (
  tif ((decide (r166.1 ≤ r166.2.1))) (
  tif ((decide (k = (0 : Int)))) (
  some (decide ((IntKind.wrap .i64 (r166.2.1 - r166.1)) < s.1.2.2.1.1))) (
  tif ((decide (k = (1 : Int)))) (
  some (decide ((IntKind.wrap .i64 (r166.2.1 - r166.1)) < s.1.2.2.1.2.1))) (
  tif ((decide (k = (2 : Int)))) (
  some (decide ((IntKind.wrap .i64 (r166.2.1 - r166.1)) < s.1.2.2.1.2.2))) (
  none)))) (
  some false)) (
  some false)) (
  some false)))) (
  tif ((decide (k = (1 : Int)))) (
  tif ((decide (s.1.2.1.2.1 = (0 : Int)))) (
  none) (
  tif ((decide ((IntKind.wrap .i64 (Int.tdiv e.1 s.1.2.1.2.1)) < r42.1))) (
  some false) (
  obind (cascade_Kept n r40.1 k) fun r167 =>
  tif ((decide (r167.2.2 = (0 : Int)))) (
  tif ((decide (r167.2.1 = r42.1))) (
  tif ((decide (r167.1 ≤ r167.2.1))) (
  tif ((decide (k = (0 : Int)))) (
  some (decide ((IntKind.wrap .i64 (r167.2.1 - r167.1)) < s.1.2.2.1.1))) (
  tif ((decide (k = (1 : Int)))) (
  some (decide ((IntKind.wrap .i64 (r167.2.1 - r167.1)) < s.1.2.2.1.2.1))) (
  tif ((decide (k = (2 : Int)))) (
  some (decide ((IntKind.wrap .i64 (r167.2.1 - r167.1)) < s.1.2.2.1.2.2))) (
  none)))) (
  some false)) (
  some false)) (
  some false)))) (
  tif ((decide (k = (2 : Int)))) (
  tif ((decide (s.1.2.1.2.2 = (0 : Int)))) (
  none) (
  tif ((decide ((IntKind.wrap .i64 (Int.tdiv e.1 s.1.2.1.2.2)) < r42.1))) (
  some false) (
  obind (cascade_Kept n r40.1 k) fun r168 =>
  tif ((decide (r168.2.2 = (0 : Int)))) (
  tif ((decide (r168.2.1 = r42.1))) (
  tif ((decide (r168.1 ≤ r168.2.1))) (
  tif ((decide (k = (0 : Int)))) (
  some (decide ((IntKind.wrap .i64 (r168.2.1 - r168.1)) < s.1.2.2.1.1))) (
  tif ((decide (k = (1 : Int)))) (
  some (decide ((IntKind.wrap .i64 (r168.2.1 - r168.1)) < s.1.2.2.1.2.1))) (
  tif ((decide (k = (2 : Int)))) (
  some (decide ((IntKind.wrap .i64 (r168.2.1 - r168.1)) < s.1.2.2.1.2.2))) (
  none)))) (
  some false)) (
  some false)) (
  some false)))) (
  none)))) (
  obind (cascade_Kept n r40.1 k) fun r169 =>
  tif ((decide (r169.2.2 = (0 : Int)))) (
  tif ((decide (r169.2.1 = r42.1))) (
  tif ((decide (r169.1 ≤ r169.2.1))) (
  tif ((decide (k = (0 : Int)))) (
  some (decide ((IntKind.wrap .i64 (r169.2.1 - r169.1)) < s.1.2.2.1.1))) (
  tif ((decide (k = (1 : Int)))) (
  some (decide ((IntKind.wrap .i64 (r169.2.1 - r169.1)) < s.1.2.2.1.2.1))) (
  tif ((decide (k = (2 : Int)))) (
  some (decide ((IntKind.wrap .i64 (r169.2.1 - r169.1)) < s.1.2.2.1.2.2))) (
  none)))) (
  some false)) (
  some false)) (
  some false)))) (
  tif ((decide ((IntKind.wrap .i64 (k - (1 : Int))) = (2 : Int)))) (
  tif ((decide (r43.2.2 < r43.2.1))) (
  some false) (
  obind (write_One n r40.1 l e) fun r170 =>
  tif ((decide (r170.2 = (0 : Int)))) (
  tif ((decide (k = (0 : Int)))) (
  tif ((decide (s.1.2.1.1 = (0 : Int)))) (
  none) (
  tif ((decide ((IntKind.wrap .i64 (Int.tdiv e.1 s.1.2.1.1)) < r42.1))) (
  some false) (
  obind (cascade_Kept n r40.1 k) fun r171 =>
  tif ((decide (r171.2.2 = (0 : Int)))) (
  tif ((decide (r171.2.1 = r42.1))) (
  tif ((decide (r171.1 ≤ r171.2.1))) (
  tif ((decide (k = (0 : Int)))) (
  some (decide ((IntKind.wrap .i64 (r171.2.1 - r171.1)) < s.1.2.2.1.1))) (
  tif ((decide (k = (1 : Int)))) (
  some (decide ((IntKind.wrap .i64 (r171.2.1 - r171.1)) < s.1.2.2.1.2.1))) (
  tif ((decide (k = (2 : Int)))) (
  some (decide ((IntKind.wrap .i64 (r171.2.1 - r171.1)) < s.1.2.2.1.2.2))) (
  none)))) (
  some false)) (
  some false)) (
  some false)))) (
  tif ((decide (k = (1 : Int)))) (
  tif ((decide (s.1.2.1.2.1 = (0 : Int)))) (
  none) (
  tif ((decide ((IntKind.wrap .i64 (Int.tdiv e.1 s.1.2.1.2.1)) < r42.1))) (
  some false) (
  obind (cascade_Kept n r40.1 k) fun r172 =>
  tif ((decide (r172.2.2 = (0 : Int)))) (
  tif ((decide (r172.2.1 = r42.1))) (
  tif ((decide (r172.1 ≤ r172.2.1))) (
  tif ((decide (k = (0 : Int)))) (
  some (decide ((IntKind.wrap .i64 (r172.2.1 - r172.1)) < s.1.2.2.1.1))) (
  tif ((decide (k = (1 : Int)))) (
  some (decide ((IntKind.wrap .i64 (r172.2.1 - r172.1)) < s.1.2.2.1.2.1))) (
  tif ((decide (k = (2 : Int)))) (
  some (decide ((IntKind.wrap .i64 (r172.2.1 - r172.1)) < s.1.2.2.1.2.2))) (
  none)))) (
  some false)) (
  some false)) (
  some false)))) (
  tif ((decide (k = (2 : Int)))) (
  tif ((decide (s.1.2.1.2.2 = (0 : Int)))) (
  none) (
  tif ((decide ((IntKind.wrap .i64 (Int.tdiv e.1 s.1.2.1.2.2)) < r42.1))) (
  some false) (
  obind (cascade_Kept n r40.1 k) fun r173 =>
  tif ((decide (r173.2.2 = (0 : Int)))) (
  tif ((decide (r173.2.1 = r42.1))) (
  tif ((decide (r173.1 ≤ r173.2.1))) (
  tif ((decide (k = (0 : Int)))) (
  some (decide ((IntKind.wrap .i64 (r173.2.1 - r173.1)) < s.1.2.2.1.1))) (
  tif ((decide (k = (1 : Int)))) (
  some (decide ((IntKind.wrap .i64 (r173.2.1 - r173.1)) < s.1.2.2.1.2.1))) (
  tif ((decide (k = (2 : Int)))) (
  some (decide ((IntKind.wrap .i64 (r173.2.1 - r173.1)) < s.1.2.2.1.2.2))) (
  none)))) (
  some false)) (
  some false)) (
  some false)))) (
  none)))) (
  obind (cascade_Kept n r40.1 k) fun r174 =>
  tif ((decide (r174.2.2 = (0 : Int)))) (
  tif ((decide (r174.2.1 = r42.1))) (
  tif ((decide (r174.1 ≤ r174.2.1))) (
  tif ((decide (k = (0 : Int)))) (
  some (decide ((IntKind.wrap .i64 (r174.2.1 - r174.1)) < s.1.2.2.1.1))) (
  tif ((decide (k = (1 : Int)))) (
  some (decide ((IntKind.wrap .i64 (r174.2.1 - r174.1)) < s.1.2.2.1.2.1))) (
  tif ((decide (k = (2 : Int)))) (
  some (decide ((IntKind.wrap .i64 (r174.2.1 - r174.1)) < s.1.2.2.1.2.2))) (
  none)))) (
  some false)) (
  some false)) (
  some false)))) (
  none)))) (
  tif ((decide (k = (2 : Int)))) (
  tif ((decide ((IntKind.wrap .i64 (k - (1 : Int))) = (0 : Int)))) (
  tif ((decide (r43.1 < r43.2.2))) (
  some false) (
  obind (write_One n r40.1 l e) fun r175 =>
  tif ((decide (r175.2 = (0 : Int)))) (
  tif ((decide (k = (0 : Int)))) (
  tif ((decide (s.1.2.1.1 = (0 : Int)))) (
  none) (
  tif ((decide ((IntKind.wrap .i64 (Int.tdiv e.1 s.1.2.1.1)) < r42.1))) (
  some false) (
  obind (cascade_Kept n r40.1 k) fun r176 =>
  tif ((decide (r176.2.2 = (0 : Int)))) (
  tif ((decide (r176.2.1 = r42.1))) (
  tif ((decide (r176.1 ≤ r176.2.1))) (
  tif ((decide (k = (0 : Int)))) (
  some (decide ((IntKind.wrap .i64 (r176.2.1 - r176.1)) < s.1.2.2.1.1))) (
  tif ((decide (k = (1 : Int)))) (
  some (decide ((IntKind.wrap .i64 (r176.2.1 - r176.1)) < s.1.2.2.1.2.1))) (
  tif ((decide (k = (2 : Int)))) (
  some (decide ((IntKind.wrap .i64 (r176.2.1 - r176.1)) < s.1.2.2.1.2.2))) (
  none)))) (
  some false)) (
  some false)) (
  some false)))) (
  tif ((decide (k = (1 : Int)))) (
  tif ((decide (s.1.2.1.2.1 = (0 : Int)))) (
  none) (
  tif ((decide ((IntKind.wrap .i64 (Int.tdiv e.1 s.1.2.1.2.1)) < r42.1))) (
  some false) (
  obind (cascade_Kept n r40.1 k) fun r177 =>
  tif ((decide (r177.2.2 = (0 : Int)))) (
  tif ((decide (r177.2.1 = r42.1))) (
  tif ((decide (r177.1 ≤ r177.2.1))) (
  tif ((decide (k = (0 : Int)))) (
  some (decide ((IntKind.wrap .i64 (r177.2.1 - r177.1)) < s.1.2.2.1.1))) (
  tif ((decide (k = (1 : Int)))) (
  some (decide ((IntKind.wrap .i64 (r177.2.1 - r177.1)) < s.1.2.2.1.2.1))) (
  tif ((decide (k = (2 : Int)))) (
  some (decide ((IntKind.wrap .i64 (r177.2.1 - r177.1)) < s.1.2.2.1.2.2))) (
  none)))) (
  some false)) (
  some false)) (
  some false)))) (
  tif ((decide (k = (2 : Int)))) (
  tif ((decide (s.1.2.1.2.2 = (0 : Int)))) (
  none) (
  tif ((decide ((IntKind.wrap .i64 (Int.tdiv e.1 s.1.2.1.2.2)) < r42.1))) (
  some false) (
  obind (cascade_Kept n r40.1 k) fun r178 =>
  tif ((decide (r178.2.2 = (0 : Int)))) (
  tif ((decide (r178.2.1 = r42.1))) (
  tif ((decide (r178.1 ≤ r178.2.1))) (
  tif ((decide (k = (0 : Int)))) (
  some (decide ((IntKind.wrap .i64 (r178.2.1 - r178.1)) < s.1.2.2.1.1))) (
  tif ((decide (k = (1 : Int)))) (
  some (decide ((IntKind.wrap .i64 (r178.2.1 - r178.1)) < s.1.2.2.1.2.1))) (
  tif ((decide (k = (2 : Int)))) (
  some (decide ((IntKind.wrap .i64 (r178.2.1 - r178.1)) < s.1.2.2.1.2.2))) (
  none)))) (
  some false)) (
  some false)) (
  some false)))) (
  none)))) (
  obind (cascade_Kept n r40.1 k) fun r179 =>
  tif ((decide (r179.2.2 = (0 : Int)))) (
  tif ((decide (r179.2.1 = r42.1))) (
  tif ((decide (r179.1 ≤ r179.2.1))) (
  tif ((decide (k = (0 : Int)))) (
  some (decide ((IntKind.wrap .i64 (r179.2.1 - r179.1)) < s.1.2.2.1.1))) (
  tif ((decide (k = (1 : Int)))) (
  some (decide ((IntKind.wrap .i64 (r179.2.1 - r179.1)) < s.1.2.2.1.2.1))) (
  tif ((decide (k = (2 : Int)))) (
  some (decide ((IntKind.wrap .i64 (r179.2.1 - r179.1)) < s.1.2.2.1.2.2))) (
  none)))) (
  some false)) (
  some false)) (
  some false)))) (
  tif ((decide ((IntKind.wrap .i64 (k - (1 : Int))) = (1 : Int)))) (
  tif ((decide (r43.2.1 < r43.2.2))) (
  some false) (
  obind (write_One n r40.1 l e) fun r180 =>
  tif ((decide (r180.2 = (0 : Int)))) (
  tif ((decide (k = (0 : Int)))) (
  tif ((decide (s.1.2.1.1 = (0 : Int)))) (
  none) (
  tif ((decide ((IntKind.wrap .i64 (Int.tdiv e.1 s.1.2.1.1)) < r42.1))) (
  some false) (
  obind (cascade_Kept n r40.1 k) fun r181 =>
  tif ((decide (r181.2.2 = (0 : Int)))) (
  tif ((decide (r181.2.1 = r42.1))) (
  tif ((decide (r181.1 ≤ r181.2.1))) (
  tif ((decide (k = (0 : Int)))) (
  some (decide ((IntKind.wrap .i64 (r181.2.1 - r181.1)) < s.1.2.2.1.1))) (
  tif ((decide (k = (1 : Int)))) (
  some (decide ((IntKind.wrap .i64 (r181.2.1 - r181.1)) < s.1.2.2.1.2.1))) (
  tif ((decide (k = (2 : Int)))) (
  some (decide ((IntKind.wrap .i64 (r181.2.1 - r181.1)) < s.1.2.2.1.2.2))) (
  none)))) (
  some false)) (
  some false)) (
  some false)))) (
  tif ((decide (k = (1 : Int)))) (
  tif ((decide (s.1.2.1.2.1 = (0 : Int)))) (
  none) (
  tif ((decide ((IntKind.wrap .i64 (Int.tdiv e.1 s.1.2.1.2.1)) < r42.1))) (
  some false) (
  obind (cascade_Kept n r40.1 k) fun r182 =>
  tif ((decide (r182.2.2 = (0 : Int)))) (
  tif ((decide (r182.2.1 = r42.1))) (
  tif ((decide (r182.1 ≤ r182.2.1))) (
  tif ((decide (k = (0 : Int)))) (
  some (decide ((IntKind.wrap .i64 (r182.2.1 - r182.1)) < s.1.2.2.1.1))) (
  tif ((decide (k = (1 : Int)))) (
  some (decide ((IntKind.wrap .i64 (r182.2.1 - r182.1)) < s.1.2.2.1.2.1))) (
  tif ((decide (k = (2 : Int)))) (
  some (decide ((IntKind.wrap .i64 (r182.2.1 - r182.1)) < s.1.2.2.1.2.2))) (
  none)))) (
  some false)) (
  some false)) (
  some false)))) (
  tif ((decide (k = (2 : Int)))) (
  tif ((decide (s.1.2.1.2.2 = (0 : Int)))) (
  none) (
  tif ((decide ((IntKind.wrap .i64 (Int.tdiv e.1 s.1.2.1.2.2)) < r42.1))) (
  some false) (
  obind (cascade_Kept n r40.1 k) fun r183 =>
  tif ((decide (r183.2.2 = (0 : Int)))) (
  tif ((decide (r183.2.1 = r42.1))) (
  tif ((decide (r183.1 ≤ r183.2.1))) (
  tif ((decide (k = (0 : Int)))) (
  some (decide ((IntKind.wrap .i64 (r183.2.1 - r183.1)) < s.1.2.2.1.1))) (
  tif ((decide (k = (1 : Int)))) (
  some (decide ((IntKind.wrap .i64 (r183.2.1 - r183.1)) < s.1.2.2.1.2.1))) (
  tif ((decide (k = (2 : Int)))) (
  some (decide ((IntKind.wrap .i64 (r183.2.1 - r183.1)) < s.1.2.2.1.2.2))) (
  none)))) (
  some false)) (
  some false)) (
  some false)))) (
  none)))) (
  obind (cascade_Kept n r40.1 k) fun r184 =>
  tif ((decide (r184.2.2 = (0 : Int)))) (
  tif ((decide (r184.2.1 = r42.1))) (
  tif ((decide (r184.1 ≤ r184.2.1))) (
  tif ((decide (k = (0 : Int)))) (
  some (decide ((IntKind.wrap .i64 (r184.2.1 - r184.1)) < s.1.2.2.1.1))) (
  tif ((decide (k = (1 : Int)))) (
  some (decide ((IntKind.wrap .i64 (r184.2.1 - r184.1)) < s.1.2.2.1.2.1))) (
  tif ((decide (k = (2 : Int)))) (
  some (decide ((IntKind.wrap .i64 (r184.2.1 - r184.1)) < s.1.2.2.1.2.2))) (
  none)))) (
  some false)) (
  some false)) (
  some false)))) (
  tif ((decide ((IntKind.wrap .i64 (k - (1 : Int))) = (2 : Int)))) (
  tif ((decide (r43.2.2 < r43.2.2))) (
  some false) (
  obind (write_One n r40.1 l e) fun r185 =>
  tif ((decide (r185.2 = (0 : Int)))) (
  tif ((decide (k = (0 : Int)))) (
  tif ((decide (s.1.2.1.1 = (0 : Int)))) (
  none) (
  tif ((decide ((IntKind.wrap .i64 (Int.tdiv e.1 s.1.2.1.1)) < r42.1))) (
  some false) (
  obind (cascade_Kept n r40.1 k) fun r186 =>
  tif ((decide (r186.2.2 = (0 : Int)))) (
  tif ((decide (r186.2.1 = r42.1))) (
  tif ((decide (r186.1 ≤ r186.2.1))) (
  tif ((decide (k = (0 : Int)))) (
  some (decide ((IntKind.wrap .i64 (r186.2.1 - r186.1)) < s.1.2.2.1.1))) (
  tif ((decide (k = (1 : Int)))) (
  some (decide ((IntKind.wrap .i64 (r186.2.1 - r186.1)) < s.1.2.2.1.2.1))) (
  tif ((decide (k = (2 : Int)))) (
  some (decide ((IntKind.wrap .i64 (r186.2.1 - r186.1)) < s.1.2.2.1.2.2))) (
  none)))) (
  some false)) (
  some false)) (
  some false)))) (
  tif ((decide (k = (1 : Int)))) (
  tif ((decide (s.1.2.1.2.1 = (0 : Int)))) (
  none) (
  tif ((decide ((IntKind.wrap .i64 (Int.tdiv e.1 s.1.2.1.2.1)) < r42.1))) (
  some false) (
  obind (cascade_Kept n r40.1 k) fun r187 =>
  tif ((decide (r187.2.2 = (0 : Int)))) (
  tif ((decide (r187.2.1 = r42.1))) (
  tif ((decide (r187.1 ≤ r187.2.1))) (
  tif ((decide (k = (0 : Int)))) (
  some (decide ((IntKind.wrap .i64 (r187.2.1 - r187.1)) < s.1.2.2.1.1))) (
  tif ((decide (k = (1 : Int)))) (
  some (decide ((IntKind.wrap .i64 (r187.2.1 - r187.1)) < s.1.2.2.1.2.1))) (
  tif ((decide (k = (2 : Int)))) (
  some (decide ((IntKind.wrap .i64 (r187.2.1 - r187.1)) < s.1.2.2.1.2.2))) (
  none)))) (
  some false)) (
  some false)) (
  some false)))) (
  tif ((decide (k = (2 : Int)))) (
  tif ((decide (s.1.2.1.2.2 = (0 : Int)))) (
  none) (
  tif ((decide ((IntKind.wrap .i64 (Int.tdiv e.1 s.1.2.1.2.2)) < r42.1))) (
  some false) (
  obind (cascade_Kept n r40.1 k) fun r188 =>
  tif ((decide (r188.2.2 = (0 : Int)))) (
  tif ((decide (r188.2.1 = r42.1))) (
  tif ((decide (r188.1 ≤ r188.2.1))) (
  tif ((decide (k = (0 : Int)))) (
  some (decide ((IntKind.wrap .i64 (r188.2.1 - r188.1)) < s.1.2.2.1.1))) (
  tif ((decide (k = (1 : Int)))) (
  some (decide ((IntKind.wrap .i64 (r188.2.1 - r188.1)) < s.1.2.2.1.2.1))) (
  tif ((decide (k = (2 : Int)))) (
  some (decide ((IntKind.wrap .i64 (r188.2.1 - r188.1)) < s.1.2.2.1.2.2))) (
  none)))) (
  some false)) (
  some false)) (
  some false)))) (
  none)))) (
  obind (cascade_Kept n r40.1 k) fun r189 =>
  tif ((decide (r189.2.2 = (0 : Int)))) (
  tif ((decide (r189.2.1 = r42.1))) (
  tif ((decide (r189.1 ≤ r189.2.1))) (
  tif ((decide (k = (0 : Int)))) (
  some (decide ((IntKind.wrap .i64 (r189.2.1 - r189.1)) < s.1.2.2.1.1))) (
  tif ((decide (k = (1 : Int)))) (
  some (decide ((IntKind.wrap .i64 (r189.2.1 - r189.1)) < s.1.2.2.1.2.1))) (
  tif ((decide (k = (2 : Int)))) (
  some (decide ((IntKind.wrap .i64 (r189.2.1 - r189.1)) < s.1.2.2.1.2.2))) (
  none)))) (
  some false)) (
  some false)) (
  some false)))) (
  none)))) (
  none)))) (
  obind (write_One n r40.1 l e) fun r190 =>
  tif ((decide (r190.2 = (0 : Int)))) (
  tif ((decide (k = (0 : Int)))) (
  tif ((decide (s.1.2.1.1 = (0 : Int)))) (
  none) (
  tif ((decide ((IntKind.wrap .i64 (Int.tdiv e.1 s.1.2.1.1)) < r42.1))) (
  some false) (
  obind (cascade_Kept n r40.1 k) fun r191 =>
  tif ((decide (r191.2.2 = (0 : Int)))) (
  tif ((decide (r191.2.1 = r42.1))) (
  tif ((decide (r191.1 ≤ r191.2.1))) (
  tif ((decide (k = (0 : Int)))) (
  some (decide ((IntKind.wrap .i64 (r191.2.1 - r191.1)) < s.1.2.2.1.1))) (
  tif ((decide (k = (1 : Int)))) (
  some (decide ((IntKind.wrap .i64 (r191.2.1 - r191.1)) < s.1.2.2.1.2.1))) (
  tif ((decide (k = (2 : Int)))) (
  some (decide ((IntKind.wrap .i64 (r191.2.1 - r191.1)) < s.1.2.2.1.2.2))) (
  none)))) (
  some false)) (
  some false)) (
  some false)))) (
  tif ((decide (k = (1 : Int)))) (
  tif ((decide (s.1.2.1.2.1 = (0 : Int)))) (
  none) (
  tif ((decide ((IntKind.wrap .i64 (Int.tdiv e.1 s.1.2.1.2.1)) < r42.1))) (
  some false) (
  obind (cascade_Kept n r40.1 k) fun r192 =>
  tif ((decide (r192.2.2 = (0 : Int)))) (
  tif ((decide (r192.2.1 = r42.1))) (
  tif ((decide (r192.1 ≤ r192.2.1))) (
  tif ((decide (k = (0 : Int)))) (
  some (decide ((IntKind.wrap .i64 (r192.2.1 - r192.1)) < s.1.2.2.1.1))) (
  tif ((decide (k = (1 : Int)))) (
  some (decide ((IntKind.wrap .i64 (r192.2.1 - r192.1)) < s.1.2.2.1.2.1))) (
  tif ((decide (k = (2 : Int)))) (
  some (decide ((IntKind.wrap .i64 (r192.2.1 - r192.1)) < s.1.2.2.1.2.2))) (
  none)))) (
  some false)) (
  some false)) (
  some false)))) (
  tif ((decide (k = (2 : Int)))) (
  tif ((decide (s.1.2.1.2.2 = (0 : Int)))) (
  none) (
  tif ((decide ((IntKind.wrap .i64 (Int.tdiv e.1 s.1.2.1.2.2)) < r42.1))) (
  some false) (
  obind (cascade_Kept n r40.1 k) fun r193 =>
  tif ((decide (r193.2.2 = (0 : Int)))) (
  tif ((decide (r193.2.1 = r42.1))) (
  tif ((decide (r193.1 ≤ r193.2.1))) (
  tif ((decide (k = (0 : Int)))) (
  some (decide ((IntKind.wrap .i64 (r193.2.1 - r193.1)) < s.1.2.2.1.1))) (
  tif ((decide (k = (1 : Int)))) (
  some (decide ((IntKind.wrap .i64 (r193.2.1 - r193.1)) < s.1.2.2.1.2.1))) (
  tif ((decide (k = (2 : Int)))) (
  some (decide ((IntKind.wrap .i64 (r193.2.1 - r193.1)) < s.1.2.2.1.2.2))) (
  none)))) (
  some false)) (
  some false)) (
  some false)))) (
  none)))) (
  obind (cascade_Kept n r40.1 k) fun r194 =>
  tif ((decide (r194.2.2 = (0 : Int)))) (
  tif ((decide (r194.2.1 = r42.1))) (
  tif ((decide (r194.1 ≤ r194.2.1))) (
  tif ((decide (k = (0 : Int)))) (
  some (decide ((IntKind.wrap .i64 (r194.2.1 - r194.1)) < s.1.2.2.1.1))) (
  tif ((decide (k = (1 : Int)))) (
  some (decide ((IntKind.wrap .i64 (r194.2.1 - r194.1)) < s.1.2.2.1.2.1))) (
  tif ((decide (k = (2 : Int)))) (
  some (decide ((IntKind.wrap .i64 (r194.2.1 - r194.1)) < s.1.2.2.1.2.2))) (
  none)))) (
  some false)) (
  some false)) (
  some false)))))) (
  none))))))))))))))))) := by kernel_rfl
theorem top_TopSteps_eq (n : Nat) (s : TState) (a : Int) (b : Int) (l : (List (List UInt8 × List UInt8))) (e : TEvent) : top_TopSteps (n + 1) s a b l e =
  obind (top_begins10 n ) fun r0 =>
  tif ((!r0)) (
  some false) (
  obind (l17_Small n s) fun r1 =>
  tif ((decide (r1 = (0 : Int)))) (
  some true) (
  obind (l05_Small n l) fun r2 =>
  tif ((decide (r2 = (0 : Int)))) (
  some true) (
  obind (state_Check n s) fun r3 =>
  tif ((!(decide (r3 = (0 : Int))))) (
  some true) (
  obind (cascade_Tick n s a) fun r4 =>
  obind (cascade_Tick n r4.1 b) fun r5 =>
  tif ((!r4.2)) (
  obind (state_Same n s r4.1) fun r6 =>
  some r6) (
  tif ((!r5.2)) (
  obind (state_Same n r4.1 r5.1) fun r7 =>
  tif (r7) (
  tif ((decide (b ≤ a))) (
  some true) (
  some (decide ((35184372088832 : Int) ≤ b)))) (
  some false)) (
  obind (cascade_Tick n s b) fun r8 =>
  obind (cascade_Steps n s a) fun r9 =>
  obind (cascade_Steps n r4.1 b) fun r10 =>
  obind (cascade_Steps n s b) fun r11 =>
  tif ((!(decide ((IntKind.wrap .i64 (r9.1 + r10.1)) = r11.1)))) (
  some false) (
  tif ((!(decide ((IntKind.wrap .i64 (r9.2.1 + r10.2.1)) = r11.2.1)))) (
  some false) (
  tif ((!(decide ((IntKind.wrap .i64 (r9.2.2 + r10.2.2)) = r11.2.2)))) (
  some false) (
  tif ((!r8.2)) (
  some false) (
  obind (state_Same n r5.1 r8.1) fun r12 =>
  tif ((!r12)) (
  some false) (
  obind (write_One n r5.1 l e) fun r13 =>
  tif ((!(decide (r13.2 = (0 : Int))))) (
  some true) (
  obind (cascade_Sealed n r5.1 (0 : Int)) fun r14 =>
  obind (cascade_Tick n r13.1 (IntKind.wrap .i64 (b + s.1.2.1.2.2))) fun r15 =>
  obind (state_Find n r15.1 l) fun r16 =>
  tif ((decide (r14.2 = (0 : Int)))) (
  tif ((decide (s.1.2.1.1 = (0 : Int)))) (
  none) (
  tif ((decide ((IntKind.wrap .i64 (Int.tdiv e.1 s.1.2.1.1)) = r14.1))) (
  tif ((decide (r16.2 = (0 : Int)))) (
  tif ((decide (r16.1 < (((List.length r15.1.2.2.2) : Nat) : Int)))) (
  obind (at? r15.1.2.2.2 r16.1) fun r17 =>
  some (decide (r17.2.1 = e.1))) (
  some false)) (
  some false)) (
  some false))) (
  some false))))))))))))) := by kernel_rfl
theorem l17_Small_eq (n : Nat) (s : TState) : l17_Small (n + 1) s =
  tif ((decide ((8 : Int) < (((List.length s.2.2.2) : Nat) : Int)))) (
  some (0 : Int)) (
  obind (l17_Small_l4 n loopFuel (s.2.2.2, ((((List.length s.2.2.2) : Nat) : Int), ((0 : Int), ())))) fun r0 =>
  selim (fun y1 =>
  some (1 : Int)) (fun z2 =>
  some z2) r0) := by kernel_rfl
theorem l17_Small_l4_eq (n f : Nat) (s10 : (List TSeries)) (s11 : Int) (s12 : Int) : l17_Small_l4 n (f + 1) (s10, s11, s12, ()) =
  tif ((decide (s12 < s11))) (
  obind (at? s10 s12) fun r0 =>
  obind (l15_Small n r0) fun r1 =>
  tif ((decide (r1 = (0 : Int)))) (
  some (.inr (0 : Int))) (
  l17_Small_l4 n f (s10, (s11, ((IntKind.wrap .i64 (s12 + (1 : Int))), ()))))) (
  some (.inl ())) := by kernel_rfl
theorem l05_Small_eq (n : Nat) (l : (List (List UInt8 × List UInt8))) : l05_Small (n + 1) l =
  obind (l05_Small_l2 n loopFuel (l, ((((List.length l) : Nat) : Int), ((0 : Int), ())))) fun r0 =>
  selim (fun y1 =>
  some (1 : Int)) (fun z2 =>
  some z2) r0 := by kernel_rfl
theorem l05_Small_l2_eq (n f : Nat) (s5 : (List (List UInt8 × List UInt8))) (s6 : Int) (s7 : Int) : l05_Small_l2 n (f + 1) (s5, s6, s7, ()) =
  tif ((decide (s7 < s6))) (
  obind (at? s5 s7) fun r0 =>
  tif ((decide (s7 = (40 : Int)))) (
  some (.inr (0 : Int))) (
  tif ((decide ((1000 : Int) < (((List.length r0.1) : Nat) : Int)))) (
  some (.inr (0 : Int))) (
  tif ((decide ((1000 : Int) < (((List.length r0.2) : Nat) : Int)))) (
  some (.inr (0 : Int))) (
  l05_Small_l2 n f (s5, (s6, ((IntKind.wrap .i64 (s7 + (1 : Int))), ()))))))) (
  some (.inl ())) := by kernel_rfl
theorem state_Find_eq (n : Nat) (s : TState) (l : (List (List UInt8 × List UInt8))) : state_Find (n + 1) s l =
  obind (state_open n s) fun r0 =>
  tif ((!(decide (r0.2 = (0 : Int))))) (
  some ((0 : Int), r0.2)) (
  obind (state_view_place n r0.1 (fun y1 => state_Find_1 n y1.1 s l r0.1)) fun r2 =>
  tif ((decide (r2 < (0 : Int)))) (
  some ((0 : Int), (3 : Int))) (
  some (r2, (0 : Int)))) := by kernel_rfl
theorem state_Room_eq (n : Nat) (s : TState) : state_Room (n + 1) s =
  obind (state_open n s) fun r0 =>
  tif ((!(decide (r0.2 = (0 : Int))))) (
  some ((0 : Int), r0.2)) (
  obind (state_view_place n r0.1 (fun y1 => state_Room_1 n y1.1 r0.1)) fun r2 =>
  tif ((decide (r2 < (0 : Int)))) (
  some ((0 : Int), (7 : Int))) (
  some (r2, (0 : Int)))) := by kernel_rfl
theorem state_Check_eq (n : Nat) (s : TState) : state_Check (n + 1) s =
  obind (state_open n s) fun r0 =>
  tif ((!(decide (r0.2 = (0 : Int))))) (
  some (2 : Int)) (
  obind (state_view_clock n r0.1) fun r1 =>
  tif ((!r1)) (
  some (2 : Int)) (
  obind (state_view_place n r0.1 (fun y2 => state_Check_1 n y2.1 r0.1)) fun r3 =>
  tif ((decide ((0 : Int) ≤ r3))) (
  some (2 : Int)) (
  some (0 : Int)))) := by kernel_rfl
end Go.Proofs.YthjnbidgliejkaaGreat
