/-
  What each function comes to by one step of the flat reading. Printed by program; the kernel looks at each.
-/
import Derived.Test.YtapadkjknnfifaaGreatTr0
import Derived.KernelRfl
set_option linter.unusedVariables false
namespace Go.Proofs.YtapadkjknnfifaaGreat
open Go.Flat
theorem l15_SeriesNew_eq (n : Nat) (c : TConfig) (l : (List (List UInt8 × List UInt8))) (s : TSeries) (o : TSeries) (last : Int) (now : Int) : l15_SeriesNew (n + 1) c l s o last now =
  obind (l05_Small n l) fun r0 =>
  tif ((decide (r0 = (0 : Int)))) (
  obind (l15_lives n ) fun r1 =>
  some r1) (
  obind (l15_Small n s) fun r2 =>
  tif ((decide (r2 = (0 : Int)))) (
  obind (l15_lives n ) fun r3 =>
  some r3) (
  obind (l15_Small n o) fun r4 =>
  tif ((decide (r4 = (0 : Int)))) (
  obind (l15_lives n ) fun r5 =>
  some r5) (
  tif ((decide ((200 : Int) < c.2.2.1.1))) (
  tif ((decide (c.2.2.1.1 ≤ (4096 : Int)))) (
  obind (l15_lives n ) fun r6 =>
  some r6) (
  tif ((decide ((200 : Int) < c.2.2.1.2.1))) (
  tif ((decide (c.2.2.1.2.1 ≤ (4096 : Int)))) (
  obind (l15_lives n ) fun r7 =>
  some r7) (
  tif ((decide ((200 : Int) < c.2.2.1.2.2))) (
  tif ((decide (c.2.2.1.2.2 ≤ (4096 : Int)))) (
  obind (l15_lives n ) fun r8 =>
  some r8) (
  obind (series_New n c l) fun r9 =>
  obind (r15_New n c l) fun r10 =>
  obind (l15_lives n ) fun r11 =>
  tif (r11) (
  obind (r15_Same n r9.1 r10.1) fun r12 =>
  tif (r12) (
  tif ((decide (r9.2 = r10.2))) (
  obind (series_Same n s o) fun r13 =>
  obind (r15_Same n s o) fun r14 =>
  tif ((r13 == r14)) (
  obind (series_Dead n c last now) fun r15 =>
  obind (r15_Dead n c last now) fun r16 =>
  some (r15 == r16)) (
  some false)) (
  some false)) (
  some false)) (
  some false))) (
  obind (series_New n c l) fun r17 =>
  obind (r15_New n c l) fun r18 =>
  obind (l15_lives n ) fun r19 =>
  tif (r19) (
  obind (r15_Same n r17.1 r18.1) fun r20 =>
  tif (r20) (
  tif ((decide (r17.2 = r18.2))) (
  obind (series_Same n s o) fun r21 =>
  obind (r15_Same n s o) fun r22 =>
  tif ((r21 == r22)) (
  obind (series_Dead n c last now) fun r23 =>
  obind (r15_Dead n c last now) fun r24 =>
  some (r23 == r24)) (
  some false)) (
  some false)) (
  some false)) (
  some false)))) (
  tif ((decide ((200 : Int) < c.2.2.1.2.2))) (
  tif ((decide (c.2.2.1.2.2 ≤ (4096 : Int)))) (
  obind (l15_lives n ) fun r25 =>
  some r25) (
  obind (series_New n c l) fun r26 =>
  obind (r15_New n c l) fun r27 =>
  obind (l15_lives n ) fun r28 =>
  tif (r28) (
  obind (r15_Same n r26.1 r27.1) fun r29 =>
  tif (r29) (
  tif ((decide (r26.2 = r27.2))) (
  obind (series_Same n s o) fun r30 =>
  obind (r15_Same n s o) fun r31 =>
  tif ((r30 == r31)) (
  obind (series_Dead n c last now) fun r32 =>
  obind (r15_Dead n c last now) fun r33 =>
  some (r32 == r33)) (
  some false)) (
  some false)) (
  some false)) (
  some false))) (
  obind (series_New n c l) fun r34 =>
  obind (r15_New n c l) fun r35 =>
  obind (l15_lives n ) fun r36 =>
  tif (r36) (
  obind (r15_Same n r34.1 r35.1) fun r37 =>
  tif (r37) (
  tif ((decide (r34.2 = r35.2))) (
  obind (series_Same n s o) fun r38 =>
  obind (r15_Same n s o) fun r39 =>
  tif ((r38 == r39)) (
  obind (series_Dead n c last now) fun r40 =>
  obind (r15_Dead n c last now) fun r41 =>
  some (r40 == r41)) (
  some false)) (
  some false)) (
  some false)) (
  some false))))) (
  tif ((decide ((200 : Int) < c.2.2.1.2.1))) (
  tif ((decide (c.2.2.1.2.1 ≤ (4096 : Int)))) (
  obind (l15_lives n ) fun r42 =>
  some r42) (
  tif ((decide ((200 : Int) < c.2.2.1.2.2))) (
  tif ((decide (c.2.2.1.2.2 ≤ (4096 : Int)))) (
  obind (l15_lives n ) fun r43 =>
  some r43) (
  obind (series_New n c l) fun r44 =>
  obind (r15_New n c l) fun r45 =>
  obind (l15_lives n ) fun r46 =>
  tif (r46) (
  obind (r15_Same n r44.1 r45.1) fun r47 =>
  tif (r47) (
  tif ((decide (r44.2 = r45.2))) (
  obind (series_Same n s o) fun r48 =>
  obind (r15_Same n s o) fun r49 =>
  tif ((r48 == r49)) (
  obind (series_Dead n c last now) fun r50 =>
  obind (r15_Dead n c last now) fun r51 =>
  some (r50 == r51)) (
  some false)) (
  some false)) (
  some false)) (
  some false))) (
  obind (series_New n c l) fun r52 =>
  obind (r15_New n c l) fun r53 =>
  obind (l15_lives n ) fun r54 =>
  tif (r54) (
  obind (r15_Same n r52.1 r53.1) fun r55 =>
  tif (r55) (
  tif ((decide (r52.2 = r53.2))) (
  obind (series_Same n s o) fun r56 =>
  obind (r15_Same n s o) fun r57 =>
  tif ((r56 == r57)) (
  obind (series_Dead n c last now) fun r58 =>
  obind (r15_Dead n c last now) fun r59 =>
  some (r58 == r59)) (
  some false)) (
  some false)) (
  some false)) (
  some false)))) (
  tif ((decide ((200 : Int) < c.2.2.1.2.2))) (
  tif ((decide (c.2.2.1.2.2 ≤ (4096 : Int)))) (
  obind (l15_lives n ) fun r60 =>
  some r60) (
  obind (series_New n c l) fun r61 =>
  obind (r15_New n c l) fun r62 =>
  obind (l15_lives n ) fun r63 =>
  tif (r63) (
  obind (r15_Same n r61.1 r62.1) fun r64 =>
  tif (r64) (
  tif ((decide (r61.2 = r62.2))) (
  obind (series_Same n s o) fun r65 =>
  obind (r15_Same n s o) fun r66 =>
  tif ((r65 == r66)) (
  obind (series_Dead n c last now) fun r67 =>
  obind (r15_Dead n c last now) fun r68 =>
  some (r67 == r68)) (
  some false)) (
  some false)) (
  some false)) (
  some false))) (
  obind (series_New n c l) fun r69 =>
  obind (r15_New n c l) fun r70 =>
  obind (l15_lives n ) fun r71 =>
  tif (r71) (
  obind (r15_Same n r69.1 r70.1) fun r72 =>
  tif (r72) (
  tif ((decide (r69.2 = r70.2))) (
  obind (series_Same n s o) fun r73 =>
  obind (r15_Same n s o) fun r74 =>
  tif ((r73 == r74)) (
  obind (series_Dead n c last now) fun r75 =>
  obind (r15_Dead n c last now) fun r76 =>
  some (r75 == r76)) (
  some false)) (
  some false)) (
  some false)) (
  some false))))))) := by kernel_rfl
theorem l15_Small_eq (n : Nat) (s : TSeries) : l15_Small (n + 1) s =
  obind (l05_Small n s.1) fun r0 =>
  tif ((decide (r0 = (0 : Int)))) (
  some (0 : Int)) (
  tif ((decide ((60 : Int) < (((List.length s.2.2.1.2.2) : Nat) : Int)))) (
  some (0 : Int)) (
  obind (l14_Small n s.2.2.2.1) fun r1 =>
  some r1)) := by kernel_rfl
end Go.Proofs.YtapadkjknnfifaaGreat
