/-
  What each function comes to by one step of the flat reading. Printed by program; the kernel looks at each.
-/
import Derived.Test.YtapadkjknnfifaaGreatTr0
import Derived.KernelRfl
set_option linter.unusedVariables false
namespace Go.Proofs.YtapadkjknnfifaaGreat
open Go.Flat
theorem l20_CascadeTells_eq (n : Nat) (s : TState) (now : Int) (k : Int) : l20_CascadeTells (n + 1) s now k =
  obind (l17_Small n s) fun r0 =>
  tif ((decide (r0 = (0 : Int)))) (
  obind (l20_lives n ) fun r1 =>
  some r1) (
  obind (cascade_Tick n s now) fun r2 =>
  obind (r20_Tick n s now) fun r3 =>
  obind (cascade_Sealed n s k) fun r4 =>
  obind (r20_Sealed n s k) fun r5 =>
  obind (cascade_Kept n s k) fun r6 =>
  obind (r20_Kept n s k) fun r7 =>
  obind (l20_lives n ) fun r8 =>
  tif (r8) (
  obind (r17_Same n r2.1 r3.1) fun r9 =>
  tif (r9) (
  tif ((r2.2 == r3.2)) (
  tif ((decide (r4.1 = r5.1))) (
  tif ((decide (r4.2 = r5.2))) (
  tif ((decide (r6.1 = r7.1))) (
  tif ((decide (r6.2.1 = r7.2.1))) (
  tif ((decide (r6.2.2 = r7.2.2))) (
  obind (cascade_Steps n s now) fun r10 =>
  obind (r20_Steps n s now) fun r11 =>
  some ((decide (r10.1 = r11.1)) && ((decide (r10.2.1 = r11.2.1)) && (decide (r10.2.2 = r11.2.2))))) (
  some false)) (
  some false)) (
  some false)) (
  some false)) (
  some false)) (
  some false)) (
  some false)) (
  some false)) := by kernel_rfl

theorem l15_SeriesTells_eq (n : Nat) (c : TConfig) (s : TSeries) (e : TEvent) (k : Int) (i : Int) (j : Int) : l15_SeriesTells (n + 1) c s e k i j =
  obind (l15_Small n s) fun r0 =>
  tif ((decide (r0 = (0 : Int)))) (
  obind (l15_lives n ) fun r1 =>
  some r1) (
  obind (series_Put n c s e) fun r2 =>
  obind (r15_Put n c s e) fun r3 =>
  obind (series_Cell n c s k i) fun r4 =>
  obind (r15_Cell n c s k i) fun r5 =>
  obind (series_Range n c s k i j) fun r6 =>
  obind (r15_Range n c s k i j) fun r7 =>
  obind (l15_lives n ) fun r8 =>
  tif (r8) (
  obind (series_Check n c s) fun r9 =>
  obind (r15_Check n c s) fun r10 =>
  tif ((decide (r9 = r10))) (
  obind (r15_Same n r2.1 r3.1) fun r11 =>
  tif (r11) (
  tif ((decide (r2.2 = r3.2))) (
  tif (((decide (r4.1.1 = r5.1.1)) && ((decide (r4.1.2.1.1 = r5.1.2.1.1)) && ((decide (r4.1.2.1.2.1 = r5.1.2.1.2.1)) && ((decide (r4.1.2.1.2.2.1 = r5.1.2.1.2.2.1)) && ((r4.1.2.1.2.2.2 == r5.1.2.1.2.2.2) && ((decide (r4.1.2.2.1.1 = r5.1.2.2.1.1)) && ((decide (r4.1.2.2.1.2.1 = r5.1.2.2.1.2.1)) && ((decide (r4.1.2.2.1.2.2.1 = r5.1.2.2.1.2.2.1)) && ((r4.1.2.2.1.2.2.2 == r5.1.2.2.1.2.2.2) && ((decide (r4.1.2.2.2.1.1 = r5.1.2.2.2.1.1)) && ((decide (r4.1.2.2.2.1.2 = r5.1.2.2.2.1.2)) && ((decide (r4.1.2.2.2.2.1 = r5.1.2.2.2.2.1)) && ((decide (r4.1.2.2.2.2.2.1 = r5.1.2.2.2.2.2.1)) && (decide (r4.1.2.2.2.2.2.2 = r5.1.2.2.2.2.2.2)))))))))))))))) (
  tif ((decide (r4.2 = r5.2))) (
  tif (((decide (r6.1.1 = r7.1.1)) && ((decide (r6.1.2.1.1 = r7.1.2.1.1)) && ((decide (r6.1.2.1.2.1 = r7.1.2.1.2.1)) && ((decide (r6.1.2.1.2.2.1 = r7.1.2.1.2.2.1)) && ((r6.1.2.1.2.2.2 == r7.1.2.1.2.2.2) && ((decide (r6.1.2.2.1.1 = r7.1.2.2.1.1)) && ((decide (r6.1.2.2.1.2.1 = r7.1.2.2.1.2.1)) && ((decide (r6.1.2.2.1.2.2.1 = r7.1.2.2.1.2.2.1)) && ((r6.1.2.2.1.2.2.2 == r7.1.2.2.1.2.2.2) && ((decide (r6.1.2.2.2.1.1 = r7.1.2.2.2.1.1)) && ((decide (r6.1.2.2.2.1.2 = r7.1.2.2.2.1.2)) && ((decide (r6.1.2.2.2.2.1 = r7.1.2.2.2.2.1)) && ((decide (r6.1.2.2.2.2.2.1 = r7.1.2.2.2.2.2.1)) && (decide (r6.1.2.2.2.2.2.2 = r7.1.2.2.2.2.2.2)))))))))))))))) (
  some (decide (r6.2 = r7.2))) (
  some false)) (
  some false)) (
  some false)) (
  some false)) (
  some false)) (
  some false)) (
  some false)) := by kernel_rfl

theorem l15_SeriesNew_eq (n : Nat) (c : TConfig) (l : (List (List UInt8 × List UInt8))) (s : TSeries) (o : TSeries) (last : Int) (now : Int) : l15_SeriesNew (n + 1) c l s o last now =
  obind (l05_Small n l) fun r0 =>
  tif ((decide (r0 = (0 : Int)))) (
  obind (l15_lives n ) fun r1 =>
  some r1) (
  obind (l15_Small n s) fun r2 =>
  tif ((decide (r2 = (0 : Int)))) (
  obind (l15_lives n ) fun r3 =>
  some r3) (
  obind (l15_Small n o) fun r4 =>
  tif ((decide (r4 = (0 : Int)))) (
  obind (l15_lives n ) fun r5 =>
  some r5) (
  tif ((decide ((200 : Int) < c.2.2.1.1))) (
  tif ((decide (c.2.2.1.1 ≤ (4096 : Int)))) (
  obind (l15_lives n ) fun r6 =>
  some r6) (
  tif ((decide ((200 : Int) < c.2.2.1.2.1))) (
  tif ((decide (c.2.2.1.2.1 ≤ (4096 : Int)))) (
  obind (l15_lives n ) fun r7 =>
  some r7) (
  tif ((decide ((200 : Int) < c.2.2.1.2.2))) (
  tif ((decide (c.2.2.1.2.2 ≤ (4096 : Int)))) (
  obind (l15_lives n ) fun r8 =>
  some r8) (
  obind (series_New n c l) fun r9 =>
  obind (r15_New n c l) fun r10 =>
  obind (l15_lives n ) fun r11 =>
  tif (r11) (
  obind (r15_Same n r9.1 r10.1) fun r12 =>
  tif (r12) (
  tif ((decide (r9.2 = r10.2))) (
  obind (series_Same n s o) fun r13 =>
  obind (r15_Same n s o) fun r14 =>
  tif ((r13 == r14)) (
  obind (series_Dead n c last now) fun r15 =>
  obind (r15_Dead n c last now) fun r16 =>
  some (r15 == r16)) (
  some false)) (
  some false)) (
  some false)) (
  some false))) (
  obind (series_New n c l) fun r17 =>
  obind (r15_New n c l) fun r18 =>
  obind (l15_lives n ) fun r19 =>
  tif (r19) (
  obind (r15_Same n r17.1 r18.1) fun r20 =>
  tif (r20) (
  tif ((decide (r17.2 = r18.2))) (
  obind (series_Same n s o) fun r21 =>
  obind (r15_Same n s o) fun r22 =>
  tif ((r21 == r22)) (
  obind (series_Dead n c last now) fun r23 =>
  obind (r15_Dead n c last now) fun r24 =>
  some (r23 == r24)) (
  some false)) (
  some false)) (
  some false)) (
  some false)))) (
  tif ((decide ((200 : Int) < c.2.2.1.2.2))) (
  tif ((decide (c.2.2.1.2.2 ≤ (4096 : Int)))) (
  obind (l15_lives n ) fun r25 =>
  some r25) (
  obind (series_New n c l) fun r26 =>
  obind (r15_New n c l) fun r27 =>
  obind (l15_lives n ) fun r28 =>
  tif (r28) (
  obind (r15_Same n r26.1 r27.1) fun r29 =>
  tif (r29) (
  tif ((decide (r26.2 = r27.2))) (
  obind (series_Same n s o) fun r30 =>
  obind (r15_Same n s o) fun r31 =>
  tif ((r30 == r31)) (
  obind (series_Dead n c last now) fun r32 =>
  obind (r15_Dead n c last now) fun r33 =>
  some (r32 == r33)) (
  some false)) (
  some false)) (
  some false)) (
  some false))) (
  obind (series_New n c l) fun r34 =>
  obind (r15_New n c l) fun r35 =>
  obind (l15_lives n ) fun r36 =>
  tif (r36) (
  obind (r15_Same n r34.1 r35.1) fun r37 =>
  tif (r37) (
  tif ((decide (r34.2 = r35.2))) (
  obind (series_Same n s o) fun r38 =>
  obind (r15_Same n s o) fun r39 =>
  tif ((r38 == r39)) (
  obind (series_Dead n c last now) fun r40 =>
  obind (r15_Dead n c last now) fun r41 =>
  some (r40 == r41)) (
  some false)) (
  some false)) (
  some false)) (
  some false))))) (
  tif ((decide ((200 : Int) < c.2.2.1.2.1))) (
  tif ((decide (c.2.2.1.2.1 ≤ (4096 : Int)))) (
  obind (l15_lives n ) fun r42 =>
  some r42) (
  tif ((decide ((200 : Int) < c.2.2.1.2.2))) (
  tif ((decide (c.2.2.1.2.2 ≤ (4096 : Int)))) (
  obind (l15_lives n ) fun r43 =>
  some r43) (
  obind (series_New n c l) fun r44 =>
  obind (r15_New n c l) fun r45 =>
  obind (l15_lives n ) fun r46 =>
  tif (r46) (
  obind (r15_Same n r44.1 r45.1) fun r47 =>
  tif (r47) (
  tif ((decide (r44.2 = r45.2))) (
  obind (series_Same n s o) fun r48 =>
  obind (r15_Same n s o) fun r49 =>
  tif ((r48 == r49)) (
  obind (series_Dead n c last now) fun r50 =>
  obind (r15_Dead n c last now) fun r51 =>
  some (r50 == r51)) (
  some false)) (
  some false)) (
  some false)) (
  some false))) (
  obind (series_New n c l) fun r52 =>
  obind (r15_New n c l) fun r53 =>
  obind (l15_lives n ) fun r54 =>
  tif (r54) (
  obind (r15_Same n r52.1 r53.1) fun r55 =>
  tif (r55) (
  tif ((decide (r52.2 = r53.2))) (
  obind (series_Same n s o) fun r56 =>
  obind (r15_Same n s o) fun r57 =>
  tif ((r56 == r57)) (
  obind (series_Dead n c last now) fun r58 =>
  obind (r15_Dead n c last now) fun r59 =>
  some (r58 == r59)) (
  some false)) (
  some false)) (
  some false)) (
  some false)))) (
  tif ((decide ((200 : Int) < c.2.2.1.2.2))) (
  tif ((decide (c.2.2.1.2.2 ≤ (4096 : Int)))) (
  obind (l15_lives n ) fun r60 =>
  some r60) (
  obind (series_New n c l) fun r61 =>
  obind (r15_New n c l) fun r62 =>
  obind (l15_lives n ) fun r63 =>
  tif (r63) (
  obind (r15_Same n r61.1 r62.1) fun r64 =>
  tif (r64) (
  tif ((decide (r61.2 = r62.2))) (
  obind (series_Same n s o) fun r65 =>
  obind (r15_Same n s o) fun r66 =>
  tif ((r65 == r66)) (
  obind (series_Dead n c last now) fun r67 =>
  obind (r15_Dead n c last now) fun r68 =>
  some (r67 == r68)) (
  some false)) (
  some false)) (
  some false)) (
  some false))) (
  obind (series_New n c l) fun r69 =>
  obind (r15_New n c l) fun r70 =>
  obind (l15_lives n ) fun r71 =>
  tif (r71) (
  obind (r15_Same n r69.1 r70.1) fun r72 =>
  tif (r72) (
  tif ((decide (r69.2 = r70.2))) (
  obind (series_Same n s o) fun r73 =>
  obind (r15_Same n s o) fun r74 =>
  tif ((r73 == r74)) (
  obind (series_Dead n c last now) fun r75 =>
  obind (r15_Dead n c last now) fun r76 =>
  some (r75 == r76)) (
  some false)) (
  some false)) (
  some false)) (
  some false))))))) := by kernel_rfl

theorem l17_Small_eq (n : Nat) (s : TState) : l17_Small (n + 1) s =
  tif ((decide ((8 : Int) < (((List.length s.2.2.2) : Nat) : Int)))) (
  some (0 : Int)) (
  obind (l17_Small_l4 n loopFuel (s.2.2.2, ((((List.length s.2.2.2) : Nat) : Int), ((0 : Int), ())))) fun r0 =>
  selim (fun y1 =>
  some (1 : Int)) (fun z2 =>
  some z2) r0) := by kernel_rfl
theorem l17_Small_l4_eq (n f : Nat) (s10 : (List TSeries)) (s11 : Int) (s12 : Int) : l17_Small_l4 n (f + 1) (s10, s11, s12, ()) =
  tif ((decide (s12 < s11))) (
  obind (at? s10 s12) fun r0 =>
  obind (l15_Small n r0) fun r1 =>
  tif ((decide (r1 = (0 : Int)))) (
  some (.inr (0 : Int))) (
  l17_Small_l4 n f (s10, (s11, ((IntKind.wrap .i64 (s12 + (1 : Int))), ()))))) (
  some (.inl ())) := by kernel_rfl
theorem l17_Small_l4_zero (n : Nat) (x : ((List TSeries) × (Int × (Int × Unit)))) : l17_Small_l4 n 0 x = none := by kernel_rfl

theorem cascade_Tick_eq (n : Nat) (s : TState) (now : Int) : cascade_Tick (n + 1) s now =
  tif ((decide (now ≤ s.2.1))) (
  some (s, false)) (
  tif ((decide ((35184372088832 : Int) ≤ now))) (
  some (s, false)) (
  obind (state_Check n s) fun r0 =>
  tif ((!(decide (r0 = (0 : Int))))) (
  some (s, false)) (
  some ((s.1, (now, s.2.2)), true)))) := by kernel_rfl

theorem r20_Tick_eq (n : Nat) (s : TState) (now : Int) : r20_Tick (n + 1) s now =
  obind (r17_Check n s) fun r0 =>
  tif ((!(decide (r0 = (0 : Int))))) (
  some (s, false)) (
  tif ((decide (now ≤ s.2.1))) (
  some (s, false)) (
  tif ((decide ((35184372088832 : Int) ≤ now))) (
  some (s, false)) (
  some ((s.1, (now, s.2.2)), true)))) := by kernel_rfl

theorem cascade_Sealed_eq (n : Nat) (s : TState) (k : Int) : cascade_Sealed (n + 1) s k =
  obind (cascade_Kept n s k) fun r0 =>
  some r0.2 := by kernel_rfl

theorem r20_Sealed_eq (n : Nat) (s : TState) (k : Int) : r20_Sealed (n + 1) s k =
  obind (r20_Kept n s k) fun r0 =>
  some r0.2 := by kernel_rfl

theorem cascade_Kept_eq (n : Nat) (s : TState) (k : Int) : cascade_Kept (n + 1) s k =
  obind (cascade_tiers n s k) fun r0 =>
  tif ((!(decide (r0 = (0 : Int))))) (
  some ((0 : Int), ((0 : Int), r0))) (
  tif ((decide (k = (0 : Int)))) (
  tif ((decide (k = (0 : Int)))) (
  obind (window_Oldest n s.2.1 s.1.2.1.1 s.1.2.2.1.1) fun r1 =>
  tif ((decide (s.1.2.1.1 = (0 : Int)))) (
  none) (
  some (r1.1, ((IntKind.wrap .i64 (Int.tdiv s.2.1 s.1.2.1.1)), r1.2)))) (
  tif ((decide (k = (1 : Int)))) (
  obind (window_Oldest n s.2.1 s.1.2.1.1 s.1.2.2.1.2.1) fun r2 =>
  tif ((decide (s.1.2.1.1 = (0 : Int)))) (
  none) (
  some (r2.1, ((IntKind.wrap .i64 (Int.tdiv s.2.1 s.1.2.1.1)), r2.2)))) (
  tif ((decide (k = (2 : Int)))) (
  obind (window_Oldest n s.2.1 s.1.2.1.1 s.1.2.2.1.2.2) fun r3 =>
  tif ((decide (s.1.2.1.1 = (0 : Int)))) (
  none) (
  some (r3.1, ((IntKind.wrap .i64 (Int.tdiv s.2.1 s.1.2.1.1)), r3.2)))) (
  none)))) (
  tif ((decide (k = (1 : Int)))) (
  tif ((decide (k = (0 : Int)))) (
  obind (window_Oldest n s.2.1 s.1.2.1.2.1 s.1.2.2.1.1) fun r4 =>
  tif ((decide (s.1.2.1.2.1 = (0 : Int)))) (
  none) (
  some (r4.1, ((IntKind.wrap .i64 (Int.tdiv s.2.1 s.1.2.1.2.1)), r4.2)))) (
  tif ((decide (k = (1 : Int)))) (
  obind (window_Oldest n s.2.1 s.1.2.1.2.1 s.1.2.2.1.2.1) fun r5 =>
  tif ((decide (s.1.2.1.2.1 = (0 : Int)))) (
  none) (
  some (r5.1, ((IntKind.wrap .i64 (Int.tdiv s.2.1 s.1.2.1.2.1)), r5.2)))) (
  tif ((decide (k = (2 : Int)))) (
  obind (window_Oldest n s.2.1 s.1.2.1.2.1 s.1.2.2.1.2.2) fun r6 =>
  tif ((decide (s.1.2.1.2.1 = (0 : Int)))) (
  none) (
  some (r6.1, ((IntKind.wrap .i64 (Int.tdiv s.2.1 s.1.2.1.2.1)), r6.2)))) (
  none)))) (
  tif ((decide (k = (2 : Int)))) (
  tif ((decide (k = (0 : Int)))) (
  obind (window_Oldest n s.2.1 s.1.2.1.2.2 s.1.2.2.1.1) fun r7 =>
  tif ((decide (s.1.2.1.2.2 = (0 : Int)))) (
  none) (
  some (r7.1, ((IntKind.wrap .i64 (Int.tdiv s.2.1 s.1.2.1.2.2)), r7.2)))) (
  tif ((decide (k = (1 : Int)))) (
  obind (window_Oldest n s.2.1 s.1.2.1.2.2 s.1.2.2.1.2.1) fun r8 =>
  tif ((decide (s.1.2.1.2.2 = (0 : Int)))) (
  none) (
  some (r8.1, ((IntKind.wrap .i64 (Int.tdiv s.2.1 s.1.2.1.2.2)), r8.2)))) (
  tif ((decide (k = (2 : Int)))) (
  obind (window_Oldest n s.2.1 s.1.2.1.2.2 s.1.2.2.1.2.2) fun r9 =>
  tif ((decide (s.1.2.1.2.2 = (0 : Int)))) (
  none) (
  some (r9.1, ((IntKind.wrap .i64 (Int.tdiv s.2.1 s.1.2.1.2.2)), r9.2)))) (
  none)))) (
  none)))) := by kernel_rfl

theorem r20_Kept_eq (n : Nat) (s : TState) (k : Int) : r20_Kept (n + 1) s k =
  obind (r17_Check n s) fun r0 =>
  tif ((!(decide (r0 = (0 : Int))))) (
  some ((0 : Int), ((0 : Int), (2 : Int)))) (
  tif ((decide (k < (0 : Int)))) (
  some ((0 : Int), ((0 : Int), (1 : Int)))) (
  tif ((decide ((2 : Int) < k))) (
  some ((0 : Int), ((0 : Int), (1 : Int)))) (
  tif ((decide (k = (0 : Int)))) (
  tif ((decide (k = (0 : Int)))) (
  obind (r09_Oldest n s.2.1 s.1.2.1.1 s.1.2.2.1.1) fun r1 =>
  tif ((decide (k = (0 : Int)))) (
  obind (r09_Of n s.2.1 s.1.2.1.1) fun r2 =>
  some (r1.1, (r2.1, (0 : Int)))) (
  tif ((decide (k = (1 : Int)))) (
  obind (r09_Of n s.2.1 s.1.2.1.2.1) fun r3 =>
  some (r1.1, (r3.1, (0 : Int)))) (
  tif ((decide (k = (2 : Int)))) (
  obind (r09_Of n s.2.1 s.1.2.1.2.2) fun r4 =>
  some (r1.1, (r4.1, (0 : Int)))) (
  none)))) (
  tif ((decide (k = (1 : Int)))) (
  obind (r09_Oldest n s.2.1 s.1.2.1.1 s.1.2.2.1.2.1) fun r5 =>
  tif ((decide (k = (0 : Int)))) (
  obind (r09_Of n s.2.1 s.1.2.1.1) fun r6 =>
  some (r5.1, (r6.1, (0 : Int)))) (
  tif ((decide (k = (1 : Int)))) (
  obind (r09_Of n s.2.1 s.1.2.1.2.1) fun r7 =>
  some (r5.1, (r7.1, (0 : Int)))) (
  tif ((decide (k = (2 : Int)))) (
  obind (r09_Of n s.2.1 s.1.2.1.2.2) fun r8 =>
  some (r5.1, (r8.1, (0 : Int)))) (
  none)))) (
  tif ((decide (k = (2 : Int)))) (
  obind (r09_Oldest n s.2.1 s.1.2.1.1 s.1.2.2.1.2.2) fun r9 =>
  tif ((decide (k = (0 : Int)))) (
  obind (r09_Of n s.2.1 s.1.2.1.1) fun r10 =>
  some (r9.1, (r10.1, (0 : Int)))) (
  tif ((decide (k = (1 : Int)))) (
  obind (r09_Of n s.2.1 s.1.2.1.2.1) fun r11 =>
  some (r9.1, (r11.1, (0 : Int)))) (
  tif ((decide (k = (2 : Int)))) (
  obind (r09_Of n s.2.1 s.1.2.1.2.2) fun r12 =>
  some (r9.1, (r12.1, (0 : Int)))) (
  none)))) (
  none)))) (
  tif ((decide (k = (1 : Int)))) (
  tif ((decide (k = (0 : Int)))) (
  obind (r09_Oldest n s.2.1 s.1.2.1.2.1 s.1.2.2.1.1) fun r13 =>
  tif ((decide (k = (0 : Int)))) (
  obind (r09_Of n s.2.1 s.1.2.1.1) fun r14 =>
  some (r13.1, (r14.1, (0 : Int)))) (
  tif ((decide (k = (1 : Int)))) (
  obind (r09_Of n s.2.1 s.1.2.1.2.1) fun r15 =>
  some (r13.1, (r15.1, (0 : Int)))) (
  tif ((decide (k = (2 : Int)))) (
  obind (r09_Of n s.2.1 s.1.2.1.2.2) fun r16 =>
  some (r13.1, (r16.1, (0 : Int)))) (
  none)))) (
  tif ((decide (k = (1 : Int)))) (
  obind (r09_Oldest n s.2.1 s.1.2.1.2.1 s.1.2.2.1.2.1) fun r17 =>
  tif ((decide (k = (0 : Int)))) (
  obind (r09_Of n s.2.1 s.1.2.1.1) fun r18 =>
  some (r17.1, (r18.1, (0 : Int)))) (
  tif ((decide (k = (1 : Int)))) (
  obind (r09_Of n s.2.1 s.1.2.1.2.1) fun r19 =>
  some (r17.1, (r19.1, (0 : Int)))) (
  tif ((decide (k = (2 : Int)))) (
  obind (r09_Of n s.2.1 s.1.2.1.2.2) fun r20 =>
  some (r17.1, (r20.1, (0 : Int)))) (
  none)))) (
  tif ((decide (k = (2 : Int)))) (
  obind (r09_Oldest n s.2.1 s.1.2.1.2.1 s.1.2.2.1.2.2) fun r21 =>
  tif ((decide (k = (0 : Int)))) (
  obind (r09_Of n s.2.1 s.1.2.1.1) fun r22 =>
  some (r21.1, (r22.1, (0 : Int)))) (
  tif ((decide (k = (1 : Int)))) (
  obind (r09_Of n s.2.1 s.1.2.1.2.1) fun r23 =>
  some (r21.1, (r23.1, (0 : Int)))) (
  tif ((decide (k = (2 : Int)))) (
  obind (r09_Of n s.2.1 s.1.2.1.2.2) fun r24 =>
  some (r21.1, (r24.1, (0 : Int)))) (
  none)))) (
  none)))) (
  tif ((decide (k = (2 : Int)))) (
  tif ((decide (k = (0 : Int)))) (
  obind (r09_Oldest n s.2.1 s.1.2.1.2.2 s.1.2.2.1.1) fun r25 =>
  tif ((decide (k = (0 : Int)))) (
  obind (r09_Of n s.2.1 s.1.2.1.1) fun r26 =>
  some (r25.1, (r26.1, (0 : Int)))) (
  tif ((decide (k = (1 : Int)))) (
  obind (r09_Of n s.2.1 s.1.2.1.2.1) fun r27 =>
  some (r25.1, (r27.1, (0 : Int)))) (
  tif ((decide (k = (2 : Int)))) (
  obind (r09_Of n s.2.1 s.1.2.1.2.2) fun r28 =>
  some (r25.1, (r28.1, (0 : Int)))) (
  none)))) (
  tif ((decide (k = (1 : Int)))) (
  obind (r09_Oldest n s.2.1 s.1.2.1.2.2 s.1.2.2.1.2.1) fun r29 =>
  tif ((decide (k = (0 : Int)))) (
  obind (r09_Of n s.2.1 s.1.2.1.1) fun r30 =>
  some (r29.1, (r30.1, (0 : Int)))) (
  tif ((decide (k = (1 : Int)))) (
  obind (r09_Of n s.2.1 s.1.2.1.2.1) fun r31 =>
  some (r29.1, (r31.1, (0 : Int)))) (
  tif ((decide (k = (2 : Int)))) (
  obind (r09_Of n s.2.1 s.1.2.1.2.2) fun r32 =>
  some (r29.1, (r32.1, (0 : Int)))) (
  none)))) (
  tif ((decide (k = (2 : Int)))) (
  obind (r09_Oldest n s.2.1 s.1.2.1.2.2 s.1.2.2.1.2.2) fun r33 =>
  tif ((decide (k = (0 : Int)))) (
  obind (r09_Of n s.2.1 s.1.2.1.1) fun r34 =>
  some (r33.1, (r34.1, (0 : Int)))) (
  tif ((decide (k = (1 : Int)))) (
  obind (r09_Of n s.2.1 s.1.2.1.2.1) fun r35 =>
  some (r33.1, (r35.1, (0 : Int)))) (
  tif ((decide (k = (2 : Int)))) (
  obind (r09_Of n s.2.1 s.1.2.1.2.2) fun r36 =>
  some (r33.1, (r36.1, (0 : Int)))) (
  none)))) (
  none)))) (
  none)))))) := by kernel_rfl

theorem r17_Same_eq (n : Nat) (a : TState) (b : TState) : r17_Same (n + 1) a b =
  tif ((!((decide (a.1.1 = b.1.1)) && ((decide (a.1.2.1.1 = b.1.2.1.1)) && ((decide (a.1.2.1.2.1 = b.1.2.1.2.1)) && ((decide (a.1.2.1.2.2 = b.1.2.1.2.2)) && ((decide (a.1.2.2.1.1 = b.1.2.2.1.1)) && ((decide (a.1.2.2.1.2.1 = b.1.2.2.1.2.1)) && ((decide (a.1.2.2.1.2.2 = b.1.2.2.1.2.2)) && ((decide (a.1.2.2.2.1 = b.1.2.2.2.1)) && (decide (a.1.2.2.2.2 = b.1.2.2.2.2)))))))))))) (
  some false) (
  tif ((!(decide (a.2.1 = b.2.1)))) (
  some false) (
  tif ((!(decide (a.2.2.1 = b.2.2.1)))) (
  some false) (
  tif ((!(decide ((((List.length a.2.2.2) : Nat) : Int) = (((List.length b.2.2.2) : Nat) : Int))))) (
  some false) (
  obind (r17_Same_l4 n loopFuel (a, (b, ((((List.length a.2.2.2) : Nat) : Int), ((0 : Int), ()))))) fun r0 =>
  selim (fun y1 =>
  some true) (fun z2 =>
  some z2) r0)))) := by kernel_rfl
theorem r17_Same_l4_eq (n f : Nat) (a_ : TState) (b_ : TState) (s36 : Int) (s37 : Int) : r17_Same_l4 n (f + 1) (a_, b_, s36, s37, ()) =
  tif ((decide (s37 < s36))) (
  obind (at? a_.2.2.2 s37) fun r0 =>
  obind (at? b_.2.2.2 s37) fun r1 =>
  obind (r15_Same n r0 r1) fun r2 =>
  tif ((!r2)) (
  some (.inr false)) (
  r17_Same_l4 n f (a_, (b_, (s36, ((IntKind.wrap .i64 (s37 + (1 : Int))), ())))))) (
  some (.inl ())) := by kernel_rfl
theorem r17_Same_l4_zero (n : Nat) (x : (TState × (TState × (Int × (Int × Unit))))) : r17_Same_l4 n 0 x = none := by kernel_rfl

theorem cascade_Steps_eq (n : Nat) (s : TState) (now : Int) : cascade_Steps (n + 1) s now =
  obind (cascade_Tick n s now) fun r0 =>
  tif (r0.2) (
  obind (cascade_Steps_l5 n loopFuel (s, (((0 : Int), ((0 : Int), (0 : Int))), (((0 : Int), ((0 : Int), (0 : Int))), (r0.1, (s.1.2.1, ((0 : Int), ()))))))) fun r1 =>
  selim (fun y2 =>
  some y2.2.1) (fun z3 =>
  some z3) r1) (
  some ((0 : Int), ((0 : Int), (0 : Int)))) := by kernel_rfl
theorem cascade_Steps_l5_eq (n f : Nat) (s_ : TState) (s4 : (Int × (Int × Int))) (out : (Int × (Int × Int))) (t : TState) (s19 : (Int × (Int × Int))) (s20 : Int) : cascade_Steps_l5 n (f + 1) (s_, s4, out, t, s19, s20, ()) =
  tif ((decide (s20 < (3 : Int)))) (
  tif ((decide (s20 = (0 : Int)))) (
  tif ((decide (s19.1 = (0 : Int)))) (
  none) (
  tif ((decide (s19.1 = (0 : Int)))) (
  none) (
  tif ((decide (s20 = (0 : Int)))) (
  cascade_Steps_l5 n f (s_, (s4, (((IntKind.wrap .i64 ((IntKind.wrap .i64 (Int.tdiv t.2.1 s19.1)) - (IntKind.wrap .i64 (Int.tdiv s_.2.1 s19.1)))), out.2), (t, (s19, ((IntKind.wrap .i64 (s20 + (1 : Int))), ()))))))) (
  tif ((decide (s20 = (1 : Int)))) (
  cascade_Steps_l5 n f (s_, (s4, ((out.1, ((IntKind.wrap .i64 ((IntKind.wrap .i64 (Int.tdiv t.2.1 s19.1)) - (IntKind.wrap .i64 (Int.tdiv s_.2.1 s19.1)))), out.2.2)), (t, (s19, ((IntKind.wrap .i64 (s20 + (1 : Int))), ()))))))) (
  tif ((decide (s20 = (2 : Int)))) (
  cascade_Steps_l5 n f (s_, (s4, ((out.1, (out.2.1, (IntKind.wrap .i64 ((IntKind.wrap .i64 (Int.tdiv t.2.1 s19.1)) - (IntKind.wrap .i64 (Int.tdiv s_.2.1 s19.1)))))), (t, (s19, ((IntKind.wrap .i64 (s20 + (1 : Int))), ()))))))) (
  none)))))) (
  tif ((decide (s20 = (1 : Int)))) (
  tif ((decide (s19.2.1 = (0 : Int)))) (
  none) (
  tif ((decide (s19.2.1 = (0 : Int)))) (
  none) (
  tif ((decide (s20 = (0 : Int)))) (
  cascade_Steps_l5 n f (s_, (s4, (((IntKind.wrap .i64 ((IntKind.wrap .i64 (Int.tdiv t.2.1 s19.2.1)) - (IntKind.wrap .i64 (Int.tdiv s_.2.1 s19.2.1)))), out.2), (t, (s19, ((IntKind.wrap .i64 (s20 + (1 : Int))), ()))))))) (
  tif ((decide (s20 = (1 : Int)))) (
  cascade_Steps_l5 n f (s_, (s4, ((out.1, ((IntKind.wrap .i64 ((IntKind.wrap .i64 (Int.tdiv t.2.1 s19.2.1)) - (IntKind.wrap .i64 (Int.tdiv s_.2.1 s19.2.1)))), out.2.2)), (t, (s19, ((IntKind.wrap .i64 (s20 + (1 : Int))), ()))))))) (
  tif ((decide (s20 = (2 : Int)))) (
  cascade_Steps_l5 n f (s_, (s4, ((out.1, (out.2.1, (IntKind.wrap .i64 ((IntKind.wrap .i64 (Int.tdiv t.2.1 s19.2.1)) - (IntKind.wrap .i64 (Int.tdiv s_.2.1 s19.2.1)))))), (t, (s19, ((IntKind.wrap .i64 (s20 + (1 : Int))), ()))))))) (
  none)))))) (
  tif ((decide (s20 = (2 : Int)))) (
  tif ((decide (s19.2.2 = (0 : Int)))) (
  none) (
  tif ((decide (s19.2.2 = (0 : Int)))) (
  none) (
  tif ((decide (s20 = (0 : Int)))) (
  cascade_Steps_l5 n f (s_, (s4, (((IntKind.wrap .i64 ((IntKind.wrap .i64 (Int.tdiv t.2.1 s19.2.2)) - (IntKind.wrap .i64 (Int.tdiv s_.2.1 s19.2.2)))), out.2), (t, (s19, ((IntKind.wrap .i64 (s20 + (1 : Int))), ()))))))) (
  tif ((decide (s20 = (1 : Int)))) (
  cascade_Steps_l5 n f (s_, (s4, ((out.1, ((IntKind.wrap .i64 ((IntKind.wrap .i64 (Int.tdiv t.2.1 s19.2.2)) - (IntKind.wrap .i64 (Int.tdiv s_.2.1 s19.2.2)))), out.2.2)), (t, (s19, ((IntKind.wrap .i64 (s20 + (1 : Int))), ()))))))) (
  tif ((decide (s20 = (2 : Int)))) (
  cascade_Steps_l5 n f (s_, (s4, ((out.1, (out.2.1, (IntKind.wrap .i64 ((IntKind.wrap .i64 (Int.tdiv t.2.1 s19.2.2)) - (IntKind.wrap .i64 (Int.tdiv s_.2.1 s19.2.2)))))), (t, (s19, ((IntKind.wrap .i64 (s20 + (1 : Int))), ()))))))) (
  none)))))) (
  none)))) (
  some (.inl (s4, (out, ())))) := by kernel_rfl
theorem cascade_Steps_l5_zero (n : Nat) (x : (TState × ((Int × (Int × Int)) × ((Int × (Int × Int)) × (TState × ((Int × (Int × Int)) × (Int × Unit))))))) : cascade_Steps_l5 n 0 x = none := by kernel_rfl

theorem r20_Steps_eq (n : Nat) (s : TState) (now : Int) : r20_Steps (n + 1) s now =
  obind (r20_Tick n s now) fun r0 =>
  tif ((!r0.2)) (
  some ((0 : Int), ((0 : Int), (0 : Int)))) (
  obind (r20_Steps_l6 n loopFuel (s, (((0 : Int), ((0 : Int), (0 : Int))), (((0 : Int), ((0 : Int), (0 : Int))), (r0.1, ((0 : Int), ())))))) fun r1 =>
  selim (fun y2 =>
  some y2.2.1) (fun z3 =>
  some z3) r1) := by kernel_rfl
theorem r20_Steps_l6_eq (n f : Nat) (s_ : TState) (s4 : (Int × (Int × Int))) (out : (Int × (Int × Int))) (t : TState) (k : Int) : r20_Steps_l6 n (f + 1) (s_, s4, out, t, k, ()) =
  tif ((decide (k < (3 : Int)))) (
  obind (r20_Sealed n s_ k) fun r0 =>
  obind (r20_Sealed n t k) fun r1 =>
  tif ((decide (k = (0 : Int)))) (
  r20_Steps_l6 n f (s_, (s4, (((IntKind.wrap .i64 (r1.1 - r0.1)), out.2), (t, ((IntKind.wrap .i64 (k + (1 : Int))), ())))))) (
  tif ((decide (k = (1 : Int)))) (
  r20_Steps_l6 n f (s_, (s4, ((out.1, ((IntKind.wrap .i64 (r1.1 - r0.1)), out.2.2)), (t, ((IntKind.wrap .i64 (k + (1 : Int))), ())))))) (
  tif ((decide (k = (2 : Int)))) (
  r20_Steps_l6 n f (s_, (s4, ((out.1, (out.2.1, (IntKind.wrap .i64 (r1.1 - r0.1)))), (t, ((IntKind.wrap .i64 (k + (1 : Int))), ())))))) (
  none)))) (
  some (.inl (s4, (out, ())))) := by kernel_rfl
theorem r20_Steps_l6_zero (n : Nat) (x : (TState × ((Int × (Int × Int)) × ((Int × (Int × Int)) × (TState × (Int × Unit)))))) : r20_Steps_l6 n 0 x = none := by kernel_rfl

theorem l15_Small_eq (n : Nat) (s : TSeries) : l15_Small (n + 1) s =
  obind (l05_Small n s.1) fun r0 =>
  tif ((decide (r0 = (0 : Int)))) (
  some (0 : Int)) (
  tif ((decide ((60 : Int) < (((List.length s.2.2.1.2.2) : Nat) : Int)))) (
  some (0 : Int)) (
  obind (l14_Small n s.2.2.2.1) fun r1 =>
  some r1)) := by kernel_rfl

theorem series_Put_eq (n : Nat) (c : TConfig) (s : TSeries) (e : TEvent) : series_Put (n + 1) c s e =
  obind (series_open n c s) fun r0 =>
  oelim (r0.1) (
  tif ((!(decide (r0.2 = (0 : Int))))) (
  some (([], ((0 : Int), (((0 : Int), ((0 : Int), [])), (([], ([], [])), ((0 : Int), ((0 : Int), (((0 : Int), ((0 : Int), ((0 : Int), false))), (((0 : Int), ((0 : Int), ((0 : Int), false))), (((0 : Int), (0 : Int)), ((0 : Int), ((0 : Int), (0 : Int)))))))))))), (2 : Int))) (
  obind (event_Check n e) fun r1 =>
  tif ((!(decide (r1 = (0 : Int))))) (
  some (([], ((0 : Int), (((0 : Int), ((0 : Int), [])), (([], ([], [])), ((0 : Int), ((0 : Int), (((0 : Int), ((0 : Int), ((0 : Int), false))), (((0 : Int), ((0 : Int), ((0 : Int), false))), (((0 : Int), (0 : Int)), ((0 : Int), ((0 : Int), (0 : Int)))))))))))), (2 : Int))) (
  tif ((decide (e.1 ≤ s.2.1))) (
  some (([], ((0 : Int), (((0 : Int), ((0 : Int), [])), (([], ([], [])), ((0 : Int), ((0 : Int), (((0 : Int), ((0 : Int), ((0 : Int), false))), (((0 : Int), ((0 : Int), ((0 : Int), false))), (((0 : Int), (0 : Int)), ((0 : Int), ((0 : Int), (0 : Int)))))))))))), (9 : Int))) (
  tif ((decide (c.2.1.1 = (0 : Int)))) (
  none) (
  none))))) fun r2 =>
  tif ((!(decide (r0.2 = (0 : Int))))) (
  some (([], ((0 : Int), (((0 : Int), ((0 : Int), [])), (([], ([], [])), ((0 : Int), ((0 : Int), (((0 : Int), ((0 : Int), ((0 : Int), false))), (((0 : Int), ((0 : Int), ((0 : Int), false))), (((0 : Int), (0 : Int)), ((0 : Int), ((0 : Int), (0 : Int)))))))))))), (2 : Int))) (
  obind (event_Check n e) fun r3 =>
  tif ((!(decide (r3 = (0 : Int))))) (
  some (([], ((0 : Int), (((0 : Int), ((0 : Int), [])), (([], ([], [])), ((0 : Int), ((0 : Int), (((0 : Int), ((0 : Int), ((0 : Int), false))), (((0 : Int), ((0 : Int), ((0 : Int), false))), (((0 : Int), (0 : Int)), ((0 : Int), ((0 : Int), (0 : Int)))))))))))), (2 : Int))) (
  tif ((decide (e.1 ≤ s.2.1))) (
  some (([], ((0 : Int), (((0 : Int), ((0 : Int), [])), (([], ([], [])), ((0 : Int), ((0 : Int), (((0 : Int), ((0 : Int), ((0 : Int), false))), (((0 : Int), ((0 : Int), ((0 : Int), false))), (((0 : Int), (0 : Int)), ((0 : Int), ((0 : Int), (0 : Int)))))))))))), (9 : Int))) (
  tif ((decide (c.2.1.1 = (0 : Int)))) (
  none) (
  obind (series_kept_turn n r2 (IntKind.wrap .i64 (Int.tdiv e.1 c.2.1.1))) fun r4 =>
  tif ((!(decide (r4.1 = (0 : Int))))) (
  some (([], ((0 : Int), (((0 : Int), ((0 : Int), [])), (([], ([], [])), ((0 : Int), ((0 : Int), (((0 : Int), ((0 : Int), ((0 : Int), false))), (((0 : Int), ((0 : Int), ((0 : Int), false))), (((0 : Int), (0 : Int)), ((0 : Int), ((0 : Int), (0 : Int)))))))))))), r4.1)) (
  obind (series_kept_add n r4.2 (IntKind.wrap .i64 (Int.tdiv e.1 c.2.1.1)) e) fun r5 =>
  tif ((!(decide (r5.1 = (0 : Int))))) (
  some (([], ((0 : Int), (((0 : Int), ((0 : Int), [])), (([], ([], [])), ((0 : Int), ((0 : Int), (((0 : Int), ((0 : Int), ((0 : Int), false))), (((0 : Int), ((0 : Int), ((0 : Int), false))), (((0 : Int), (0 : Int)), ((0 : Int), ((0 : Int), (0 : Int)))))))))))), r5.1)) (
  some (r5.2.2, (0 : Int)))))))) := by kernel_rfl

theorem r15_Put_eq (n : Nat) (c : TConfig) (s : TSeries) (e : TEvent) : r15_Put (n + 1) c s e =
  obind (r15_Check n c s) fun r0 =>
  tif ((!(decide (r0 = (0 : Int))))) (
  some (([], ((0 : Int), (((0 : Int), ((0 : Int), [])), (([], ([], [])), ((0 : Int), ((0 : Int), (((0 : Int), ((0 : Int), ((0 : Int), false))), (((0 : Int), ((0 : Int), ((0 : Int), false))), (((0 : Int), (0 : Int)), ((0 : Int), ((0 : Int), (0 : Int)))))))))))), (2 : Int))) (
  obind (r07_Check n e) fun r1 =>
  tif ((!(decide (r1 = (0 : Int))))) (
  some (([], ((0 : Int), (((0 : Int), ((0 : Int), [])), (([], ([], [])), ((0 : Int), ((0 : Int), (((0 : Int), ((0 : Int), ((0 : Int), false))), (((0 : Int), ((0 : Int), ((0 : Int), false))), (((0 : Int), (0 : Int)), ((0 : Int), ((0 : Int), (0 : Int)))))))))))), (2 : Int))) (
  tif ((decide (e.1 ≤ s.2.1))) (
  some (([], ((0 : Int), (((0 : Int), ((0 : Int), [])), (([], ([], [])), ((0 : Int), ((0 : Int), (((0 : Int), ((0 : Int), ((0 : Int), false))), (((0 : Int), ((0 : Int), ((0 : Int), false))), (((0 : Int), (0 : Int)), ((0 : Int), ((0 : Int), (0 : Int)))))))))))), (9 : Int))) (
  tif ((decide (c.2.1.1 = (0 : Int)))) (
  none) (
  tif ((!((decide (s.2.2.2.2.1 = (0 : Int))) && ((decide (s.2.2.2.2.2.1 = (0 : Int))) && ((decide (s.2.2.2.2.2.2.1.1 = (0 : Int))) && ((decide (s.2.2.2.2.2.2.1.2.1 = (0 : Int))) && ((decide (s.2.2.2.2.2.2.1.2.2.1 = (0 : Int))) && ((s.2.2.2.2.2.2.1.2.2.2 == false) && ((decide (s.2.2.2.2.2.2.2.1.1 = (0 : Int))) && ((decide (s.2.2.2.2.2.2.2.1.2.1 = (0 : Int))) && ((decide (s.2.2.2.2.2.2.2.1.2.2.1 = (0 : Int))) && ((s.2.2.2.2.2.2.2.1.2.2.2 == false) && ((decide (s.2.2.2.2.2.2.2.2.1.1 = (0 : Int))) && ((decide (s.2.2.2.2.2.2.2.2.1.2 = (0 : Int))) && ((decide (s.2.2.2.2.2.2.2.2.2.1 = (0 : Int))) && ((decide (s.2.2.2.2.2.2.2.2.2.2.1 = (0 : Int))) && (decide (s.2.2.2.2.2.2.2.2.2.2.2 = (0 : Int))))))))))))))))))) (
  tif ((!(decide (s.2.2.2.2.1 = (IntKind.wrap .i64 (Int.tdiv e.1 c.2.1.1)))))) (
  obind (r14_Close n c s.2.2.2.1 s.2.2.2.2 (IntKind.wrap .i64 (Int.tdiv e.1 c.2.1.1))) fun r2 =>
  tif ((!(decide (r2.2 = (0 : Int))))) (
  some (([], ((0 : Int), (((0 : Int), ((0 : Int), [])), (([], ([], [])), ((0 : Int), ((0 : Int), (((0 : Int), ((0 : Int), ((0 : Int), false))), (((0 : Int), ((0 : Int), ((0 : Int), false))), (((0 : Int), (0 : Int)), ((0 : Int), ((0 : Int), (0 : Int)))))))))))), r2.2)) (
  obind (r12_Put n s.2.2.1 c.1 e) fun r3 =>
  tif ((!(decide (r3.2 = (0 : Int))))) (
  some (([], ((0 : Int), (((0 : Int), ((0 : Int), [])), (([], ([], [])), ((0 : Int), ((0 : Int), (((0 : Int), ((0 : Int), ((0 : Int), false))), (((0 : Int), ((0 : Int), ((0 : Int), false))), (((0 : Int), (0 : Int)), ((0 : Int), ((0 : Int), (0 : Int)))))))))))), r3.2)) (
  obind (r08_Add n ((0 : Int), (((0 : Int), ((0 : Int), ((0 : Int), false))), (((0 : Int), ((0 : Int), ((0 : Int), false))), (((0 : Int), (0 : Int)), ((0 : Int), ((0 : Int), (0 : Int))))))) e) fun r4 =>
  tif ((!(decide (r4.2 = (0 : Int))))) (
  some (([], ((0 : Int), (((0 : Int), ((0 : Int), [])), (([], ([], [])), ((0 : Int), ((0 : Int), (((0 : Int), ((0 : Int), ((0 : Int), false))), (((0 : Int), ((0 : Int), ((0 : Int), false))), (((0 : Int), (0 : Int)), ((0 : Int), ((0 : Int), (0 : Int)))))))))))), r4.2)) (
  some ((s.1, (e.1, (r3.1, (r2.1, ((IntKind.wrap .i64 (Int.tdiv e.1 c.2.1.1)), r4.1))))), (0 : Int)))))) (
  obind (r12_Put n s.2.2.1 c.1 e) fun r5 =>
  tif ((!(decide (r5.2 = (0 : Int))))) (
  some (([], ((0 : Int), (((0 : Int), ((0 : Int), [])), (([], ([], [])), ((0 : Int), ((0 : Int), (((0 : Int), ((0 : Int), ((0 : Int), false))), (((0 : Int), ((0 : Int), ((0 : Int), false))), (((0 : Int), (0 : Int)), ((0 : Int), ((0 : Int), (0 : Int)))))))))))), r5.2)) (
  obind (r08_Add n s.2.2.2.2.2 e) fun r6 =>
  tif ((!(decide (r6.2 = (0 : Int))))) (
  some (([], ((0 : Int), (((0 : Int), ((0 : Int), [])), (([], ([], [])), ((0 : Int), ((0 : Int), (((0 : Int), ((0 : Int), ((0 : Int), false))), (((0 : Int), ((0 : Int), ((0 : Int), false))), (((0 : Int), (0 : Int)), ((0 : Int), ((0 : Int), (0 : Int)))))))))))), r6.2)) (
  some ((s.1, (e.1, (r5.1, (s.2.2.2.1, ((IntKind.wrap .i64 (Int.tdiv e.1 c.2.1.1)), r6.1))))), (0 : Int)))))) (
  obind (r12_Put n s.2.2.1 c.1 e) fun r7 =>
  tif ((!(decide (r7.2 = (0 : Int))))) (
  some (([], ((0 : Int), (((0 : Int), ((0 : Int), [])), (([], ([], [])), ((0 : Int), ((0 : Int), (((0 : Int), ((0 : Int), ((0 : Int), false))), (((0 : Int), ((0 : Int), ((0 : Int), false))), (((0 : Int), (0 : Int)), ((0 : Int), ((0 : Int), (0 : Int)))))))))))), r7.2)) (
  obind (r08_Add n s.2.2.2.2.2 e) fun r8 =>
  tif ((!(decide (r8.2 = (0 : Int))))) (
  some (([], ((0 : Int), (((0 : Int), ((0 : Int), [])), (([], ([], [])), ((0 : Int), ((0 : Int), (((0 : Int), ((0 : Int), ((0 : Int), false))), (((0 : Int), ((0 : Int), ((0 : Int), false))), (((0 : Int), (0 : Int)), ((0 : Int), ((0 : Int), (0 : Int)))))))))))), r8.2)) (
  some ((s.1, (e.1, (r7.1, (s.2.2.2.1, ((IntKind.wrap .i64 (Int.tdiv e.1 c.2.1.1)), r8.1))))), (0 : Int))))))))) := by kernel_rfl

theorem series_Cell_eq_0 (n : Nat) (c : TConfig) (s : TSeries) (i : Int) : series_Cell (n + 1) c s (0 : Int) i =
  obind (series_open n c s) fun r0 =>
  oelim (r0.1) (
  tif ((!(decide (r0.2 = (0 : Int))))) (
  some (((0 : Int), (((0 : Int), ((0 : Int), ((0 : Int), false))), (((0 : Int), ((0 : Int), ((0 : Int), false))), (((0 : Int), (0 : Int)), ((0 : Int), ((0 : Int), (0 : Int))))))), r0.2)) (
  tif ((decide (i < (0 : Int)))) (
  some (((0 : Int), (((0 : Int), ((0 : Int), ((0 : Int), false))), (((0 : Int), ((0 : Int), ((0 : Int), false))), (((0 : Int), (0 : Int)), ((0 : Int), ((0 : Int), (0 : Int))))))), (1 : Int))) (
  tif ((decide (s.2.1 = ((-1) : Int)))) (
  some (((0 : Int), (((0 : Int), ((0 : Int), ((0 : Int), false))), (((0 : Int), ((0 : Int), ((0 : Int), false))), (((0 : Int), (0 : Int)), ((0 : Int), ((0 : Int), (0 : Int))))))), (0 : Int))) (
  tif ((decide (c.2.1.1 = (0 : Int)))) (
  none) (
  tif ((decide ((IntKind.wrap .i64 (Int.tdiv s.2.1 c.2.1.1)) < i))) (
  some (((0 : Int), (((0 : Int), ((0 : Int), ((0 : Int), false))), (((0 : Int), ((0 : Int), ((0 : Int), false))), (((0 : Int), (0 : Int)), ((0 : Int), ((0 : Int), (0 : Int))))))), (0 : Int))) (
  tif ((decide (c.2.1.1 = (0 : Int)))) (
  none) (
  tif ((decide (i = (IntKind.wrap .i64 (Int.tdiv s.2.1 c.2.1.1))))) (
  none) (
  obind (tier_Get n s.2.2.2.1.1 i) fun r1 =>
  some (r1, (0 : Int)))))))))) fun r2 =>
  tif ((!(decide (r0.2 = (0 : Int))))) (
  some (((0 : Int), (((0 : Int), ((0 : Int), ((0 : Int), false))), (((0 : Int), ((0 : Int), ((0 : Int), false))), (((0 : Int), (0 : Int)), ((0 : Int), ((0 : Int), (0 : Int))))))), r0.2)) (
  tif ((decide (i < (0 : Int)))) (
  some (((0 : Int), (((0 : Int), ((0 : Int), ((0 : Int), false))), (((0 : Int), ((0 : Int), ((0 : Int), false))), (((0 : Int), (0 : Int)), ((0 : Int), ((0 : Int), (0 : Int))))))), (1 : Int))) (
  tif ((decide (s.2.1 = ((-1) : Int)))) (
  some (((0 : Int), (((0 : Int), ((0 : Int), ((0 : Int), false))), (((0 : Int), ((0 : Int), ((0 : Int), false))), (((0 : Int), (0 : Int)), ((0 : Int), ((0 : Int), (0 : Int))))))), (0 : Int))) (
  tif ((decide (c.2.1.1 = (0 : Int)))) (
  none) (
  tif ((decide ((IntKind.wrap .i64 (Int.tdiv s.2.1 c.2.1.1)) < i))) (
  some (((0 : Int), (((0 : Int), ((0 : Int), ((0 : Int), false))), (((0 : Int), ((0 : Int), ((0 : Int), false))), (((0 : Int), (0 : Int)), ((0 : Int), ((0 : Int), (0 : Int))))))), (0 : Int))) (
  tif ((decide (c.2.1.1 = (0 : Int)))) (
  none) (
  tif ((decide (i = (IntKind.wrap .i64 (Int.tdiv s.2.1 c.2.1.1))))) (
  obind (series_kept_now n r2 (0 : Int)) fun r3 =>
  some r3) (
  obind (tier_Get n s.2.2.2.1.1 i) fun r4 =>
  some (r4, (0 : Int))))))))) := by kernel_rfl
theorem series_Cell_eq_1 (n : Nat) (c : TConfig) (s : TSeries) (i : Int) : series_Cell (n + 1) c s (1 : Int) i =
  obind (series_open n c s) fun r0 =>
  oelim (r0.1) (
  tif ((!(decide (r0.2 = (0 : Int))))) (
  some (((0 : Int), (((0 : Int), ((0 : Int), ((0 : Int), false))), (((0 : Int), ((0 : Int), ((0 : Int), false))), (((0 : Int), (0 : Int)), ((0 : Int), ((0 : Int), (0 : Int))))))), r0.2)) (
  tif ((decide (i < (0 : Int)))) (
  some (((0 : Int), (((0 : Int), ((0 : Int), ((0 : Int), false))), (((0 : Int), ((0 : Int), ((0 : Int), false))), (((0 : Int), (0 : Int)), ((0 : Int), ((0 : Int), (0 : Int))))))), (1 : Int))) (
  tif ((decide (s.2.1 = ((-1) : Int)))) (
  some (((0 : Int), (((0 : Int), ((0 : Int), ((0 : Int), false))), (((0 : Int), ((0 : Int), ((0 : Int), false))), (((0 : Int), (0 : Int)), ((0 : Int), ((0 : Int), (0 : Int))))))), (0 : Int))) (
  tif ((decide (c.2.1.2.1 = (0 : Int)))) (
  none) (
  tif ((decide ((IntKind.wrap .i64 (Int.tdiv s.2.1 c.2.1.2.1)) < i))) (
  some (((0 : Int), (((0 : Int), ((0 : Int), ((0 : Int), false))), (((0 : Int), ((0 : Int), ((0 : Int), false))), (((0 : Int), (0 : Int)), ((0 : Int), ((0 : Int), (0 : Int))))))), (0 : Int))) (
  tif ((decide (c.2.1.2.1 = (0 : Int)))) (
  none) (
  tif ((decide (i = (IntKind.wrap .i64 (Int.tdiv s.2.1 c.2.1.2.1))))) (
  none) (
  obind (tier_Get n s.2.2.2.1.2.1 i) fun r1 =>
  some (r1, (0 : Int)))))))))) fun r2 =>
  tif ((!(decide (r0.2 = (0 : Int))))) (
  some (((0 : Int), (((0 : Int), ((0 : Int), ((0 : Int), false))), (((0 : Int), ((0 : Int), ((0 : Int), false))), (((0 : Int), (0 : Int)), ((0 : Int), ((0 : Int), (0 : Int))))))), r0.2)) (
  tif ((decide (i < (0 : Int)))) (
  some (((0 : Int), (((0 : Int), ((0 : Int), ((0 : Int), false))), (((0 : Int), ((0 : Int), ((0 : Int), false))), (((0 : Int), (0 : Int)), ((0 : Int), ((0 : Int), (0 : Int))))))), (1 : Int))) (
  tif ((decide (s.2.1 = ((-1) : Int)))) (
  some (((0 : Int), (((0 : Int), ((0 : Int), ((0 : Int), false))), (((0 : Int), ((0 : Int), ((0 : Int), false))), (((0 : Int), (0 : Int)), ((0 : Int), ((0 : Int), (0 : Int))))))), (0 : Int))) (
  tif ((decide (c.2.1.2.1 = (0 : Int)))) (
  none) (
  tif ((decide ((IntKind.wrap .i64 (Int.tdiv s.2.1 c.2.1.2.1)) < i))) (
  some (((0 : Int), (((0 : Int), ((0 : Int), ((0 : Int), false))), (((0 : Int), ((0 : Int), ((0 : Int), false))), (((0 : Int), (0 : Int)), ((0 : Int), ((0 : Int), (0 : Int))))))), (0 : Int))) (
  tif ((decide (c.2.1.2.1 = (0 : Int)))) (
  none) (
  tif ((decide (i = (IntKind.wrap .i64 (Int.tdiv s.2.1 c.2.1.2.1))))) (
  obind (series_kept_now n r2 (1 : Int)) fun r3 =>
  some r3) (
  obind (tier_Get n s.2.2.2.1.2.1 i) fun r4 =>
  some (r4, (0 : Int))))))))) := by kernel_rfl
theorem series_Cell_eq_2 (n : Nat) (c : TConfig) (s : TSeries) (i : Int) : series_Cell (n + 1) c s (2 : Int) i =
  obind (series_open n c s) fun r0 =>
  oelim (r0.1) (
  tif ((!(decide (r0.2 = (0 : Int))))) (
  some (((0 : Int), (((0 : Int), ((0 : Int), ((0 : Int), false))), (((0 : Int), ((0 : Int), ((0 : Int), false))), (((0 : Int), (0 : Int)), ((0 : Int), ((0 : Int), (0 : Int))))))), r0.2)) (
  tif ((decide (i < (0 : Int)))) (
  some (((0 : Int), (((0 : Int), ((0 : Int), ((0 : Int), false))), (((0 : Int), ((0 : Int), ((0 : Int), false))), (((0 : Int), (0 : Int)), ((0 : Int), ((0 : Int), (0 : Int))))))), (1 : Int))) (
  tif ((decide (s.2.1 = ((-1) : Int)))) (
  some (((0 : Int), (((0 : Int), ((0 : Int), ((0 : Int), false))), (((0 : Int), ((0 : Int), ((0 : Int), false))), (((0 : Int), (0 : Int)), ((0 : Int), ((0 : Int), (0 : Int))))))), (0 : Int))) (
  tif ((decide (c.2.1.2.2 = (0 : Int)))) (
  none) (
  tif ((decide ((IntKind.wrap .i64 (Int.tdiv s.2.1 c.2.1.2.2)) < i))) (
  some (((0 : Int), (((0 : Int), ((0 : Int), ((0 : Int), false))), (((0 : Int), ((0 : Int), ((0 : Int), false))), (((0 : Int), (0 : Int)), ((0 : Int), ((0 : Int), (0 : Int))))))), (0 : Int))) (
  tif ((decide (c.2.1.2.2 = (0 : Int)))) (
  none) (
  tif ((decide (i = (IntKind.wrap .i64 (Int.tdiv s.2.1 c.2.1.2.2))))) (
  none) (
  obind (tier_Get n s.2.2.2.1.2.2 i) fun r1 =>
  some (r1, (0 : Int)))))))))) fun r2 =>
  tif ((!(decide (r0.2 = (0 : Int))))) (
  some (((0 : Int), (((0 : Int), ((0 : Int), ((0 : Int), false))), (((0 : Int), ((0 : Int), ((0 : Int), false))), (((0 : Int), (0 : Int)), ((0 : Int), ((0 : Int), (0 : Int))))))), r0.2)) (
  tif ((decide (i < (0 : Int)))) (
  some (((0 : Int), (((0 : Int), ((0 : Int), ((0 : Int), false))), (((0 : Int), ((0 : Int), ((0 : Int), false))), (((0 : Int), (0 : Int)), ((0 : Int), ((0 : Int), (0 : Int))))))), (1 : Int))) (
  tif ((decide (s.2.1 = ((-1) : Int)))) (
  some (((0 : Int), (((0 : Int), ((0 : Int), ((0 : Int), false))), (((0 : Int), ((0 : Int), ((0 : Int), false))), (((0 : Int), (0 : Int)), ((0 : Int), ((0 : Int), (0 : Int))))))), (0 : Int))) (
  tif ((decide (c.2.1.2.2 = (0 : Int)))) (
  none) (
  tif ((decide ((IntKind.wrap .i64 (Int.tdiv s.2.1 c.2.1.2.2)) < i))) (
  some (((0 : Int), (((0 : Int), ((0 : Int), ((0 : Int), false))), (((0 : Int), ((0 : Int), ((0 : Int), false))), (((0 : Int), (0 : Int)), ((0 : Int), ((0 : Int), (0 : Int))))))), (0 : Int))) (
  tif ((decide (c.2.1.2.2 = (0 : Int)))) (
  none) (
  tif ((decide (i = (IntKind.wrap .i64 (Int.tdiv s.2.1 c.2.1.2.2))))) (
  obind (series_kept_now n r2 (2 : Int)) fun r3 =>
  some r3) (
  obind (tier_Get n s.2.2.2.1.2.2 i) fun r4 =>
  some (r4, (0 : Int))))))))) := by kernel_rfl
theorem series_Cell_eq (n : Nat) (c : TConfig) (s : TSeries) (k : Int) (i : Int) : series_Cell (n + 1) c s k i =
  obind (series_open n c s) fun r0 =>
  oelim (r0.1) (
  tif ((!(decide (r0.2 = (0 : Int))))) (
  some (((0 : Int), (((0 : Int), ((0 : Int), ((0 : Int), false))), (((0 : Int), ((0 : Int), ((0 : Int), false))), (((0 : Int), (0 : Int)), ((0 : Int), ((0 : Int), (0 : Int))))))), r0.2)) (
  tif ((decide (k < (0 : Int)))) (
  some (((0 : Int), (((0 : Int), ((0 : Int), ((0 : Int), false))), (((0 : Int), ((0 : Int), ((0 : Int), false))), (((0 : Int), (0 : Int)), ((0 : Int), ((0 : Int), (0 : Int))))))), (1 : Int))) (
  tif ((decide ((3 : Int) ≤ k))) (
  some (((0 : Int), (((0 : Int), ((0 : Int), ((0 : Int), false))), (((0 : Int), ((0 : Int), ((0 : Int), false))), (((0 : Int), (0 : Int)), ((0 : Int), ((0 : Int), (0 : Int))))))), (1 : Int))) (
  tif ((decide (i < (0 : Int)))) (
  some (((0 : Int), (((0 : Int), ((0 : Int), ((0 : Int), false))), (((0 : Int), ((0 : Int), ((0 : Int), false))), (((0 : Int), (0 : Int)), ((0 : Int), ((0 : Int), (0 : Int))))))), (1 : Int))) (
  tif ((decide (s.2.1 = ((-1) : Int)))) (
  some (((0 : Int), (((0 : Int), ((0 : Int), ((0 : Int), false))), (((0 : Int), ((0 : Int), ((0 : Int), false))), (((0 : Int), (0 : Int)), ((0 : Int), ((0 : Int), (0 : Int))))))), (0 : Int))) (
  tif ((decide (k = (0 : Int)))) (
  tif ((decide (c.2.1.1 = (0 : Int)))) (
  none) (
  tif ((decide ((IntKind.wrap .i64 (Int.tdiv s.2.1 c.2.1.1)) < i))) (
  some (((0 : Int), (((0 : Int), ((0 : Int), ((0 : Int), false))), (((0 : Int), ((0 : Int), ((0 : Int), false))), (((0 : Int), (0 : Int)), ((0 : Int), ((0 : Int), (0 : Int))))))), (0 : Int))) (
  tif ((decide (k = (0 : Int)))) (
  tif ((decide (c.2.1.1 = (0 : Int)))) (
  none) (
  tif ((decide (i = (IntKind.wrap .i64 (Int.tdiv s.2.1 c.2.1.1))))) (
  none) (
  tif ((decide (k = (0 : Int)))) (
  obind (tier_Get n s.2.2.2.1.1 i) fun r1 =>
  some (r1, (0 : Int))) (
  tif ((decide (k = (1 : Int)))) (
  obind (tier_Get n s.2.2.2.1.2.1 i) fun r2 =>
  some (r2, (0 : Int))) (
  tif ((decide (k = (2 : Int)))) (
  obind (tier_Get n s.2.2.2.1.2.2 i) fun r3 =>
  some (r3, (0 : Int))) (
  none)))))) (
  tif ((decide (k = (1 : Int)))) (
  tif ((decide (c.2.1.2.1 = (0 : Int)))) (
  none) (
  tif ((decide (i = (IntKind.wrap .i64 (Int.tdiv s.2.1 c.2.1.2.1))))) (
  none) (
  tif ((decide (k = (0 : Int)))) (
  obind (tier_Get n s.2.2.2.1.1 i) fun r4 =>
  some (r4, (0 : Int))) (
  tif ((decide (k = (1 : Int)))) (
  obind (tier_Get n s.2.2.2.1.2.1 i) fun r5 =>
  some (r5, (0 : Int))) (
  tif ((decide (k = (2 : Int)))) (
  obind (tier_Get n s.2.2.2.1.2.2 i) fun r6 =>
  some (r6, (0 : Int))) (
  none)))))) (
  tif ((decide (k = (2 : Int)))) (
  tif ((decide (c.2.1.2.2 = (0 : Int)))) (
  none) (
  tif ((decide (i = (IntKind.wrap .i64 (Int.tdiv s.2.1 c.2.1.2.2))))) (
  none) (
  tif ((decide (k = (0 : Int)))) (
  obind (tier_Get n s.2.2.2.1.1 i) fun r7 =>
  some (r7, (0 : Int))) (
  tif ((decide (k = (1 : Int)))) (
  obind (tier_Get n s.2.2.2.1.2.1 i) fun r8 =>
  some (r8, (0 : Int))) (
  tif ((decide (k = (2 : Int)))) (
  obind (tier_Get n s.2.2.2.1.2.2 i) fun r9 =>
  some (r9, (0 : Int))) (
  none)))))) (
  none)))))) (
  tif ((decide (k = (1 : Int)))) (
  tif ((decide (c.2.1.2.1 = (0 : Int)))) (
  none) (
  tif ((decide ((IntKind.wrap .i64 (Int.tdiv s.2.1 c.2.1.2.1)) < i))) (
  some (((0 : Int), (((0 : Int), ((0 : Int), ((0 : Int), false))), (((0 : Int), ((0 : Int), ((0 : Int), false))), (((0 : Int), (0 : Int)), ((0 : Int), ((0 : Int), (0 : Int))))))), (0 : Int))) (
  tif ((decide (k = (0 : Int)))) (
  tif ((decide (c.2.1.1 = (0 : Int)))) (
  none) (
  tif ((decide (i = (IntKind.wrap .i64 (Int.tdiv s.2.1 c.2.1.1))))) (
  none) (
  tif ((decide (k = (0 : Int)))) (
  obind (tier_Get n s.2.2.2.1.1 i) fun r10 =>
  some (r10, (0 : Int))) (
  tif ((decide (k = (1 : Int)))) (
  obind (tier_Get n s.2.2.2.1.2.1 i) fun r11 =>
  some (r11, (0 : Int))) (
  tif ((decide (k = (2 : Int)))) (
  obind (tier_Get n s.2.2.2.1.2.2 i) fun r12 =>
  some (r12, (0 : Int))) (
  none)))))) (
  tif ((decide (k = (1 : Int)))) (
  tif ((decide (c.2.1.2.1 = (0 : Int)))) (
  none) (
  tif ((decide (i = (IntKind.wrap .i64 (Int.tdiv s.2.1 c.2.1.2.1))))) (
  none) (
  tif ((decide (k = (0 : Int)))) (
  obind (tier_Get n s.2.2.2.1.1 i) fun r13 =>
  some (r13, (0 : Int))) (
  tif ((decide (k = (1 : Int)))) (
  obind (tier_Get n s.2.2.2.1.2.1 i) fun r14 =>
  some (r14, (0 : Int))) (
  tif ((decide (k = (2 : Int)))) (
  obind (tier_Get n s.2.2.2.1.2.2 i) fun r15 =>
  some (r15, (0 : Int))) (
  none)))))) (
  tif ((decide (k = (2 : Int)))) (
  tif ((decide (c.2.1.2.2 = (0 : Int)))) (
  none) (
  tif ((decide (i = (IntKind.wrap .i64 (Int.tdiv s.2.1 c.2.1.2.2))))) (
  none) (
  tif ((decide (k = (0 : Int)))) (
  obind (tier_Get n s.2.2.2.1.1 i) fun r16 =>
  some (r16, (0 : Int))) (
  tif ((decide (k = (1 : Int)))) (
  obind (tier_Get n s.2.2.2.1.2.1 i) fun r17 =>
  some (r17, (0 : Int))) (
  tif ((decide (k = (2 : Int)))) (
  obind (tier_Get n s.2.2.2.1.2.2 i) fun r18 =>
  some (r18, (0 : Int))) (
  none)))))) (
  none)))))) (
  tif ((decide (k = (2 : Int)))) (
  tif ((decide (c.2.1.2.2 = (0 : Int)))) (
  none) (
  tif ((decide ((IntKind.wrap .i64 (Int.tdiv s.2.1 c.2.1.2.2)) < i))) (
  some (((0 : Int), (((0 : Int), ((0 : Int), ((0 : Int), false))), (((0 : Int), ((0 : Int), ((0 : Int), false))), (((0 : Int), (0 : Int)), ((0 : Int), ((0 : Int), (0 : Int))))))), (0 : Int))) (
  tif ((decide (k = (0 : Int)))) (
  tif ((decide (c.2.1.1 = (0 : Int)))) (
  none) (
  tif ((decide (i = (IntKind.wrap .i64 (Int.tdiv s.2.1 c.2.1.1))))) (
  none) (
  tif ((decide (k = (0 : Int)))) (
  obind (tier_Get n s.2.2.2.1.1 i) fun r19 =>
  some (r19, (0 : Int))) (
  tif ((decide (k = (1 : Int)))) (
  obind (tier_Get n s.2.2.2.1.2.1 i) fun r20 =>
  some (r20, (0 : Int))) (
  tif ((decide (k = (2 : Int)))) (
  obind (tier_Get n s.2.2.2.1.2.2 i) fun r21 =>
  some (r21, (0 : Int))) (
  none)))))) (
  tif ((decide (k = (1 : Int)))) (
  tif ((decide (c.2.1.2.1 = (0 : Int)))) (
  none) (
  tif ((decide (i = (IntKind.wrap .i64 (Int.tdiv s.2.1 c.2.1.2.1))))) (
  none) (
  tif ((decide (k = (0 : Int)))) (
  obind (tier_Get n s.2.2.2.1.1 i) fun r22 =>
  some (r22, (0 : Int))) (
  tif ((decide (k = (1 : Int)))) (
  obind (tier_Get n s.2.2.2.1.2.1 i) fun r23 =>
  some (r23, (0 : Int))) (
  tif ((decide (k = (2 : Int)))) (
  obind (tier_Get n s.2.2.2.1.2.2 i) fun r24 =>
  some (r24, (0 : Int))) (
  none)))))) (
  tif ((decide (k = (2 : Int)))) (
  tif ((decide (c.2.1.2.2 = (0 : Int)))) (
  none) (
  tif ((decide (i = (IntKind.wrap .i64 (Int.tdiv s.2.1 c.2.1.2.2))))) (
  none) (
  tif ((decide (k = (0 : Int)))) (
  obind (tier_Get n s.2.2.2.1.1 i) fun r25 =>
  some (r25, (0 : Int))) (
  tif ((decide (k = (1 : Int)))) (
  obind (tier_Get n s.2.2.2.1.2.1 i) fun r26 =>
  some (r26, (0 : Int))) (
  tif ((decide (k = (2 : Int)))) (
  obind (tier_Get n s.2.2.2.1.2.2 i) fun r27 =>
  some (r27, (0 : Int))) (
  none)))))) (
  none)))))) (
  none))))))))) fun r28 =>
  tif ((!(decide (r0.2 = (0 : Int))))) (
  some (((0 : Int), (((0 : Int), ((0 : Int), ((0 : Int), false))), (((0 : Int), ((0 : Int), ((0 : Int), false))), (((0 : Int), (0 : Int)), ((0 : Int), ((0 : Int), (0 : Int))))))), r0.2)) (
  tif ((decide (k < (0 : Int)))) (
  some (((0 : Int), (((0 : Int), ((0 : Int), ((0 : Int), false))), (((0 : Int), ((0 : Int), ((0 : Int), false))), (((0 : Int), (0 : Int)), ((0 : Int), ((0 : Int), (0 : Int))))))), (1 : Int))) (
  tif ((decide ((3 : Int) ≤ k))) (
  some (((0 : Int), (((0 : Int), ((0 : Int), ((0 : Int), false))), (((0 : Int), ((0 : Int), ((0 : Int), false))), (((0 : Int), (0 : Int)), ((0 : Int), ((0 : Int), (0 : Int))))))), (1 : Int))) (
  tif ((decide (i < (0 : Int)))) (
  some (((0 : Int), (((0 : Int), ((0 : Int), ((0 : Int), false))), (((0 : Int), ((0 : Int), ((0 : Int), false))), (((0 : Int), (0 : Int)), ((0 : Int), ((0 : Int), (0 : Int))))))), (1 : Int))) (
  tif ((decide (s.2.1 = ((-1) : Int)))) (
  some (((0 : Int), (((0 : Int), ((0 : Int), ((0 : Int), false))), (((0 : Int), ((0 : Int), ((0 : Int), false))), (((0 : Int), (0 : Int)), ((0 : Int), ((0 : Int), (0 : Int))))))), (0 : Int))) (
  tif ((decide (k = (0 : Int)))) (
  tif ((decide (c.2.1.1 = (0 : Int)))) (
  none) (
  tif ((decide ((IntKind.wrap .i64 (Int.tdiv s.2.1 c.2.1.1)) < i))) (
  some (((0 : Int), (((0 : Int), ((0 : Int), ((0 : Int), false))), (((0 : Int), ((0 : Int), ((0 : Int), false))), (((0 : Int), (0 : Int)), ((0 : Int), ((0 : Int), (0 : Int))))))), (0 : Int))) (
  tif ((decide (k = (0 : Int)))) (
  tif ((decide (c.2.1.1 = (0 : Int)))) (
  none) (
  tif ((decide (i = (IntKind.wrap .i64 (Int.tdiv s.2.1 c.2.1.1))))) (
  obind (series_kept_now n r28 k) fun r29 =>
  some r29) (
  tif ((decide (k = (0 : Int)))) (
  obind (tier_Get n s.2.2.2.1.1 i) fun r30 =>
  some (r30, (0 : Int))) (
  tif ((decide (k = (1 : Int)))) (
  obind (tier_Get n s.2.2.2.1.2.1 i) fun r31 =>
  some (r31, (0 : Int))) (
  tif ((decide (k = (2 : Int)))) (
  obind (tier_Get n s.2.2.2.1.2.2 i) fun r32 =>
  some (r32, (0 : Int))) (
  none)))))) (
  tif ((decide (k = (1 : Int)))) (
  tif ((decide (c.2.1.2.1 = (0 : Int)))) (
  none) (
  tif ((decide (i = (IntKind.wrap .i64 (Int.tdiv s.2.1 c.2.1.2.1))))) (
  obind (series_kept_now n r28 k) fun r33 =>
  some r33) (
  tif ((decide (k = (0 : Int)))) (
  obind (tier_Get n s.2.2.2.1.1 i) fun r34 =>
  some (r34, (0 : Int))) (
  tif ((decide (k = (1 : Int)))) (
  obind (tier_Get n s.2.2.2.1.2.1 i) fun r35 =>
  some (r35, (0 : Int))) (
  tif ((decide (k = (2 : Int)))) (
  obind (tier_Get n s.2.2.2.1.2.2 i) fun r36 =>
  some (r36, (0 : Int))) (
  none)))))) (
  tif ((decide (k = (2 : Int)))) (
  tif ((decide (c.2.1.2.2 = (0 : Int)))) (
  none) (
  tif ((decide (i = (IntKind.wrap .i64 (Int.tdiv s.2.1 c.2.1.2.2))))) (
  obind (series_kept_now n r28 k) fun r37 =>
  some r37) (
  tif ((decide (k = (0 : Int)))) (
  obind (tier_Get n s.2.2.2.1.1 i) fun r38 =>
  some (r38, (0 : Int))) (
  tif ((decide (k = (1 : Int)))) (
  obind (tier_Get n s.2.2.2.1.2.1 i) fun r39 =>
  some (r39, (0 : Int))) (
  tif ((decide (k = (2 : Int)))) (
  obind (tier_Get n s.2.2.2.1.2.2 i) fun r40 =>
  some (r40, (0 : Int))) (
  none)))))) (
  none)))))) (
  tif ((decide (k = (1 : Int)))) (
  tif ((decide (c.2.1.2.1 = (0 : Int)))) (
  none) (
  tif ((decide ((IntKind.wrap .i64 (Int.tdiv s.2.1 c.2.1.2.1)) < i))) (
  some (((0 : Int), (((0 : Int), ((0 : Int), ((0 : Int), false))), (((0 : Int), ((0 : Int), ((0 : Int), false))), (((0 : Int), (0 : Int)), ((0 : Int), ((0 : Int), (0 : Int))))))), (0 : Int))) (
  tif ((decide (k = (0 : Int)))) (
  tif ((decide (c.2.1.1 = (0 : Int)))) (
  none) (
  tif ((decide (i = (IntKind.wrap .i64 (Int.tdiv s.2.1 c.2.1.1))))) (
  obind (series_kept_now n r28 k) fun r41 =>
  some r41) (
  tif ((decide (k = (0 : Int)))) (
  obind (tier_Get n s.2.2.2.1.1 i) fun r42 =>
  some (r42, (0 : Int))) (
  tif ((decide (k = (1 : Int)))) (
  obind (tier_Get n s.2.2.2.1.2.1 i) fun r43 =>
  some (r43, (0 : Int))) (
  tif ((decide (k = (2 : Int)))) (
  obind (tier_Get n s.2.2.2.1.2.2 i) fun r44 =>
  some (r44, (0 : Int))) (
  none)))))) (
  tif ((decide (k = (1 : Int)))) (
  tif ((decide (c.2.1.2.1 = (0 : Int)))) (
  none) (
  tif ((decide (i = (IntKind.wrap .i64 (Int.tdiv s.2.1 c.2.1.2.1))))) (
  obind (series_kept_now n r28 k) fun r45 =>
  some r45) (
  tif ((decide (k = (0 : Int)))) (
  obind (tier_Get n s.2.2.2.1.1 i) fun r46 =>
  some (r46, (0 : Int))) (
  tif ((decide (k = (1 : Int)))) (
  obind (tier_Get n s.2.2.2.1.2.1 i) fun r47 =>
  some (r47, (0 : Int))) (
  tif ((decide (k = (2 : Int)))) (
  obind (tier_Get n s.2.2.2.1.2.2 i) fun r48 =>
  some (r48, (0 : Int))) (
  none)))))) (
  tif ((decide (k = (2 : Int)))) (
  tif ((decide (c.2.1.2.2 = (0 : Int)))) (
  none) (
  tif ((decide (i = (IntKind.wrap .i64 (Int.tdiv s.2.1 c.2.1.2.2))))) (
  obind (series_kept_now n r28 k) fun r49 =>
  some r49) (
  tif ((decide (k = (0 : Int)))) (
  obind (tier_Get n s.2.2.2.1.1 i) fun r50 =>
  some (r50, (0 : Int))) (
  tif ((decide (k = (1 : Int)))) (
  obind (tier_Get n s.2.2.2.1.2.1 i) fun r51 =>
  some (r51, (0 : Int))) (
  tif ((decide (k = (2 : Int)))) (
  obind (tier_Get n s.2.2.2.1.2.2 i) fun r52 =>
  some (r52, (0 : Int))) (
  none)))))) (
  none)))))) (
  tif ((decide (k = (2 : Int)))) (
  tif ((decide (c.2.1.2.2 = (0 : Int)))) (
  none) (
  tif ((decide ((IntKind.wrap .i64 (Int.tdiv s.2.1 c.2.1.2.2)) < i))) (
  some (((0 : Int), (((0 : Int), ((0 : Int), ((0 : Int), false))), (((0 : Int), ((0 : Int), ((0 : Int), false))), (((0 : Int), (0 : Int)), ((0 : Int), ((0 : Int), (0 : Int))))))), (0 : Int))) (
  tif ((decide (k = (0 : Int)))) (
  tif ((decide (c.2.1.1 = (0 : Int)))) (
  none) (
  tif ((decide (i = (IntKind.wrap .i64 (Int.tdiv s.2.1 c.2.1.1))))) (
  obind (series_kept_now n r28 k) fun r53 =>
  some r53) (
  tif ((decide (k = (0 : Int)))) (
  obind (tier_Get n s.2.2.2.1.1 i) fun r54 =>
  some (r54, (0 : Int))) (
  tif ((decide (k = (1 : Int)))) (
  obind (tier_Get n s.2.2.2.1.2.1 i) fun r55 =>
  some (r55, (0 : Int))) (
  tif ((decide (k = (2 : Int)))) (
  obind (tier_Get n s.2.2.2.1.2.2 i) fun r56 =>
  some (r56, (0 : Int))) (
  none)))))) (
  tif ((decide (k = (1 : Int)))) (
  tif ((decide (c.2.1.2.1 = (0 : Int)))) (
  none) (
  tif ((decide (i = (IntKind.wrap .i64 (Int.tdiv s.2.1 c.2.1.2.1))))) (
  obind (series_kept_now n r28 k) fun r57 =>
  some r57) (
  tif ((decide (k = (0 : Int)))) (
  obind (tier_Get n s.2.2.2.1.1 i) fun r58 =>
  some (r58, (0 : Int))) (
  tif ((decide (k = (1 : Int)))) (
  obind (tier_Get n s.2.2.2.1.2.1 i) fun r59 =>
  some (r59, (0 : Int))) (
  tif ((decide (k = (2 : Int)))) (
  obind (tier_Get n s.2.2.2.1.2.2 i) fun r60 =>
  some (r60, (0 : Int))) (
  none)))))) (
  tif ((decide (k = (2 : Int)))) (
  tif ((decide (c.2.1.2.2 = (0 : Int)))) (
  none) (
  tif ((decide (i = (IntKind.wrap .i64 (Int.tdiv s.2.1 c.2.1.2.2))))) (
  obind (series_kept_now n r28 k) fun r61 =>
  some r61) (
  tif ((decide (k = (0 : Int)))) (
  obind (tier_Get n s.2.2.2.1.1 i) fun r62 =>
  some (r62, (0 : Int))) (
  tif ((decide (k = (1 : Int)))) (
  obind (tier_Get n s.2.2.2.1.2.1 i) fun r63 =>
  some (r63, (0 : Int))) (
  tif ((decide (k = (2 : Int)))) (
  obind (tier_Get n s.2.2.2.1.2.2 i) fun r64 =>
  some (r64, (0 : Int))) (
  none)))))) (
  none)))))) (
  none)))))))) := by kernel_rfl

theorem r15_Cell_eq (n : Nat) (c : TConfig) (s : TSeries) (k : Int) (i : Int) : r15_Cell (n + 1) c s k i =
  obind (r15_Check n c s) fun r0 =>
  tif ((!(decide (r0 = (0 : Int))))) (
  some (((0 : Int), (((0 : Int), ((0 : Int), ((0 : Int), false))), (((0 : Int), ((0 : Int), ((0 : Int), false))), (((0 : Int), (0 : Int)), ((0 : Int), ((0 : Int), (0 : Int))))))), (2 : Int))) (
  tif ((decide (k < (0 : Int)))) (
  some (((0 : Int), (((0 : Int), ((0 : Int), ((0 : Int), false))), (((0 : Int), ((0 : Int), ((0 : Int), false))), (((0 : Int), (0 : Int)), ((0 : Int), ((0 : Int), (0 : Int))))))), (1 : Int))) (
  tif ((decide ((2 : Int) < k))) (
  some (((0 : Int), (((0 : Int), ((0 : Int), ((0 : Int), false))), (((0 : Int), ((0 : Int), ((0 : Int), false))), (((0 : Int), (0 : Int)), ((0 : Int), ((0 : Int), (0 : Int))))))), (1 : Int))) (
  tif ((decide (i < (0 : Int)))) (
  some (((0 : Int), (((0 : Int), ((0 : Int), ((0 : Int), false))), (((0 : Int), ((0 : Int), ((0 : Int), false))), (((0 : Int), (0 : Int)), ((0 : Int), ((0 : Int), (0 : Int))))))), (1 : Int))) (
  obind (r15_one n c s k i) fun r1 =>
  some r1)))) := by kernel_rfl

theorem series_Range_eq (n : Nat) (c : TConfig) (s : TSeries) (k : Int) (i : Int) (j : Int) : series_Range (n + 1) c s k i j =
  obind (series_open n c s) fun r0 =>
  oelim (r0.1) (
  tif ((!(decide (r0.2 = (0 : Int))))) (
  some (((0 : Int), (((0 : Int), ((0 : Int), ((0 : Int), false))), (((0 : Int), ((0 : Int), ((0 : Int), false))), (((0 : Int), (0 : Int)), ((0 : Int), ((0 : Int), (0 : Int))))))), r0.2)) (
  tif ((decide (k < (0 : Int)))) (
  some (((0 : Int), (((0 : Int), ((0 : Int), ((0 : Int), false))), (((0 : Int), ((0 : Int), ((0 : Int), false))), (((0 : Int), (0 : Int)), ((0 : Int), ((0 : Int), (0 : Int))))))), (1 : Int))) (
  tif ((decide ((3 : Int) ≤ k))) (
  some (((0 : Int), (((0 : Int), ((0 : Int), ((0 : Int), false))), (((0 : Int), ((0 : Int), ((0 : Int), false))), (((0 : Int), (0 : Int)), ((0 : Int), ((0 : Int), (0 : Int))))))), (1 : Int))) (
  tif ((decide (i < (0 : Int)))) (
  some (((0 : Int), (((0 : Int), ((0 : Int), ((0 : Int), false))), (((0 : Int), ((0 : Int), ((0 : Int), false))), (((0 : Int), (0 : Int)), ((0 : Int), ((0 : Int), (0 : Int))))))), (1 : Int))) (
  tif ((decide (j < i))) (
  some (((0 : Int), (((0 : Int), ((0 : Int), ((0 : Int), false))), (((0 : Int), ((0 : Int), ((0 : Int), false))), (((0 : Int), (0 : Int)), ((0 : Int), ((0 : Int), (0 : Int))))))), (1 : Int))) (
  none)))))) fun r1 =>
  tif ((!(decide (r0.2 = (0 : Int))))) (
  some (((0 : Int), (((0 : Int), ((0 : Int), ((0 : Int), false))), (((0 : Int), ((0 : Int), ((0 : Int), false))), (((0 : Int), (0 : Int)), ((0 : Int), ((0 : Int), (0 : Int))))))), r0.2)) (
  tif ((decide (k < (0 : Int)))) (
  some (((0 : Int), (((0 : Int), ((0 : Int), ((0 : Int), false))), (((0 : Int), ((0 : Int), ((0 : Int), false))), (((0 : Int), (0 : Int)), ((0 : Int), ((0 : Int), (0 : Int))))))), (1 : Int))) (
  tif ((decide ((3 : Int) ≤ k))) (
  some (((0 : Int), (((0 : Int), ((0 : Int), ((0 : Int), false))), (((0 : Int), ((0 : Int), ((0 : Int), false))), (((0 : Int), (0 : Int)), ((0 : Int), ((0 : Int), (0 : Int))))))), (1 : Int))) (
  tif ((decide (i < (0 : Int)))) (
  some (((0 : Int), (((0 : Int), ((0 : Int), ((0 : Int), false))), (((0 : Int), ((0 : Int), ((0 : Int), false))), (((0 : Int), (0 : Int)), ((0 : Int), ((0 : Int), (0 : Int))))))), (1 : Int))) (
  tif ((decide (j < i))) (
  some (((0 : Int), (((0 : Int), ((0 : Int), ((0 : Int), false))), (((0 : Int), ((0 : Int), ((0 : Int), false))), (((0 : Int), (0 : Int)), ((0 : Int), ((0 : Int), (0 : Int))))))), (1 : Int))) (
  obind (series_kept_span n r1 k i j) fun r2 =>
  some r2))))) := by kernel_rfl

theorem r15_Range_eq_0 (n : Nat) (c : TConfig) (s : TSeries) (i : Int) (j : Int) : r15_Range (n + 1) c s (0 : Int) i j =
  obind (r15_Check n c s) fun r0 =>
  tif ((!(decide (r0 = (0 : Int))))) (
  some (((0 : Int), (((0 : Int), ((0 : Int), ((0 : Int), false))), (((0 : Int), ((0 : Int), ((0 : Int), false))), (((0 : Int), (0 : Int)), ((0 : Int), ((0 : Int), (0 : Int))))))), (2 : Int))) (
  tif ((decide (i < (0 : Int)))) (
  some (((0 : Int), (((0 : Int), ((0 : Int), ((0 : Int), false))), (((0 : Int), ((0 : Int), ((0 : Int), false))), (((0 : Int), (0 : Int)), ((0 : Int), ((0 : Int), (0 : Int))))))), (1 : Int))) (
  tif ((decide (j < i))) (
  some (((0 : Int), (((0 : Int), ((0 : Int), ((0 : Int), false))), (((0 : Int), ((0 : Int), ((0 : Int), false))), (((0 : Int), (0 : Int)), ((0 : Int), ((0 : Int), (0 : Int))))))), (1 : Int))) (
  tif ((decide (s.2.1 = ((-1) : Int)))) (
  some (((0 : Int), (((0 : Int), ((0 : Int), ((0 : Int), false))), (((0 : Int), ((0 : Int), ((0 : Int), false))), (((0 : Int), (0 : Int)), ((0 : Int), ((0 : Int), (0 : Int))))))), (0 : Int))) (
  tif ((decide (c.2.1.1 = (0 : Int)))) (
  none) (
  obind (r13_Fold n s.2.2.2.1.1 i (if i < (if (IntKind.wrap .i64 (Int.tdiv s.2.1 c.2.1.1)) < j then (IntKind.wrap .i64 (Int.tdiv s.2.1 c.2.1.1)) else j) then (if (IntKind.wrap .i64 (Int.tdiv s.2.1 c.2.1.1)) < j then (IntKind.wrap .i64 (Int.tdiv s.2.1 c.2.1.1)) else j) else i)) fun r1 =>
  tif ((!(decide (r1.2 = (0 : Int))))) (
  some r1) (
  tif ((decide ((IntKind.wrap .i64 (Int.tdiv s.2.1 c.2.1.1)) < i))) (
  some r1) (
  tif ((decide (j ≤ (IntKind.wrap .i64 (Int.tdiv s.2.1 c.2.1.1))))) (
  some r1) (
  obind (r15_one n c s (0 : Int) (IntKind.wrap .i64 (Int.tdiv s.2.1 c.2.1.1))) fun r2 =>
  tif ((!(decide (r2.2 = (0 : Int))))) (
  some (((0 : Int), (((0 : Int), ((0 : Int), ((0 : Int), false))), (((0 : Int), ((0 : Int), ((0 : Int), false))), (((0 : Int), (0 : Int)), ((0 : Int), ((0 : Int), (0 : Int))))))), r2.2)) (
  obind (r08_Merge n r1.1 r2.1) fun r3 =>
  some r3))))))))) := by kernel_rfl
theorem r15_Range_eq_1 (n : Nat) (c : TConfig) (s : TSeries) (i : Int) (j : Int) : r15_Range (n + 1) c s (1 : Int) i j =
  obind (r15_Check n c s) fun r0 =>
  tif ((!(decide (r0 = (0 : Int))))) (
  some (((0 : Int), (((0 : Int), ((0 : Int), ((0 : Int), false))), (((0 : Int), ((0 : Int), ((0 : Int), false))), (((0 : Int), (0 : Int)), ((0 : Int), ((0 : Int), (0 : Int))))))), (2 : Int))) (
  tif ((decide (i < (0 : Int)))) (
  some (((0 : Int), (((0 : Int), ((0 : Int), ((0 : Int), false))), (((0 : Int), ((0 : Int), ((0 : Int), false))), (((0 : Int), (0 : Int)), ((0 : Int), ((0 : Int), (0 : Int))))))), (1 : Int))) (
  tif ((decide (j < i))) (
  some (((0 : Int), (((0 : Int), ((0 : Int), ((0 : Int), false))), (((0 : Int), ((0 : Int), ((0 : Int), false))), (((0 : Int), (0 : Int)), ((0 : Int), ((0 : Int), (0 : Int))))))), (1 : Int))) (
  tif ((decide (s.2.1 = ((-1) : Int)))) (
  some (((0 : Int), (((0 : Int), ((0 : Int), ((0 : Int), false))), (((0 : Int), ((0 : Int), ((0 : Int), false))), (((0 : Int), (0 : Int)), ((0 : Int), ((0 : Int), (0 : Int))))))), (0 : Int))) (
  tif ((decide (c.2.1.2.1 = (0 : Int)))) (
  none) (
  obind (r13_Fold n s.2.2.2.1.2.1 i (if i < (if (IntKind.wrap .i64 (Int.tdiv s.2.1 c.2.1.2.1)) < j then (IntKind.wrap .i64 (Int.tdiv s.2.1 c.2.1.2.1)) else j) then (if (IntKind.wrap .i64 (Int.tdiv s.2.1 c.2.1.2.1)) < j then (IntKind.wrap .i64 (Int.tdiv s.2.1 c.2.1.2.1)) else j) else i)) fun r1 =>
  tif ((!(decide (r1.2 = (0 : Int))))) (
  some r1) (
  tif ((decide ((IntKind.wrap .i64 (Int.tdiv s.2.1 c.2.1.2.1)) < i))) (
  some r1) (
  tif ((decide (j ≤ (IntKind.wrap .i64 (Int.tdiv s.2.1 c.2.1.2.1))))) (
  some r1) (
  obind (r15_one n c s (1 : Int) (IntKind.wrap .i64 (Int.tdiv s.2.1 c.2.1.2.1))) fun r2 =>
  tif ((!(decide (r2.2 = (0 : Int))))) (
  some (((0 : Int), (((0 : Int), ((0 : Int), ((0 : Int), false))), (((0 : Int), ((0 : Int), ((0 : Int), false))), (((0 : Int), (0 : Int)), ((0 : Int), ((0 : Int), (0 : Int))))))), r2.2)) (
  obind (r08_Merge n r1.1 r2.1) fun r3 =>
  some r3))))))))) := by kernel_rfl
theorem r15_Range_eq_2 (n : Nat) (c : TConfig) (s : TSeries) (i : Int) (j : Int) : r15_Range (n + 1) c s (2 : Int) i j =
  obind (r15_Check n c s) fun r0 =>
  tif ((!(decide (r0 = (0 : Int))))) (
  some (((0 : Int), (((0 : Int), ((0 : Int), ((0 : Int), false))), (((0 : Int), ((0 : Int), ((0 : Int), false))), (((0 : Int), (0 : Int)), ((0 : Int), ((0 : Int), (0 : Int))))))), (2 : Int))) (
  tif ((decide (i < (0 : Int)))) (
  some (((0 : Int), (((0 : Int), ((0 : Int), ((0 : Int), false))), (((0 : Int), ((0 : Int), ((0 : Int), false))), (((0 : Int), (0 : Int)), ((0 : Int), ((0 : Int), (0 : Int))))))), (1 : Int))) (
  tif ((decide (j < i))) (
  some (((0 : Int), (((0 : Int), ((0 : Int), ((0 : Int), false))), (((0 : Int), ((0 : Int), ((0 : Int), false))), (((0 : Int), (0 : Int)), ((0 : Int), ((0 : Int), (0 : Int))))))), (1 : Int))) (
  tif ((decide (s.2.1 = ((-1) : Int)))) (
  some (((0 : Int), (((0 : Int), ((0 : Int), ((0 : Int), false))), (((0 : Int), ((0 : Int), ((0 : Int), false))), (((0 : Int), (0 : Int)), ((0 : Int), ((0 : Int), (0 : Int))))))), (0 : Int))) (
  tif ((decide (c.2.1.2.2 = (0 : Int)))) (
  none) (
  obind (r13_Fold n s.2.2.2.1.2.2 i (if i < (if (IntKind.wrap .i64 (Int.tdiv s.2.1 c.2.1.2.2)) < j then (IntKind.wrap .i64 (Int.tdiv s.2.1 c.2.1.2.2)) else j) then (if (IntKind.wrap .i64 (Int.tdiv s.2.1 c.2.1.2.2)) < j then (IntKind.wrap .i64 (Int.tdiv s.2.1 c.2.1.2.2)) else j) else i)) fun r1 =>
  tif ((!(decide (r1.2 = (0 : Int))))) (
  some r1) (
  tif ((decide ((IntKind.wrap .i64 (Int.tdiv s.2.1 c.2.1.2.2)) < i))) (
  some r1) (
  tif ((decide (j ≤ (IntKind.wrap .i64 (Int.tdiv s.2.1 c.2.1.2.2))))) (
  some r1) (
  obind (r15_one n c s (2 : Int) (IntKind.wrap .i64 (Int.tdiv s.2.1 c.2.1.2.2))) fun r2 =>
  tif ((!(decide (r2.2 = (0 : Int))))) (
  some (((0 : Int), (((0 : Int), ((0 : Int), ((0 : Int), false))), (((0 : Int), ((0 : Int), ((0 : Int), false))), (((0 : Int), (0 : Int)), ((0 : Int), ((0 : Int), (0 : Int))))))), r2.2)) (
  obind (r08_Merge n r1.1 r2.1) fun r3 =>
  some r3))))))))) := by kernel_rfl
theorem r15_Range_eq (n : Nat) (c : TConfig) (s : TSeries) (k : Int) (i : Int) (j : Int) : r15_Range (n + 1) c s k i j =
  obind (r15_Check n c s) fun r0 =>
  tif ((!(decide (r0 = (0 : Int))))) (
  some (((0 : Int), (((0 : Int), ((0 : Int), ((0 : Int), false))), (((0 : Int), ((0 : Int), ((0 : Int), false))), (((0 : Int), (0 : Int)), ((0 : Int), ((0 : Int), (0 : Int))))))), (2 : Int))) (
  tif ((decide (k < (0 : Int)))) (
  some (((0 : Int), (((0 : Int), ((0 : Int), ((0 : Int), false))), (((0 : Int), ((0 : Int), ((0 : Int), false))), (((0 : Int), (0 : Int)), ((0 : Int), ((0 : Int), (0 : Int))))))), (1 : Int))) (
  tif ((decide ((2 : Int) < k))) (
  some (((0 : Int), (((0 : Int), ((0 : Int), ((0 : Int), false))), (((0 : Int), ((0 : Int), ((0 : Int), false))), (((0 : Int), (0 : Int)), ((0 : Int), ((0 : Int), (0 : Int))))))), (1 : Int))) (
  tif ((decide (i < (0 : Int)))) (
  some (((0 : Int), (((0 : Int), ((0 : Int), ((0 : Int), false))), (((0 : Int), ((0 : Int), ((0 : Int), false))), (((0 : Int), (0 : Int)), ((0 : Int), ((0 : Int), (0 : Int))))))), (1 : Int))) (
  tif ((decide (j < i))) (
  some (((0 : Int), (((0 : Int), ((0 : Int), ((0 : Int), false))), (((0 : Int), ((0 : Int), ((0 : Int), false))), (((0 : Int), (0 : Int)), ((0 : Int), ((0 : Int), (0 : Int))))))), (1 : Int))) (
  tif ((decide (s.2.1 = ((-1) : Int)))) (
  some (((0 : Int), (((0 : Int), ((0 : Int), ((0 : Int), false))), (((0 : Int), ((0 : Int), ((0 : Int), false))), (((0 : Int), (0 : Int)), ((0 : Int), ((0 : Int), (0 : Int))))))), (0 : Int))) (
  tif ((decide (k = (0 : Int)))) (
  tif ((decide (c.2.1.1 = (0 : Int)))) (
  none) (
  tif ((decide (k = (0 : Int)))) (
  obind (r13_Fold n s.2.2.2.1.1 i (if i < (if (IntKind.wrap .i64 (Int.tdiv s.2.1 c.2.1.1)) < j then (IntKind.wrap .i64 (Int.tdiv s.2.1 c.2.1.1)) else j) then (if (IntKind.wrap .i64 (Int.tdiv s.2.1 c.2.1.1)) < j then (IntKind.wrap .i64 (Int.tdiv s.2.1 c.2.1.1)) else j) else i)) fun r1 =>
  tif ((!(decide (r1.2 = (0 : Int))))) (
  some r1) (
  tif ((decide ((IntKind.wrap .i64 (Int.tdiv s.2.1 c.2.1.1)) < i))) (
  some r1) (
  tif ((decide (j ≤ (IntKind.wrap .i64 (Int.tdiv s.2.1 c.2.1.1))))) (
  some r1) (
  obind (r15_one n c s k (IntKind.wrap .i64 (Int.tdiv s.2.1 c.2.1.1))) fun r2 =>
  tif ((!(decide (r2.2 = (0 : Int))))) (
  some (((0 : Int), (((0 : Int), ((0 : Int), ((0 : Int), false))), (((0 : Int), ((0 : Int), ((0 : Int), false))), (((0 : Int), (0 : Int)), ((0 : Int), ((0 : Int), (0 : Int))))))), r2.2)) (
  obind (r08_Merge n r1.1 r2.1) fun r3 =>
  some r3))))) (
  tif ((decide (k = (1 : Int)))) (
  obind (r13_Fold n s.2.2.2.1.2.1 i (if i < (if (IntKind.wrap .i64 (Int.tdiv s.2.1 c.2.1.1)) < j then (IntKind.wrap .i64 (Int.tdiv s.2.1 c.2.1.1)) else j) then (if (IntKind.wrap .i64 (Int.tdiv s.2.1 c.2.1.1)) < j then (IntKind.wrap .i64 (Int.tdiv s.2.1 c.2.1.1)) else j) else i)) fun r4 =>
  tif ((!(decide (r4.2 = (0 : Int))))) (
  some r4) (
  tif ((decide ((IntKind.wrap .i64 (Int.tdiv s.2.1 c.2.1.1)) < i))) (
  some r4) (
  tif ((decide (j ≤ (IntKind.wrap .i64 (Int.tdiv s.2.1 c.2.1.1))))) (
  some r4) (
  obind (r15_one n c s k (IntKind.wrap .i64 (Int.tdiv s.2.1 c.2.1.1))) fun r5 =>
  tif ((!(decide (r5.2 = (0 : Int))))) (
  some (((0 : Int), (((0 : Int), ((0 : Int), ((0 : Int), false))), (((0 : Int), ((0 : Int), ((0 : Int), false))), (((0 : Int), (0 : Int)), ((0 : Int), ((0 : Int), (0 : Int))))))), r5.2)) (
  obind (r08_Merge n r4.1 r5.1) fun r6 =>
  some r6))))) (
  tif ((decide (k = (2 : Int)))) (
  obind (r13_Fold n s.2.2.2.1.2.2 i (if i < (if (IntKind.wrap .i64 (Int.tdiv s.2.1 c.2.1.1)) < j then (IntKind.wrap .i64 (Int.tdiv s.2.1 c.2.1.1)) else j) then (if (IntKind.wrap .i64 (Int.tdiv s.2.1 c.2.1.1)) < j then (IntKind.wrap .i64 (Int.tdiv s.2.1 c.2.1.1)) else j) else i)) fun r7 =>
  tif ((!(decide (r7.2 = (0 : Int))))) (
  some r7) (
  tif ((decide ((IntKind.wrap .i64 (Int.tdiv s.2.1 c.2.1.1)) < i))) (
  some r7) (
  tif ((decide (j ≤ (IntKind.wrap .i64 (Int.tdiv s.2.1 c.2.1.1))))) (
  some r7) (
  obind (r15_one n c s k (IntKind.wrap .i64 (Int.tdiv s.2.1 c.2.1.1))) fun r8 =>
  tif ((!(decide (r8.2 = (0 : Int))))) (
  some (((0 : Int), (((0 : Int), ((0 : Int), ((0 : Int), false))), (((0 : Int), ((0 : Int), ((0 : Int), false))), (((0 : Int), (0 : Int)), ((0 : Int), ((0 : Int), (0 : Int))))))), r8.2)) (
  obind (r08_Merge n r7.1 r8.1) fun r9 =>
  some r9))))) (
  none))))) (
  tif ((decide (k = (1 : Int)))) (
  tif ((decide (c.2.1.2.1 = (0 : Int)))) (
  none) (
  tif ((decide (k = (0 : Int)))) (
  obind (r13_Fold n s.2.2.2.1.1 i (if i < (if (IntKind.wrap .i64 (Int.tdiv s.2.1 c.2.1.2.1)) < j then (IntKind.wrap .i64 (Int.tdiv s.2.1 c.2.1.2.1)) else j) then (if (IntKind.wrap .i64 (Int.tdiv s.2.1 c.2.1.2.1)) < j then (IntKind.wrap .i64 (Int.tdiv s.2.1 c.2.1.2.1)) else j) else i)) fun r10 =>
  tif ((!(decide (r10.2 = (0 : Int))))) (
  some r10) (
  tif ((decide ((IntKind.wrap .i64 (Int.tdiv s.2.1 c.2.1.2.1)) < i))) (
  some r10) (
  tif ((decide (j ≤ (IntKind.wrap .i64 (Int.tdiv s.2.1 c.2.1.2.1))))) (
  some r10) (
  obind (r15_one n c s k (IntKind.wrap .i64 (Int.tdiv s.2.1 c.2.1.2.1))) fun r11 =>
  tif ((!(decide (r11.2 = (0 : Int))))) (
  some (((0 : Int), (((0 : Int), ((0 : Int), ((0 : Int), false))), (((0 : Int), ((0 : Int), ((0 : Int), false))), (((0 : Int), (0 : Int)), ((0 : Int), ((0 : Int), (0 : Int))))))), r11.2)) (
  obind (r08_Merge n r10.1 r11.1) fun r12 =>
  some r12))))) (
  tif ((decide (k = (1 : Int)))) (
  obind (r13_Fold n s.2.2.2.1.2.1 i (if i < (if (IntKind.wrap .i64 (Int.tdiv s.2.1 c.2.1.2.1)) < j then (IntKind.wrap .i64 (Int.tdiv s.2.1 c.2.1.2.1)) else j) then (if (IntKind.wrap .i64 (Int.tdiv s.2.1 c.2.1.2.1)) < j then (IntKind.wrap .i64 (Int.tdiv s.2.1 c.2.1.2.1)) else j) else i)) fun r13 =>
  tif ((!(decide (r13.2 = (0 : Int))))) (
  some r13) (
  tif ((decide ((IntKind.wrap .i64 (Int.tdiv s.2.1 c.2.1.2.1)) < i))) (
  some r13) (
  tif ((decide (j ≤ (IntKind.wrap .i64 (Int.tdiv s.2.1 c.2.1.2.1))))) (
  some r13) (
  obind (r15_one n c s k (IntKind.wrap .i64 (Int.tdiv s.2.1 c.2.1.2.1))) fun r14 =>
  tif ((!(decide (r14.2 = (0 : Int))))) (
  some (((0 : Int), (((0 : Int), ((0 : Int), ((0 : Int), false))), (((0 : Int), ((0 : Int), ((0 : Int), false))), (((0 : Int), (0 : Int)), ((0 : Int), ((0 : Int), (0 : Int))))))), r14.2)) (
  obind (r08_Merge n r13.1 r14.1) fun r15 =>
  some r15))))) (
  tif ((decide (k = (2 : Int)))) (
  obind (r13_Fold n s.2.2.2.1.2.2 i (if i < (if (IntKind.wrap .i64 (Int.tdiv s.2.1 c.2.1.2.1)) < j then (IntKind.wrap .i64 (Int.tdiv s.2.1 c.2.1.2.1)) else j) then (if (IntKind.wrap .i64 (Int.tdiv s.2.1 c.2.1.2.1)) < j then (IntKind.wrap .i64 (Int.tdiv s.2.1 c.2.1.2.1)) else j) else i)) fun r16 =>
  tif ((!(decide (r16.2 = (0 : Int))))) (
  some r16) (
  tif ((decide ((IntKind.wrap .i64 (Int.tdiv s.2.1 c.2.1.2.1)) < i))) (
  some r16) (
  tif ((decide (j ≤ (IntKind.wrap .i64 (Int.tdiv s.2.1 c.2.1.2.1))))) (
  some r16) (
  obind (r15_one n c s k (IntKind.wrap .i64 (Int.tdiv s.2.1 c.2.1.2.1))) fun r17 =>
  tif ((!(decide (r17.2 = (0 : Int))))) (
  some (((0 : Int), (((0 : Int), ((0 : Int), ((0 : Int), false))), (((0 : Int), ((0 : Int), ((0 : Int), false))), (((0 : Int), (0 : Int)), ((0 : Int), ((0 : Int), (0 : Int))))))), r17.2)) (
  obind (r08_Merge n r16.1 r17.1) fun r18 =>
  some r18))))) (
  none))))) (
  tif ((decide (k = (2 : Int)))) (
  tif ((decide (c.2.1.2.2 = (0 : Int)))) (
  none) (
  tif ((decide (k = (0 : Int)))) (
  obind (r13_Fold n s.2.2.2.1.1 i (if i < (if (IntKind.wrap .i64 (Int.tdiv s.2.1 c.2.1.2.2)) < j then (IntKind.wrap .i64 (Int.tdiv s.2.1 c.2.1.2.2)) else j) then (if (IntKind.wrap .i64 (Int.tdiv s.2.1 c.2.1.2.2)) < j then (IntKind.wrap .i64 (Int.tdiv s.2.1 c.2.1.2.2)) else j) else i)) fun r19 =>
  tif ((!(decide (r19.2 = (0 : Int))))) (
  some r19) (
  tif ((decide ((IntKind.wrap .i64 (Int.tdiv s.2.1 c.2.1.2.2)) < i))) (
  some r19) (
  tif ((decide (j ≤ (IntKind.wrap .i64 (Int.tdiv s.2.1 c.2.1.2.2))))) (
  some r19) (
  obind (r15_one n c s k (IntKind.wrap .i64 (Int.tdiv s.2.1 c.2.1.2.2))) fun r20 =>
  tif ((!(decide (r20.2 = (0 : Int))))) (
  some (((0 : Int), (((0 : Int), ((0 : Int), ((0 : Int), false))), (((0 : Int), ((0 : Int), ((0 : Int), false))), (((0 : Int), (0 : Int)), ((0 : Int), ((0 : Int), (0 : Int))))))), r20.2)) (
  obind (r08_Merge n r19.1 r20.1) fun r21 =>
  some r21))))) (
  tif ((decide (k = (1 : Int)))) (
  obind (r13_Fold n s.2.2.2.1.2.1 i (if i < (if (IntKind.wrap .i64 (Int.tdiv s.2.1 c.2.1.2.2)) < j then (IntKind.wrap .i64 (Int.tdiv s.2.1 c.2.1.2.2)) else j) then (if (IntKind.wrap .i64 (Int.tdiv s.2.1 c.2.1.2.2)) < j then (IntKind.wrap .i64 (Int.tdiv s.2.1 c.2.1.2.2)) else j) else i)) fun r22 =>
  tif ((!(decide (r22.2 = (0 : Int))))) (
  some r22) (
  tif ((decide ((IntKind.wrap .i64 (Int.tdiv s.2.1 c.2.1.2.2)) < i))) (
  some r22) (
  tif ((decide (j ≤ (IntKind.wrap .i64 (Int.tdiv s.2.1 c.2.1.2.2))))) (
  some r22) (
  obind (r15_one n c s k (IntKind.wrap .i64 (Int.tdiv s.2.1 c.2.1.2.2))) fun r23 =>
  tif ((!(decide (r23.2 = (0 : Int))))) (
  some (((0 : Int), (((0 : Int), ((0 : Int), ((0 : Int), false))), (((0 : Int), ((0 : Int), ((0 : Int), false))), (((0 : Int), (0 : Int)), ((0 : Int), ((0 : Int), (0 : Int))))))), r23.2)) (
  obind (r08_Merge n r22.1 r23.1) fun r24 =>
  some r24))))) (
  tif ((decide (k = (2 : Int)))) (
  obind (r13_Fold n s.2.2.2.1.2.2 i (if i < (if (IntKind.wrap .i64 (Int.tdiv s.2.1 c.2.1.2.2)) < j then (IntKind.wrap .i64 (Int.tdiv s.2.1 c.2.1.2.2)) else j) then (if (IntKind.wrap .i64 (Int.tdiv s.2.1 c.2.1.2.2)) < j then (IntKind.wrap .i64 (Int.tdiv s.2.1 c.2.1.2.2)) else j) else i)) fun r25 =>
  tif ((!(decide (r25.2 = (0 : Int))))) (
  some r25) (
  tif ((decide ((IntKind.wrap .i64 (Int.tdiv s.2.1 c.2.1.2.2)) < i))) (
  some r25) (
  tif ((decide (j ≤ (IntKind.wrap .i64 (Int.tdiv s.2.1 c.2.1.2.2))))) (
  some r25) (
  obind (r15_one n c s k (IntKind.wrap .i64 (Int.tdiv s.2.1 c.2.1.2.2))) fun r26 =>
  tif ((!(decide (r26.2 = (0 : Int))))) (
  some (((0 : Int), (((0 : Int), ((0 : Int), ((0 : Int), false))), (((0 : Int), ((0 : Int), ((0 : Int), false))), (((0 : Int), (0 : Int)), ((0 : Int), ((0 : Int), (0 : Int))))))), r26.2)) (
  obind (r08_Merge n r25.1 r26.1) fun r27 =>
  some r27))))) (
  none))))) (
  none))))))))) := by kernel_rfl

theorem series_Check_eq (n : Nat) (c : TConfig) (s : TSeries) : series_Check (n + 1) c s =
  obind (series_open n c s) fun r0 =>
  oelim (r0.1) (
  some r0.2) fun r1 =>
  some r0.2 := by kernel_rfl

theorem r15_Check_eq (n : Nat) (c : TConfig) (s : TSeries) : r15_Check (n + 1) c s =
  obind (r10_Check n c) fun r0 =>
  tif ((!(decide (r0 = (0 : Int))))) (
  some (2 : Int)) (
  obind (r05_Check n s.1) fun r1 =>
  tif ((!(decide (r1 = (0 : Int))))) (
  some (2 : Int)) (
  obind (r12_Check n s.2.2.1 c.1) fun r2 =>
  tif ((!(decide (r2 = (0 : Int))))) (
  some (2 : Int)) (
  obind (r14_Check n c s.2.2.2.1) fun r3 =>
  tif ((!(decide (r3 = (0 : Int))))) (
  some (2 : Int)) (
  tif ((decide (s.2.1 = ((-1) : Int)))) (
  tif ((decide ((0 : Int) < (((List.length s.2.2.1.2.2) : Nat) : Int)))) (
  some (2 : Int)) (
  tif ((!((decide (s.2.2.2.2.1 = (0 : Int))) && ((decide (s.2.2.2.2.2.1 = (0 : Int))) && ((decide (s.2.2.2.2.2.2.1.1 = (0 : Int))) && ((decide (s.2.2.2.2.2.2.1.2.1 = (0 : Int))) && ((decide (s.2.2.2.2.2.2.1.2.2.1 = (0 : Int))) && ((s.2.2.2.2.2.2.1.2.2.2 == false) && ((decide (s.2.2.2.2.2.2.2.1.1 = (0 : Int))) && ((decide (s.2.2.2.2.2.2.2.1.2.1 = (0 : Int))) && ((decide (s.2.2.2.2.2.2.2.1.2.2.1 = (0 : Int))) && ((s.2.2.2.2.2.2.2.1.2.2.2 == false) && ((decide (s.2.2.2.2.2.2.2.2.1.1 = (0 : Int))) && ((decide (s.2.2.2.2.2.2.2.2.1.2 = (0 : Int))) && ((decide (s.2.2.2.2.2.2.2.2.2.1 = (0 : Int))) && ((decide (s.2.2.2.2.2.2.2.2.2.2.1 = (0 : Int))) && (decide (s.2.2.2.2.2.2.2.2.2.2.2 = (0 : Int))))))))))))))))))) (
  some (2 : Int)) (
  obind (r15_Check_l7 n loopFuel (s, ((0 : Int), ()))) fun r4 =>
  selim (fun y5 =>
  some (0 : Int)) (fun z6 =>
  some z6) r4))) (
  obind (r12_Last n s.2.2.1) fun r7 =>
  tif ((!(decide (r7.2 = (0 : Int))))) (
  some (2 : Int)) (
  tif ((!(decide (r7.1.1 = s.2.1)))) (
  some (2 : Int)) (
  obind (r13_Fits n s.2.2.2.2.2 c.2.1.1 s.2.2.2.2.1) fun r8 =>
  tif ((!r8)) (
  some (2 : Int)) (
  tif ((!(decide (s.2.2.2.2.2.2.2.1.1 = s.2.1)))) (
  some (2 : Int)) (
  obind (r15_Check_l16 n loopFuel (c, (s, ((0 : Int), ())))) fun r9 =>
  selim (fun y10 =>
  some (0 : Int)) (fun z11 =>
  some z11) r9))))))))) := by kernel_rfl
theorem r15_Check_l7_eq (n f : Nat) (s_ : TSeries) (k : Int) : r15_Check_l7 n (f + 1) (s_, k, ()) =
  tif ((decide (k < (3 : Int)))) (
  tif ((decide (k = (0 : Int)))) (
  obind (r13_All n s_.2.2.2.1.1) fun r0 =>
  tif ((decide ((0 : Int) < (((List.length r0) : Nat) : Int)))) (
  some (.inr (2 : Int))) (
  r15_Check_l7 n f (s_, ((IntKind.wrap .i64 (k + (1 : Int))), ())))) (
  tif ((decide (k = (1 : Int)))) (
  obind (r13_All n s_.2.2.2.1.2.1) fun r1 =>
  tif ((decide ((0 : Int) < (((List.length r1) : Nat) : Int)))) (
  some (.inr (2 : Int))) (
  r15_Check_l7 n f (s_, ((IntKind.wrap .i64 (k + (1 : Int))), ())))) (
  tif ((decide (k = (2 : Int)))) (
  obind (r13_All n s_.2.2.2.1.2.2) fun r2 =>
  tif ((decide ((0 : Int) < (((List.length r2) : Nat) : Int)))) (
  some (.inr (2 : Int))) (
  r15_Check_l7 n f (s_, ((IntKind.wrap .i64 (k + (1 : Int))), ())))) (
  none)))) (
  some (.inl ())) := by kernel_rfl
theorem r15_Check_l7_zero (n : Nat) (x : (TSeries × (Int × Unit))) : r15_Check_l7 n 0 x = none := by kernel_rfl
theorem r15_Check_l16_eq (n f : Nat) (c_ : TConfig) (s_ : TSeries) (k_ : Int) : r15_Check_l16 n (f + 1) (c_, s_, k_, ()) =
  tif ((decide (k_ < (3 : Int)))) (
  tif ((decide (k_ = (0 : Int)))) (
  obind (r13_All n s_.2.2.2.1.1) fun r0 =>
  obind (r15_Check_l19 n loopFuel (c_, (s_, (k_, (r0, ((((List.length r0) : Nat) : Int), ((0 : Int), ()))))))) fun r1 =>
  selim (fun y2 =>
  r15_Check_l16 n f (y2.1, (y2.2.1, ((IntKind.wrap .i64 (y2.2.2.1 + (1 : Int))), ())))) (fun z3 =>
  some (.inr z3)) r1) (
  tif ((decide (k_ = (1 : Int)))) (
  obind (r13_All n s_.2.2.2.1.2.1) fun r4 =>
  obind (r15_Check_l19 n loopFuel (c_, (s_, (k_, (r4, ((((List.length r4) : Nat) : Int), ((0 : Int), ()))))))) fun r5 =>
  selim (fun y6 =>
  r15_Check_l16 n f (y6.1, (y6.2.1, ((IntKind.wrap .i64 (y6.2.2.1 + (1 : Int))), ())))) (fun z7 =>
  some (.inr z7)) r5) (
  tif ((decide (k_ = (2 : Int)))) (
  obind (r13_All n s_.2.2.2.1.2.2) fun r8 =>
  obind (r15_Check_l19 n loopFuel (c_, (s_, (k_, (r8, ((((List.length r8) : Nat) : Int), ((0 : Int), ()))))))) fun r9 =>
  selim (fun y10 =>
  r15_Check_l16 n f (y10.1, (y10.2.1, ((IntKind.wrap .i64 (y10.2.2.1 + (1 : Int))), ())))) (fun z11 =>
  some (.inr z11)) r9) (
  none)))) (
  some (.inl ())) := by kernel_rfl
theorem r15_Check_l16_zero (n : Nat) (x : (TConfig × (TSeries × (Int × Unit)))) : r15_Check_l16 n 0 x = none := by kernel_rfl
theorem r15_Check_l19_eq (n f : Nat) (c_ : TConfig) (s_ : TSeries) (k_ : Int) (s106 : (List TSlot)) (s107 : Int) (s108 : Int) : r15_Check_l19 n (f + 1) (c_, s_, k_, s106, s107, s108, ()) =
  tif ((decide (s108 < s107))) (
  obind (at? s106 s108) fun r0 =>
  tif ((decide (k_ = (0 : Int)))) (
  tif ((decide (c_.2.1.1 = (0 : Int)))) (
  none) (
  tif ((decide ((IntKind.wrap .i64 (Int.tdiv s_.2.1 c_.2.1.1)) ≤ r0.1))) (
  some (.inr (2 : Int))) (
  r15_Check_l19 n f (c_, (s_, (k_, (s106, (s107, ((IntKind.wrap .i64 (s108 + (1 : Int))), ()))))))))) (
  tif ((decide (k_ = (1 : Int)))) (
  tif ((decide (c_.2.1.2.1 = (0 : Int)))) (
  none) (
  tif ((decide ((IntKind.wrap .i64 (Int.tdiv s_.2.1 c_.2.1.2.1)) ≤ r0.1))) (
  some (.inr (2 : Int))) (
  r15_Check_l19 n f (c_, (s_, (k_, (s106, (s107, ((IntKind.wrap .i64 (s108 + (1 : Int))), ()))))))))) (
  tif ((decide (k_ = (2 : Int)))) (
  tif ((decide (c_.2.1.2.2 = (0 : Int)))) (
  none) (
  tif ((decide ((IntKind.wrap .i64 (Int.tdiv s_.2.1 c_.2.1.2.2)) ≤ r0.1))) (
  some (.inr (2 : Int))) (
  r15_Check_l19 n f (c_, (s_, (k_, (s106, (s107, ((IntKind.wrap .i64 (s108 + (1 : Int))), ()))))))))) (
  none)))) (
  some (.inl (c_, (s_, (k_, ()))))) := by kernel_rfl
theorem r15_Check_l19_zero (n : Nat) (x : (TConfig × (TSeries × (Int × ((List TSlot) × (Int × (Int × Unit))))))) : r15_Check_l19 n 0 x = none := by kernel_rfl

theorem r15_Same_eq (n : Nat) (a : TSeries) (b : TSeries) : r15_Same (n + 1) a b =
  obind (r05_Same n a.1 b.1) fun r0 =>
  tif (r0) (
  tif ((decide (a.2.1 = b.2.1))) (
  obind (r12_Same n a.2.2.1 b.2.2.1) fun r1 =>
  tif (r1) (
  obind (r14_Same n a.2.2.2.1 b.2.2.2.1) fun r2 =>
  tif (r2) (
  some ((decide (a.2.2.2.2.1 = b.2.2.2.2.1)) && ((decide (a.2.2.2.2.2.1 = b.2.2.2.2.2.1)) && ((decide (a.2.2.2.2.2.2.1.1 = b.2.2.2.2.2.2.1.1)) && ((decide (a.2.2.2.2.2.2.1.2.1 = b.2.2.2.2.2.2.1.2.1)) && ((decide (a.2.2.2.2.2.2.1.2.2.1 = b.2.2.2.2.2.2.1.2.2.1)) && ((a.2.2.2.2.2.2.1.2.2.2 == b.2.2.2.2.2.2.1.2.2.2) && ((decide (a.2.2.2.2.2.2.2.1.1 = b.2.2.2.2.2.2.2.1.1)) && ((decide (a.2.2.2.2.2.2.2.1.2.1 = b.2.2.2.2.2.2.2.1.2.1)) && ((decide (a.2.2.2.2.2.2.2.1.2.2.1 = b.2.2.2.2.2.2.2.1.2.2.1)) && ((a.2.2.2.2.2.2.2.1.2.2.2 == b.2.2.2.2.2.2.2.1.2.2.2) && ((decide (a.2.2.2.2.2.2.2.2.1.1 = b.2.2.2.2.2.2.2.2.1.1)) && ((decide (a.2.2.2.2.2.2.2.2.1.2 = b.2.2.2.2.2.2.2.2.1.2)) && ((decide (a.2.2.2.2.2.2.2.2.2.1 = b.2.2.2.2.2.2.2.2.2.1)) && ((decide (a.2.2.2.2.2.2.2.2.2.2.1 = b.2.2.2.2.2.2.2.2.2.2.1)) && (decide (a.2.2.2.2.2.2.2.2.2.2.2 = b.2.2.2.2.2.2.2.2.2.2.2))))))))))))))))) (
  some false)) (
  some false)) (
  some false)) (
  some false) := by kernel_rfl

theorem l05_Small_eq (n : Nat) (l : (List (List UInt8 × List UInt8))) : l05_Small (n + 1) l =
  obind (l05_Small_l2 n loopFuel (l, ((((List.length l) : Nat) : Int), ((0 : Int), ())))) fun r0 =>
  selim (fun y1 =>
  some (1 : Int)) (fun z2 =>
  some z2) r0 := by kernel_rfl
theorem l05_Small_l2_eq (n f : Nat) (s5 : (List (List UInt8 × List UInt8))) (s6 : Int) (s7 : Int) : l05_Small_l2 n (f + 1) (s5, s6, s7, ()) =
  tif ((decide (s7 < s6))) (
  obind (at? s5 s7) fun r0 =>
  tif ((decide (s7 = (40 : Int)))) (
  some (.inr (0 : Int))) (
  tif ((decide ((1000 : Int) < (((List.length r0.1) : Nat) : Int)))) (
  some (.inr (0 : Int))) (
  tif ((decide ((1000 : Int) < (((List.length r0.2) : Nat) : Int)))) (
  some (.inr (0 : Int))) (
  l05_Small_l2 n f (s5, (s6, ((IntKind.wrap .i64 (s7 + (1 : Int))), ()))))))) (
  some (.inl ())) := by kernel_rfl
theorem l05_Small_l2_zero (n : Nat) (x : ((List (List UInt8 × List UInt8)) × (Int × (Int × Unit)))) : l05_Small_l2 n 0 x = none := by kernel_rfl

theorem series_New_eq (n : Nat) (c : TConfig) (l : (List (List UInt8 × List UInt8))) : series_New (n + 1) c l =
  obind (conf_Check n c) fun r0 =>
  tif ((!(decide (r0 = (0 : Int))))) (
  some (([], ((0 : Int), (((0 : Int), ((0 : Int), [])), (([], ([], [])), ((0 : Int), ((0 : Int), (((0 : Int), ((0 : Int), ((0 : Int), false))), (((0 : Int), ((0 : Int), ((0 : Int), false))), (((0 : Int), (0 : Int)), ((0 : Int), ((0 : Int), (0 : Int)))))))))))), r0)) (
  obind (label_Check n l) fun r1 =>
  tif ((!(decide (r1 = (0 : Int))))) (
  some (([], ((0 : Int), (((0 : Int), ((0 : Int), [])), (([], ([], [])), ((0 : Int), ((0 : Int), (((0 : Int), ((0 : Int), ((0 : Int), false))), (((0 : Int), ((0 : Int), ((0 : Int), false))), (((0 : Int), (0 : Int)), ((0 : Int), ((0 : Int), (0 : Int)))))))))))), r1)) (
  obind (slices_Clone_Label n l) fun r2 =>
  obind (fold_Empty n c) fun r3 =>
  some ((r2, (((-1) : Int), (((0 : Int), ((0 : Int), [])), (r3, ((0 : Int), ((0 : Int), (((0 : Int), ((0 : Int), ((0 : Int), false))), (((0 : Int), ((0 : Int), ((0 : Int), false))), (((0 : Int), (0 : Int)), ((0 : Int), ((0 : Int), (0 : Int)))))))))))), (0 : Int)))) := by kernel_rfl

theorem r15_New_eq (n : Nat) (c : TConfig) (l : (List (List UInt8 × List UInt8))) : r15_New (n + 1) c l =
  obind (r10_Check n c) fun r0 =>
  tif ((!(decide (r0 = (0 : Int))))) (
  some (([], ((0 : Int), (((0 : Int), ((0 : Int), [])), (([], ([], [])), ((0 : Int), ((0 : Int), (((0 : Int), ((0 : Int), ((0 : Int), false))), (((0 : Int), ((0 : Int), ((0 : Int), false))), (((0 : Int), (0 : Int)), ((0 : Int), ((0 : Int), (0 : Int)))))))))))), (2 : Int))) (
  obind (r05_Check n l) fun r1 =>
  tif ((!(decide (r1 = (0 : Int))))) (
  some (([], ((0 : Int), (((0 : Int), ((0 : Int), [])), (([], ([], [])), ((0 : Int), ((0 : Int), (((0 : Int), ((0 : Int), ((0 : Int), false))), (((0 : Int), ((0 : Int), ((0 : Int), false))), (((0 : Int), (0 : Int)), ((0 : Int), ((0 : Int), (0 : Int)))))))))))), (8 : Int))) (
  tif ((decide (((0 + (List.length l)) * 32) ≤ 140737488355328))) (
  obind (r14_Empty n c) fun r2 =>
  none) (
  none))) := by kernel_rfl

theorem series_Same_eq (n : Nat) (a : TSeries) (b : TSeries) : series_Same (n + 1) a b =
  obind (label_Same n a.1 b.1) fun r0 =>
  tif (r0) (
  tif ((decide (a.2.1 = b.2.1))) (
  obind (raw_Same n a.2.2.1 b.2.2.1) fun r1 =>
  tif (r1) (
  tif (((decide (a.2.2.2.2.1 = b.2.2.2.2.1)) && ((decide (a.2.2.2.2.2.1 = b.2.2.2.2.2.1)) && ((decide (a.2.2.2.2.2.2.1.1 = b.2.2.2.2.2.2.1.1)) && ((decide (a.2.2.2.2.2.2.1.2.1 = b.2.2.2.2.2.2.1.2.1)) && ((decide (a.2.2.2.2.2.2.1.2.2.1 = b.2.2.2.2.2.2.1.2.2.1)) && ((a.2.2.2.2.2.2.1.2.2.2 == b.2.2.2.2.2.2.1.2.2.2) && ((decide (a.2.2.2.2.2.2.2.1.1 = b.2.2.2.2.2.2.2.1.1)) && ((decide (a.2.2.2.2.2.2.2.1.2.1 = b.2.2.2.2.2.2.2.1.2.1)) && ((decide (a.2.2.2.2.2.2.2.1.2.2.1 = b.2.2.2.2.2.2.2.1.2.2.1)) && ((a.2.2.2.2.2.2.2.1.2.2.2 == b.2.2.2.2.2.2.2.1.2.2.2) && ((decide (a.2.2.2.2.2.2.2.2.1.1 = b.2.2.2.2.2.2.2.2.1.1)) && ((decide (a.2.2.2.2.2.2.2.2.1.2 = b.2.2.2.2.2.2.2.2.1.2)) && ((decide (a.2.2.2.2.2.2.2.2.2.1 = b.2.2.2.2.2.2.2.2.2.1)) && ((decide (a.2.2.2.2.2.2.2.2.2.2.1 = b.2.2.2.2.2.2.2.2.2.2.1)) && (decide (a.2.2.2.2.2.2.2.2.2.2.2 = b.2.2.2.2.2.2.2.2.2.2.2))))))))))))))))) (
  obind (slices_Equal_Slot n a.2.2.2.1.1 b.2.2.2.1.1) fun r2 =>
  tif (r2) (
  obind (slices_Equal_Slot n a.2.2.2.1.2.1 b.2.2.2.1.2.1) fun r3 =>
  tif (r3) (
  obind (slices_Equal_Slot n a.2.2.2.1.2.2 b.2.2.2.1.2.2) fun r4 =>
  some r4) (
  some false)) (
  some false)) (
  some false)) (
  some false)) (
  some false)) (
  some false) := by kernel_rfl

theorem series_Dead_eq (n : Nat) (c : TConfig) (last : Int) (now : Int) : series_Dead (n + 1) c last now =
  obind (conf_Check n c) fun r0 =>
  tif ((decide (r0 = (0 : Int)))) (
  obind (window_Gone n last now c.2.1.1 c.2.2.1.1) fun r1 =>
  tif (r1) (
  obind (window_Gone n last now c.2.1.2.1 c.2.2.1.2.1) fun r2 =>
  tif (r2) (
  obind (window_Gone n last now c.2.1.2.2 c.2.2.1.2.2) fun r3 =>
  tif (r3) (
  some r3) (
  some r3)) (
  some r2)) (
  some r1)) (
  some (decide (r0 = (0 : Int)))) := by kernel_rfl

theorem r15_Dead_eq (n : Nat) (c : TConfig) (last : Int) (now : Int) : r15_Dead (n + 1) c last now =
  obind (r10_Check n c) fun r0 =>
  tif ((!(decide (r0 = (0 : Int))))) (
  some false) (
  obind (r09_Gone n last now c.2.1.1 c.2.2.1.1) fun r1 =>
  tif ((!r1)) (
  some false) (
  obind (r09_Gone n last now c.2.1.2.1 c.2.2.1.2.1) fun r2 =>
  tif ((!r2)) (
  some false) (
  obind (r09_Gone n last now c.2.1.2.2 c.2.2.1.2.2) fun r3 =>
  tif ((!r3)) (
  some false) (
  some true)))) := by kernel_rfl

theorem cell_Of_eq (n : Nat) (l : (List TEvent)) : cell_Of (n + 1) l =
  obind (cell_Of_l2 n loopFuel (l, (((0 : Int), (((0 : Int), ((0 : Int), ((0 : Int), false))), (((0 : Int), ((0 : Int), ((0 : Int), false))), (((0 : Int), (0 : Int)), ((0 : Int), ((0 : Int), (0 : Int))))))), (l, ((((List.length l) : Nat) : Int), ((0 : Int), ())))))) fun r0 =>
  selim (fun y1 =>
  obind (cell_Of_l10 n loopFuel (y1.2.1, (((0 : Int), (((0 : Int), ((0 : Int), ((0 : Int), false))), (((0 : Int), ((0 : Int), ((0 : Int), false))), (((0 : Int), (0 : Int)), ((0 : Int), ((0 : Int), (0 : Int))))))), (y1.1, ((((List.length y1.1) : Nat) : Int), ((0 : Int), ())))))) fun r2 =>
  selim (fun y3 =>
  some (y3.2.1, (0 : Int))) (fun z4 =>
  some z4) r2) (fun z5 =>
  some z5) r0 := by kernel_rfl
theorem cell_Of_l2_eq (n f : Nat) (l : (List TEvent)) (s2 : TCell) (s12 : (List TEvent)) (s13 : Int) (s14 : Int) : cell_Of_l2 n (f + 1) (l, s2, s12, s13, s14, ()) =
  tif ((decide (s14 < s13))) (
  obind (at? s12 s14) fun r0 =>
  obind (event_Check n r0) fun r1 =>
  tif ((!(decide (r1 = (0 : Int))))) (
  some (.inr (((0 : Int), (((0 : Int), ((0 : Int), ((0 : Int), false))), (((0 : Int), ((0 : Int), ((0 : Int), false))), (((0 : Int), (0 : Int)), ((0 : Int), ((0 : Int), (0 : Int))))))), r1))) (
  cell_Of_l2 n f (l, (s2, (s12, (s13, ((IntKind.wrap .i64 (s14 + (1 : Int))), ()))))))) (
  some (.inl (l, (s2, ())))) := by kernel_rfl
theorem cell_Of_l2_zero (n : Nat) (x : ((List TEvent) × (TCell × ((List TEvent) × (Int × (Int × Unit)))))) : cell_Of_l2 n 0 x = none := by kernel_rfl
theorem cell_Of_l10_eq (n f : Nat) (s2 : TCell) (c : TCell) (s25 : (List TEvent)) (s26 : Int) (s27 : Int) : cell_Of_l10 n (f + 1) (s2, c, s25, s26, s27, ()) =
  tif ((decide (s27 < s26))) (
  obind (at? s25 s27) fun r0 =>
  obind (cell_one n r0) fun r1 =>
  obind (cell_Merge n c r1) fun r2 =>
  tif ((!(decide (r2.2 = (0 : Int))))) (
  some (.inr (((0 : Int), (((0 : Int), ((0 : Int), ((0 : Int), false))), (((0 : Int), ((0 : Int), ((0 : Int), false))), (((0 : Int), (0 : Int)), ((0 : Int), ((0 : Int), (0 : Int))))))), r2.2))) (
  cell_Of_l10 n f (s2, (r2.1, (s25, (s26, ((IntKind.wrap .i64 (s27 + (1 : Int))), ()))))))) (
  some (.inl (s2, (c, ())))) := by kernel_rfl
theorem cell_Of_l10_zero (n : Nat) (x : (TCell × (TCell × ((List TEvent) × (Int × (Int × Unit)))))) : cell_Of_l10 n 0 x = none := by kernel_rfl

theorem r12_SameList_eq (n : Nat) (a : (List TEvent)) (b : (List TEvent)) : r12_SameList (n + 1) a b =
  tif ((!(decide ((((List.length a) : Nat) : Int) = (((List.length b) : Nat) : Int))))) (
  some false) (
  obind (r12_SameList_l4 n loopFuel (a, (b, ((((List.length a) : Nat) : Int), ((0 : Int), ()))))) fun r0 =>
  selim (fun y1 =>
  some true) (fun z2 =>
  some z2) r0) := by kernel_rfl
theorem r12_SameList_l4_eq (n f : Nat) (a : (List TEvent)) (b : (List TEvent)) (s12 : Int) (s13 : Int) : r12_SameList_l4 n (f + 1) (a, b, s12, s13, ()) =
  tif ((decide (s13 < s12))) (
  obind (at? a s13) fun r0 =>
  obind (at? b s13) fun r1 =>
  tif ((!((decide (r0.1 = r1.1)) && ((decide (r0.2.1 = r1.2.1)) && ((decide (r0.2.2.1 = r1.2.2.1)) && (r0.2.2.2 == r1.2.2.2)))))) (
  some (.inr false)) (
  r12_SameList_l4 n f (a, (b, (s12, ((IntKind.wrap .i64 (s13 + (1 : Int))), ())))))) (
  some (.inl ())) := by kernel_rfl
theorem r12_SameList_l4_zero (n : Nat) (x : ((List TEvent) × ((List TEvent) × (Int × (Int × Unit))))) : r12_SameList_l4 n 0 x = none := by kernel_rfl

theorem state_New_eq (n : Nat) (c : TConfig) : state_New (n + 1) c =
  obind (conf_Size n c) fun r0 =>
  tif ((!(decide (r0.2 = (0 : Int))))) (
  some ((((0 : Int), (((0 : Int), ((0 : Int), (0 : Int))), (((0 : Int), ((0 : Int), (0 : Int))), ((0 : Int), (0 : Int))))), ((0 : Int), ((0 : Int), []))), r0.2)) (
  tif (((decide ((0 : Int) ≤ c.2.2.2.1)) && ((decide (c.2.2.2.1 ≤ c.2.2.2.1)) && (decide ((c.2.2.2.1 * (264 : Int)) ≤ (140737488355328 : Int)))))) (
  some ((c, ((0 : Int), (((-1) : Int), (List.replicate (Int.toNat c.2.2.2.1) ([], ((0 : Int), (((0 : Int), ((0 : Int), [])), (([], ([], [])), ((0 : Int), ((0 : Int), (((0 : Int), ((0 : Int), ((0 : Int), false))), (((0 : Int), ((0 : Int), ((0 : Int), false))), (((0 : Int), (0 : Int)), ((0 : Int), ((0 : Int), (0 : Int)))))))))))))))), (0 : Int))) (
  none)) := by kernel_rfl

theorem l10_Fit_eq (n : Nat)  : l10_Fit (n + 1)  =
  some ((20 : Int), (((10 : Int), ((20 : Int), (60 : Int))), (((4 : Int), ((5 : Int), (6 : Int))), ((3 : Int), (9 : Int))))) := by kernel_rfl

theorem state_Check_eq (n : Nat) (s : TState) : state_Check (n + 1) s =
  obind (state_open n s) fun r0 =>
  tif ((!(decide (r0.2 = (0 : Int))))) (
  some (2 : Int)) (
  obind (state_view_clock n r0.1) fun r1 =>
  tif ((!r1)) (
  some (2 : Int)) (
  obind (state_view_place n r0.1 (fun y2 => state_Check_1 n y2.1 r0.1)) fun r3 =>
  tif ((decide ((0 : Int) ≤ r3))) (
  some (2 : Int)) (
  some (0 : Int)))) := by kernel_rfl

theorem r17_Check_eq (n : Nat) (s : TState) : r17_Check (n + 1) s =
  obind (r17_whole n s) fun r0 =>
  tif ((!r0)) (
  some (2 : Int)) (
  obind (r17_time n s.2.1) fun r1 =>
  tif ((!r1)) (
  some (2 : Int)) (
  tif ((!(decide (s.2.2.1 = ((-1) : Int))))) (
  obind (r17_time n s.2.2.1) fun r2 =>
  tif ((!r2)) (
  some (2 : Int)) (
  tif ((decide (s.2.1 < s.2.2.1))) (
  some (2 : Int)) (
  obind (r17_Mark n s) fun r3 =>
  obind (r17_Check_l5 n loopFuel (s, ((IntKind.wrap .i64 (r3 + s.1.2.1.1)), (s.2.2.2, ((((List.length s.2.2.2) : Nat) : Int), ((0 : Int), ())))))) fun r4 =>
  selim (fun y5 =>
  some (0 : Int)) (fun z6 =>
  some z6) r4))) (
  tif ((decide (s.2.1 < s.2.2.1))) (
  some (2 : Int)) (
  obind (r17_Mark n s) fun r7 =>
  obind (r17_Check_l5 n loopFuel (s, ((IntKind.wrap .i64 (r7 + s.1.2.1.1)), (s.2.2.2, ((((List.length s.2.2.2) : Nat) : Int), ((0 : Int), ())))))) fun r8 =>
  selim (fun y9 =>
  some (0 : Int)) (fun z10 =>
  some z10) r8)))) := by kernel_rfl
theorem r17_Check_l5_eq (n f : Nat) (s_ : TState) (end_ : Int) (s42 : (List TSeries)) (s43 : Int) (s44 : Int) : r17_Check_l5 n (f + 1) (s_, end_, s42, s43, s44, ()) =
  tif ((decide (s44 < s43))) (
  obind (at? s42 s44) fun r0 =>
  obind (r17_Empty n r0) fun r1 =>
  tif (r1) (
  r17_Check_l5 n f (s_, (end_, (s42, (s43, ((IntKind.wrap .i64 (s44 + (1 : Int))), ())))))) (
  obind (r15_Check n s_.1 r0) fun r2 =>
  tif ((!(decide (r2 = (0 : Int))))) (
  some (.inr (2 : Int))) (
  tif ((decide (r0.2.1 < (0 : Int)))) (
  some (.inr (2 : Int))) (
  tif ((decide (end_ ≤ r0.2.1))) (
  some (.inr (2 : Int))) (
  tif (((decide ((0 : Int) ≤ s44)) && (decide (s44 ≤ (((List.length s_.2.2.2) : Nat) : Int))))) (
  obind (r17_Check_l11 n loopFuel (s_, (end_, (s44, (r0, (s42, (s43, (s44, ((((List.length (List.drop 0 (List.take (Int.toNat s44) s_.2.2.2))) : Nat) : Int), ((0 : Int), ())))))))))) fun r3 =>
  selim (fun y4 =>
  r17_Check_l5 n f (y4.1, (y4.2.1, (y4.2.2.1, (y4.2.2.2.1, ((IntKind.wrap .i64 (y4.2.2.2.2.1 + (1 : Int))), ())))))) (fun z5 =>
  some (.inr z5)) r3) (
  none)))))) (
  some (.inl ())) := by kernel_rfl
theorem r17_Check_l5_zero (n : Nat) (x : (TState × (Int × ((List TSeries) × (Int × (Int × Unit)))))) : r17_Check_l5 n 0 x = none := by kernel_rfl
theorem r17_Check_l11_eq (n f : Nat) (s_ : TState) (end_ : Int) (i : Int) (x : TSeries) (s42 : (List TSeries)) (s43 : Int) (s44 : Int) (s71 : Int) (s72 : Int) : r17_Check_l11 n (f + 1) (s_, end_, i, x, s42, s43, s44, s71, s72, ()) =
  tif ((decide (s72 < s71))) (
  obind (r17_lives n s_ i) fun r0 =>
  tif (r0) (
  obind (r17_lives n s_ s72) fun r1 =>
  tif (r1) (
  obind (at? s_.2.2.2 s72) fun r2 =>
  obind (r05_Same n r2.1 x.1) fun r3 =>
  tif (r3) (
  some (.inr (2 : Int))) (
  r17_Check_l11 n f (s_, (end_, (i, (x, (s42, (s43, (s44, (s71, ((IntKind.wrap .i64 (s72 + (1 : Int))), ()))))))))))) (
  r17_Check_l11 n f (s_, (end_, (i, (x, (s42, (s43, (s44, (s71, ((IntKind.wrap .i64 (s72 + (1 : Int))), ()))))))))))) (
  r17_Check_l11 n f (s_, (end_, (i, (x, (s42, (s43, (s44, (s71, ((IntKind.wrap .i64 (s72 + (1 : Int))), ()))))))))))) (
  some (.inl (s_, (end_, (s42, (s43, (s44, ()))))))) := by kernel_rfl
theorem r17_Check_l11_zero (n : Nat) (x : (TState × (Int × (Int × (TSeries × ((List TSeries) × (Int × (Int × (Int × (Int × Unit)))))))))) : r17_Check_l11 n 0 x = none := by kernel_rfl

theorem cascade_tiers_eq (n : Nat) (s : TState) (k : Int) : cascade_tiers (n + 1) s k =
  obind (state_Check n s) fun r0 =>
  tif ((!(decide (r0 = (0 : Int))))) (
  some r0) (
  tif ((decide (k < (0 : Int)))) (
  some (1 : Int)) (
  tif ((decide ((3 : Int) ≤ k))) (
  some (1 : Int)) (
  some (0 : Int)))) := by kernel_rfl

theorem window_Oldest_eq (n : Nat) (now : Int) (w : Int) (n_ : Int) : window_Oldest (n + 1) now w n_ =
  obind (window_Of n now w) fun r0 =>
  tif ((!(decide (r0.2 = (0 : Int))))) (
  some ((0 : Int), (1 : Int))) (
  obind (window_in_int n n_ (1 : Int) (4096 : Int)) fun r1 =>
  tif ((!r1)) (
  some ((0 : Int), (1 : Int))) (
  some ((if (0 : Int) < (IntKind.wrap .i64 ((IntKind.wrap .i64 (r0.1 + (1 : Int))) - n_)) then (IntKind.wrap .i64 ((IntKind.wrap .i64 (r0.1 + (1 : Int))) - n_)) else (0 : Int)), (0 : Int)))) := by kernel_rfl

theorem r09_Oldest_eq (n : Nat) (now : Int) (w : Int) (n_ : Int) : r09_Oldest (n + 1) now w n_ =
  obind (r09_Of n now w) fun r0 =>
  tif ((!(decide (r0.2 = (0 : Int))))) (
  some ((0 : Int), (1 : Int))) (
  tif ((decide (n_ < (1 : Int)))) (
  some ((0 : Int), (1 : Int))) (
  tif ((decide ((4096 : Int) < n_))) (
  some ((0 : Int), (1 : Int))) (
  some ((if (IntKind.wrap .i64 ((IntKind.wrap .i64 (r0.1 - n_)) + (1 : Int))) < (0 : Int) then (0 : Int) else (IntKind.wrap .i64 ((IntKind.wrap .i64 (r0.1 - n_)) + (1 : Int)))), (0 : Int))))) := by kernel_rfl

theorem r09_Of_eq (n : Nat) (t : Int) (w : Int) : r09_Of (n + 1) t w =
  tif ((decide (t < (0 : Int)))) (
  some ((0 : Int), (1 : Int))) (
  tif ((decide ((35184372088832 : Int) ≤ t))) (
  some ((0 : Int), (1 : Int))) (
  obind (r09_width n w) fun r0 =>
  tif ((!r0)) (
  some ((0 : Int), (1 : Int))) (
  tif ((decide (w = (0 : Int)))) (
  none) (
  tif ((decide (w = (0 : Int)))) (
  none) (
  some ((IntKind.wrap .i64 (Int.tdiv (IntKind.wrap .i64 (t - (Int.tmod t w))) w)), (0 : Int))))))) := by kernel_rfl

theorem l14_Small_eq (n : Nat) (s : ((List TSlot) × ((List TSlot) × (List TSlot)))) : l14_Small (n + 1) s =
  obind (l14_Small_l2 n loopFuel (s, ((0 : Int), ()))) fun r0 =>
  selim (fun y1 =>
  some (1 : Int)) (fun z2 =>
  some z2) r0 := by kernel_rfl
theorem l14_Small_l2_eq (n f : Nat) (s_ : ((List TSlot) × ((List TSlot) × (List TSlot)))) (s4 : Int) : l14_Small_l2 n (f + 1) (s_, s4, ()) =
  tif ((decide (s4 < (3 : Int)))) (
  tif ((decide (s4 = (0 : Int)))) (
  tif ((decide ((40 : Int) < (((List.length s_.1) : Nat) : Int)))) (
  some (.inr (0 : Int))) (
  l14_Small_l2 n f (s_, ((IntKind.wrap .i64 (s4 + (1 : Int))), ())))) (
  tif ((decide (s4 = (1 : Int)))) (
  tif ((decide ((40 : Int) < (((List.length s_.2.1) : Nat) : Int)))) (
  some (.inr (0 : Int))) (
  l14_Small_l2 n f (s_, ((IntKind.wrap .i64 (s4 + (1 : Int))), ())))) (
  tif ((decide (s4 = (2 : Int)))) (
  tif ((decide ((40 : Int) < (((List.length s_.2.2) : Nat) : Int)))) (
  some (.inr (0 : Int))) (
  l14_Small_l2 n f (s_, ((IntKind.wrap .i64 (s4 + (1 : Int))), ())))) (
  none)))) (
  some (.inl ())) := by kernel_rfl
theorem l14_Small_l2_zero (n : Nat) (x : (((List TSlot) × ((List TSlot) × (List TSlot))) × (Int × Unit))) : l14_Small_l2 n 0 x = none := by kernel_rfl

theorem series_open_eq (n : Nat) (c : TConfig) (s : TSeries) : series_open (n + 1) c s =
  obind (fold_Check n c s.2.2.2.1) fun r0 =>
  tif ((!(decide (r0 = (0 : Int))))) (
  some (none, (2 : Int))) (
  obind (label_Check n s.1) fun r1 =>
  tif ((!(decide (r1 = (0 : Int))))) (
  some (none, (2 : Int))) (
  obind (raw_Check n s.2.2.1 c.1) fun r2 =>
  tif ((!(decide (r2 = (0 : Int))))) (
  some (none, (2 : Int))) (
  tif ((decide (s.2.1 = ((-1) : Int)))) (
  obind (series_kept_fresh n (c, s)) fun r3 =>
  tif (r3) (
  some ((some (c, s)), (0 : Int))) (
  tif ((!(decide (s.2.1 = ((-1) : Int))))) (
  obind (series_kept_ends n (c, s)) fun r4 =>
  tif (r4) (
  some ((some (c, s)), (0 : Int))) (
  some (none, (2 : Int)))) (
  some (none, (2 : Int))))) (
  tif ((!(decide (s.2.1 = ((-1) : Int))))) (
  obind (series_kept_ends n (c, s)) fun r5 =>
  tif (r5) (
  some ((some (c, s)), (0 : Int))) (
  some (none, (2 : Int)))) (
  some (none, (2 : Int))))))) := by kernel_rfl

theorem event_Check_eq (n : Nat) (e : TEvent) : event_Check (n + 1) e =
  tif ((decide (e.1 < (0 : Int)))) (
  some (2 : Int)) (
  tif ((decide ((35184372088832 : Int) ≤ e.1))) (
  some (2 : Int)) (
  tif ((decide (e.2.2.1 < (0 : Int)))) (
  some (2 : Int)) (
  tif ((decide (e.1 < e.2.2.1))) (
  some (2 : Int)) (
  tif (e.2.2.2) (
  tif ((!((decide (e.1 = e.1)) && ((decide (e.2.1 = (0 : Int))) && ((decide (e.2.2.1 = (0 : Int))) && (e.2.2.2 == true)))))) (
  some (2 : Int)) (
  some (0 : Int))) (
  some (0 : Int)))))) := by kernel_rfl

theorem series_kept_turn_eq (n : Nat) (s : Tseries_kept) (i : Int) : series_kept_turn (n + 1) s i =
  tif ((decide (s.2.2.2.2.2.1 = i))) (
  some ((0 : Int), s)) (
  tif ((decide (s.2.2.2.2.2.2.1 = (0 : Int)))) (
  some ((0 : Int), s)) (
  obind (fold_Close n s.1 s.2.2.2.2.1 s.2.2.2.2.2 i) fun r0 =>
  tif ((decide (r0.2 = (0 : Int)))) (
  some (r0.2, (s.1, (s.2.1, (s.2.2.1, (s.2.2.2.1, (r0.1, ((0 : Int), ((0 : Int), (((0 : Int), ((0 : Int), ((0 : Int), false))), (((0 : Int), ((0 : Int), ((0 : Int), false))), (((0 : Int), (0 : Int)), ((0 : Int), ((0 : Int), (0 : Int))))))))))))))) (
  some (r0.2, s)))) := by kernel_rfl

theorem series_kept_add_eq (n : Nat) (s : Tseries_kept) (i : Int) (e : TEvent) : series_kept_add (n + 1) s i e =
  obind (raw_Put n s.2.2.2.1 s.1.1 e) fun r0 =>
  obind (cell_Add n s.2.2.2.2.2.2 e) fun r1 =>
  tif ((!(decide (r0.2 = (0 : Int))))) (
  some (r0.2, s)) (
  some (r1.2, (s.1, (s.2.1, (e.1, (r0.1, (s.2.2.2.2.1, (i, r1.1)))))))) := by kernel_rfl

theorem r07_Check_eq (n : Nat) (e : TEvent) : r07_Check (n + 1) e =
  tif ((decide (e.1 < (0 : Int)))) (
  some (2 : Int)) (
  tif ((decide ((35184372088832 : Int) ≤ e.1))) (
  some (2 : Int)) (
  tif ((decide (e.2.2.1 < (0 : Int)))) (
  some (2 : Int)) (
  tif ((decide (e.1 < e.2.2.1))) (
  some (2 : Int)) (
  tif (e.2.2.2) (
  tif ((!(decide (e.2.1 = (0 : Int))))) (
  some (2 : Int)) (
  tif ((!(decide (e.2.2.1 = (0 : Int))))) (
  some (2 : Int)) (
  some (0 : Int)))) (
  some (0 : Int)))))) := by kernel_rfl

theorem r14_Close_eq (n : Nat) (c : TConfig) (s : ((List TSlot) × ((List TSlot) × (List TSlot)))) (open_ : TSlot) (j : Int) : r14_Close (n + 1) c s open_ j =
  obind (r14_Check n c s) fun r0 =>
  tif ((!(decide (r0 = (0 : Int))))) (
  some (([], ([], [])), (2 : Int))) (
  tif ((!((decide (open_.1 = (0 : Int))) && ((decide (open_.2.1 = (0 : Int))) && ((decide (open_.2.2.1.1 = (0 : Int))) && ((decide (open_.2.2.1.2.1 = (0 : Int))) && ((decide (open_.2.2.1.2.2.1 = (0 : Int))) && ((open_.2.2.1.2.2.2 == false) && ((decide (open_.2.2.2.1.1 = (0 : Int))) && ((decide (open_.2.2.2.1.2.1 = (0 : Int))) && ((decide (open_.2.2.2.1.2.2.1 = (0 : Int))) && ((open_.2.2.2.1.2.2.2 == false) && ((decide (open_.2.2.2.2.1.1 = (0 : Int))) && ((decide (open_.2.2.2.2.1.2 = (0 : Int))) && ((decide (open_.2.2.2.2.2.1 = (0 : Int))) && ((decide (open_.2.2.2.2.2.2.1 = (0 : Int))) && (decide (open_.2.2.2.2.2.2.2 = (0 : Int))))))))))))))))))) (
  obind (r13_Fits n open_.2 c.2.1.1 open_.1) fun r1 =>
  tif ((!r1)) (
  some (([], ([], [])), (2 : Int))) (
  tif (((decide (open_.1 = (0 : Int))) && ((decide (open_.2.1 = (0 : Int))) && ((decide (open_.2.2.1.1 = (0 : Int))) && ((decide (open_.2.2.1.2.1 = (0 : Int))) && ((decide (open_.2.2.1.2.2.1 = (0 : Int))) && ((open_.2.2.1.2.2.2 == false) && ((decide (open_.2.2.2.1.1 = (0 : Int))) && ((decide (open_.2.2.2.1.2.1 = (0 : Int))) && ((decide (open_.2.2.2.1.2.2.1 = (0 : Int))) && ((open_.2.2.2.1.2.2.2 == false) && ((decide (open_.2.2.2.2.1.1 = (0 : Int))) && ((decide (open_.2.2.2.2.1.2 = (0 : Int))) && ((decide (open_.2.2.2.2.2.1 = (0 : Int))) && ((decide (open_.2.2.2.2.2.2.1 = (0 : Int))) && (decide (open_.2.2.2.2.2.2.2 = (0 : Int)))))))))))))))))) (
  some (s, (0 : Int))) (
  tif ((decide (open_.1 = j))) (
  some (s, (0 : Int))) (
  tif ((decide (j < open_.1))) (
  some (([], ([], [])), (1 : Int))) (
  obind (r14_begins n j c.2.1.1) fun r2 =>
  tif ((!r2)) (
  some (([], ([], [])), (1 : Int))) (
  obind (r13_Put n s.1 c.2.1.1 open_.1 open_.2) fun r3 =>
  obind (r14_up n c (r3.1, s.2) open_.1 j) fun r4 =>
  some (r4, (0 : Int)))))))) (
  tif (((decide (open_.1 = (0 : Int))) && ((decide (open_.2.1 = (0 : Int))) && ((decide (open_.2.2.1.1 = (0 : Int))) && ((decide (open_.2.2.1.2.1 = (0 : Int))) && ((decide (open_.2.2.1.2.2.1 = (0 : Int))) && ((open_.2.2.1.2.2.2 == false) && ((decide (open_.2.2.2.1.1 = (0 : Int))) && ((decide (open_.2.2.2.1.2.1 = (0 : Int))) && ((decide (open_.2.2.2.1.2.2.1 = (0 : Int))) && ((open_.2.2.2.1.2.2.2 == false) && ((decide (open_.2.2.2.2.1.1 = (0 : Int))) && ((decide (open_.2.2.2.2.1.2 = (0 : Int))) && ((decide (open_.2.2.2.2.2.1 = (0 : Int))) && ((decide (open_.2.2.2.2.2.2.1 = (0 : Int))) && (decide (open_.2.2.2.2.2.2.2 = (0 : Int)))))))))))))))))) (
  some (s, (0 : Int))) (
  tif ((decide (open_.1 = j))) (
  some (s, (0 : Int))) (
  tif ((decide (j < open_.1))) (
  some (([], ([], [])), (1 : Int))) (
  obind (r14_begins n j c.2.1.1) fun r5 =>
  tif ((!r5)) (
  some (([], ([], [])), (1 : Int))) (
  obind (r13_Put n s.1 c.2.1.1 open_.1 open_.2) fun r6 =>
  obind (r14_up n c (r6.1, s.2) open_.1 j) fun r7 =>
  some (r7, (0 : Int)))))))) := by kernel_rfl

theorem r12_Put_eq (n : Nat) (r : (Int × (Int × (List TEvent)))) (room : Int) (e : TEvent) : r12_Put (n + 1) r room e =
  obind (r12_Check n r room) fun r0 =>
  tif ((!(decide (r0 = (0 : Int))))) (
  some (((0 : Int), ((0 : Int), [])), (2 : Int))) (
  obind (r07_Check n e) fun r1 =>
  tif ((!(decide (r1 = (0 : Int))))) (
  some (((0 : Int), ((0 : Int), [])), (2 : Int))) (
  tif ((decide ((0 : Int) < (((List.length r.2.2) : Nat) : Int)))) (
  obind (at? r.2.2 (IntKind.wrap .i64 ((((List.length r.2.2) : Nat) : Int) - (1 : Int)))) fun r2 =>
  tif ((decide (e.1 ≤ r2.1))) (
  some (((0 : Int), ((0 : Int), [])), (9 : Int))) (
  tif ((decide ((((List.length r.2.2) : Nat) : Int) = room))) (
  tif ((decide (r.1 = (70368744177664 : Int)))) (
  some (((0 : Int), ((0 : Int), [])), (1 : Int))) (
  tif ((decide (((0 + (List.length r.2.2)) * 32) ≤ 140737488355328))) (
  tif ((decide ((((List.length ([] ++ r.2.2)) + 1) * 32) ≤ 140737488355328))) (
  tif ((decide ((((List.length r.2.2) : Nat) : Int) < room))) (
  some ((r.1, (r.2.1, (([] ++ r.2.2) ++ (e :: [])))), (0 : Int))) (
  obind (at? (([] ++ r.2.2) ++ (e :: [])) (0 : Int)) fun r3 =>
  obind (((([] ++ r.2.2) ++ (e :: [])))[0]?) fun r4 =>
  tif ((decide (1 ≤ (List.length (([] ++ r.2.2) ++ (e :: [])))))) (
  some (((IntKind.wrap .i64 (r.1 + (1 : Int))), (r4.1, (List.take ((List.length (([] ++ r.2.2) ++ (e :: []))) - 1) (List.drop 1 (([] ++ r.2.2) ++ (e :: [])))))), (0 : Int))) (
  none))) (
  none)) (
  none))) (
  tif ((decide (((0 + (List.length r.2.2)) * 32) ≤ 140737488355328))) (
  tif ((decide ((((List.length ([] ++ r.2.2)) + 1) * 32) ≤ 140737488355328))) (
  tif ((decide ((((List.length r.2.2) : Nat) : Int) < room))) (
  some ((r.1, (r.2.1, (([] ++ r.2.2) ++ (e :: [])))), (0 : Int))) (
  obind (at? (([] ++ r.2.2) ++ (e :: [])) (0 : Int)) fun r5 =>
  obind (((([] ++ r.2.2) ++ (e :: [])))[0]?) fun r6 =>
  tif ((decide (1 ≤ (List.length (([] ++ r.2.2) ++ (e :: [])))))) (
  some (((IntKind.wrap .i64 (r.1 + (1 : Int))), (r6.1, (List.take ((List.length (([] ++ r.2.2) ++ (e :: []))) - 1) (List.drop 1 (([] ++ r.2.2) ++ (e :: [])))))), (0 : Int))) (
  none))) (
  none)) (
  none)))) (
  tif ((decide ((((List.length r.2.2) : Nat) : Int) = room))) (
  tif ((decide (r.1 = (70368744177664 : Int)))) (
  some (((0 : Int), ((0 : Int), [])), (1 : Int))) (
  tif ((decide (((0 + (List.length r.2.2)) * 32) ≤ 140737488355328))) (
  tif ((decide ((((List.length ([] ++ r.2.2)) + 1) * 32) ≤ 140737488355328))) (
  tif ((decide ((((List.length r.2.2) : Nat) : Int) < room))) (
  some ((r.1, (r.2.1, (([] ++ r.2.2) ++ (e :: [])))), (0 : Int))) (
  obind (at? (([] ++ r.2.2) ++ (e :: [])) (0 : Int)) fun r7 =>
  obind (((([] ++ r.2.2) ++ (e :: [])))[0]?) fun r8 =>
  tif ((decide (1 ≤ (List.length (([] ++ r.2.2) ++ (e :: [])))))) (
  some (((IntKind.wrap .i64 (r.1 + (1 : Int))), (r8.1, (List.take ((List.length (([] ++ r.2.2) ++ (e :: []))) - 1) (List.drop 1 (([] ++ r.2.2) ++ (e :: [])))))), (0 : Int))) (
  none))) (
  none)) (
  none))) (
  tif ((decide (((0 + (List.length r.2.2)) * 32) ≤ 140737488355328))) (
  tif ((decide ((((List.length ([] ++ r.2.2)) + 1) * 32) ≤ 140737488355328))) (
  tif ((decide ((((List.length r.2.2) : Nat) : Int) < room))) (
  some ((r.1, (r.2.1, (([] ++ r.2.2) ++ (e :: [])))), (0 : Int))) (
  obind (at? (([] ++ r.2.2) ++ (e :: [])) (0 : Int)) fun r9 =>
  obind (((([] ++ r.2.2) ++ (e :: [])))[0]?) fun r10 =>
  tif ((decide (1 ≤ (List.length (([] ++ r.2.2) ++ (e :: [])))))) (
  some (((IntKind.wrap .i64 (r.1 + (1 : Int))), (r10.1, (List.take ((List.length (([] ++ r.2.2) ++ (e :: []))) - 1) (List.drop 1 (([] ++ r.2.2) ++ (e :: [])))))), (0 : Int))) (
  none))) (
  none)) (
  none))))) := by kernel_rfl

theorem r08_Add_eq (n : Nat) (c : TCell) (e : TEvent) : r08_Add (n + 1) c e =
  obind (r08_Of n (e :: [])) fun r0 =>
  tif ((!(decide (r0.2 = (0 : Int))))) (
  some (((0 : Int), (((0 : Int), ((0 : Int), ((0 : Int), false))), (((0 : Int), ((0 : Int), ((0 : Int), false))), (((0 : Int), (0 : Int)), ((0 : Int), ((0 : Int), (0 : Int))))))), r0.2)) (
  obind (r08_Merge n c r0.1) fun r1 =>
  some r1) := by kernel_rfl

theorem series_kept_now_eq_0 (n : Nat) (s : Tseries_kept) : series_kept_now (n + 1) s (0 : Int) =
  some (s.2.2.2.2.2.2, (0 : Int)) := by kernel_rfl
theorem series_kept_now_eq_1 (n : Nat) (s : Tseries_kept) : series_kept_now (n + 1) s (1 : Int) =
  tif ((decide (s.1.2.1.2.1 = (0 : Int)))) (
  none) (
  tif ((decide (s.1.2.1.1 = (0 : Int)))) (
  none) (
  tif ((decide (s.1.2.1.1 = (0 : Int)))) (
  none) (
  obind (tier_Fold n s.2.2.2.2.1.1 (IntKind.wrap .i64 ((IntKind.wrap .i64 (Int.tdiv s.2.2.1 s.1.2.1.2.1)) * (IntKind.wrap .i64 (Int.tdiv s.1.2.1.2.1 s.1.2.1.1)))) (IntKind.wrap .i64 (Int.tdiv s.2.2.1 s.1.2.1.1))) fun r0 =>
  obind (series_kept_now n s (0 : Int)) fun r1 =>
  tif ((!(decide (r0.2 = (0 : Int))))) (
  some (((0 : Int), (((0 : Int), ((0 : Int), ((0 : Int), false))), (((0 : Int), ((0 : Int), ((0 : Int), false))), (((0 : Int), (0 : Int)), ((0 : Int), ((0 : Int), (0 : Int))))))), (if r0.2 < r1.2 then r1.2 else r0.2))) (
  tif ((!(decide (r1.2 = (0 : Int))))) (
  some (((0 : Int), (((0 : Int), ((0 : Int), ((0 : Int), false))), (((0 : Int), ((0 : Int), ((0 : Int), false))), (((0 : Int), (0 : Int)), ((0 : Int), ((0 : Int), (0 : Int))))))), (if r0.2 < r1.2 then r1.2 else r0.2))) (
  obind (cell_Merge n r0.1 r1.1) fun r2 =>
  some r2))))) := by kernel_rfl
theorem series_kept_now_eq_2 (n : Nat) (s : Tseries_kept) : series_kept_now (n + 1) s (2 : Int) =
  tif ((decide (s.1.2.1.2.2 = (0 : Int)))) (
  none) (
  tif ((decide (s.1.2.1.2.1 = (0 : Int)))) (
  none) (
  tif ((decide (s.1.2.1.2.1 = (0 : Int)))) (
  none) (
  obind (tier_Fold n s.2.2.2.2.1.2.1 (IntKind.wrap .i64 ((IntKind.wrap .i64 (Int.tdiv s.2.2.1 s.1.2.1.2.2)) * (IntKind.wrap .i64 (Int.tdiv s.1.2.1.2.2 s.1.2.1.2.1)))) (IntKind.wrap .i64 (Int.tdiv s.2.2.1 s.1.2.1.2.1))) fun r0 =>
  obind (series_kept_now n s (1 : Int)) fun r1 =>
  tif ((!(decide (r0.2 = (0 : Int))))) (
  some (((0 : Int), (((0 : Int), ((0 : Int), ((0 : Int), false))), (((0 : Int), ((0 : Int), ((0 : Int), false))), (((0 : Int), (0 : Int)), ((0 : Int), ((0 : Int), (0 : Int))))))), (if r0.2 < r1.2 then r1.2 else r0.2))) (
  tif ((!(decide (r1.2 = (0 : Int))))) (
  some (((0 : Int), (((0 : Int), ((0 : Int), ((0 : Int), false))), (((0 : Int), ((0 : Int), ((0 : Int), false))), (((0 : Int), (0 : Int)), ((0 : Int), ((0 : Int), (0 : Int))))))), (if r0.2 < r1.2 then r1.2 else r0.2))) (
  obind (cell_Merge n r0.1 r1.1) fun r2 =>
  some r2))))) := by kernel_rfl

theorem tier_Get_eq (n : Nat) (l : (List TSlot)) (i : Int) : tier_Get (n + 1) l i =
  tif ((decide (i < (0 : Int)))) (
  some ((0 : Int), (((0 : Int), ((0 : Int), ((0 : Int), false))), (((0 : Int), ((0 : Int), ((0 : Int), false))), (((0 : Int), (0 : Int)), ((0 : Int), ((0 : Int), (0 : Int)))))))) (
  tif ((decide ((((List.length l) : Nat) : Int) = (0 : Int)))) (
  some ((0 : Int), (((0 : Int), ((0 : Int), ((0 : Int), false))), (((0 : Int), ((0 : Int), ((0 : Int), false))), (((0 : Int), (0 : Int)), ((0 : Int), ((0 : Int), (0 : Int)))))))) (
  obind (window_Slot n i (((List.length l) : Nat) : Int)) fun r0 =>
  obind (at? l r0) fun r1 =>
  tif ((decide (r1.1 = i))) (
  some r1.2) (
  some ((0 : Int), (((0 : Int), ((0 : Int), ((0 : Int), false))), (((0 : Int), ((0 : Int), ((0 : Int), false))), (((0 : Int), (0 : Int)), ((0 : Int), ((0 : Int), (0 : Int)))))))))) := by kernel_rfl

theorem r15_one_eq_0 (n : Nat) (c : TConfig) (s : TSeries) (i : Int) : r15_one (n + 1) c s (0 : Int) i =
  tif ((decide (s.2.1 = ((-1) : Int)))) (
  some (((0 : Int), (((0 : Int), ((0 : Int), ((0 : Int), false))), (((0 : Int), ((0 : Int), ((0 : Int), false))), (((0 : Int), (0 : Int)), ((0 : Int), ((0 : Int), (0 : Int))))))), (0 : Int))) (
  tif ((decide (c.2.1.1 = (0 : Int)))) (
  none) (
  tif ((decide ((IntKind.wrap .i64 (Int.tdiv s.2.1 c.2.1.1)) < i))) (
  some (((0 : Int), (((0 : Int), ((0 : Int), ((0 : Int), false))), (((0 : Int), ((0 : Int), ((0 : Int), false))), (((0 : Int), (0 : Int)), ((0 : Int), ((0 : Int), (0 : Int))))))), (0 : Int))) (
  tif ((decide (c.2.1.1 = (0 : Int)))) (
  none) (
  tif ((decide (i < (IntKind.wrap .i64 (Int.tdiv s.2.1 c.2.1.1))))) (
  obind (r13_Get n s.2.2.2.1.1 i) fun r0 =>
  some (r0, (0 : Int))) (
  some (s.2.2.2.2.2, (0 : Int))))))) := by kernel_rfl
theorem r15_one_eq_1 (n : Nat) (c : TConfig) (s : TSeries) (i : Int) : r15_one (n + 1) c s (1 : Int) i =
  tif ((decide (s.2.1 = ((-1) : Int)))) (
  some (((0 : Int), (((0 : Int), ((0 : Int), ((0 : Int), false))), (((0 : Int), ((0 : Int), ((0 : Int), false))), (((0 : Int), (0 : Int)), ((0 : Int), ((0 : Int), (0 : Int))))))), (0 : Int))) (
  tif ((decide (c.2.1.2.1 = (0 : Int)))) (
  none) (
  tif ((decide ((IntKind.wrap .i64 (Int.tdiv s.2.1 c.2.1.2.1)) < i))) (
  some (((0 : Int), (((0 : Int), ((0 : Int), ((0 : Int), false))), (((0 : Int), ((0 : Int), ((0 : Int), false))), (((0 : Int), (0 : Int)), ((0 : Int), ((0 : Int), (0 : Int))))))), (0 : Int))) (
  tif ((decide (c.2.1.2.1 = (0 : Int)))) (
  none) (
  tif ((decide (i < (IntKind.wrap .i64 (Int.tdiv s.2.1 c.2.1.2.1))))) (
  obind (r13_Get n s.2.2.2.1.2.1 i) fun r0 =>
  some (r0, (0 : Int))) (
  tif ((decide (c.2.1.1 = (0 : Int)))) (
  none) (
  obind (r10_Factor n c (1 : Int)) fun r1 =>
  obind (r13_Fold n s.2.2.2.1.1 (IntKind.wrap .i64 (i * r1)) (IntKind.wrap .i64 (Int.tdiv s.2.1 c.2.1.1))) fun r2 =>
  tif ((!(decide (r2.2 = (0 : Int))))) (
  some (((0 : Int), (((0 : Int), ((0 : Int), ((0 : Int), false))), (((0 : Int), ((0 : Int), ((0 : Int), false))), (((0 : Int), (0 : Int)), ((0 : Int), ((0 : Int), (0 : Int))))))), r2.2)) (
  obind (r15_one n c s (0 : Int) (IntKind.wrap .i64 (Int.tdiv s.2.1 c.2.1.1))) fun r3 =>
  tif ((!(decide (r3.2 = (0 : Int))))) (
  some (((0 : Int), (((0 : Int), ((0 : Int), ((0 : Int), false))), (((0 : Int), ((0 : Int), ((0 : Int), false))), (((0 : Int), (0 : Int)), ((0 : Int), ((0 : Int), (0 : Int))))))), r3.2)) (
  obind (r08_Merge n r2.1 r3.1) fun r4 =>
  some r4)))))))) := by kernel_rfl
theorem r15_one_eq_2 (n : Nat) (c : TConfig) (s : TSeries) (i : Int) : r15_one (n + 1) c s (2 : Int) i =
  tif ((decide (s.2.1 = ((-1) : Int)))) (
  some (((0 : Int), (((0 : Int), ((0 : Int), ((0 : Int), false))), (((0 : Int), ((0 : Int), ((0 : Int), false))), (((0 : Int), (0 : Int)), ((0 : Int), ((0 : Int), (0 : Int))))))), (0 : Int))) (
  tif ((decide (c.2.1.2.2 = (0 : Int)))) (
  none) (
  tif ((decide ((IntKind.wrap .i64 (Int.tdiv s.2.1 c.2.1.2.2)) < i))) (
  some (((0 : Int), (((0 : Int), ((0 : Int), ((0 : Int), false))), (((0 : Int), ((0 : Int), ((0 : Int), false))), (((0 : Int), (0 : Int)), ((0 : Int), ((0 : Int), (0 : Int))))))), (0 : Int))) (
  tif ((decide (c.2.1.2.2 = (0 : Int)))) (
  none) (
  tif ((decide (i < (IntKind.wrap .i64 (Int.tdiv s.2.1 c.2.1.2.2))))) (
  obind (r13_Get n s.2.2.2.1.2.2 i) fun r0 =>
  some (r0, (0 : Int))) (
  tif ((decide (c.2.1.2.1 = (0 : Int)))) (
  none) (
  obind (r10_Factor n c (2 : Int)) fun r1 =>
  obind (r13_Fold n s.2.2.2.1.2.1 (IntKind.wrap .i64 (i * r1)) (IntKind.wrap .i64 (Int.tdiv s.2.1 c.2.1.2.1))) fun r2 =>
  tif ((!(decide (r2.2 = (0 : Int))))) (
  some (((0 : Int), (((0 : Int), ((0 : Int), ((0 : Int), false))), (((0 : Int), ((0 : Int), ((0 : Int), false))), (((0 : Int), (0 : Int)), ((0 : Int), ((0 : Int), (0 : Int))))))), r2.2)) (
  obind (r15_one n c s (1 : Int) (IntKind.wrap .i64 (Int.tdiv s.2.1 c.2.1.2.1))) fun r3 =>
  tif ((!(decide (r3.2 = (0 : Int))))) (
  some (((0 : Int), (((0 : Int), ((0 : Int), ((0 : Int), false))), (((0 : Int), ((0 : Int), ((0 : Int), false))), (((0 : Int), (0 : Int)), ((0 : Int), ((0 : Int), (0 : Int))))))), r3.2)) (
  obind (r08_Merge n r2.1 r3.1) fun r4 =>
  some r4)))))))) := by kernel_rfl

theorem series_kept_span_eq_0 (n : Nat) (s : Tseries_kept) (i : Int) (j : Int) : series_kept_span (n + 1) s (0 : Int) i j =
  tif ((decide (s.2.2.1 = ((-1) : Int)))) (
  some (((0 : Int), (((0 : Int), ((0 : Int), ((0 : Int), false))), (((0 : Int), ((0 : Int), ((0 : Int), false))), (((0 : Int), (0 : Int)), ((0 : Int), ((0 : Int), (0 : Int))))))), (0 : Int))) (
  tif ((decide (s.1.2.1.1 = (0 : Int)))) (
  none) (
  obind (tier_Fold n s.2.2.2.2.1.1 i j) fun r0 =>
  tif ((!(decide (r0.2 = (0 : Int))))) (
  some r0) (
  tif ((decide ((IntKind.wrap .i64 (Int.tdiv s.2.2.1 s.1.2.1.1)) < i))) (
  some r0) (
  tif ((decide (j ≤ (IntKind.wrap .i64 (Int.tdiv s.2.2.1 s.1.2.1.1))))) (
  some r0) (
  obind (series_kept_now n s (0 : Int)) fun r1 =>
  tif ((!(decide (r1.2 = (0 : Int))))) (
  some (((0 : Int), (((0 : Int), ((0 : Int), ((0 : Int), false))), (((0 : Int), ((0 : Int), ((0 : Int), false))), (((0 : Int), (0 : Int)), ((0 : Int), ((0 : Int), (0 : Int))))))), r1.2)) (
  obind (cell_Merge n r0.1 r1.1) fun r2 =>
  some r2)))))) := by kernel_rfl
theorem series_kept_span_eq_1 (n : Nat) (s : Tseries_kept) (i : Int) (j : Int) : series_kept_span (n + 1) s (1 : Int) i j =
  tif ((decide (s.2.2.1 = ((-1) : Int)))) (
  some (((0 : Int), (((0 : Int), ((0 : Int), ((0 : Int), false))), (((0 : Int), ((0 : Int), ((0 : Int), false))), (((0 : Int), (0 : Int)), ((0 : Int), ((0 : Int), (0 : Int))))))), (0 : Int))) (
  tif ((decide (s.1.2.1.2.1 = (0 : Int)))) (
  none) (
  obind (tier_Fold n s.2.2.2.2.1.2.1 i j) fun r0 =>
  tif ((!(decide (r0.2 = (0 : Int))))) (
  some r0) (
  tif ((decide ((IntKind.wrap .i64 (Int.tdiv s.2.2.1 s.1.2.1.2.1)) < i))) (
  some r0) (
  tif ((decide (j ≤ (IntKind.wrap .i64 (Int.tdiv s.2.2.1 s.1.2.1.2.1))))) (
  some r0) (
  obind (series_kept_now n s (1 : Int)) fun r1 =>
  tif ((!(decide (r1.2 = (0 : Int))))) (
  some (((0 : Int), (((0 : Int), ((0 : Int), ((0 : Int), false))), (((0 : Int), ((0 : Int), ((0 : Int), false))), (((0 : Int), (0 : Int)), ((0 : Int), ((0 : Int), (0 : Int))))))), r1.2)) (
  obind (cell_Merge n r0.1 r1.1) fun r2 =>
  some r2)))))) := by kernel_rfl
theorem series_kept_span_eq_2 (n : Nat) (s : Tseries_kept) (i : Int) (j : Int) : series_kept_span (n + 1) s (2 : Int) i j =
  tif ((decide (s.2.2.1 = ((-1) : Int)))) (
  some (((0 : Int), (((0 : Int), ((0 : Int), ((0 : Int), false))), (((0 : Int), ((0 : Int), ((0 : Int), false))), (((0 : Int), (0 : Int)), ((0 : Int), ((0 : Int), (0 : Int))))))), (0 : Int))) (
  tif ((decide (s.1.2.1.2.2 = (0 : Int)))) (
  none) (
  obind (tier_Fold n s.2.2.2.2.1.2.2 i j) fun r0 =>
  tif ((!(decide (r0.2 = (0 : Int))))) (
  some r0) (
  tif ((decide ((IntKind.wrap .i64 (Int.tdiv s.2.2.1 s.1.2.1.2.2)) < i))) (
  some r0) (
  tif ((decide (j ≤ (IntKind.wrap .i64 (Int.tdiv s.2.2.1 s.1.2.1.2.2))))) (
  some r0) (
  obind (series_kept_now n s (2 : Int)) fun r1 =>
  tif ((!(decide (r1.2 = (0 : Int))))) (
  some (((0 : Int), (((0 : Int), ((0 : Int), ((0 : Int), false))), (((0 : Int), ((0 : Int), ((0 : Int), false))), (((0 : Int), (0 : Int)), ((0 : Int), ((0 : Int), (0 : Int))))))), r1.2)) (
  obind (cell_Merge n r0.1 r1.1) fun r2 =>
  some r2)))))) := by kernel_rfl

end Go.Proofs.YtapadkjknnfifaaGreat
