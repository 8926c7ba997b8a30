/-
  What each function comes to by one step of the flat reading. Printed by program; the kernel looks at each.
-/
import Derived.Test.YtapadkjknnfifaaGreatTr0
import Derived.KernelRfl
set_option linter.unusedVariables false
namespace Go.Proofs.YtapadkjknnfifaaGreat
open Go.Flat
theorem l20_CascadeTells_eq (n : Nat) (s : TState) (now : Int) (k : Int) : l20_CascadeTells (n + 1) s now k =
  obind (l17_Small n s) fun r0 =>
  tif ((decide (r0 = (0 : Int)))) (
  obind (l20_lives n ) fun r1 =>
  some r1) (
  obind (cascade_Tick n s now) fun r2 =>
  obind (r20_Tick n s now) fun r3 =>
  obind (cascade_Sealed n s k) fun r4 =>
  obind (r20_Sealed n s k) fun r5 =>
  obind (cascade_Kept n s k) fun r6 =>
  obind (r20_Kept n s k) fun r7 =>
  obind (l20_lives n ) fun r8 =>
  tif (r8) (
  obind (r17_Same n r2.1 r3.1) fun r9 =>
  tif (r9) (
  tif ((r2.2 == r3.2)) (
  tif ((decide (r4.1 = r5.1))) (
  tif ((decide (r4.2 = r5.2))) (
  tif ((decide (r6.1 = r7.1))) (
  tif ((decide (r6.2.1 = r7.2.1))) (
  tif ((decide (r6.2.2 = r7.2.2))) (
  obind (cascade_Steps n s now) fun r10 =>
  obind (r20_Steps n s now) fun r11 =>
  some ((decide (r10.1 = r11.1)) && ((decide (r10.2.1 = r11.2.1)) && (decide (r10.2.2 = r11.2.2))))) (
  some false)) (
  some false)) (
  some false)) (
  some false)) (
  some false)) (
  some false)) (
  some false)) (
  some false)) := by kernel_rfl
theorem l17_Small_eq (n : Nat) (s : TState) : l17_Small (n + 1) s =
  tif ((decide ((8 : Int) < (((List.length s.2.2.2) : Nat) : Int)))) (
  some (0 : Int)) (
  obind (l17_Small_l4 n loopFuel (s.2.2.2, ((((List.length s.2.2.2) : Nat) : Int), ((0 : Int), ())))) fun r0 =>
  selim (fun y1 =>
  some (1 : Int)) (fun z2 =>
  some z2) r0) := by kernel_rfl
theorem l17_Small_l4_eq (n f : Nat) (s10 : (List TSeries)) (s11 : Int) (s12 : Int) : l17_Small_l4 n (f + 1) (s10, s11, s12, ()) =
  tif ((decide (s12 < s11))) (
  obind (at? s10 s12) fun r0 =>
  obind (l15_Small n r0) fun r1 =>
  tif ((decide (r1 = (0 : Int)))) (
  some (.inr (0 : Int))) (
  l17_Small_l4 n f (s10, (s11, ((IntKind.wrap .i64 (s12 + (1 : Int))), ()))))) (
  some (.inl ())) := by kernel_rfl
theorem cascade_Tick_eq (n : Nat) (s : TState) (now : Int) : cascade_Tick (n + 1) s now =
  tif ((decide (now ≤ s.2.1))) (
  some (s, false)) (
  tif ((decide ((35184372088832 : Int) ≤ now))) (
  some (s, false)) (
  obind (state_Check n s) fun r0 =>
  tif ((!(decide (r0 = (0 : Int))))) (
  some (s, false)) (
  some ((s.1, (now, s.2.2)), true)))) := by kernel_rfl
theorem r20_Tick_eq (n : Nat) (s : TState) (now : Int) : r20_Tick (n + 1) s now =
  obind (r17_Check n s) fun r0 =>
  tif ((!(decide (r0 = (0 : Int))))) (
  some (s, false)) (
  tif ((decide (now ≤ s.2.1))) (
  some (s, false)) (
  tif ((decide ((35184372088832 : Int) ≤ now))) (
  some (s, false)) (
  some ((s.1, (now, s.2.2)), true)))) := by kernel_rfl
theorem cascade_Sealed_eq (n : Nat) (s : TState) (k : Int) : cascade_Sealed (n + 1) s k =
  obind (cascade_Kept n s k) fun r0 =>
  some r0.2 := by kernel_rfl
theorem r20_Sealed_eq (n : Nat) (s : TState) (k : Int) : r20_Sealed (n + 1) s k =
  obind (r20_Kept n s k) fun r0 =>
  some r0.2 := by kernel_rfl
theorem cascade_Kept_eq (n : Nat) (s : TState) (k : Int) : cascade_Kept (n + 1) s k =
  obind (cascade_tiers n s k) fun r0 =>
  tif ((!(decide (r0 = (0 : Int))))) (
  some ((0 : Int), ((0 : Int), r0))) (
  tif ((decide (k = (0 : Int)))) (
  tif ((decide (k = (0 : Int)))) (
  obind (window_Oldest n s.2.1 s.1.2.1.1 s.1.2.2.1.1) fun r1 =>
  tif ((decide (s.1.2.1.1 = (0 : Int)))) (
  none) (
  some (r1.1, ((IntKind.wrap .i64 (Int.tdiv s.2.1 s.1.2.1.1)), r1.2)))) (
  tif ((decide (k = (1 : Int)))) (
  obind (window_Oldest n s.2.1 s.1.2.1.1 s.1.2.2.1.2.1) fun r2 =>
  tif ((decide (s.1.2.1.1 = (0 : Int)))) (
  none) (
  some (r2.1, ((IntKind.wrap .i64 (Int.tdiv s.2.1 s.1.2.1.1)), r2.2)))) (
  tif ((decide (k = (2 : Int)))) (
  obind (window_Oldest n s.2.1 s.1.2.1.1 s.1.2.2.1.2.2) fun r3 =>
  tif ((decide (s.1.2.1.1 = (0 : Int)))) (
  none) (
  some (r3.1, ((IntKind.wrap .i64 (Int.tdiv s.2.1 s.1.2.1.1)), r3.2)))) (
  none)))) (
  tif ((decide (k = (1 : Int)))) (
  tif ((decide (k = (0 : Int)))) (
  obind (window_Oldest n s.2.1 s.1.2.1.2.1 s.1.2.2.1.1) fun r4 =>
  tif ((decide (s.1.2.1.2.1 = (0 : Int)))) (
  none) (
  some (r4.1, ((IntKind.wrap .i64 (Int.tdiv s.2.1 s.1.2.1.2.1)), r4.2)))) (
  tif ((decide (k = (1 : Int)))) (
  obind (window_Oldest n s.2.1 s.1.2.1.2.1 s.1.2.2.1.2.1) fun r5 =>
  tif ((decide (s.1.2.1.2.1 = (0 : Int)))) (
  none) (
  some (r5.1, ((IntKind.wrap .i64 (Int.tdiv s.2.1 s.1.2.1.2.1)), r5.2)))) (
  tif ((decide (k = (2 : Int)))) (
  obind (window_Oldest n s.2.1 s.1.2.1.2.1 s.1.2.2.1.2.2) fun r6 =>
  tif ((decide (s.1.2.1.2.1 = (0 : Int)))) (
  none) (
  some (r6.1, ((IntKind.wrap .i64 (Int.tdiv s.2.1 s.1.2.1.2.1)), r6.2)))) (
  none)))) (
  tif ((decide (k = (2 : Int)))) (
  tif ((decide (k = (0 : Int)))) (
  obind (window_Oldest n s.2.1 s.1.2.1.2.2 s.1.2.2.1.1) fun r7 =>
  tif ((decide (s.1.2.1.2.2 = (0 : Int)))) (
  none) (
  some (r7.1, ((IntKind.wrap .i64 (Int.tdiv s.2.1 s.1.2.1.2.2)), r7.2)))) (
  tif ((decide (k = (1 : Int)))) (
  obind (window_Oldest n s.2.1 s.1.2.1.2.2 s.1.2.2.1.2.1) fun r8 =>
  tif ((decide (s.1.2.1.2.2 = (0 : Int)))) (
  none) (
  some (r8.1, ((IntKind.wrap .i64 (Int.tdiv s.2.1 s.1.2.1.2.2)), r8.2)))) (
  tif ((decide (k = (2 : Int)))) (
  obind (window_Oldest n s.2.1 s.1.2.1.2.2 s.1.2.2.1.2.2) fun r9 =>
  tif ((decide (s.1.2.1.2.2 = (0 : Int)))) (
  none) (
  some (r9.1, ((IntKind.wrap .i64 (Int.tdiv s.2.1 s.1.2.1.2.2)), r9.2)))) (
  none)))) (
  none)))) := by kernel_rfl
theorem r20_Kept_eq (n : Nat) (s : TState) (k : Int) : r20_Kept (n + 1) s k =
  obind (r17_Check n s) fun r0 =>
  tif ((!(decide (r0 = (0 : Int))))) (
  some ((0 : Int), ((0 : Int), (2 : Int)))) (
  tif ((decide (k < (0 : Int)))) (
  some ((0 : Int), ((0 : Int), (1 : Int)))) (
  tif ((decide ((2 : Int) < k))) (
  some ((0 : Int), ((0 : Int), (1 : Int)))) (
  tif ((decide (k = (0 : Int)))) (
  tif ((decide (k = (0 : Int)))) (
  obind (r09_Oldest n s.2.1 s.1.2.1.1 s.1.2.2.1.1) fun r1 =>
  tif ((decide (k = (0 : Int)))) (
  obind (r09_Of n s.2.1 s.1.2.1.1) fun r2 =>
  some (r1.1, (r2.1, (0 : Int)))) (
  tif ((decide (k = (1 : Int)))) (
  obind (r09_Of n s.2.1 s.1.2.1.2.1) fun r3 =>
  some (r1.1, (r3.1, (0 : Int)))) (
  tif ((decide (k = (2 : Int)))) (
  obind (r09_Of n s.2.1 s.1.2.1.2.2) fun r4 =>
  some (r1.1, (r4.1, (0 : Int)))) (
  none)))) (
  tif ((decide (k = (1 : Int)))) (
  obind (r09_Oldest n s.2.1 s.1.2.1.1 s.1.2.2.1.2.1) fun r5 =>
  tif ((decide (k = (0 : Int)))) (
  obind (r09_Of n s.2.1 s.1.2.1.1) fun r6 =>
  some (r5.1, (r6.1, (0 : Int)))) (
  tif ((decide (k = (1 : Int)))) (
  obind (r09_Of n s.2.1 s.1.2.1.2.1) fun r7 =>
  some (r5.1, (r7.1, (0 : Int)))) (
  tif ((decide (k = (2 : Int)))) (
  obind (r09_Of n s.2.1 s.1.2.1.2.2) fun r8 =>
  some (r5.1, (r8.1, (0 : Int)))) (
  none)))) (
  tif ((decide (k = (2 : Int)))) (
  obind (r09_Oldest n s.2.1 s.1.2.1.1 s.1.2.2.1.2.2) fun r9 =>
  tif ((decide (k = (0 : Int)))) (
  obind (r09_Of n s.2.1 s.1.2.1.1) fun r10 =>
  some (r9.1, (r10.1, (0 : Int)))) (
  tif ((decide (k = (1 : Int)))) (
  obind (r09_Of n s.2.1 s.1.2.1.2.1) fun r11 =>
  some (r9.1, (r11.1, (0 : Int)))) (
  tif ((decide (k = (2 : Int)))) (
  obind (r09_Of n s.2.1 s.1.2.1.2.2) fun r12 =>
  some (r9.1, (r12.1, (0 : Int)))) (
  none)))) (
  none)))) (
  tif ((decide (k = (1 : Int)))) (
  tif ((decide (k = (0 : Int)))) (
  obind (r09_Oldest n s.2.1 s.1.2.1.2.1 s.1.2.2.1.1) fun r13 =>
  tif ((decide (k = (0 : Int)))) (
  obind (r09_Of n s.2.1 s.1.2.1.1) fun r14 =>
  some (r13.1, (r14.1, (0 : Int)))) (
  tif ((decide (k = (1 : Int)))) (
  obind (r09_Of n s.2.1 s.1.2.1.2.1) fun r15 =>
  some (r13.1, (r15.1, (0 : Int)))) (
  tif ((decide (k = (2 : Int)))) (
  obind (r09_Of n s.2.1 s.1.2.1.2.2) fun r16 =>
  some (r13.1, (r16.1, (0 : Int)))) (
  none)))) (
  tif ((decide (k = (1 : Int)))) (
  obind (r09_Oldest n s.2.1 s.1.2.1.2.1 s.1.2.2.1.2.1) fun r17 =>
  tif ((decide (k = (0 : Int)))) (
  obind (r09_Of n s.2.1 s.1.2.1.1) fun r18 =>
  some (r17.1, (r18.1, (0 : Int)))) (
  tif ((decide (k = (1 : Int)))) (
  obind (r09_Of n s.2.1 s.1.2.1.2.1) fun r19 =>
  some (r17.1, (r19.1, (0 : Int)))) (
  tif ((decide (k = (2 : Int)))) (
  obind (r09_Of n s.2.1 s.1.2.1.2.2) fun r20 =>
  some (r17.1, (r20.1, (0 : Int)))) (
  none)))) (
  tif ((decide (k = (2 : Int)))) (
  obind (r09_Oldest n s.2.1 s.1.2.1.2.1 s.1.2.2.1.2.2) fun r21 =>
  tif ((decide (k = (0 : Int)))) (
  obind (r09_Of n s.2.1 s.1.2.1.1) fun r22 =>
  some (r21.1, (r22.1, (0 : Int)))) (
  tif ((decide (k = (1 : Int)))) (
  obind (r09_Of n s.2.1 s.1.2.1.2.1) fun r23 =>
  some (r21.1, (r23.1, (0 : Int)))) (
  tif ((decide (k = (2 : Int)))) (
  obind (r09_Of n s.2.1 s.1.2.1.2.2) fun r24 =>
  some (r21.1, (r24.1, (0 : Int)))) (
  none)))) (
  none)))) (
  tif ((decide (k = (2 : Int)))) (
  tif ((decide (k = (0 : Int)))) (
  obind (r09_Oldest n s.2.1 s.1.2.1.2.2 s.1.2.2.1.1) fun r25 =>
  tif ((decide (k = (0 : Int)))) (
  obind (r09_Of n s.2.1 s.1.2.1.1) fun r26 =>
  some (r25.1, (r26.1, (0 : Int)))) (
  tif ((decide (k = (1 : Int)))) (
  obind (r09_Of n s.2.1 s.1.2.1.2.1) fun r27 =>
  some (r25.1, (r27.1, (0 : Int)))) (
  tif ((decide (k = (2 : Int)))) (
  obind (r09_Of n s.2.1 s.1.2.1.2.2) fun r28 =>
  some (r25.1, (r28.1, (0 : Int)))) (
  none)))) (
  tif ((decide (k = (1 : Int)))) (
  obind (r09_Oldest n s.2.1 s.1.2.1.2.2 s.1.2.2.1.2.1) fun r29 =>
  tif ((decide (k = (0 : Int)))) (
  obind (r09_Of n s.2.1 s.1.2.1.1) fun r30 =>
  some (r29.1, (r30.1, (0 : Int)))) (
  tif ((decide (k = (1 : Int)))) (
  obind (r09_Of n s.2.1 s.1.2.1.2.1) fun r31 =>
  some (r29.1, (r31.1, (0 : Int)))) (
  tif ((decide (k = (2 : Int)))) (
  obind (r09_Of n s.2.1 s.1.2.1.2.2) fun r32 =>
  some (r29.1, (r32.1, (0 : Int)))) (
  none)))) (
  tif ((decide (k = (2 : Int)))) (
  obind (r09_Oldest n s.2.1 s.1.2.1.2.2 s.1.2.2.1.2.2) fun r33 =>
  tif ((decide (k = (0 : Int)))) (
  obind (r09_Of n s.2.1 s.1.2.1.1) fun r34 =>
  some (r33.1, (r34.1, (0 : Int)))) (
  tif ((decide (k = (1 : Int)))) (
  obind (r09_Of n s.2.1 s.1.2.1.2.1) fun r35 =>
  some (r33.1, (r35.1, (0 : Int)))) (
  tif ((decide (k = (2 : Int)))) (
  obind (r09_Of n s.2.1 s.1.2.1.2.2) fun r36 =>
  some (r33.1, (r36.1, (0 : Int)))) (
  none)))) (
  none)))) (
  none)))))) := by kernel_rfl
theorem r17_Same_eq (n : Nat) (a : TState) (b : TState) : r17_Same (n + 1) a b =
  tif ((!((decide (a.1.1 = b.1.1)) && ((decide (a.1.2.1.1 = b.1.2.1.1)) && ((decide (a.1.2.1.2.1 = b.1.2.1.2.1)) && ((decide (a.1.2.1.2.2 = b.1.2.1.2.2)) && ((decide (a.1.2.2.1.1 = b.1.2.2.1.1)) && ((decide (a.1.2.2.1.2.1 = b.1.2.2.1.2.1)) && ((decide (a.1.2.2.1.2.2 = b.1.2.2.1.2.2)) && ((decide (a.1.2.2.2.1 = b.1.2.2.2.1)) && (decide (a.1.2.2.2.2 = b.1.2.2.2.2)))))))))))) (
  some false) (
  tif ((!(decide (a.2.1 = b.2.1)))) (
  some false) (
  tif ((!(decide (a.2.2.1 = b.2.2.1)))) (
  some false) (
  tif ((!(decide ((((List.length a.2.2.2) : Nat) : Int) = (((List.length b.2.2.2) : Nat) : Int))))) (
  some false) (
  obind (r17_Same_l4 n loopFuel (a, (b, ((((List.length a.2.2.2) : Nat) : Int), ((0 : Int), ()))))) fun r0 =>
  selim (fun y1 =>
  some true) (fun z2 =>
  some z2) r0)))) := by kernel_rfl
theorem r17_Same_l4_eq (n f : Nat) (a_ : TState) (b_ : TState) (s36 : Int) (s37 : Int) : r17_Same_l4 n (f + 1) (a_, b_, s36, s37, ()) =
  tif ((decide (s37 < s36))) (
  obind (at? a_.2.2.2 s37) fun r0 =>
  obind (at? b_.2.2.2 s37) fun r1 =>
  obind (r15_Same n r0 r1) fun r2 =>
  tif ((!r2)) (
  some (.inr false)) (
  r17_Same_l4 n f (a_, (b_, (s36, ((IntKind.wrap .i64 (s37 + (1 : Int))), ())))))) (
  some (.inl ())) := by kernel_rfl
theorem cascade_Steps_eq (n : Nat) (s : TState) (now : Int) : cascade_Steps (n + 1) s now =
  obind (cascade_Tick n s now) fun r0 =>
  tif (r0.2) (
  obind (cascade_Steps_l5 n loopFuel (s, (((0 : Int), ((0 : Int), (0 : Int))), (((0 : Int), ((0 : Int), (0 : Int))), (r0.1, (s.1.2.1, ((0 : Int), ()))))))) fun r1 =>
  selim (fun y2 =>
  some y2.2.1) (fun z3 =>
  some z3) r1) (
  some ((0 : Int), ((0 : Int), (0 : Int)))) := by kernel_rfl
theorem cascade_Steps_l5_eq (n f : Nat) (s_ : TState) (s4 : (Int × (Int × Int))) (out : (Int × (Int × Int))) (t : TState) (s19 : (Int × (Int × Int))) (s20 : Int) : cascade_Steps_l5 n (f + 1) (s_, s4, out, t, s19, s20, ()) =
  tif ((decide (s20 < (3 : Int)))) (
  tif ((decide (s20 = (0 : Int)))) (
  tif ((decide (s19.1 = (0 : Int)))) (
  none) (
  tif ((decide (s19.1 = (0 : Int)))) (
  none) (
  tif ((decide (s20 = (0 : Int)))) (
  cascade_Steps_l5 n f (s_, (s4, (((IntKind.wrap .i64 ((IntKind.wrap .i64 (Int.tdiv t.2.1 s19.1)) - (IntKind.wrap .i64 (Int.tdiv s_.2.1 s19.1)))), out.2), (t, (s19, ((IntKind.wrap .i64 (s20 + (1 : Int))), ()))))))) (
  tif ((decide (s20 = (1 : Int)))) (
  cascade_Steps_l5 n f (s_, (s4, ((out.1, ((IntKind.wrap .i64 ((IntKind.wrap .i64 (Int.tdiv t.2.1 s19.1)) - (IntKind.wrap .i64 (Int.tdiv s_.2.1 s19.1)))), out.2.2)), (t, (s19, ((IntKind.wrap .i64 (s20 + (1 : Int))), ()))))))) (
  tif ((decide (s20 = (2 : Int)))) (
  cascade_Steps_l5 n f (s_, (s4, ((out.1, (out.2.1, (IntKind.wrap .i64 ((IntKind.wrap .i64 (Int.tdiv t.2.1 s19.1)) - (IntKind.wrap .i64 (Int.tdiv s_.2.1 s19.1)))))), (t, (s19, ((IntKind.wrap .i64 (s20 + (1 : Int))), ()))))))) (
  none)))))) (
  tif ((decide (s20 = (1 : Int)))) (
  tif ((decide (s19.2.1 = (0 : Int)))) (
  none) (
  tif ((decide (s19.2.1 = (0 : Int)))) (
  none) (
  tif ((decide (s20 = (0 : Int)))) (
  cascade_Steps_l5 n f (s_, (s4, (((IntKind.wrap .i64 ((IntKind.wrap .i64 (Int.tdiv t.2.1 s19.2.1)) - (IntKind.wrap .i64 (Int.tdiv s_.2.1 s19.2.1)))), out.2), (t, (s19, ((IntKind.wrap .i64 (s20 + (1 : Int))), ()))))))) (
  tif ((decide (s20 = (1 : Int)))) (
  cascade_Steps_l5 n f (s_, (s4, ((out.1, ((IntKind.wrap .i64 ((IntKind.wrap .i64 (Int.tdiv t.2.1 s19.2.1)) - (IntKind.wrap .i64 (Int.tdiv s_.2.1 s19.2.1)))), out.2.2)), (t, (s19, ((IntKind.wrap .i64 (s20 + (1 : Int))), ()))))))) (
  tif ((decide (s20 = (2 : Int)))) (
  cascade_Steps_l5 n f (s_, (s4, ((out.1, (out.2.1, (IntKind.wrap .i64 ((IntKind.wrap .i64 (Int.tdiv t.2.1 s19.2.1)) - (IntKind.wrap .i64 (Int.tdiv s_.2.1 s19.2.1)))))), (t, (s19, ((IntKind.wrap .i64 (s20 + (1 : Int))), ()))))))) (
  none)))))) (
  tif ((decide (s20 = (2 : Int)))) (
  tif ((decide (s19.2.2 = (0 : Int)))) (
  none) (
  tif ((decide (s19.2.2 = (0 : Int)))) (
  none) (
  tif ((decide (s20 = (0 : Int)))) (
  cascade_Steps_l5 n f (s_, (s4, (((IntKind.wrap .i64 ((IntKind.wrap .i64 (Int.tdiv t.2.1 s19.2.2)) - (IntKind.wrap .i64 (Int.tdiv s_.2.1 s19.2.2)))), out.2), (t, (s19, ((IntKind.wrap .i64 (s20 + (1 : Int))), ()))))))) (
  tif ((decide (s20 = (1 : Int)))) (
  cascade_Steps_l5 n f (s_, (s4, ((out.1, ((IntKind.wrap .i64 ((IntKind.wrap .i64 (Int.tdiv t.2.1 s19.2.2)) - (IntKind.wrap .i64 (Int.tdiv s_.2.1 s19.2.2)))), out.2.2)), (t, (s19, ((IntKind.wrap .i64 (s20 + (1 : Int))), ()))))))) (
  tif ((decide (s20 = (2 : Int)))) (
  cascade_Steps_l5 n f (s_, (s4, ((out.1, (out.2.1, (IntKind.wrap .i64 ((IntKind.wrap .i64 (Int.tdiv t.2.1 s19.2.2)) - (IntKind.wrap .i64 (Int.tdiv s_.2.1 s19.2.2)))))), (t, (s19, ((IntKind.wrap .i64 (s20 + (1 : Int))), ()))))))) (
  none)))))) (
  none)))) (
  some (.inl (s4, (out, ())))) := by kernel_rfl
theorem r20_Steps_eq (n : Nat) (s : TState) (now : Int) : r20_Steps (n + 1) s now =
  obind (r20_Tick n s now) fun r0 =>
  tif ((!r0.2)) (
  some ((0 : Int), ((0 : Int), (0 : Int)))) (
  obind (r20_Steps_l6 n loopFuel (s, (((0 : Int), ((0 : Int), (0 : Int))), (((0 : Int), ((0 : Int), (0 : Int))), (r0.1, ((0 : Int), ())))))) fun r1 =>
  selim (fun y2 =>
  some y2.2.1) (fun z3 =>
  some z3) r1) := by kernel_rfl
theorem r20_Steps_l6_eq (n f : Nat) (s_ : TState) (s4 : (Int × (Int × Int))) (out : (Int × (Int × Int))) (t : TState) (k : Int) : r20_Steps_l6 n (f + 1) (s_, s4, out, t, k, ()) =
  tif ((decide (k < (3 : Int)))) (
  obind (r20_Sealed n s_ k) fun r0 =>
  obind (r20_Sealed n t k) fun r1 =>
  tif ((decide (k = (0 : Int)))) (
  r20_Steps_l6 n f (s_, (s4, (((IntKind.wrap .i64 (r1.1 - r0.1)), out.2), (t, ((IntKind.wrap .i64 (k + (1 : Int))), ())))))) (
  tif ((decide (k = (1 : Int)))) (
  r20_Steps_l6 n f (s_, (s4, ((out.1, ((IntKind.wrap .i64 (r1.1 - r0.1)), out.2.2)), (t, ((IntKind.wrap .i64 (k + (1 : Int))), ())))))) (
  tif ((decide (k = (2 : Int)))) (
  r20_Steps_l6 n f (s_, (s4, ((out.1, (out.2.1, (IntKind.wrap .i64 (r1.1 - r0.1)))), (t, ((IntKind.wrap .i64 (k + (1 : Int))), ())))))) (
  none)))) (
  some (.inl (s4, (out, ())))) := by kernel_rfl
theorem l15_Small_eq (n : Nat) (s : TSeries) : l15_Small (n + 1) s =
  obind (l05_Small n s.1) fun r0 =>
  tif ((decide (r0 = (0 : Int)))) (
  some (0 : Int)) (
  tif ((decide ((60 : Int) < (((List.length s.2.2.1.2.2) : Nat) : Int)))) (
  some (0 : Int)) (
  obind (l14_Small n s.2.2.2.1) fun r1 =>
  some r1)) := by kernel_rfl
end Go.Proofs.YtapadkjknnfifaaGreat
