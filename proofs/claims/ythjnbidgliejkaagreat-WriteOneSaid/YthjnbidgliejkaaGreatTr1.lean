/-
  What each function comes to by one step of the flat reading. Printed by program; the kernel looks at each.
-/
import Derived.Test.YthjnbidgliejkaaGreatTr0
import Derived.KernelRfl
set_option linter.unusedVariables false
namespace Go.Proofs.YthjnbidgliejkaaGreat
open Go.Flat
theorem l19_WriteOne_eq (n : Nat) (s : TState) (l : (List (List UInt8 × List UInt8))) (es : (List TEvent)) : l19_WriteOne (n + 1) s l es =
  obind (l17_Small n s) fun r0 =>
  tif ((decide (r0 = (0 : Int)))) (
  obind (l19_lives n ) fun r1 =>
  some r1) (
  obind (l05_Small n l) fun r2 =>
  tif ((decide (r2 = (0 : Int)))) (
  obind (l19_lives n ) fun r3 =>
  some r3) (
  tif ((decide ((40 : Int) < (((List.length es) : Nat) : Int)))) (
  obind (l19_lives n ) fun r4 =>
  some r4) (
  obind (write_All n s l es) fun r5 =>
  obind (r19_All n s l es) fun r6 =>
  obind (r17_Same n r5.1 r6.1) fun r7 =>
  tif ((!r7)) (
  some false) (
  tif ((!(decide (r5.2.1 = r6.2.1)))) (
  some false) (
  tif ((!(decide (r5.2.2 = r6.2.2)))) (
  some false) (
  obind (l19_WriteOne_l8 n loopFuel (l, (s, (es, ((((List.length es) : Nat) : Int), ((0 : Int), ())))))) fun r8 =>
  selim (fun y9 =>
  obind (l19_lives n ) fun r10 =>
  some r10) (fun z11 =>
  some z11) r8)))))) := by kernel_rfl
theorem l19_WriteOne_l8_eq (n f : Nat) (l : (List (List UInt8 × List UInt8))) (s_ : TState) (s63 : (List TEvent)) (s64 : Int) (s65 : Int) : l19_WriteOne_l8 n (f + 1) (l, s_, s63, s64, s65, ()) =
  tif ((decide (s65 < s64))) (
  obind (at? s63 s65) fun r0 =>
  obind (write_One n s_ l r0) fun r1 =>
  obind (r19_One n s_ l r0) fun r2 =>
  obind (r17_Same n r1.1 r2.1) fun r3 =>
  tif ((!r3)) (
  some (.inr false)) (
  tif ((!(decide (r1.2 = r2.2)))) (
  some (.inr false)) (
  l19_WriteOne_l8 n f (l, (s_, (s63, (s64, ((IntKind.wrap .i64 (s65 + (1 : Int))), ())))))))) (
  some (.inl ())) := by kernel_rfl
theorem l17_Small_eq (n : Nat) (s : TState) : l17_Small (n + 1) s =
  tif ((decide ((8 : Int) < (((List.length s.2.2.2) : Nat) : Int)))) (
  some (0 : Int)) (
  obind (l17_Small_l4 n loopFuel (s.2.2.2, ((((List.length s.2.2.2) : Nat) : Int), ((0 : Int), ())))) fun r0 =>
  selim (fun y1 =>
  some (1 : Int)) (fun z2 =>
  some z2) r0) := by kernel_rfl
theorem l17_Small_l4_eq (n f : Nat) (s10 : (List TSeries)) (s11 : Int) (s12 : Int) : l17_Small_l4 n (f + 1) (s10, s11, s12, ()) =
  tif ((decide (s12 < s11))) (
  obind (at? s10 s12) fun r0 =>
  obind (l15_Small n r0) fun r1 =>
  tif ((decide (r1 = (0 : Int)))) (
  some (.inr (0 : Int))) (
  l17_Small_l4 n f (s10, (s11, ((IntKind.wrap .i64 (s12 + (1 : Int))), ()))))) (
  some (.inl ())) := by kernel_rfl
theorem l05_Small_eq (n : Nat) (l : (List (List UInt8 × List UInt8))) : l05_Small (n + 1) l =
  obind (l05_Small_l2 n loopFuel (l, ((((List.length l) : Nat) : Int), ((0 : Int), ())))) fun r0 =>
  selim (fun y1 =>
  some (1 : Int)) (fun z2 =>
  some z2) r0 := by kernel_rfl
theorem l05_Small_l2_eq (n f : Nat) (s5 : (List (List UInt8 × List UInt8))) (s6 : Int) (s7 : Int) : l05_Small_l2 n (f + 1) (s5, s6, s7, ()) =
  tif ((decide (s7 < s6))) (
  obind (at? s5 s7) fun r0 =>
  tif ((decide (s7 = (40 : Int)))) (
  some (.inr (0 : Int))) (
  tif ((decide ((1000 : Int) < (((List.length r0.1) : Nat) : Int)))) (
  some (.inr (0 : Int))) (
  tif ((decide ((1000 : Int) < (((List.length r0.2) : Nat) : Int)))) (
  some (.inr (0 : Int))) (
  l05_Small_l2 n f (s5, (s6, ((IntKind.wrap .i64 (s7 + (1 : Int))), ()))))))) (
  some (.inl ())) := by kernel_rfl
theorem state_Find_eq (n : Nat) (s : TState) (l : (List (List UInt8 × List UInt8))) : state_Find (n + 1) s l =
  obind (state_open n s) fun r0 =>
  tif ((!(decide (r0.2 = (0 : Int))))) (
  some ((0 : Int), r0.2)) (
  obind (state_view_place n r0.1 (fun y1 => state_Find_1 n y1.1 s l r0.1)) fun r2 =>
  tif ((decide (r2 < (0 : Int)))) (
  some ((0 : Int), (3 : Int))) (
  some (r2, (0 : Int)))) := by kernel_rfl
theorem r17_Find_eq (n : Nat) (s : TState) (l : (List (List UInt8 × List UInt8))) : r17_Find (n + 1) s l =
  obind (r17_whole n s) fun r0 =>
  tif ((!r0)) (
  some ((0 : Int), (2 : Int))) (
  obind (r17_Find_l4 n loopFuel (l, (s, (s.2.2.2, ((((List.length s.2.2.2) : Nat) : Int), ((0 : Int), ())))))) fun r1 =>
  selim (fun y2 =>
  some ((0 : Int), (3 : Int))) (fun z3 =>
  some z3) r1) := by kernel_rfl
theorem r17_Find_l4_eq (n f : Nat) (l : (List (List UInt8 × List UInt8))) (s_ : TState) (s12 : (List TSeries)) (s13 : Int) (s14 : Int) : r17_Find_l4 n (f + 1) (l, s_, s12, s13, s14, ()) =
  tif ((decide (s14 < s13))) (
  obind (at? s12 s14) fun r0 =>
  obind (r17_lives n s_ s14) fun r1 =>
  tif (r1) (
  obind (r05_Same n r0.1 l) fun r2 =>
  tif (r2) (
  some (.inr (s14, (0 : Int)))) (
  r17_Find_l4 n f (l, (s_, (s12, (s13, ((IntKind.wrap .i64 (s14 + (1 : Int))), ()))))))) (
  r17_Find_l4 n f (l, (s_, (s12, (s13, ((IntKind.wrap .i64 (s14 + (1 : Int))), ()))))))) (
  some (.inl ())) := by kernel_rfl
theorem state_Room_eq (n : Nat) (s : TState) : state_Room (n + 1) s =
  obind (state_open n s) fun r0 =>
  tif ((!(decide (r0.2 = (0 : Int))))) (
  some ((0 : Int), r0.2)) (
  obind (state_view_place n r0.1 (fun y1 => state_Room_1 n y1.1 r0.1)) fun r2 =>
  tif ((decide (r2 < (0 : Int)))) (
  some ((0 : Int), (7 : Int))) (
  some (r2, (0 : Int)))) := by kernel_rfl
theorem r17_Room_eq (n : Nat) (s : TState) : r17_Room (n + 1) s =
  obind (r17_whole n s) fun r0 =>
  tif ((!r0)) (
  some ((0 : Int), (2 : Int))) (
  obind (r17_Room_l4 n loopFuel (s, ((((List.length s.2.2.2) : Nat) : Int), ((0 : Int), ())))) fun r1 =>
  selim (fun y2 =>
  some ((0 : Int), (7 : Int))) (fun z3 =>
  some z3) r1) := by kernel_rfl
theorem r17_Room_l4_eq (n f : Nat) (s_ : TState) (s10 : Int) (s11 : Int) : r17_Room_l4 n (f + 1) (s_, s10, s11, ()) =
  tif ((decide (s11 < s10))) (
  obind (r17_lives n s_ s11) fun r0 =>
  tif ((!r0)) (
  some (.inr (s11, (0 : Int)))) (
  r17_Room_l4 n f (s_, (s10, ((IntKind.wrap .i64 (s11 + (1 : Int))), ()))))) (
  some (.inl ())) := by kernel_rfl
theorem state_Check_eq (n : Nat) (s : TState) : state_Check (n + 1) s =
  obind (state_open n s) fun r0 =>
  tif ((!(decide (r0.2 = (0 : Int))))) (
  some (2 : Int)) (
  obind (state_view_clock n r0.1) fun r1 =>
  tif ((!r1)) (
  some (2 : Int)) (
  obind (state_view_place n r0.1 (fun y2 => state_Check_1 n y2.1 r0.1)) fun r3 =>
  tif ((decide ((0 : Int) ≤ r3))) (
  some (2 : Int)) (
  some (0 : Int)))) := by kernel_rfl
theorem r17_Check_eq (n : Nat) (s : TState) : r17_Check (n + 1) s =
  obind (r17_whole n s) fun r0 =>
  tif ((!r0)) (
  some (2 : Int)) (
  obind (r17_time n s.2.1) fun r1 =>
  tif ((!r1)) (
  some (2 : Int)) (
  tif ((!(decide (s.2.2.1 = ((-1) : Int))))) (
  obind (r17_time n s.2.2.1) fun r2 =>
  tif ((!r2)) (
  some (2 : Int)) (
  tif ((decide (s.2.1 < s.2.2.1))) (
  some (2 : Int)) (
  obind (r17_Mark n s) fun r3 =>
  obind (r17_Check_l5 n loopFuel (s, ((IntKind.wrap .i64 (r3 + s.1.2.1.1)), (s.2.2.2, ((((List.length s.2.2.2) : Nat) : Int), ((0 : Int), ())))))) fun r4 =>
  selim (fun y5 =>
  some (0 : Int)) (fun z6 =>
  some z6) r4))) (
  tif ((decide (s.2.1 < s.2.2.1))) (
  some (2 : Int)) (
  obind (r17_Mark n s) fun r7 =>
  obind (r17_Check_l5 n loopFuel (s, ((IntKind.wrap .i64 (r7 + s.1.2.1.1)), (s.2.2.2, ((((List.length s.2.2.2) : Nat) : Int), ((0 : Int), ())))))) fun r8 =>
  selim (fun y9 =>
  some (0 : Int)) (fun z10 =>
  some z10) r8)))) := by kernel_rfl
theorem r17_Check_l5_eq (n f : Nat) (s_ : TState) (end_ : Int) (s42 : (List TSeries)) (s43 : Int) (s44 : Int) : r17_Check_l5 n (f + 1) (s_, end_, s42, s43, s44, ()) =
  tif ((decide (s44 < s43))) (
  obind (at? s42 s44) fun r0 =>
  obind (r17_Empty n r0) fun r1 =>
  tif (r1) (
  r17_Check_l5 n f (s_, (end_, (s42, (s43, ((IntKind.wrap .i64 (s44 + (1 : Int))), ())))))) (
  obind (r15_Check n s_.1 r0) fun r2 =>
  tif ((!(decide (r2 = (0 : Int))))) (
  some (.inr (2 : Int))) (
  tif ((decide (r0.2.1 < (0 : Int)))) (
  some (.inr (2 : Int))) (
  tif ((decide (end_ ≤ r0.2.1))) (
  some (.inr (2 : Int))) (
  tif (((decide ((0 : Int) ≤ s44)) && (decide (s44 ≤ (((List.length s_.2.2.2) : Nat) : Int))))) (
  obind (r17_Check_l11 n loopFuel (s_, (end_, (s44, (r0, (s42, (s43, (s44, ((((List.length (List.drop 0 (List.take (Int.toNat s44) s_.2.2.2))) : Nat) : Int), ((0 : Int), ())))))))))) fun r3 =>
  selim (fun y4 =>
  r17_Check_l5 n f (y4.1, (y4.2.1, (y4.2.2.1, (y4.2.2.2.1, ((IntKind.wrap .i64 (y4.2.2.2.2.1 + (1 : Int))), ())))))) (fun z5 =>
  some (.inr z5)) r3) (
  none)))))) (
  some (.inl ())) := by kernel_rfl
theorem r17_Check_l11_eq (n f : Nat) (s_ : TState) (end_ : Int) (i : Int) (x : TSeries) (s42 : (List TSeries)) (s43 : Int) (s44 : Int) (s71 : Int) (s72 : Int) : r17_Check_l11 n (f + 1) (s_, end_, i, x, s42, s43, s44, s71, s72, ()) =
  tif ((decide (s72 < s71))) (
  obind (r17_lives n s_ i) fun r0 =>
  tif (r0) (
  obind (r17_lives n s_ s72) fun r1 =>
  tif (r1) (
  obind (at? s_.2.2.2 s72) fun r2 =>
  obind (r05_Same n r2.1 x.1) fun r3 =>
  tif (r3) (
  some (.inr (2 : Int))) (
  r17_Check_l11 n f (s_, (end_, (i, (x, (s42, (s43, (s44, (s71, ((IntKind.wrap .i64 (s72 + (1 : Int))), ()))))))))))) (
  r17_Check_l11 n f (s_, (end_, (i, (x, (s42, (s43, (s44, (s71, ((IntKind.wrap .i64 (s72 + (1 : Int))), ()))))))))))) (
  r17_Check_l11 n f (s_, (end_, (i, (x, (s42, (s43, (s44, (s71, ((IntKind.wrap .i64 (s72 + (1 : Int))), ()))))))))))) (
  some (.inl (s_, (end_, (s42, (s43, (s44, ()))))))) := by kernel_rfl
end Go.Proofs.YthjnbidgliejkaaGreat
