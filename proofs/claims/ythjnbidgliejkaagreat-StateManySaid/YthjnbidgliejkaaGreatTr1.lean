/-
  What each function comes to by one step of the flat reading. Printed by program; the kernel looks at each.
-/
import Derived.Test.YthjnbidgliejkaaGreatTr0
import Derived.KernelRfl
set_option linter.unusedVariables false
namespace Go.Proofs.YthjnbidgliejkaaGreat
open Go.Flat
theorem l17_StateTells_eq (n : Nat) (s : TState) (o : TState) (l : (List (List UInt8 × List UInt8))) (i : Int) : l17_StateTells (n + 1) s o l i =
  obind (l17_Small n s) fun r0 =>
  tif ((decide (r0 = (0 : Int)))) (
  obind (l17_lives n ) fun r1 =>
  some r1) (
  obind (l17_Small n o) fun r2 =>
  tif ((decide (r2 = (0 : Int)))) (
  obind (l17_lives n ) fun r3 =>
  some r3) (
  obind (l05_Small n l) fun r4 =>
  tif ((decide (r4 = (0 : Int)))) (
  obind (l17_lives n ) fun r5 =>
  some r5) (
  obind (state_Find n s l) fun r6 =>
  obind (r17_Find n s l) fun r7 =>
  obind (state_Room n s) fun r8 =>
  obind (r17_Room n s) fun r9 =>
  obind (l17_lives n ) fun r10 =>
  tif (r10) (
  obind (state_Check n s) fun r11 =>
  obind (r17_Check n s) fun r12 =>
  tif ((decide (r11 = r12))) (
  tif ((decide (r6.1 = r7.1))) (
  tif ((decide (r6.2 = r7.2))) (
  tif ((decide (r8.1 = r9.1))) (
  tif ((decide (r8.2 = r9.2))) (
  obind (state_Live n s) fun r13 =>
  obind (r17_Live n s) fun r14 =>
  obind (r06_Same n r13 r14) fun r15 =>
  tif (r15) (
  obind (state_Many n s) fun r16 =>
  obind (r17_Live n s) fun r17 =>
  tif ((decide (r16 = (((List.length r17) : Nat) : Int)))) (
  obind (state_Lives n s i) fun r18 =>
  obind (r17_Lives n s i) fun r19 =>
  tif ((r18 == r19)) (
  obind (state_Mark n s) fun r20 =>
  obind (r17_Mark n s) fun r21 =>
  tif ((decide (r20 = r21))) (
  obind (state_Same n s o) fun r22 =>
  obind (r17_Same n s o) fun r23 =>
  some (r22 == r23)) (
  some false)) (
  some false)) (
  some false)) (
  some false)) (
  some false)) (
  some false)) (
  some false)) (
  some false)) (
  some false)) (
  some false)))) := by kernel_rfl
theorem l17_StateNew_eq (n : Nat) (c : TConfig) : l17_StateNew (n + 1) c =
  tif ((decide ((100 : Int) < c.2.2.2.1))) (
  tif ((decide (c.2.2.2.1 ≤ (65536 : Int)))) (
  obind (l17_lives n ) fun r0 =>
  some r0) (
  obind (state_New n c) fun r1 =>
  obind (r17_New n c) fun r2 =>
  obind (l17_lives n ) fun r3 =>
  tif (r3) (
  obind (r17_Same n r1.1 r2.1) fun r4 =>
  tif (r4) (
  tif ((decide (r1.2 = r2.2))) (
  tif ((!(decide (r1.2 = (0 : Int))))) (
  some true) (
  obind (state_Check n r1.1) fun r5 =>
  tif ((decide (r5 = (0 : Int)))) (
  obind (state_Many n r1.1) fun r6 =>
  some (decide (r6 = (0 : Int)))) (
  some false))) (
  some false)) (
  some false)) (
  some false))) (
  obind (state_New n c) fun r7 =>
  obind (r17_New n c) fun r8 =>
  obind (l17_lives n ) fun r9 =>
  tif (r9) (
  obind (r17_Same n r7.1 r8.1) fun r10 =>
  tif (r10) (
  tif ((decide (r7.2 = r8.2))) (
  tif ((!(decide (r7.2 = (0 : Int))))) (
  some true) (
  obind (state_Check n r7.1) fun r11 =>
  tif ((decide (r11 = (0 : Int)))) (
  obind (state_Many n r7.1) fun r12 =>
  some (decide (r12 = (0 : Int)))) (
  some false))) (
  some false)) (
  some false)) (
  some false)) := by kernel_rfl
theorem l17_StateMany_eq (n : Nat) (s : TState) (l : (List (List UInt8 × List UInt8))) : l17_StateMany (n + 1) s l =
  obind (l17_lives n ) fun r0 =>
  tif ((!r0)) (
  some false) (
  obind (l17_Small n s) fun r1 =>
  tif ((decide (r1 = (0 : Int)))) (
  some true) (
  obind (l05_Small n l) fun r2 =>
  tif ((decide (r2 = (0 : Int)))) (
  some true) (
  obind (state_Check n s) fun r3 =>
  tif ((!(decide (r3 = (0 : Int))))) (
  some true) (
  obind (l17_StateMany_l7 n loopFuel (l, (s, ((0 : Int), (s.2.2.2, ((((List.length s.2.2.2) : Nat) : Int), ((0 : Int), ()))))))) fun r4 =>
  selim (fun y5 =>
  obind (state_Room n y5.2.1) fun r6 =>
  tif ((!((decide (r6.2 = (7 : Int))) == (decide (y5.2.2.1 = (((List.length y5.2.1.2.2.2) : Nat) : Int)))))) (
  some false) (
  tif ((decide (r6.2 = (0 : Int)))) (
  obind (state_Lives n y5.2.1 r6.1) fun r7 =>
  tif (r7) (
  some false) (
  obind (state_Many n y5.2.1) fun r8 =>
  tif ((!(decide (y5.2.2.1 = r8)))) (
  some false) (
  obind (state_Find n y5.2.1 y5.1) fun r9 =>
  tif ((decide (r9.2 = (3 : Int)))) (
  tif ((decide (r9.1 = (0 : Int)))) (
  some true) (
  tif ((decide (r9.2 = (0 : Int)))) (
  obind (state_Lives n y5.2.1 r9.1) fun r10 =>
  some r10) (
  some false))) (
  tif ((decide (r9.2 = (0 : Int)))) (
  obind (state_Lives n y5.2.1 r9.1) fun r11 =>
  some r11) (
  some false))))) (
  obind (state_Many n y5.2.1) fun r12 =>
  tif ((!(decide (y5.2.2.1 = r12)))) (
  some false) (
  obind (state_Find n y5.2.1 y5.1) fun r13 =>
  tif ((decide (r13.2 = (3 : Int)))) (
  tif ((decide (r13.1 = (0 : Int)))) (
  some true) (
  tif ((decide (r13.2 = (0 : Int)))) (
  obind (state_Lives n y5.2.1 r13.1) fun r14 =>
  some r14) (
  some false))) (
  tif ((decide (r13.2 = (0 : Int)))) (
  obind (state_Lives n y5.2.1 r13.1) fun r15 =>
  some r15) (
  some false)))))) (fun z16 =>
  some z16) r4)))) := by kernel_rfl
theorem l17_StateMany_l7_eq (n f : Nat) (l : (List (List UInt8 × List UInt8))) (s_ : TState) (n_ : Int) (s30 : (List TSeries)) (s31 : Int) (s32 : Int) : l17_StateMany_l7 n (f + 1) (l, s_, n_, s30, s31, s32, ()) =
  tif ((decide (s32 < s31))) (
  obind (at? s30 s32) fun r0 =>
  obind (state_Lives n s_ s32) fun r1 =>
  tif ((!r1)) (
  l17_StateMany_l7 n f (l, (s_, (n_, (s30, (s31, ((IntKind.wrap .i64 (s32 + (1 : Int))), ()))))))) (
  obind (state_Find n s_ r0.1) fun r2 =>
  tif ((!(decide (r2.2 = (0 : Int))))) (
  some (.inr false)) (
  tif ((!(decide (r2.1 = s32)))) (
  some (.inr false)) (
  l17_StateMany_l7 n f (l, (s_, ((IntKind.wrap .i64 (n_ + (1 : Int))), (s30, (s31, ((IntKind.wrap .i64 (s32 + (1 : Int))), ())))))))))) (
  some (.inl (l, (s_, (n_, ()))))) := by kernel_rfl
theorem l17_Small_eq (n : Nat) (s : TState) : l17_Small (n + 1) s =
  tif ((decide ((8 : Int) < (((List.length s.2.2.2) : Nat) : Int)))) (
  some (0 : Int)) (
  obind (l17_Small_l4 n loopFuel (s.2.2.2, ((((List.length s.2.2.2) : Nat) : Int), ((0 : Int), ())))) fun r0 =>
  selim (fun y1 =>
  some (1 : Int)) (fun z2 =>
  some z2) r0) := by kernel_rfl
theorem l17_Small_l4_eq (n f : Nat) (s10 : (List TSeries)) (s11 : Int) (s12 : Int) : l17_Small_l4 n (f + 1) (s10, s11, s12, ()) =
  tif ((decide (s12 < s11))) (
  obind (at? s10 s12) fun r0 =>
  obind (l15_Small n r0) fun r1 =>
  tif ((decide (r1 = (0 : Int)))) (
  some (.inr (0 : Int))) (
  l17_Small_l4 n f (s10, (s11, ((IntKind.wrap .i64 (s12 + (1 : Int))), ()))))) (
  some (.inl ())) := by kernel_rfl
theorem l05_Small_eq (n : Nat) (l : (List (List UInt8 × List UInt8))) : l05_Small (n + 1) l =
  obind (l05_Small_l2 n loopFuel (l, ((((List.length l) : Nat) : Int), ((0 : Int), ())))) fun r0 =>
  selim (fun y1 =>
  some (1 : Int)) (fun z2 =>
  some z2) r0 := by kernel_rfl
theorem l05_Small_l2_eq (n f : Nat) (s5 : (List (List UInt8 × List UInt8))) (s6 : Int) (s7 : Int) : l05_Small_l2 n (f + 1) (s5, s6, s7, ()) =
  tif ((decide (s7 < s6))) (
  obind (at? s5 s7) fun r0 =>
  tif ((decide (s7 = (40 : Int)))) (
  some (.inr (0 : Int))) (
  tif ((decide ((1000 : Int) < (((List.length r0.1) : Nat) : Int)))) (
  some (.inr (0 : Int))) (
  tif ((decide ((1000 : Int) < (((List.length r0.2) : Nat) : Int)))) (
  some (.inr (0 : Int))) (
  l05_Small_l2 n f (s5, (s6, ((IntKind.wrap .i64 (s7 + (1 : Int))), ()))))))) (
  some (.inl ())) := by kernel_rfl
theorem state_Find_eq (n : Nat) (s : TState) (l : (List (List UInt8 × List UInt8))) : state_Find (n + 1) s l =
  obind (state_open n s) fun r0 =>
  tif ((!(decide (r0.2 = (0 : Int))))) (
  some ((0 : Int), r0.2)) (
  obind (state_view_place n r0.1 (fun y1 => state_Find_1 n y1.1 s l r0.1)) fun r2 =>
  tif ((decide (r2 < (0 : Int)))) (
  some ((0 : Int), (3 : Int))) (
  some (r2, (0 : Int)))) := by kernel_rfl
theorem r17_Find_eq (n : Nat) (s : TState) (l : (List (List UInt8 × List UInt8))) : r17_Find (n + 1) s l =
  obind (r17_whole n s) fun r0 =>
  tif ((!r0)) (
  some ((0 : Int), (2 : Int))) (
  obind (r17_Find_l4 n loopFuel (l, (s, (s.2.2.2, ((((List.length s.2.2.2) : Nat) : Int), ((0 : Int), ())))))) fun r1 =>
  selim (fun y2 =>
  some ((0 : Int), (3 : Int))) (fun z3 =>
  some z3) r1) := by kernel_rfl
theorem r17_Find_l4_eq (n f : Nat) (l : (List (List UInt8 × List UInt8))) (s_ : TState) (s12 : (List TSeries)) (s13 : Int) (s14 : Int) : r17_Find_l4 n (f + 1) (l, s_, s12, s13, s14, ()) =
  tif ((decide (s14 < s13))) (
  obind (at? s12 s14) fun r0 =>
  obind (r17_lives n s_ s14) fun r1 =>
  tif (r1) (
  obind (r05_Same n r0.1 l) fun r2 =>
  tif (r2) (
  some (.inr (s14, (0 : Int)))) (
  r17_Find_l4 n f (l, (s_, (s12, (s13, ((IntKind.wrap .i64 (s14 + (1 : Int))), ()))))))) (
  r17_Find_l4 n f (l, (s_, (s12, (s13, ((IntKind.wrap .i64 (s14 + (1 : Int))), ()))))))) (
  some (.inl ())) := by kernel_rfl
theorem state_Room_eq (n : Nat) (s : TState) : state_Room (n + 1) s =
  obind (state_open n s) fun r0 =>
  tif ((!(decide (r0.2 = (0 : Int))))) (
  some ((0 : Int), r0.2)) (
  obind (state_view_place n r0.1 (fun y1 => state_Room_1 n y1.1 r0.1)) fun r2 =>
  tif ((decide (r2 < (0 : Int)))) (
  some ((0 : Int), (7 : Int))) (
  some (r2, (0 : Int)))) := by kernel_rfl
theorem r17_Room_eq (n : Nat) (s : TState) : r17_Room (n + 1) s =
  obind (r17_whole n s) fun r0 =>
  tif ((!r0)) (
  some ((0 : Int), (2 : Int))) (
  obind (r17_Room_l4 n loopFuel (s, ((((List.length s.2.2.2) : Nat) : Int), ((0 : Int), ())))) fun r1 =>
  selim (fun y2 =>
  some ((0 : Int), (7 : Int))) (fun z3 =>
  some z3) r1) := by kernel_rfl
theorem r17_Room_l4_eq (n f : Nat) (s_ : TState) (s10 : Int) (s11 : Int) : r17_Room_l4 n (f + 1) (s_, s10, s11, ()) =
  tif ((decide (s11 < s10))) (
  obind (r17_lives n s_ s11) fun r0 =>
  tif ((!r0)) (
  some (.inr (s11, (0 : Int)))) (
  r17_Room_l4 n f (s_, (s10, ((IntKind.wrap .i64 (s11 + (1 : Int))), ()))))) (
  some (.inl ())) := by kernel_rfl
theorem state_Check_eq (n : Nat) (s : TState) : state_Check (n + 1) s =
  obind (state_open n s) fun r0 =>
  tif ((!(decide (r0.2 = (0 : Int))))) (
  some (2 : Int)) (
  obind (state_view_clock n r0.1) fun r1 =>
  tif ((!r1)) (
  some (2 : Int)) (
  obind (state_view_place n r0.1 (fun y2 => state_Check_1 n y2.1 r0.1)) fun r3 =>
  tif ((decide ((0 : Int) ≤ r3))) (
  some (2 : Int)) (
  some (0 : Int)))) := by kernel_rfl
theorem r17_Check_eq (n : Nat) (s : TState) : r17_Check (n + 1) s =
  obind (r17_whole n s) fun r0 =>
  tif ((!r0)) (
  some (2 : Int)) (
  obind (r17_time n s.2.1) fun r1 =>
  tif ((!r1)) (
  some (2 : Int)) (
  tif ((!(decide (s.2.2.1 = ((-1) : Int))))) (
  obind (r17_time n s.2.2.1) fun r2 =>
  tif ((!r2)) (
  some (2 : Int)) (
  tif ((decide (s.2.1 < s.2.2.1))) (
  some (2 : Int)) (
  obind (r17_Mark n s) fun r3 =>
  obind (r17_Check_l5 n loopFuel (s, ((IntKind.wrap .i64 (r3 + s.1.2.1.1)), (s.2.2.2, ((((List.length s.2.2.2) : Nat) : Int), ((0 : Int), ())))))) fun r4 =>
  selim (fun y5 =>
  some (0 : Int)) (fun z6 =>
  some z6) r4))) (
  tif ((decide (s.2.1 < s.2.2.1))) (
  some (2 : Int)) (
  obind (r17_Mark n s) fun r7 =>
  obind (r17_Check_l5 n loopFuel (s, ((IntKind.wrap .i64 (r7 + s.1.2.1.1)), (s.2.2.2, ((((List.length s.2.2.2) : Nat) : Int), ((0 : Int), ())))))) fun r8 =>
  selim (fun y9 =>
  some (0 : Int)) (fun z10 =>
  some z10) r8)))) := by kernel_rfl
theorem r17_Check_l5_eq (n f : Nat) (s_ : TState) (end_ : Int) (s42 : (List TSeries)) (s43 : Int) (s44 : Int) : r17_Check_l5 n (f + 1) (s_, end_, s42, s43, s44, ()) =
  tif ((decide (s44 < s43))) (
  obind (at? s42 s44) fun r0 =>
  obind (r17_Empty n r0) fun r1 =>
  tif (r1) (
  r17_Check_l5 n f (s_, (end_, (s42, (s43, ((IntKind.wrap .i64 (s44 + (1 : Int))), ())))))) (
  obind (r15_Check n s_.1 r0) fun r2 =>
  tif ((!(decide (r2 = (0 : Int))))) (
  some (.inr (2 : Int))) (
  tif ((decide (r0.2.1 < (0 : Int)))) (
  some (.inr (2 : Int))) (
  tif ((decide (end_ ≤ r0.2.1))) (
  some (.inr (2 : Int))) (
  tif (((decide ((0 : Int) ≤ s44)) && (decide (s44 ≤ (((List.length s_.2.2.2) : Nat) : Int))))) (
  obind (r17_Check_l11 n loopFuel (s_, (end_, (s44, (r0, (s42, (s43, (s44, ((((List.length (List.drop 0 (List.take (Int.toNat s44) s_.2.2.2))) : Nat) : Int), ((0 : Int), ())))))))))) fun r3 =>
  selim (fun y4 =>
  r17_Check_l5 n f (y4.1, (y4.2.1, (y4.2.2.1, (y4.2.2.2.1, ((IntKind.wrap .i64 (y4.2.2.2.2.1 + (1 : Int))), ())))))) (fun z5 =>
  some (.inr z5)) r3) (
  none)))))) (
  some (.inl ())) := by kernel_rfl
theorem r17_Check_l11_eq (n f : Nat) (s_ : TState) (end_ : Int) (i : Int) (x : TSeries) (s42 : (List TSeries)) (s43 : Int) (s44 : Int) (s71 : Int) (s72 : Int) : r17_Check_l11 n (f + 1) (s_, end_, i, x, s42, s43, s44, s71, s72, ()) =
  tif ((decide (s72 < s71))) (
  obind (r17_lives n s_ i) fun r0 =>
  tif (r0) (
  obind (r17_lives n s_ s72) fun r1 =>
  tif (r1) (
  obind (at? s_.2.2.2 s72) fun r2 =>
  obind (r05_Same n r2.1 x.1) fun r3 =>
  tif (r3) (
  some (.inr (2 : Int))) (
  r17_Check_l11 n f (s_, (end_, (i, (x, (s42, (s43, (s44, (s71, ((IntKind.wrap .i64 (s72 + (1 : Int))), ()))))))))))) (
  r17_Check_l11 n f (s_, (end_, (i, (x, (s42, (s43, (s44, (s71, ((IntKind.wrap .i64 (s72 + (1 : Int))), ()))))))))))) (
  r17_Check_l11 n f (s_, (end_, (i, (x, (s42, (s43, (s44, (s71, ((IntKind.wrap .i64 (s72 + (1 : Int))), ()))))))))))) (
  some (.inl (s_, (end_, (s42, (s43, (s44, ()))))))) := by kernel_rfl
theorem r06_Same_eq (n : Nat) (a : (List Int)) (b : (List Int)) : r06_Same (n + 1) a b =
  tif ((!(decide ((((List.length a) : Nat) : Int) = (((List.length b) : Nat) : Int))))) (
  some false) (
  obind (r06_Same_l4 n loopFuel (a, (b, ((((List.length a) : Nat) : Int), ((0 : Int), ()))))) fun r0 =>
  selim (fun y1 =>
  some true) (fun z2 =>
  some z2) r0) := by kernel_rfl
theorem r06_Same_l4_eq (n f : Nat) (a : (List Int)) (b : (List Int)) (s12 : Int) (s13 : Int) : r06_Same_l4 n (f + 1) (a, b, s12, s13, ()) =
  tif ((decide (s13 < s12))) (
  obind (at? a s13) fun r0 =>
  obind (at? b s13) fun r1 =>
  tif ((!(decide (r0 = r1)))) (
  some (.inr false)) (
  r06_Same_l4 n f (a, (b, (s12, ((IntKind.wrap .i64 (s13 + (1 : Int))), ())))))) (
  some (.inl ())) := by kernel_rfl
theorem state_Live_eq (n : Nat) (s : TState) : state_Live (n + 1) s =
  obind (state_open n s) fun r0 =>
  tif ((!(decide (r0.2 = (0 : Int))))) (
  some []) (
  obind (state_Live_l6 n loopFuel (r0.1, ([], ((((List.length r0.1.2.2.2) : Nat) : Int), ((0 : Int), ()))))) fun r1 =>
  selim (fun y2 =>
  some y2.1) (fun z3 =>
  some z3) r1) := by kernel_rfl
theorem state_Live_l6_eq (n f : Nat) (v : TState) (out : (List Int)) (s17 : Int) (s18 : Int) : state_Live_l6 n (f + 1) (v, out, s17, s18, ()) =
  tif ((decide (s18 < s17))) (
  obind (state_view_lives n v s18) fun r0 =>
  tif (r0) (
  tif ((decide ((((List.length out) + 1) * 8) ≤ 140737488355328))) (
  state_Live_l6 n f (v, ((out ++ (s18 :: [])), (s17, ((IntKind.wrap .i64 (s18 + (1 : Int))), ()))))) (
  none)) (
  state_Live_l6 n f (v, (out, (s17, ((IntKind.wrap .i64 (s18 + (1 : Int))), ())))))) (
  some (.inl (out, ()))) := by kernel_rfl
theorem r17_Live_eq (n : Nat) (s : TState) : r17_Live (n + 1) s =
  obind (r17_whole n s) fun r0 =>
  tif ((!r0)) (
  some []) (
  obind (r17_Live_l5 n loopFuel (s, ([], ((((List.length s.2.2.2) : Nat) : Int), ((0 : Int), ()))))) fun r1 =>
  selim (fun y2 =>
  some y2.1) (fun z3 =>
  some z3) r1) := by kernel_rfl
theorem r17_Live_l5_eq (n f : Nat) (s_ : TState) (out : (List Int)) (s10 : Int) (s11 : Int) : r17_Live_l5 n (f + 1) (s_, out, s10, s11, ()) =
  tif ((decide (s11 < s10))) (
  obind (r17_lives n s_ s11) fun r0 =>
  tif (r0) (
  tif ((decide ((((List.length out) + 1) * 8) ≤ 140737488355328))) (
  r17_Live_l5 n f (s_, ((out ++ (s11 :: [])), (s10, ((IntKind.wrap .i64 (s11 + (1 : Int))), ()))))) (
  none)) (
  r17_Live_l5 n f (s_, (out, (s10, ((IntKind.wrap .i64 (s11 + (1 : Int))), ())))))) (
  some (.inl (out, ()))) := by kernel_rfl
end Go.Proofs.YthjnbidgliejkaaGreat
