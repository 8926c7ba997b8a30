/-
  What each function comes to by one step of the flat reading. Printed by program; the kernel looks at each.
-/
import Derived.Test.YthjnbidgliejkaaGreatTr0
import Derived.KernelRfl
set_option linter.unusedVariables false
namespace Go.Proofs.YthjnbidgliejkaaGreat
open Go.Flat
theorem l19_lives_eq (n : Nat)  : l19_lives (n + 1)  =
  obind (l10_Fit n ) fun r0 =>
  obind (state_New n r0) fun r1 =>
  tif ((!(decide (r1.2 = (0 : Int))))) (
  some false) (
  obind (write_One n r1.1 ((((97 : UInt8) :: []), []) :: []) ((3 : Int), ((2 : Int), ((0 : Int), false)))) fun r2 =>
  obind (write_One n r2.1 ((((98 : UInt8) :: []), []) :: []) ((4 : Int), ((1 : Int), ((0 : Int), false)))) fun r3 =>
  obind (write_All n r3.1 ((((97 : UInt8) :: []), []) :: []) (((5 : Int), ((3 : Int), ((0 : Int), false))) :: (((5 : Int), ((4 : Int), ((0 : Int), false))) :: (((6 : Int), ((0 : Int), ((0 : Int), false))) :: [])))) fun r4 =>
  obind (write_One n r1.1 [] ((3 : Int), ((0 : Int), ((0 : Int), false)))) fun r5 =>
  tif ((decide (r2.2 = (0 : Int)))) (
  tif ((decide (r3.2 = (0 : Int)))) (
  tif ((decide (r4.2.1 = (1 : Int)))) (
  tif ((decide (r4.2.2 = (9 : Int)))) (
  tif ((decide (r5.2 = (8 : Int)))) (
  obind (state_Many n r4.1) fun r6 =>
  tif ((decide (r6 = (2 : Int)))) (
  obind (at? r4.1.2.2.2 (0 : Int)) fun r7 =>
  tif ((decide (r7.2.1 = (5 : Int)))) (
  obind (at? r4.1.2.2.2 (1 : Int)) fun r8 =>
  tif ((decide (r8.2.1 = (4 : Int)))) (
  obind (state_Check n r4.1) fun r9 =>
  tif ((decide (r9 = (0 : Int)))) (
  tif ((decide ((((List.length r1.1.2.2.2) : Nat) : Int) = (3 : Int)))) (
  obind (at? r1.1.2.2.2 (0 : Int)) fun r10 =>
  obind ((r1.1.2.2.2)[0]?) fun r11 =>
  tif ((decide (r11.2.1 = (0 : Int)))) (
  obind (at? r1.1.2.2.2 (0 : Int)) fun r12 =>
  obind ((r1.1.2.2.2)[0]?) fun r13 =>
  some (decide ((((List.length r13.1) : Nat) : Int) = (0 : Int)))) (
  some false)) (
  some false)) (
  some false)) (
  some false)) (
  some false)) (
  some false)) (
  some false)) (
  some false)) (
  some false)) (
  some false)) (
  some false)) := by kernel_rfl
end Go.Proofs.YthjnbidgliejkaaGreat
