/-
  What each function comes to by one step of the flat reading. Printed by program; the kernel looks at each.
-/
import Derived.Test.YtapadkjknnfifaaGreatTr0
import Derived.KernelRfl
set_option linter.unusedVariables false
namespace Go.Proofs.YtapadkjknnfifaaGreat
open Go.Flat
theorem r17_lives_eq (n : Nat) (s : TState) (i : Int) : r17_lives (n + 1) s i =
  obind (at? s.2.2.2 i) fun r0 =>
  obind (r17_Empty n r0) fun r1 =>
  tif ((!r1)) (
  tif ((decide (s.2.2.1 = ((-1) : Int)))) (
  some true) (
  obind (at? s.2.2.2 i) fun r2 =>
  obind (r15_Dead n s.1 r2.2.1 s.2.2.1) fun r3 =>
  some (!r3))) (
  some false) := by kernel_rfl
theorem state_view_lives_eq (n : Nat) (v : TState) (i : Int) : state_view_lives (n + 1) v i =
  obind (at? v.2.2.2 i) fun r0 =>
  obind (state_empty n r0) fun r1 =>
  tif ((!r1)) (
  tif ((decide (v.2.2.1 = ((-1) : Int)))) (
  some true) (
  obind (series_Dead n v.1 r0.2.1 v.2.2.1) fun r2 =>
  some (!r2))) (
  some false) := by kernel_rfl
end Go.Proofs.YtapadkjknnfifaaGreat
