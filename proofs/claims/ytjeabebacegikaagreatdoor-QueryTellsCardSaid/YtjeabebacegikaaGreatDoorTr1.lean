/-
  What each function comes to by one step of the flat reading. Printed by program; the kernel looks at each.
-/
import Derived.Test.YtjeabebacegikaaGreatDoorTr0
import Derived.KernelRfl
set_option linter.unusedVariables false
namespace Go.Proofs.YtjeabebacegikaaGreatDoor
open Go.Flat
theorem l22_QueryTells_eq (n:Nat) (s:TState) (a:TAsk) (c:TCell):l22_QueryTells (n+1) s a c =
  obind (l17_Small n s) fun r0 =>
  tif ((decide (r0=0))) (
  obind (l22_lives n ) fun r1 =>
  some r1) (
  obind (l05_Small n a.1) fun r2 =>
  tif ((decide (r2=0))) (
  obind (l22_lives n ) fun r3 =>
  some r3) (
  obind (query_Do n s a) fun r4 =>
  obind (r22_Do n s a) fun r5 =>
  obind (query_Tier n s a.2.1 a.2.2.1 a.2.2.2) fun r6 =>
  obind (r22_Tier n s a.2.1 a.2.2.1 a.2.2.2) fun r7 =>
  obind (query_Raw n s a.1 a.2.2.1 a.2.2.2) fun r8 =>
  obind (r22_Raw n s a.1 a.2.2.1 a.2.2.2) fun r9 =>
  obind (query_Rate n c) fun r10 =>
  obind (r22_Rate n c) fun r11 =>
  obind (l22_lives n ) fun r12 =>
  tif (r12) (
  tif (((decide (r4.1.1=r5.1.1))&&((decide (r4.1.2.1.1=r5.1.2.1.1))&&((decide (r4.1.2.1.2.1.1=r5.1.2.1.2.1.1))&&((decide (r4.1.2.1.2.1.2.1=r5.1.2.1.2.1.2.1))&&((decide (r4.1.2.1.2.1.2.2.1=r5.1.2.1.2.1.2.2.1))&&((r4.1.2.1.2.1.2.2.2==r5.1.2.1.2.1.2.2.2)&&((decide (r4.1.2.1.2.2.1.1=r5.1.2.1.2.2.1.1))&&((decide (r4.1.2.1.2.2.1.2.1=r5.1.2.1.2.2.1.2.1))&&((decide (r4.1.2.1.2.2.1.2.2.1=r5.1.2.1.2.2.1.2.2.1))&&((r4.1.2.1.2.2.1.2.2.2==r5.1.2.1.2.2.1.2.2.2)&&((decide (r4.1.2.1.2.2.2.1.1=r5.1.2.1.2.2.2.1.1))&&((decide (r4.1.2.1.2.2.2.1.2=r5.1.2.1.2.2.2.1.2))&&((decide (r4.1.2.1.2.2.2.2.1=r5.1.2.1.2.2.2.2.1))&&((decide (r4.1.2.1.2.2.2.2.2.1=r5.1.2.1.2.2.2.2.2.1))&&((decide (r4.1.2.1.2.2.2.2.2.2=r5.1.2.1.2.2.2.2.2.2))&&((decide (r4.1.2.2.1.1.1=r5.1.2.2.1.1.1))&&((decide (r4.1.2.2.1.1.2=r5.1.2.2.1.1.2))&&((decide (r4.1.2.2.1.2.1=r5.1.2.2.1.2.1))&&((decide (r4.1.2.2.1.2.2=r5.1.2.2.1.2.2))&&(decide (r4.1.2.2.2=r5.1.2.2.2)))))))))))))))))))))) (
  tif ((decide (r4.2=r5.2))) (
  tif ((decide (r6.1=r7.1))) (
  tif ((decide (r6.2=r7.2))) (
  obind (r12_SameList n r8.1 r9.1) fun r13 =>
  tif (r13) (
  tif ((decide (r8.2=r9.2))) (
  tif (((decide (r10.1.1.1=r11.1.1.1))&&((decide (r10.1.1.2=r11.1.1.2))&&((decide (r10.1.2.1=r11.1.2.1))&&(decide (r10.1.2.2=r11.1.2.2)))))) (
  some (decide (r10.2=r11.2))) (
  some false)) (
  some false)) (
  some false)) (
  some false)) (
  some false)) (
  some false)) (
  some false)) (
  some false))):=by kernel_rfl
end Go.Proofs.YtjeabebacegikaaGreatDoor
