/- Trees, printed by program. -/
import Derived.Test.YtefpnjjbopdplaaGreatDoorTr0
import Derived.KernelRfl
set_option linter.unusedVariables false
namespace Go.Proofs.YtefpnjjbopdplaaGreatDoor
open Go.Flat
theorem l37_WatchLesser_eq (n:Nat) (s:TState) (a:TAsk) (least:TFraction) (more:TFraction):l37_WatchLesser (n+1) s a least more =
 obind (l37_lives n ) fun r0 =>
 tif ((!r0)) (
 some false) (
 obind (l17_Small n s) fun r1 =>
 tif ((decide (r1=0))) (
 some true) (
 obind (l05_Small n a.1) fun r2 =>
 tif ((decide (r2=0))) (
 some true) (
 obind (stt_Check n s) fun r3 =>
 tif ((!(decide (r3=0)))) (
 some true) (
 obind (ratio_Less n more least) fun r4 =>
 obind (watch_One n s (a,more)) fun r5 =>
 obind (watch_One n s (a,least)) fun r6 =>
 tif ((decide (r4.2=0))) (
 tif ((!r4.1)) (
 tif ((decide (r5.2=0))) (
 tif (r5.1) (
 tif ((decide (r6.2=0))) (
 tif ((!r6.1)) (
 some false) (
 obind (query_Do n s a) fun r7 =>
 tif ((!(decide (r7.2=0)))) (
 tif ((!r5.1)) (
 some (!r6.1)) (
 some false)) (
 tif ((!(decide (r7.1.2.2.2=0)))) (
 tif ((!r5.1)) (
 some (!r6.1)) (
 some false)) (
 obind (watch_One n s (a,r7.1.2.2.1)) fun r8 =>
 obind (l37_rate n (0:Int) (1:Int)) fun r9 =>
 obind (watch_One n s (a,r9)) fun r10 =>
 tif ((r8.1==(decide (r8.2=0)))) (
 tif ((decide (r8.2=0))) (
 tif (r10.1) (
 some (decide (r10.2=0))) (
 some false)) (
 tif ((decide (r8.2=1))) (
 tif (r10.1) (
 some (decide (r10.2=0))) (
 some false)) (
 some false))) (
 some false))))) (
 obind (query_Do n s a) fun r11 =>
 tif ((!(decide (r11.2=0)))) (
 tif ((!r5.1)) (
 some (!r6.1)) (
 some false)) (
 tif ((!(decide (r11.1.2.2.2=0)))) (
 tif ((!r5.1)) (
 some (!r6.1)) (
 some false)) (
 obind (watch_One n s (a,r11.1.2.2.1)) fun r12 =>
 obind (l37_rate n (0:Int) (1:Int)) fun r13 =>
 obind (watch_One n s (a,r13)) fun r14 =>
 tif ((r12.1==(decide (r12.2=0)))) (
 tif ((decide (r12.2=0))) (
 tif (r14.1) (
 some (decide (r14.2=0))) (
 some false)) (
 tif ((decide (r12.2=1))) (
 tif (r14.1) (
 some (decide (r14.2=0))) (
 some false)) (
 some false))) (
 some false))))) (
 obind (query_Do n s a) fun r15 =>
 tif ((!(decide (r15.2=0)))) (
 tif ((!r5.1)) (
 some (!r6.1)) (
 some false)) (
 tif ((!(decide (r15.1.2.2.2=0)))) (
 tif ((!r5.1)) (
 some (!r6.1)) (
 some false)) (
 obind (watch_One n s (a,r15.1.2.2.1)) fun r16 =>
 obind (l37_rate n (0:Int) (1:Int)) fun r17 =>
 obind (watch_One n s (a,r17)) fun r18 =>
 tif ((r16.1==(decide (r16.2=0)))) (
 tif ((decide (r16.2=0))) (
 tif (r18.1) (
 some (decide (r18.2=0))) (
 some false)) (
 tif ((decide (r16.2=1))) (
 tif (r18.1) (
 some (decide (r18.2=0))) (
 some false)) (
 some false))) (
 some false))))) (
 obind (query_Do n s a) fun r19 =>
 tif ((!(decide (r19.2=0)))) (
 tif ((!r5.1)) (
 some (!r6.1)) (
 some false)) (
 tif ((!(decide (r19.1.2.2.2=0)))) (
 tif ((!r5.1)) (
 some (!r6.1)) (
 some false)) (
 obind (watch_One n s (a,r19.1.2.2.1)) fun r20 =>
 obind (l37_rate n (0:Int) (1:Int)) fun r21 =>
 obind (watch_One n s (a,r21)) fun r22 =>
 tif ((r20.1==(decide (r20.2=0)))) (
 tif ((decide (r20.2=0))) (
 tif (r22.1) (
 some (decide (r22.2=0))) (
 some false)) (
 tif ((decide (r20.2=1))) (
 tif (r22.1) (
 some (decide (r22.2=0))) (
 some false)) (
 some false))) (
 some false))))) (
 obind (query_Do n s a) fun r23 =>
 tif ((!(decide (r23.2=0)))) (
 tif ((!r5.1)) (
 some (!r6.1)) (
 some false)) (
 tif ((!(decide (r23.1.2.2.2=0)))) (
 tif ((!r5.1)) (
 some (!r6.1)) (
 some false)) (
 obind (watch_One n s (a,r23.1.2.2.1)) fun r24 =>
 obind (l37_rate n (0:Int) (1:Int)) fun r25 =>
 obind (watch_One n s (a,r25)) fun r26 =>
 tif ((r24.1==(decide (r24.2=0)))) (
 tif ((decide (r24.2=0))) (
 tif (r26.1) (
 some (decide (r26.2=0))) (
 some false)) (
 tif ((decide (r24.2=1))) (
 tif (r26.1) (
 some (decide (r26.2=0))) (
 some false)) (
 some false))) (
 some false))))) (
 obind (query_Do n s a) fun r27 =>
 tif ((!(decide (r27.2=0)))) (
 tif ((!r5.1)) (
 some (!r6.1)) (
 some false)) (
 tif ((!(decide (r27.1.2.2.2=0)))) (
 tif ((!r5.1)) (
 some (!r6.1)) (
 some false)) (
 obind (watch_One n s (a,r27.1.2.2.1)) fun r28 =>
 obind (l37_rate n (0:Int) (1:Int)) fun r29 =>
 obind (watch_One n s (a,r29)) fun r30 =>
 tif ((r28.1==(decide (r28.2=0)))) (
 tif ((decide (r28.2=0))) (
 tif (r30.1) (
 some (decide (r30.2=0))) (
 some false)) (
 tif ((decide (r28.2=1))) (
 tif (r30.1) (
 some (decide (r30.2=0))) (
 some false)) (
 some false))) (
 some false)))))))):=by kernel_rfl
end Go.Proofs.YtefpnjjbopdplaaGreatDoor
