/- Trees, printed by program. -/
import Derived.Test.YtjeabebacegikaaGreatDoorTr0
import Derived.KernelRfl
set_option linter.unusedVariables false
namespace Go.Proofs.YtjeabebacegikaaGreatDoor
open Go.Flat
theorem top_TopSwept_eq (n:Nat) (c:TConfig) (l:(List Tplimsolltop_Act)) (q:TAsk):top_TopSwept (n+1) c l q =
 obind (top_begins11 n ) fun r0 =>
 tif ((!r0)) (
 some false) (
 obind (top_fits11 n c) fun r1 =>
 tif ((!r1)) (
 some true) (
 obind (top_smallActs n l) fun r2 =>
 tif ((!r2)) (
 some true) (
 obind (l05_Small n q.1) fun r3 =>
 tif ((decide (r3=0))) (
 some true) (
 obind (stt_New n c) fun r4 =>
 obind (stt_New n c) fun r5 =>
 tif ((!(decide (r4.2=0)))) (
 some false) (
 tif ((!(decide (r5.2=0)))) (
 some false) (
 obind (top_TopSwept_l10 n loopFuel (q,(r4.1,(r5.1,(l,((((List.length l):Nat):Int),((0:Int),()))))))) fun r6 =>
 selim (fun y7 =>
 some true) (fun z8 =>
 some z8) r6)))))):=by kernel_rfl
theorem top_TopSwept_l10_eq (n f:Nat) (q_:TAsk) (s:TState) (t:TState) (s52:(List Tplimsolltop_Act)) (s53:Int) (s54:Int):top_TopSwept_l10 n (f+1) (q_,s,t,s52,s53,s54,()) =
 tif ((decide (s54<s53))) (
 obind (at? s52 s54) fun r0 =>
 tif ((decide (r0.1=0))) (
 tif (r0.2.1.2.2.2.2) (
 some (.inr true)) (
 tif ((decide (r0.1<2))) (
 obind (top_Act_Do n r0 s) fun r1 =>
 tif ((decide (r1.2=7))) (
 some (.inr true)) (
 obind (top_Act_Do n r0 t) fun r2 =>
 obind (query_Do n r1.1 q_) fun r3 =>
 obind (query_Do n r2.1 q_) fun r4 =>
 tif ((!(decide (r1.2=r2.2)))) (
 some (.inr false)) (
 tif ((!(decide (r3.2=r4.2)))) (
 some (.inr false)) (
 tif ((!((decide (r3.1.1=r4.1.1))&&((decide (r3.1.2.1.1=r4.1.2.1.1))&&((decide (r3.1.2.1.2.1.1=r4.1.2.1.2.1.1))&&((decide (r3.1.2.1.2.1.2.1=r4.1.2.1.2.1.2.1))&&((decide (r3.1.2.1.2.1.2.2.1=r4.1.2.1.2.1.2.2.1))&&((r3.1.2.1.2.1.2.2.2==r4.1.2.1.2.1.2.2.2)&&((decide (r3.1.2.1.2.2.1.1=r4.1.2.1.2.2.1.1))&&((decide (r3.1.2.1.2.2.1.2.1=r4.1.2.1.2.2.1.2.1))&&((decide (r3.1.2.1.2.2.1.2.2.1=r4.1.2.1.2.2.1.2.2.1))&&((r3.1.2.1.2.2.1.2.2.2==r4.1.2.1.2.2.1.2.2.2)&&((decide (r3.1.2.1.2.2.2.1.1=r4.1.2.1.2.2.2.1.1))&&((decide (r3.1.2.1.2.2.2.1.2=r4.1.2.1.2.2.2.1.2))&&((decide (r3.1.2.1.2.2.2.2.1=r4.1.2.1.2.2.2.2.1))&&((decide (r3.1.2.1.2.2.2.2.2.1=r4.1.2.1.2.2.2.2.2.1))&&((decide (r3.1.2.1.2.2.2.2.2.2=r4.1.2.1.2.2.2.2.2.2))&&((decide (r3.1.2.2.1.1.1=r4.1.2.2.1.1.1))&&((decide (r3.1.2.2.1.1.2=r4.1.2.2.1.1.2))&&((decide (r3.1.2.2.1.2.1=r4.1.2.2.1.2.1))&&((decide (r3.1.2.2.1.2.2=r4.1.2.2.1.2.2))&&(decide (r3.1.2.2.2=r4.1.2.2.2))))))))))))))))))))))) (
 some (.inr false)) (
 obind (stt_Check n r2.1) fun r5 =>
 tif ((!(decide (r5=0)))) (
 some (.inr false)) (
 top_TopSwept_l10 n f (q_,(r1.1,(r2.1,(s52,(s53,((IntKind.wrap .i64 (s54+1)),())))))))))))) (
 obind (top_Act_Do n r0 t) fun r6 =>
 obind (query_Do n s q_) fun r7 =>
 obind (query_Do n r6.1 q_) fun r8 =>
 tif ((!(decide ((0:Int)=r6.2)))) (
 some (.inr false)) (
 tif ((!(decide (r7.2=r8.2)))) (
 some (.inr false)) (
 tif ((!((decide (r7.1.1=r8.1.1))&&((decide (r7.1.2.1.1=r8.1.2.1.1))&&((decide (r7.1.2.1.2.1.1=r8.1.2.1.2.1.1))&&((decide (r7.1.2.1.2.1.2.1=r8.1.2.1.2.1.2.1))&&((decide (r7.1.2.1.2.1.2.2.1=r8.1.2.1.2.1.2.2.1))&&((r7.1.2.1.2.1.2.2.2==r8.1.2.1.2.1.2.2.2)&&((decide (r7.1.2.1.2.2.1.1=r8.1.2.1.2.2.1.1))&&((decide (r7.1.2.1.2.2.1.2.1=r8.1.2.1.2.2.1.2.1))&&((decide (r7.1.2.1.2.2.1.2.2.1=r8.1.2.1.2.2.1.2.2.1))&&((r7.1.2.1.2.2.1.2.2.2==r8.1.2.1.2.2.1.2.2.2)&&((decide (r7.1.2.1.2.2.2.1.1=r8.1.2.1.2.2.2.1.1))&&((decide (r7.1.2.1.2.2.2.1.2=r8.1.2.1.2.2.2.1.2))&&((decide (r7.1.2.1.2.2.2.2.1=r8.1.2.1.2.2.2.2.1))&&((decide (r7.1.2.1.2.2.2.2.2.1=r8.1.2.1.2.2.2.2.2.1))&&((decide (r7.1.2.1.2.2.2.2.2.2=r8.1.2.1.2.2.2.2.2.2))&&((decide (r7.1.2.2.1.1.1=r8.1.2.2.1.1.1))&&((decide (r7.1.2.2.1.1.2=r8.1.2.2.1.1.2))&&((decide (r7.1.2.2.1.2.1=r8.1.2.2.1.2.1))&&((decide (r7.1.2.2.1.2.2=r8.1.2.2.1.2.2))&&(decide (r7.1.2.2.2=r8.1.2.2.2))))))))))))))))))))))) (
 some (.inr false)) (
 obind (stt_Check n r6.1) fun r9 =>
 tif ((!(decide (r9=0)))) (
 some (.inr false)) (
 top_TopSwept_l10 n f (q_,(s,(r6.1,(s52,(s53,((IntKind.wrap .i64 (s54+1)),()))))))))))))) (
 tif ((decide (r0.1<2))) (
 obind (top_Act_Do n r0 s) fun r10 =>
 tif ((decide (r10.2=7))) (
 some (.inr true)) (
 obind (top_Act_Do n r0 t) fun r11 =>
 obind (query_Do n r10.1 q_) fun r12 =>
 obind (query_Do n r11.1 q_) fun r13 =>
 tif ((!(decide (r10.2=r11.2)))) (
 some (.inr false)) (
 tif ((!(decide (r12.2=r13.2)))) (
 some (.inr false)) (
 tif ((!((decide (r12.1.1=r13.1.1))&&((decide (r12.1.2.1.1=r13.1.2.1.1))&&((decide (r12.1.2.1.2.1.1=r13.1.2.1.2.1.1))&&((decide (r12.1.2.1.2.1.2.1=r13.1.2.1.2.1.2.1))&&((decide (r12.1.2.1.2.1.2.2.1=r13.1.2.1.2.1.2.2.1))&&((r12.1.2.1.2.1.2.2.2==r13.1.2.1.2.1.2.2.2)&&((decide (r12.1.2.1.2.2.1.1=r13.1.2.1.2.2.1.1))&&((decide (r12.1.2.1.2.2.1.2.1=r13.1.2.1.2.2.1.2.1))&&((decide (r12.1.2.1.2.2.1.2.2.1=r13.1.2.1.2.2.1.2.2.1))&&((r12.1.2.1.2.2.1.2.2.2==r13.1.2.1.2.2.1.2.2.2)&&((decide (r12.1.2.1.2.2.2.1.1=r13.1.2.1.2.2.2.1.1))&&((decide (r12.1.2.1.2.2.2.1.2=r13.1.2.1.2.2.2.1.2))&&((decide (r12.1.2.1.2.2.2.2.1=r13.1.2.1.2.2.2.2.1))&&((decide (r12.1.2.1.2.2.2.2.2.1=r13.1.2.1.2.2.2.2.2.1))&&((decide (r12.1.2.1.2.2.2.2.2.2=r13.1.2.1.2.2.2.2.2.2))&&((decide (r12.1.2.2.1.1.1=r13.1.2.2.1.1.1))&&((decide (r12.1.2.2.1.1.2=r13.1.2.2.1.1.2))&&((decide (r12.1.2.2.1.2.1=r13.1.2.2.1.2.1))&&((decide (r12.1.2.2.1.2.2=r13.1.2.2.1.2.2))&&(decide (r12.1.2.2.2=r13.1.2.2.2))))))))))))))))))))))) (
 some (.inr false)) (
 obind (stt_Check n r11.1) fun r14 =>
 tif ((!(decide (r14=0)))) (
 some (.inr false)) (
 top_TopSwept_l10 n f (q_,(r10.1,(r11.1,(s52,(s53,((IntKind.wrap .i64 (s54+1)),())))))))))))) (
 obind (top_Act_Do n r0 t) fun r15 =>
 obind (query_Do n s q_) fun r16 =>
 obind (query_Do n r15.1 q_) fun r17 =>
 tif ((!(decide ((0:Int)=r15.2)))) (
 some (.inr false)) (
 tif ((!(decide (r16.2=r17.2)))) (
 some (.inr false)) (
 tif ((!((decide (r16.1.1=r17.1.1))&&((decide (r16.1.2.1.1=r17.1.2.1.1))&&((decide (r16.1.2.1.2.1.1=r17.1.2.1.2.1.1))&&((decide (r16.1.2.1.2.1.2.1=r17.1.2.1.2.1.2.1))&&((decide (r16.1.2.1.2.1.2.2.1=r17.1.2.1.2.1.2.2.1))&&((r16.1.2.1.2.1.2.2.2==r17.1.2.1.2.1.2.2.2)&&((decide (r16.1.2.1.2.2.1.1=r17.1.2.1.2.2.1.1))&&((decide (r16.1.2.1.2.2.1.2.1=r17.1.2.1.2.2.1.2.1))&&((decide (r16.1.2.1.2.2.1.2.2.1=r17.1.2.1.2.2.1.2.2.1))&&((r16.1.2.1.2.2.1.2.2.2==r17.1.2.1.2.2.1.2.2.2)&&((decide (r16.1.2.1.2.2.2.1.1=r17.1.2.1.2.2.2.1.1))&&((decide (r16.1.2.1.2.2.2.1.2=r17.1.2.1.2.2.2.1.2))&&((decide (r16.1.2.1.2.2.2.2.1=r17.1.2.1.2.2.2.2.1))&&((decide (r16.1.2.1.2.2.2.2.2.1=r17.1.2.1.2.2.2.2.2.1))&&((decide (r16.1.2.1.2.2.2.2.2.2=r17.1.2.1.2.2.2.2.2.2))&&((decide (r16.1.2.2.1.1.1=r17.1.2.2.1.1.1))&&((decide (r16.1.2.2.1.1.2=r17.1.2.2.1.1.2))&&((decide (r16.1.2.2.1.2.1=r17.1.2.2.1.2.1))&&((decide (r16.1.2.2.1.2.2=r17.1.2.2.1.2.2))&&(decide (r16.1.2.2.2=r17.1.2.2.2))))))))))))))))))))))) (
 some (.inr false)) (
 obind (stt_Check n r15.1) fun r18 =>
 tif ((!(decide (r18=0)))) (
 some (.inr false)) (
 top_TopSwept_l10 n f (q_,(s,(r15.1,(s52,(s53,((IntKind.wrap .i64 (s54+1)),()))))))))))))) (
 some (.inl ())):=by kernel_rfl
end Go.Proofs.YtjeabebacegikaaGreatDoor
