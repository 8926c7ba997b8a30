/- Trees, printed by program. -/
import Derived.Test.YtefpnjjbopdplaaGreatDoorTr0
import Derived.KernelRfl
set_option linter.unusedVariables false
namespace Go.Proofs.YtefpnjjbopdplaaGreatDoor
open Go.Flat
theorem l37_WatchBack_eq (n:Nat) (a:TState) (b:TState) (c:TState) (ws:(List TWatch)):l37_WatchBack (n+1) a b c ws =
 obind (l37_lives n ) fun r0 =>
 tif ((!r0)) (
 some false) (
 obind (l17_Small n a) fun r1 =>
 tif ((decide (r1=0))) (
 some true) (
 obind (l17_Small n b) fun r2 =>
 tif ((decide (r2=0))) (
 some true) (
 obind (l17_Small n c) fun r3 =>
 tif ((decide (r3=0))) (
 some true) (
 obind (l37_Small n ws) fun r4 =>
 tif ((decide (r4=0))) (
 some true) (
 tif ((decide ((12:Int)<(((List.length ws):Nat):Int)))) (
 some true) (
 obind (stt_Check n a) fun r5 =>
 tif ((!(decide (r5=0)))) (
 some true) (
 obind (stt_Check n b) fun r6 =>
 tif ((!(decide (r6=0)))) (
 some true) (
 obind (stt_Check n c) fun r7 =>
 tif ((!(decide (r7=0)))) (
 some true) (
 obind (watch_Turned n a b ws) fun r8 =>
 obind (watch_Turned n b c ws) fun r9 =>
 obind (watch_Turned n a c ws) fun r10 =>
 obind (watch_Turned n b a ws) fun r11 =>
 obind (watch_Turned n a a ws) fun r12 =>
 obind (watch_Rings n a ws) fun r13 =>
 obind (watch_Rings n c ws) fun r14 =>
 tif ((!(decide (r8.2.2=0)))) (
 some false) (
 tif ((!(decide (r9.2.2=0)))) (
 some false) (
 tif ((!(decide (r10.2.2=0)))) (
 some false) (
 tif ((!(decide (r11.2.2=0)))) (
 some false) (
 tif ((!(decide (r12.2.2=0)))) (
 some false) (
 tif ((!(decide (r13.2=0)))) (
 some false) (
 tif ((!(decide (r14.2=0)))) (
 some false) (
 tif ((!(decide ((IntKind.wrap .i64 ((((List.length r12.1):Nat):Int)+(((List.length r12.2.1):Nat):Int)))=0)))) (
 some false) (
 obind (r06_Same n r8.1 r11.2.1) fun r15 =>
 tif ((!r15)) (
 some false) (
 obind (r06_Same n r8.2.1 r11.1) fun r16 =>
 tif ((!r16)) (
 some false) (
 obind (l37_WatchBack_l17 n loopFuel (r8.1,(r8.2.1,(r9.1,(r9.2.1,(r10.1,(r10.2.1,(r13.1,(r14.1,((((List.length ws):Nat):Int),((0:Int),()))))))))))) fun r17 =>
 selim (fun y18 =>
 some true) (fun z19 =>
 some z19) r17))))))))))))))))))):=by kernel_rfl
end Go.Proofs.YtefpnjjbopdplaaGreatDoor
