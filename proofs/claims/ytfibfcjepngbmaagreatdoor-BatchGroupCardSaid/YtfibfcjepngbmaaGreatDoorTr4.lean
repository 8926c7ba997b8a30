/- Trees, printed by program. -/
import Derived.Test.YtfibfcjepngbmaaGreatDoorTr0
import Derived.KernelRfl
set_option linter.unusedVariables false
namespace Go.Proofs.YtfibfcjepngbmaaGreatDoor
open Go.Flat
noncomputable def e0j (n f:Nat) (x:((List (List UInt8×Int))×((List (List TRow))×((List TRow)×(Int×(Int×Unit)))))):Option (((List (List TRow))×Unit) ⊕ (List TRow)):=b0d cx (evF cx n) 14 4 f x
theorem b1i (n:Nat) (rows:(List TRow)):h0g (n+1) rows =
 a0a (e0j n a0b ([],([],(rows,((((List.length rows):Nat):Int),(0,())))))) fun r0 =>
 d0a (fun y1 =>
 a0a (m0r n y1.1) fun r2 =>
 some r2) (fun z3 =>
 some z3) r0:=by kernel_rfl
theorem m0a (n f:Nat) (at_:(List (List UInt8×Int))) (parts:(List (List TRow))) (s11:(List TRow)) (s12:Int) (s13:Int):e0j n (f+1) (at_,parts,s11,s12,s13,()) =
 tif ((decide (s13<s12))) (
 a0a (at? s11 s13) fun r0 =>
 a0a (t0o n r0.1) fun r1 =>
 tif ((!(mgetI .str .i64 at_ r1).2)) (
 tif ((decide ((((List.length parts)+1)*24)≤140737488355328))) (
 a0a (at? (parts++([]::[])) (((List.length parts):Nat):Int)) fun r2 =>
 a0a (((parts++([]::[])))[(Int.toNat (((List.length parts):Nat):Int))]?) fun r3 =>
 tif ((decide ((((List.length r3)+1)*56)≤140737488355328))) (
 a0a (at? (parts++([]::[])) (((List.length parts):Nat):Int)) fun r4 =>
 tif ((decide ((Int.toNat (((List.length parts):Nat):Int))=(Int.toNat (((List.length parts):Nat):Int))))) (
 tif ((decide ((Int.toNat (((List.length parts):Nat):Int))<(List.length (parts++([]::[])))))) (
 e0j n f ((mput .str (.int .i64) at_ r1 (((List.length parts):Nat):Int)),((List.set (parts++([]::[])) (Int.toNat (((List.length parts):Nat):Int)) (r3++(r0::[]))),(s11,(s12,((IntKind.wrap .i64 (s13+1)),())))))) (
 none)) (
 none)) (
 none)) (
 none)) (
 a0a (at? parts (mgetI .str .i64 at_ r1).1) fun r5 =>
 a0a ((parts)[(Int.toNat (mgetI .str .i64 at_ r1).1)]?) fun r6 =>
 tif ((decide ((((List.length r6)+1)*56)≤140737488355328))) (
 a0a (at? parts (mgetI .str .i64 at_ r1).1) fun r7 =>
 tif ((decide ((Int.toNat (mgetI .str .i64 at_ r1).1)=(Int.toNat (mgetI .str .i64 at_ r1).1)))) (
 tif ((decide ((Int.toNat (mgetI .str .i64 at_ r1).1)<(List.length parts)))) (
 e0j n f (at_,((List.set parts (Int.toNat (mgetI .str .i64 at_ r1).1) (r6++(r0::[]))),(s11,(s12,((IntKind.wrap .i64 (s13+1)),())))))) (
 none)) (
 none)) (
 none))) (
 some (.inl (parts,()))):=by kernel_rfl
end Go.Proofs.YtfibfcjepngbmaaGreatDoor
