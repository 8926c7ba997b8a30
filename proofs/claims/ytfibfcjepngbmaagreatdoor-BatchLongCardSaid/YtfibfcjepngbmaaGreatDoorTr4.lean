/- Trees, printed by program. -/
import Derived.Test.YtfibfcjepngbmaaGreatDoorTr0
import Derived.KernelRfl
set_option linter.unusedVariables false
namespace Go.Proofs.YtfibfcjepngbmaaGreatDoor
open Go.Flat
noncomputable def c0f (n f:Nat) (x:(Int×((List TRow)×((List (List TRow))×((List (List UInt8×Int))×(Int×((List TRow)×(Int×(Int×Unit))))))))):Option (((List TRow)×((List (List TRow))×(Int×Unit))) ⊕ (List (List TRow))):=a0x cx (evF cx n) 11 8 f x
noncomputable def e0j (n f:Nat) (x:((List (List UInt8×Int))×((List (List TRow))×((List TRow)×(Int×(Int×Unit)))))):Option (((List (List TRow))×Unit) ⊕ (List TRow)):=a0x cx (evF cx n) 14 4 f x
theorem c1j (n:Nat) (n_:Int) (rows:(List TRow)):e0c (n+2) n_ rows =
 tif ((decide (n_<1))) (
 some []) (
 tif ((true&&(true&&(true&&true)))) (
 a0a (c0f (n+1) a0b (n_,(rows,([],([],(0,(rows,((((List.length rows):Nat):Int),(0,()))))))))) fun r0 =>
 b0y (fun y1 =>
 tif ((decide (y1.2.2.1<(((List.length y1.1):Nat):Int)))) (
 tif ((decide ((0:Int)≤y1.2.2.1))) (
 tif (((decide ((((Int.toNat y1.2.2.1):Nat):Int)≤(((List.length y1.1):Nat):Int)))&&(decide ((((List.length y1.1):Nat):Int)≤(((List.length y1.1):Nat):Int))))) (
 a0a (k0e n (List.drop (Int.toNat y1.2.2.1) (List.take (Int.toNat (((List.length y1.1):Nat):Int)) y1.1))) fun r2 =>
 tif ((decide ((((List.length y1.2.1)+1)*24)≤140737488355328))) (
 some (y1.2.1++(r2::[]))) (
 none)) (
 none)) (
 none)) (
 some y1.2.1)) (fun z3 =>
 some z3) r0) (
 none)):=by kernel_rfl
theorem m0b (n f:Nat) (n_:Int) (rows_:(List TRow)) (out:(List (List TRow))) (seen:(List (List UInt8×Int))) (from_:Int) (s16:(List TRow)) (s17:Int) (s18:Int):c0f (n+1) (f+1) (n_,rows_,out,seen,from_,s16,s17,s18,()) =
 tif ((decide (s18<s17))) (
 a0a (at? s16 s18) fun r0 =>
 a0a (p0o (n+1) r0.1) fun r1 =>
 tif ((decide ((((List.length seen):Nat):Int)=n_))) (
 tif ((decide ((mgetI .str .i64 seen r1).1=0))) (
 tif ((decide (from_<s18))) (
 tif ((decide ((0:Int)≤from_))) (
 tif (((decide ((((Int.toNat from_):Nat):Int)≤s18))&&(decide (s18≤(((List.length rows_):Nat):Int))))) (
 a0a (k0e n (List.drop (Int.toNat from_) (List.take (Int.toNat s18) rows_))) fun r2 =>
 tif ((decide ((((List.length out)+1)*24)≤140737488355328))) (
 tif ((true&&(true&&true))) (
 c0f (n+1) f (n_,(rows_,((out++(r2::[])),((mput .str (.int .i64) [] r1 (IntKind.wrap .i64 ((mgetI .str .i64 [] r1).1+1))),(s18,(s16,(s17,((IntKind.wrap .i64 (s18+1)),()))))))))) (
 none)) (
 none)) (
 none)) (
 none)) (
 tif ((true&&(true&&true))) (
 c0f (n+1) f (n_,(rows_,(out,((mput .str (.int .i64) [] r1 (IntKind.wrap .i64 ((mgetI .str .i64 [] r1).1+1))),(s18,(s16,(s17,((IntKind.wrap .i64 (s18+1)),()))))))))) (
 none))) (
 tif ((true&&(true&&true))) (
 c0f (n+1) f (n_,(rows_,(out,((mput .str (.int .i64) seen r1 (IntKind.wrap .i64 ((mgetI .str .i64 seen r1).1+1))),(from_,(s16,(s17,((IntKind.wrap .i64 (s18+1)),()))))))))) (
 none))) (
 tif ((true&&(true&&true))) (
 c0f (n+1) f (n_,(rows_,(out,((mput .str (.int .i64) seen r1 (IntKind.wrap .i64 ((mgetI .str .i64 seen r1).1+1))),(from_,(s16,(s17,((IntKind.wrap .i64 (s18+1)),()))))))))) (
 none))) (
 tif (true) (
 some (.inl (rows_,(out,(from_,()))))) (
 none)):=by kernel_rfl
theorem c1k (n:Nat) (rows:(List TRow)):k0c (n+1) rows =
 a0a (e0j n a0b ([],([],(rows,((((List.length rows):Nat):Int),(0,())))))) fun r0 =>
 b0y (fun y1 =>
 a0a (m0s n y1.1) fun r2 =>
 some r2) (fun z3 =>
 some z3) r0:=by kernel_rfl
theorem m0c (n f:Nat) (at_:(List (List UInt8×Int))) (parts:(List (List TRow))) (s11:(List TRow)) (s12:Int) (s13:Int):e0j n (f+1) (at_,parts,s11,s12,s13,()) =
 tif ((decide (s13<s12))) (
 a0a (at? s11 s13) fun r0 =>
 a0a (p0o n r0.1) fun r1 =>
 tif ((!(mgetI .str .i64 at_ r1).2)) (
 tif ((decide ((((List.length parts)+1)*24)≤140737488355328))) (
 a0a (at? (parts++([]::[])) (((List.length parts):Nat):Int)) fun r2 =>
 a0a (((parts++([]::[])))[(Int.toNat (((List.length parts):Nat):Int))]?) fun r3 =>
 tif ((decide ((((List.length r3)+1)*56)≤140737488355328))) (
 a0a (at? (parts++([]::[])) (((List.length parts):Nat):Int)) fun r4 =>
 tif ((decide ((Int.toNat (((List.length parts):Nat):Int))=(Int.toNat (((List.length parts):Nat):Int))))) (
 tif ((decide ((Int.toNat (((List.length parts):Nat):Int))<(List.length (parts++([]::[])))))) (
 e0j n f ((mput .str (.int .i64) at_ r1 (((List.length parts):Nat):Int)),((List.set (parts++([]::[])) (Int.toNat (((List.length parts):Nat):Int)) (r3++(r0::[]))),(s11,(s12,((IntKind.wrap .i64 (s13+1)),())))))) (
 none)) (
 none)) (
 none)) (
 none)) (
 a0a (at? parts (mgetI .str .i64 at_ r1).1) fun r5 =>
 a0a ((parts)[(Int.toNat (mgetI .str .i64 at_ r1).1)]?) fun r6 =>
 tif ((decide ((((List.length r6)+1)*56)≤140737488355328))) (
 a0a (at? parts (mgetI .str .i64 at_ r1).1) fun r7 =>
 tif ((decide ((Int.toNat (mgetI .str .i64 at_ r1).1)=(Int.toNat (mgetI .str .i64 at_ r1).1)))) (
 tif ((decide ((Int.toNat (mgetI .str .i64 at_ r1).1)<(List.length parts)))) (
 e0j n f (at_,((List.set parts (Int.toNat (mgetI .str .i64 at_ r1).1) (r6++(r0::[]))),(s11,(s12,((IntKind.wrap .i64 (s13+1)),())))))) (
 none)) (
 none)) (
 none))) (
 some (.inl (parts,()))):=by kernel_rfl
end Go.Proofs.YtfibfcjepngbmaaGreatDoor
