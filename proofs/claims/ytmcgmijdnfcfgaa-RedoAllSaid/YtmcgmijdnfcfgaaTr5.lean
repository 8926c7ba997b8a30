/- Trees, printed by program. -/
import Derived.Test.YtmcgmijdnfcfgaaTr0
import Derived.KernelRfl
set_option linter.unusedVariables false
namespace Go.Proofs.Ytmcgmijdnfcfgaa
open Go.Flat
noncomputable def b0z (n f:Nat) (x:(Int×(Int×(List UInt8×Unit)))):Option ((List UInt8×Unit) ⊕ List UInt8):=d0p cx (evF cx n) 23 38 f x
theorem j0j (n:Nat) (count:Int):strings_Repeat (n+1) [(0:UInt8)] count =
 tif ((decide (count=0))) (
 some []) (
 tif ((decide (count=1))) (
 some ((UInt8.ofNat 0)::[])) (
 tif ((decide (count<0))) (
 none) (
 a0c (k0t n (1:Int) (IntKind.wrap .u64 count)) fun r0 =>
 tif ((decide ((0:Int)<r0.1))) (
 none) (
 tif ((decide ((9223372036854775807:Int)<r0.2))) (
 none) (
 tif ((decide ((8192:Int)<(IntKind.wrap .i64 r0.2)))) (
 a0c (c0e n [] (IntKind.wrap .i64 r0.2)) fun r1 =>
 a0c (b0g n r1 ((UInt8.ofNat 0)::[])) fun r2 =>
 a0c (b0z n a0b ((IntKind.wrap .i64 r0.2),(8192,(r2.2.2,())))) fun r3 =>
 f0v (fun y4 =>
 a0c (c0q n y4.1) fun r5 =>
 some r5.1) (fun z6 =>
 some z6) r3) (
 a0c (c0e n [] (IntKind.wrap .i64 r0.2)) fun r7 =>
 a0c (b0g n r7 ((UInt8.ofNat 0)::[])) fun r8 =>
 a0c (b0z n a0b ((IntKind.wrap .i64 r0.2),((IntKind.wrap .i64 r0.2),(r8.2.2,())))) fun r9 =>
 f0v (fun y10 =>
 a0c (c0q n y10.1) fun r11 =>
 some r11.1) (fun z12 =>
 some z12) r9)))))):=by kernel_rfl
theorem g0r (n f:Nat) (n_:Int) (chunkMax:Int) (b:List UInt8):b0z n (f+1) (n_,chunkMax,b,()) =
 a0c (d0n n b) fun r0 =>
 tif ((decide (r0.1<n_))) (
 a0c (d0n n r0.2) fun r1 =>
 a0c (d0n n r1.2) fun r2 =>
 a0c (c0q n r2.2) fun r3 =>
 tif (((decide ((0:Int)≤(if chunkMax<(if r2.1<(IntKind.wrap .i64 (n_-r1.1)) then r2.1 else (IntKind.wrap .i64 (n_-r1.1))) then chunkMax else (if r2.1<(IntKind.wrap .i64 (n_-r1.1)) then r2.1 else (IntKind.wrap .i64 (n_-r1.1))))))&&(decide ((if chunkMax<(if r2.1<(IntKind.wrap .i64 (n_-r1.1)) then r2.1 else (IntKind.wrap .i64 (n_-r1.1))) then chunkMax else (if r2.1<(IntKind.wrap .i64 (n_-r1.1)) then r2.1 else (IntKind.wrap .i64 (n_-r1.1))))≤(((List.length r3.1):Nat):Int))))) (
 a0c (b0g n r3.2 (List.drop 0 (List.take (Int.toNat (if chunkMax<(if r2.1<(IntKind.wrap .i64 (n_-r1.1)) then r2.1 else (IntKind.wrap .i64 (n_-r1.1))) then chunkMax else (if r2.1<(IntKind.wrap .i64 (n_-r1.1)) then r2.1 else (IntKind.wrap .i64 (n_-r1.1))))) r3.1))) fun r4 =>
 b0z n f (n_,(chunkMax,(r4.2.2,())))) (
 none)) (
 some (.inl (r0.2,()))):=by kernel_rfl
end Go.Proofs.Ytmcgmijdnfcfgaa
