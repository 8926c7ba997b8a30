/- Trees, printed by program. -/
import Derived.Test.YtagnkfbpgkckiaaGreatTr0
import Derived.KernelRfl
set_option linter.unusedVariables false
open Go.IntKind (wrap)
namespace Go.Proofs.YtagnkfbpgkckiaaGreat
open Go.Flat
theorem q0i (n:Nat)(count:Int):strings_Repeat (n+1) [(0:UInt8)] count =
 tif (count=0) (
 some []) (
 tif (count=1) (
 some ((UInt8.ofNat 0)::[])) (
 tif (count<0) (
 none) (
 a0a (t0g n (1:Int) (wrap .u64 count)) fun r0 =>
 tif ((0:Int)<r0.1) (
 none) (
 tif ((9223372036854775807:Int)<r0.2) (
 none) (
 tif ((8192:Int)<(wrap .i64 r0.2)) (
 a0a (c0f n [] (wrap .i64 r0.2)) fun r1 =>
 a0a (a0t n r1 ((UInt8.ofNat 0)::[])) fun r2 =>
 a0a (d0x n a0b ((wrap .i64 r0.2),(8192,(r2.2.2,())))) fun r3 =>
 b0g (fun y4 =>
 a0a (b0r n y4.1) fun r5 =>
 some r5.1) (fun z6 =>
 some z6) r3) (
 a0a (c0f n [] (wrap .i64 r0.2)) fun r7 =>
 a0a (a0t n r7 ((UInt8.ofNat 0)::[])) fun r8 =>
 a0a (d0x n a0b ((wrap .i64 r0.2),((wrap .i64 r0.2),(r8.2.2,())))) fun r9 =>
 b0g (fun y10 =>
 a0a (b0r n y10.1) fun r11 =>
 some r11.1) (fun z12 =>
 some z12) r9)))))):=by kernel_rfl
theorem l0s (n f:Nat)(n_:Int)(chunkMax:Int)(b:List UInt8):d0x n (f+1) (n_,chunkMax,b,()) =
 a0a (g0b n b) fun r0 =>
 tif (r0.1<n_) (
 a0a (g0b n r0.2) fun r1 =>
 a0a (g0b n r1.2) fun r2 =>
 a0a (b0r n r2.2) fun r3 =>
 tif (((0:Int)<=(if chunkMax<(if r2.1<(wrap .i64 (n_-r1.1)) then r2.1 else (wrap .i64 (n_-r1.1))) then chunkMax else (if r2.1<(wrap .i64 (n_-r1.1)) then r2.1 else (wrap .i64 (n_-r1.1)))))&&((if chunkMax<(if r2.1<(wrap .i64 (n_-r1.1)) then r2.1 else (wrap .i64 (n_-r1.1))) then chunkMax else (if r2.1<(wrap .i64 (n_-r1.1)) then r2.1 else (wrap .i64 (n_-r1.1))))<=(r3.1.length:Int))) (
 a0a (a0t n r3.2 (List.drop 0 (List.take (Int.toNat (if chunkMax<(if r2.1<(wrap .i64 (n_-r1.1)) then r2.1 else (wrap .i64 (n_-r1.1))) then chunkMax else (if r2.1<(wrap .i64 (n_-r1.1)) then r2.1 else (wrap .i64 (n_-r1.1))))) r3.1))) fun r4 =>
 d0x n f (n_,(chunkMax,(r4.2.2,())))) (
 none)) (
 some (.inl (r0.2,()))):=by kernel_rfl
end Go.Proofs.YtagnkfbpgkckiaaGreat
