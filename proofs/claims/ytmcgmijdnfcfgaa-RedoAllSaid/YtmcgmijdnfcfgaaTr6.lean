/- Trees, printed by program. -/
import Derived.Test.YtmcgmijdnfcfgaaTr0
import Derived.KernelRfl
set_option linter.unusedVariables false
namespace Go.Proofs.Ytmcgmijdnfcfgaa
open Go.Flat
noncomputable def c0s (n f:Nat) (x:((List (List UInt8))×(((List UInt8×Unit)→Option Bool)×(Int×(Int×Unit))))):Option (Unit ⊕ Int):=d0p cx (evF cx n) 52 2 f x
theorem j0k (n:Nat) (s:(List (List UInt8))) (f_:((List UInt8×Unit)→Option Bool)):d0u (n+1) s f_ =
 a0c (i0d n s f_) fun r0 =>
 some (decide ((0:Int)≤r0)):=by kernel_rfl
theorem l0m (n:Nat) (s:(List (List UInt8))) (f_:((List UInt8×Unit)→Option Bool)):i0d (n+1) s f_ =
 a0c (c0s n a0b (s,(f_,((((List.length s):Nat):Int),(0,()))))) fun r0 =>
 f0v (fun y1 =>
 some ((-1):Int)) (fun z2 =>
 some z2) r0:=by kernel_rfl
theorem e0o (n f:Nat) (s:(List (List UInt8))) (f_:((List UInt8×Unit)→Option Bool)) (s7:Int) (s8:Int):c0s n (f+1) (s,f_,s7,s8,()) =
 tif ((decide (s8<s7))) (
 a0c (at? s s8) fun r0 =>
 a0c (f_ (r0,())) fun r1 =>
 tif (r1) (
 some (.inr s8)) (
 c0s n f (s,(f_,(s7,((IntKind.wrap .i64 (s8+1)),())))))) (
 some (.inl ())):=by kernel_rfl
end Go.Proofs.Ytmcgmijdnfcfgaa
