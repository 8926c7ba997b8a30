/- Trees, printed by program. -/
import Derived.Test.YtmcgmijdnfcfgaaGreatTr0
import Derived.KernelRfl
set_option linter.unusedVariables false
namespace Go.Proofs.YtmcgmijdnfcfgaaGreat
open Go.Flat
theorem f1g (n:Nat) (c:a0p):m0m (n+1) c =
 a0d (j0r n c) fun r0 =>
 tif ((!(decide (r0=0)))) (
 some (0:Int)) (
 a0d (o0f n c) fun r1 =>
 some (IntKind.wrap .i64 ((IntKind.wrap .i64 ((1:Int)+r1))+c.2.2.2.2))):=by kernel_rfl
theorem n0k (n:Nat) (x:Int) (y:Int):m0q (n+1) x y =
 a0d (j0u n x y) fun r0 =>
 some r0:=by kernel_rfl
end Go.Proofs.YtmcgmijdnfcfgaaGreat
