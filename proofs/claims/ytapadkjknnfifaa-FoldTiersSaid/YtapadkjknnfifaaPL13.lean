/-
  The law's own questions are answered.
-/
import Derived.Test.YtapadkjknnfifaaTr0
namespace Go.Proofs.Ytapadkjknnfifaa
open Go.Flat
theorem l13_lives_true (n : Nat) : l13_lives (n + 30) = some true := by kernel_rfl
end Go.Proofs.Ytapadkjknnfifaa
