/-
  The law's own questions are answered.
-/
import Derived.Test.YtapadkjknnfifaaTr0
namespace Go.Proofs.Ytapadkjknnfifaa
open Go.Flat
theorem l14_lives_true (n : Nat) : l14_lives (n + 34) = some true := by kernel_rfl
end Go.Proofs.Ytapadkjknnfifaa
