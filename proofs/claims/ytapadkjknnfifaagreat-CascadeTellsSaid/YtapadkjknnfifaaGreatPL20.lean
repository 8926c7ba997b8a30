/-
  The law of cascades asks first for answers that the document gives: they are given.
-/
import Derived.Test.YtapadkjknnfifaaGreatTr
namespace Go.Proofs.YtapadkjknnfifaaGreat
open Go.Flat
theorem l20_lives_true (n : Nat) : l20_lives (n + 40) = some true := by kernel_rfl
end Go.Proofs.YtapadkjknnfifaaGreat
