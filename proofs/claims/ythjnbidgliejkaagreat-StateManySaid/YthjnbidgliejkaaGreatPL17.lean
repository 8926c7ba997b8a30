/-
  A law asks first for answers that the document gives: they are given.
-/
import Derived.Test.YthjnbidgliejkaaGreatTr
namespace Go.Proofs.YthjnbidgliejkaaGreat
open Go.Flat
theorem l17_lives_true (n : Nat) : l17_lives (n + 40) = some true := by kernel_rfl
end Go.Proofs.YthjnbidgliejkaaGreat
