/-
  Three tiers, second part: a window that is made, windows that are over.
-/
import Derived.Test.YthjnbidgliejkaaGreatP14
namespace Go.Proofs.YthjnbidgliejkaaGreat
open Go.Flat Go.Plim
set_option linter.unusedVariables false
set_option linter.unusedSimpArgs false
/-! ### put -/
/-! ### windows that are over -/
end Go.Proofs.YthjnbidgliejkaaGreat
