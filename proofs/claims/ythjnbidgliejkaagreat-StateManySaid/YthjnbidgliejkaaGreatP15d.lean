/-
  Series, fourth part: what the two answer of a window, and of windows. Printed by tools/gen15d.py.
-/
import Derived.Test.YthjnbidgliejkaaGreatP15c
namespace Go.Proofs.YthjnbidgliejkaaGreat
open Go.Flat Go.Plim
set_option linter.unusedVariables false
set_option linter.unusedSimpArgs false
/-! ### any tier -/
end Go.Proofs.YthjnbidgliejkaaGreat
