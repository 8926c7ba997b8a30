/-
  Events as they were, second part: one more is put; equal ones.
-/
import Derived.Test.YthjnbidgliejkaaGreatP12
namespace Go.Proofs.YthjnbidgliejkaaGreat
open Go.Flat Go.Plim
set_option linter.unusedVariables false
set_option linter.unusedSimpArgs false
def r0w : Rw := (0, (0, []))
end Go.Proofs.YthjnbidgliejkaaGreat
namespace Go.Proofs.YthjnbidgliejkaaGreat
open Go.Flat Go.Plim
end Go.Proofs.YthjnbidgliejkaaGreat
