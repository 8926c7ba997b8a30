/-
  Events and cells, second part.
-/
import Derived.Test.YtapadkjknnfifaaGreatP08
namespace Go.Proofs.YtapadkjknnfifaaGreat
open Go.Flat Go.Plim
set_option linter.unusedVariables false
set_option linter.unusedSimpArgs false
/-! ### events -/
/-! ### is a cell right? -/
end Go.Proofs.YtapadkjknnfifaaGreat
