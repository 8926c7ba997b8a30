/-
  Wide numbers: what the program and the document make of them, as plain functions.
-/
import Derived.Test.YtapadkjknnfifaaGreatTr
import Derived.Test.YtapadkjknnfifaaGreatFlatM3
import Derived.Test.YtapadkjknnfifaaGreatM08
namespace Go.Proofs.YtapadkjknnfifaaGreat
open Go.Flat Go.Plim
set_option linter.unusedVariables false
set_option linter.unusedSimpArgs false
/-! ### bits -/
/-! ### the program's -/
/-! ### the document's: sixteen bytes -/
end Go.Proofs.YtapadkjknnfifaaGreat
