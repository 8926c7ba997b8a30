/-
  A tier's slots, second part: those that are not zero, in order; got, put, and merged.
-/
import Derived.Test.YtapadkjknnfifaaGreatP13
namespace Go.Proofs.YtapadkjknnfifaaGreat
open Go.Flat Go.Plim
set_option linter.unusedVariables false
set_option linter.unusedSimpArgs false
section
variable {del : TSlot × Unit → Option Bool} {p : Slo → Bool} (hd : ∀ x, del (x, ()) = some (p x))
include hd
end
/-! ### in order -/
end Go.Proofs.YtapadkjknnfifaaGreat
