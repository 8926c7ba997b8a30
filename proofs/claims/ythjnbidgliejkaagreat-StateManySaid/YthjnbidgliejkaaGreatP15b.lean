/-
  Series, second part: one more event is put.
-/
import Derived.Test.YthjnbidgliejkaaGreatP15
namespace Go.Proofs.YthjnbidgliejkaaGreat
open Go.Flat Go.Plim
set_option linter.unusedVariables false
set_option linter.unusedSimpArgs false
/-! ### the document's cell with one more event -/
theorem nn {α : Type} {a b : α} (h : a = b) : ¬ (a ≠ b) := fun k => k h
/-! ### put -/
def ser0 : Ser := ([], (0, (r0w, (([], ([], [])), s0))))
end Go.Proofs.YthjnbidgliejkaaGreat
