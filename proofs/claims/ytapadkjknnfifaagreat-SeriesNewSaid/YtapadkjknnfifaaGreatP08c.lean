/-
  Cells, third part: merged, and those of events.
-/
import Derived.Test.YtapadkjknnfifaaGreatP08b
namespace Go.Proofs.YtapadkjknnfifaaGreat
open Go.Flat Go.Plim
set_option linter.unusedVariables false
set_option linter.unusedSimpArgs false
theorem z02 (p : Prop) [Decidable p] : ((if p then (0 : Int) else 2) = 0) ↔ p := by by_cases h : p <;> simp [h]
/-! ### those of events -/
end Go.Proofs.YtapadkjknnfifaaGreat
