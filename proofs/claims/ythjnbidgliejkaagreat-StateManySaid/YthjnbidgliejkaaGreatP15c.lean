/-
  Series, third part: a window's cell, and that of windows from i to ahead of j.
-/
import Derived.Test.YthjnbidgliejkaaGreatP15b
import Derived.Test.YthjnbidgliejkaaGreatM14b
namespace Go.Proofs.YthjnbidgliejkaaGreat
open Go.Flat Go.Plim
set_option linter.unusedVariables false
set_option linter.unusedSimpArgs false
/-! ### slots of one tier always merge -/
/-! ### the window that is open -/
structure At (c : Conf) (s : Ser) : Prop where
  l0 : 0 ≤ s.2.1
  l1 : s.2.1 < 35184372088832
theorem quo_at {t : Int} (ht : 0 ≤ t ∧ t < 35184372088832) {w : Int} (hw : 1 ≤ w) : IntKind.wrap .i64 (Int.tdiv t w) = t / w := by
  have : 0 ≤ t / w := Int.ediv_nonneg ht.1 (by omega)
  have : t / w ≤ t := Int.ediv_le_self _ ht.1
  rw [tdiv_nn ht.1, w64 (by omega) (by omega)]
end Go.Proofs.YthjnbidgliejkaaGreat
