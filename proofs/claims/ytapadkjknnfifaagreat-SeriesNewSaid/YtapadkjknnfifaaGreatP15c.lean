/-
  Series, third part: a window's cell, and that of windows from i to ahead of j.
-/
import Derived.Test.YtapadkjknnfifaaGreatP15b
import Derived.Test.YtapadkjknnfifaaGreatM14b
namespace Go.Proofs.YtapadkjknnfifaaGreat
open Go.Flat Go.Plim
set_option linter.unusedVariables false
set_option linter.unusedSimpArgs false
/-! ### slots of one tier always merge -/
/-! ### the window that is open -/
structure At (c : Conf) (s : Ser) : Prop where
  l0 : 0 ≤ s.2.1
  l1 : s.2.1 < 35184372088832
end Go.Proofs.YtapadkjknnfifaaGreat
