/-
  What each function comes to by one step of the flat reading. Printed by program; the kernel looks at each.
-/
import Derived.Test.YthjnbidgliejkaaGreatTr0
import Derived.KernelRfl
set_option linter.unusedVariables false
namespace Go.Proofs.YthjnbidgliejkaaGreat
open Go.Flat
end Go.Proofs.YthjnbidgliejkaaGreat
