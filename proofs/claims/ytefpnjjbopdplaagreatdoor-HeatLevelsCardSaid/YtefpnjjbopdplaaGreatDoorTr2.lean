/- Trees, printed by program. -/
import Derived.Test.YtefpnjjbopdplaaGreatDoorTr0
import Derived.KernelRfl
set_option linter.unusedVariables false
namespace Go.Proofs.YtefpnjjbopdplaaGreatDoor
open Go.Flat
end Go.Proofs.YtefpnjjbopdplaaGreatDoor
