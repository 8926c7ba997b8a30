/- Trees, printed by program. -/
import Derived.Test.YtjeabebacegikaaGreatDoorTr0
import Derived.KernelRfl
set_option linter.unusedVariables false
namespace Go.Proofs.YtjeabebacegikaaGreatDoor
open Go.Flat
end Go.Proofs.YtjeabebacegikaaGreatDoor
