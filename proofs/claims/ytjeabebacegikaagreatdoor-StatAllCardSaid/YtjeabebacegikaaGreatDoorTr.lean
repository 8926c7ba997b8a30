/- Trees, printed by program. -/
import Derived.Test.YtjeabebacegikaaGreatDoorTr1
import Derived.Test.YtjeabebacegikaaGreatDoorTr2
import Derived.Test.YtjeabebacegikaaGreatDoorTr3
import Derived.Test.YtjeabebacegikaaGreatDoorTr4
