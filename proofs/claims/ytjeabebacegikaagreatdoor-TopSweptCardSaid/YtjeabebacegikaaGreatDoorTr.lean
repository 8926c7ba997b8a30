/- Trees, printed by program. -/
import Derived.Test.YtjeabebacegikaaGreatDoorTr1
import Derived.Test.YtjeabebacegikaaGreatDoorTr3
import Derived.Test.YtjeabebacegikaaGreatDoorTr4
import Derived.Test.YtjeabebacegikaaGreatDoorTr5
import Derived.Test.YtjeabebacegikaaGreatDoorTr6
import Derived.Test.YtjeabebacegikaaGreatDoorTr7
