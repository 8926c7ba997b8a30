/- Trees, printed by program. -/
import Derived.Test.YtkajechaanmplaaGreatDoorTr1
import Derived.Test.YtkajechaanmplaaGreatDoorTr2
import Derived.Test.YtkajechaanmplaaGreatDoorTr3
import Derived.Test.YtkajechaanmplaaGreatDoorTr4
