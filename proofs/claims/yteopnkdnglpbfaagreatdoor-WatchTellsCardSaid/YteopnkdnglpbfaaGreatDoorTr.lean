/- Trees, printed by program. -/
import Derived.Test.YteopnkdnglpbfaaGreatDoorTr1
import Derived.Test.YteopnkdnglpbfaaGreatDoorTr2
import Derived.Test.YteopnkdnglpbfaaGreatDoorTr3
import Derived.Test.YteopnkdnglpbfaaGreatDoorTr9
