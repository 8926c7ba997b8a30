/- Trees, printed by program. -/
import Derived.Test.YtjffajodppnejaaGreatDoorTr1
import Derived.Test.YtjffajodppnejaaGreatDoorTr2
import Derived.Test.YtjffajodppnejaaGreatDoorTr3
import Derived.Test.YtjffajodppnejaaGreatDoorTr4
import Derived.Test.YtjffajodppnejaaGreatDoorTr5
