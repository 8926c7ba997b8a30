/- Trees, printed by program. -/
import Derived.Test.YtgcaeappeolhjaaGreatDoorTr1
import Derived.Test.YtgcaeappeolhjaaGreatDoorTr2
