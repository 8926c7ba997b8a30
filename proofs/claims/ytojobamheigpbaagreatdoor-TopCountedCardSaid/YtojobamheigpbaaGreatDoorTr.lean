/- Trees, printed by program. -/
import Derived.Test.YtojobamheigpbaaGreatDoorTr1
import Derived.Test.YtojobamheigpbaaGreatDoorTr2
import Derived.Test.YtojobamheigpbaaGreatDoorTr3
