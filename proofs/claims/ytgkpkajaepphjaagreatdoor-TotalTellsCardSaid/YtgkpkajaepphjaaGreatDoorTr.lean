/- Trees, printed by program. -/
import Derived.Test.YtgkpkajaepphjaaGreatDoorTr1
import Derived.Test.YtgkpkajaepphjaaGreatDoorTr2
import Derived.Test.YtgkpkajaepphjaaGreatDoorTr3
import Derived.Test.YtgkpkajaepphjaaGreatDoorTr4
import Derived.Test.YtgkpkajaepphjaaGreatDoorTr5
import Derived.Test.YtgkpkajaepphjaaGreatDoorTr6
