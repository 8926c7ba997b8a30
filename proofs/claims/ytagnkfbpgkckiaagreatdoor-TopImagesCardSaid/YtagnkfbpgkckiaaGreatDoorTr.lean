/- Trees, printed by program. -/
import Derived.Test.YtagnkfbpgkckiaaGreatDoorTr1
import Derived.Test.YtagnkfbpgkckiaaGreatDoorTr2
import Derived.Test.YtagnkfbpgkckiaaGreatDoorTr3
