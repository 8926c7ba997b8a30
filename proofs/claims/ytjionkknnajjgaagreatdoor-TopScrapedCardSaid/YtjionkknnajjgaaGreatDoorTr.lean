/- Trees, printed by program. -/
import Derived.Test.YtjionkknnajjgaaGreatDoorTr1
import Derived.Test.YtjionkknnajjgaaGreatDoorTr2
import Derived.Test.YtjionkknnajjgaaGreatDoorTr3
