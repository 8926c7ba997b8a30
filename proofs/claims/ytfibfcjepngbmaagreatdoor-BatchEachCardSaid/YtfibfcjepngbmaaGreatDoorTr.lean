/- Trees, printed by program. -/
import Derived.Test.YtfibfcjepngbmaaGreatDoorTr1
import Derived.Test.YtfibfcjepngbmaaGreatDoorTr2
import Derived.Test.YtfibfcjepngbmaaGreatDoorTr3
import Derived.Test.YtfibfcjepngbmaaGreatDoorTr4
