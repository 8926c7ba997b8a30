/- Trees, printed by program. -/
import Derived.Test.YtgcaeappeolhjaaDoorTr1
import Derived.Test.YtgcaeappeolhjaaDoorTr2
