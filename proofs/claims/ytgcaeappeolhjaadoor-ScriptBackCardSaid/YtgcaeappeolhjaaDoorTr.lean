/- Trees, printed by program. -/
import Derived.Test.YtgcaeappeolhjaaDoorTr1
