/- Trees, printed by program. -/
import Derived.Test.YtojobamheigpbaaGreatTr1
import Derived.Test.YtojobamheigpbaaGreatTr2
