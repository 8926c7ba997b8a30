/- Trees, printed by program. -/
import Derived.Test.YtagnkfbpgkckiaaGreatTr1
import Derived.Test.YtagnkfbpgkckiaaGreatTr2
import Derived.Test.YtagnkfbpgkckiaaGreatTr3
import Derived.Test.YtagnkfbpgkckiaaGreatTr4
import Derived.Test.YtagnkfbpgkckiaaGreatTr5
import Derived.Test.YtagnkfbpgkckiaaGreatTr6
