/-
  All equations. Nothing is proved here.
-/
import Derived.Test.YthjnbidgliejkaaGreatTr1
import Derived.Test.YthjnbidgliejkaaGreatTr2
import Derived.Test.YthjnbidgliejkaaGreatTr3
import Derived.Test.YthjnbidgliejkaaGreatTr4
import Derived.Test.YthjnbidgliejkaaGreatTr5
