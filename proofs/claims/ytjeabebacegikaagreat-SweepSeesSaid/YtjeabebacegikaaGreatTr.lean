/-
  All equations. Nothing is proved here.
-/
import Derived.Test.YtjeabebacegikaaGreatTr1
import Derived.Test.YtjeabebacegikaaGreatTr2
import Derived.Test.YtjeabebacegikaaGreatTr3
