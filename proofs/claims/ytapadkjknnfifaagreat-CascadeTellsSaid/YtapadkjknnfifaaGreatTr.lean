/-
  All equations. Nothing is proved here.
-/
import Derived.Test.YtapadkjknnfifaaGreatTr1
import Derived.Test.YtapadkjknnfifaaGreatTr2
import Derived.Test.YtapadkjknnfifaaGreatTr3
import Derived.Test.YtapadkjknnfifaaGreatTr4
