import Derived.Test.YtmcgmijdnfcfgaaGreatTr5
/-
 All equations. Nothing is proved here.
-/
import Derived.Test.YtmcgmijdnfcfgaaGreatTr1
import Derived.Test.YtmcgmijdnfcfgaaGreatTr6
import Derived.Test.YtmcgmijdnfcfgaaGreatTr7
