/- Trees, printed by program. -/
import Derived.Test.YtefpnjjbopdplaaGreatDoorTr1
import Derived.Test.YtefpnjjbopdplaaGreatDoorTr2
import Derived.Test.YtefpnjjbopdplaaGreatDoorTr3
import Derived.Test.YtefpnjjbopdplaaGreatDoorTr4
import Derived.Test.YtefpnjjbopdplaaGreatDoorTr5
import Derived.Test.YtefpnjjbopdplaaGreatDoorTr6
