/- Trees, printed by program. -/
import Derived.Test.YtghegadegcemjaaTr1
