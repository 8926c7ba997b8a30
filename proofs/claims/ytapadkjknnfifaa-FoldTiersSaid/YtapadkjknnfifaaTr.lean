/-
  All equations. Nothing is proved here.
-/
import Derived.Test.YtapadkjknnfifaaTr1
import Derived.Test.YtapadkjknnfifaaTr2
