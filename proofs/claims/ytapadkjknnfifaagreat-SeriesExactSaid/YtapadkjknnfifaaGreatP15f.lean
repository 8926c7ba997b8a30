/-
  Lists that are equal, by the program and by the document; series that are equal. Printed by tools/gen15f.py.
-/
import Derived.Test.YtapadkjknnfifaaGreatP15e
namespace Go.Proofs.YtapadkjknnfifaaGreat
open Go.Flat Go.Plim
set_option linter.unusedVariables false
set_option linter.unusedSimpArgs false
structure SerM (s : Ser) : Prop where
  l : s.1.length ≤ 9223372036854775807
  r : s.2.2.1.2.2.length ≤ 9223372036854775807
  a : s.2.2.2.1.1.length ≤ 9223372036854775807
  b : s.2.2.2.1.2.1.length ≤ 9223372036854775807
  d : s.2.2.2.1.2.2.length ≤ 9223372036854775807
end Go.Proofs.YtapadkjknnfifaaGreat
