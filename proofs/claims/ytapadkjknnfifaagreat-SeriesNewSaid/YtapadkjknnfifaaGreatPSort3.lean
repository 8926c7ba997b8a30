/-
  The library's stable sort of slots, third part: the whole of it; what is not zero, in order.
-/
import Derived.Test.YtapadkjknnfifaaGreatPSort2
namespace Go.Proofs.YtapadkjknnfifaaGreat
open Go.Flat Go.Plim
set_option linter.unusedVariables false
set_option linter.unusedSimpArgs false
section
variable {cmp : (TSlot × (TSlot × Unit)) → Option Int} {key : TSlot → Int} (hc : Cmp cmp key)
include hc
end
end Go.Proofs.YtapadkjknnfifaaGreat
