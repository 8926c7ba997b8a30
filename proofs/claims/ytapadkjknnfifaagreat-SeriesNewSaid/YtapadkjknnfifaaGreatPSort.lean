/-
  The library's stable sort of slots, as a plain function: what it gives is in order, and has the same slots.
-/
import Derived.Test.YtapadkjknnfifaaGreatTr
import Derived.Test.YtapadkjknnfifaaGreatFlatM3
import Derived.Test.YtapadkjknnfifaaGreatMS
namespace Go.Proofs.YtapadkjknnfifaaGreat
open Go.Flat Go.Plim
set_option linter.unusedVariables false
set_option linter.unusedSimpArgs false
/-- a test of two things as numbers -/
def Cmp (cmp : (TSlot × (TSlot × Unit)) → Option Int) (key : TSlot → Int) : Prop := ∀ x y, ∃ c, cmp (x, (y, ())) = some c ∧ (c < 0 ↔ key x < key y)
section
variable {cmp : (TSlot × (TSlot × Unit)) → Option Int} {key : TSlot → Int} (hc : Cmp cmp key)
include hc
omit hc in
omit hc in
omit hc in
omit hc in
end
end Go.Proofs.YtapadkjknnfifaaGreat
