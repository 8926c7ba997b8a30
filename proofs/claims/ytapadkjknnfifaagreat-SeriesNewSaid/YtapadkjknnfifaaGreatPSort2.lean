/-
  The library's stable sort of slots, second part: merging in place, and the whole.
-/
import Derived.Test.YtapadkjknnfifaaGreatPSort
namespace Go.Proofs.YtapadkjknnfifaaGreat
open Go.Flat Go.Plim
set_option linter.unusedVariables false
set_option linter.unusedSimpArgs false
/-- where the one at k belongs -/
def Place (key : TSlot → Int) (d : List TSlot) (a b k i : Nat) (x : TSlot) : Prop :=
  (∀ p z, a ≤ p → p < i → p ≠ k → d[p]? = some z → key z ≤ key x) ∧ (∀ p z, i ≤ p → p < b → p ≠ k → d[p]? = some z → key x ≤ key z)
section
variable {cmp : (TSlot × (TSlot × Unit)) → Option Int} {key : TSlot → Int} (hc : Cmp cmp key)
include hc
end
end Go.Proofs.YtapadkjknnfifaaGreat
