/-
  Events as they were: the ring, what the program and the document keep.
-/
import Derived.Test.YtapadkjknnfifaaGreatP08c
import Derived.Test.YtapadkjknnfifaaGreatP05b
namespace Go.Proofs.YtapadkjknnfifaaGreat
open Go.Flat Go.Plim
set_option linter.unusedVariables false
set_option linter.unusedSimpArgs false
abbrev Rw := Int × (Int × List Ev)
structure RawOk (r : Rw) (room : Int) : Prop where
  m0 : 1 ≤ room
  m1 : room ≤ 4096
  len : (r.2.2.length : Int) ≤ room
  l0 : 0 ≤ r.1
  l1 : r.1 ≤ 70368744177664
  f : Foll r.2.2
  z : r.1 = 0 → r.2.1 = 0
  p : r.1 ≠ 0 → (r.2.2.length : Int) = room ∧ 0 ≤ r.2.1 ∧ ∀ x, r.2.2.head? = some x → r.2.1 < x.1
def RawW (r : Rw) : Prop := ∀ e ∈ r.2.2, EvW e
end Go.Proofs.YtapadkjknnfifaaGreat
