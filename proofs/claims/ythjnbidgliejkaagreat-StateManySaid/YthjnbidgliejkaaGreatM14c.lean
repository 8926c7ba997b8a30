/-
  Plain laws of three tiers, third part: the open window with them.
-/
import Derived.Test.YthjnbidgliejkaaGreatM14b
import Derived.Test.YthjnbidgliejkaaGreatP14c
namespace Go.Proofs.YthjnbidgliejkaaGreat
open Go.Flat Go.Plim
set_option linter.unusedVariables false
/-- three tiers and the open slot, behind events -/
def OpenInv (c : Conf) (s : Trs) (o : Slo) (l : List Ev) : Prop :=
  (l = [] ∧ o = s0 ∧ ∀ t, FInv c s [] t) ∨ ∃ t, EndsAt l t ∧ FInv c s l t ∧ o = (t / c.2.1.1, cellOf (win c.2.1.1 l (t / c.2.1.1)))
theorem OpenInv.fold {c : Conf} {s : Trs} {o : Slo} {l : List Ev} (h : OpenInv c s o l) : FoldOk c s := by
  rcases h with ⟨_, _, h⟩ | ⟨t, _, h, _⟩
  · exact (h 0).ok
  · exact h.ok
end Go.Proofs.YthjnbidgliejkaaGreat
