/-
  Plain laws of three tiers, second part: what they have of events that follow.
-/
import Derived.Test.YthjnbidgliejkaaGreatM14
namespace Go.Plim
set_option linter.unusedVariables false
/-- the events of windows ahead of a time's -/
def below (w : Int) (l : List Ev) (t : Int) : List Ev := l.filter fun e => decide (e.1 / w < t / w)
/-- of events that end with one of a time -/
structure EndsAt (l : List Ev) (t : Int) : Prop where
  foll : Foll l
  le : ∀ e ∈ l, e.1 ≤ t
  last : ∃ e ∈ l, e.1 = t
end Go.Plim
namespace Go.Proofs.YthjnbidgliejkaaGreat
open Go.Flat Go.Plim
/-- what three tiers have of events, at a time -/
structure FInv (c : Conf) (s : Trs) (l : List Ev) (t : Int) : Prop where
  ok : FoldOk c s
  i0 : TierInv s.1 c.2.1.1 (below c.2.1.1 l t)
  i1 : TierInv s.2.1 c.2.1.2.1 (below c.2.1.2.1 l t)
  i2 : TierInv s.2.2 c.2.1.2.2 (below c.2.1.2.2 l t)
end Go.Proofs.YthjnbidgliejkaaGreat
