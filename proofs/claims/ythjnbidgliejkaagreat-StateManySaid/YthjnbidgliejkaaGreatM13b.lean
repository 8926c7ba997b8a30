/-
  Plain laws of a tier's slots, second part: the cells of windows of events that follow.
-/
import Derived.Test.YthjnbidgliejkaaGreatM13
namespace Go.Plim
set_option linter.unusedVariables false
/-- the events of windows from i to ahead of k -/
def rng (w : Int) (l : List Ev) (i k : Int) : List Ev := l.filter fun e => decide (i ≤ e.1 / w ∧ e.1 / w < k)
/-- those of one window -/
def win (w : Int) (l : List Ev) (i : Int) : List Ev := l.filter fun e => decide (e.1 / w = i)
theorem tall_N {l : List Slo} {w : Int} (h : TierOk l w) {s : Slo} (hs : s ∈ tall l) : CellN s.2 := (tall_fits h hs).1.n
/-- what a tier has of events -/
structure TierInv (t : List Slo) (w : Int) (l : List Ev) : Prop where
  ok : TierOk t w
  cells : ∀ s ∈ tall t, s.2 = cellOf (win w l s.1)
  kept : ∀ i, (∃ e ∈ l, e.1 / w = i) → (∀ e ∈ l, e.1 / w < i + (t.length : Int)) → (i, cellOf (win w l i)) ∈ tall t
end Go.Plim
