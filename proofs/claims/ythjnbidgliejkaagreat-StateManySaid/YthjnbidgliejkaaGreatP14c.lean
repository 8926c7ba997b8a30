/-
  Three tiers, third part: made, over, closed, asked from outside; the law FoldTells.
-/
import Derived.Test.YthjnbidgliejkaaGreatP14b
namespace Go.Proofs.YthjnbidgliejkaaGreat
open Go.Flat Go.Plim
set_option linter.unusedVariables false
set_option linter.unusedSimpArgs false
/-! ### asked from outside -/
/-! ### equal -/
theorem FoldOk.lens {c : Conf} {s : Trs} (h : FoldOk c s) : s.1.length ≤ 1000000 ∧ s.2.1.length ≤ 1000000 ∧ s.2.2.length ≤ 1000000 := by
  have := h.t0.l1; have := h.t1.l1; have := h.t2.l1; omega
theorem trs_wf {s : Trs} (h : Wf (.wrap (.pair (.slice tySlot) (.pair (.slice tySlot) (.slice tySlot)))) s) : TrsW s := by
  obtain ⟨h1, h2, h3⟩ := h
  exact ⟨slos_wf h1, slos_wf h2, slos_wf h3⟩
end Go.Proofs.YthjnbidgliejkaaGreat
