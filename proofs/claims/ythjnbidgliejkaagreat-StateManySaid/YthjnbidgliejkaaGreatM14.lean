/-
  Plain laws of three tiers: which are right, a window that is made, and windows that are over.
-/
import Derived.Test.YthjnbidgliejkaaGreatM13b
import Derived.Test.YthjnbidgliejkaaGreatP10
namespace Go.Proofs.YthjnbidgliejkaaGreat
open Go.Flat Go.Plim
set_option linter.unusedVariables false
abbrev Trs := List Slo × (List Slo × List Slo)
noncomputable instance (c : Conf) : Decidable (OkC c) := Classical.propDecidable _
/-- tiers that are right for a configuration -/
structure FoldOk (c : Conf) (s : Trs) : Prop where
  cok : OkC c
  n0 : (s.1.length : Int) = c.2.2.1.1
  n1 : (s.2.1.length : Int) = c.2.2.1.2.1
  n2 : (s.2.2.length : Int) = c.2.2.1.2.2
  t0 : TierOk s.1 c.2.1.1
  t1 : TierOk s.2.1 c.2.1.2.1
  t2 : TierOk s.2.2 c.2.1.2.2
noncomputable instance (c : Conf) (s : Trs) : Decidable (FoldOk c s) := Classical.propDecidable _
/-- a window of the second tier, and of the third one, made of those below -/
def mk1 (c : Conf) (s : Trs) (i : Int) : Cel × Int := tfold s.1 (i * (c.2.1.2.1 / c.2.1.1)) ((i + 1) * (c.2.1.2.1 / c.2.1.1))
/-! ### numbers that need no wrap -/
theorem mul_div_le {a w m : Int} (hw : 1 ≤ w) (h : a ≤ m / w) : a * w ≤ m :=
  Int.le_trans (Int.mul_le_mul_of_nonneg_right h (by omega)) (Int.ediv_mul_le m (by omega))
/-- a window that begins in time -/
def Begins (w i : Int) : Prop := 0 ≤ i ∧ i ≤ 35184372088831 / w
theorem Begins.mul {w i : Int} (hw : 1 ≤ w) (h : Begins w i) : 0 ≤ i * w ∧ i * w ≤ 35184372088831 := ⟨Int.mul_nonneg h.1 (by omega), mul_div_le hw h.2⟩
end Go.Proofs.YthjnbidgliejkaaGreat
