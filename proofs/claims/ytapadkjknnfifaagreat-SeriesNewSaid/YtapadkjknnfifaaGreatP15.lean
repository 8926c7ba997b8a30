/-
  Series: which are right, by the program and by the document.
-/
import Derived.Test.YtapadkjknnfifaaGreatP12b
import Derived.Test.YtapadkjknnfifaaGreatP14c
namespace Go.Proofs.YtapadkjknnfifaaGreat
open Go.Flat Go.Plim
set_option linter.unusedVariables false
set_option linter.unusedSimpArgs false
abbrev Ser := List Lab × (Int × (Rw × (Trs × Slo)))
structure SerW (s : Ser) : Prop where
  last : I64 s.2.1
  raw : RawW s.2.2.1
  trs : TrsW s.2.2.2.1
  opn : SloW s.2.2.2.2
/-- no slot of a window, or of one behind it -/
def NoBehind (l : List Slo) (i : Int) : Prop := ∀ s ∈ l, 0 < s.2.1 → s.1 < i
structure Fresh (s : Ser) : Prop where
  raw : s.2.2.1.2.2 = []
  opn : s.2.2.2.2 = s0
  b0 : NoBehind s.2.2.2.1.1 0
  b1 : NoBehind s.2.2.2.1.2.1 0
  b2 : NoBehind s.2.2.2.1.2.2 0
structure EndsP (c : Conf) (s : Ser) : Prop where
  last : ∃ e, s.2.2.1.2.2.getLast? = some e ∧ e.1 = s.2.1
  ol : s.2.2.2.2.2.2.2.1.1 = s.2.1
  fit : FitsP s.2.2.2.2.2 c.2.1.1 s.2.2.2.2.1
  b0 : NoBehind s.2.2.2.1.1 (s.2.1 / c.2.1.1)
  b1 : NoBehind s.2.2.2.1.2.1 (s.2.1 / c.2.1.2.1)
  b2 : NoBehind s.2.2.2.1.2.2 (s.2.1 / c.2.1.2.2)
/-- a series that is right -/
structure SerOk (c : Conf) (s : Ser) : Prop where
  fold : FoldOk c s.2.2.2.1
  lab : LabOk s.1
  raw : RawOk s.2.2.1 c.1
  st : (s.2.1 = -1 ∧ Fresh s) ∨ (s.2.1 ≠ -1 ∧ EndsP c s)
/-! ### the document's -/
end Go.Proofs.YtapadkjknnfifaaGreat
