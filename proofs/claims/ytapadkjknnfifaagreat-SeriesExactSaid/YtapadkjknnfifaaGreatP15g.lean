/-
  Series, seventh part: a new one; is a time gone?
-/
import Derived.Test.YtapadkjknnfifaaGreatP15f
namespace Go.Proofs.YtapadkjknnfifaaGreat
open Go.Flat Go.Plim
set_option linter.unusedVariables false
set_option linter.unusedSimpArgs false
/-! ### a new one -/
noncomputable def newV (c : Conf) (l : List Lab) : Ser × Int :=
  if OkC c then (if LabOk l then ((l, (-1, (r0w, (emp c, s0)))), 0) else (ser0, 8)) else (ser0, 2)
theorem clone_label (n : Nat) (l : List Lab) (h : l.length ≤ 1000000) : slices_Clone_Label (n + 1) l = some l := by
  rw [slices_Clone_Label_eq, decide_eq_true (show (0 + l.length) * 32 ≤ 140737488355328 by omega)]
  simp only [tif_true, List.nil_append]
  by_cases h0 : l.length = 0
  · rw [decide_eq_true h0, tif_true, List.length_eq_zero_iff.1 h0, both_same]
  · rw [decide_eq_false h0, tif_false]
theorem series_new (n : Nat) (c : Conf) (l : List Lab) : series_New (n + 7) c l = some (newV c l) := by
  rw [series_New_eq, conf_check (n + 3) c, label_check n l]
  unfold newV
  by_cases h : OkC c
  case neg => rw [if_neg h, if_neg h]; rfl
  rw [if_pos h, if_pos h]
  simp only [obind_some, decide_true, Bool.not_true, tif_false]
  by_cases h1 : LabOk l
  case neg => rw [if_neg h1, if_neg h1]; rfl
  rw [if_pos h1, if_pos h1, clone_label (n + 5) l (by have := h1.n1; omega), fold_empty (n + 2) c]
  rfl
end Go.Proofs.YtapadkjknnfifaaGreat
