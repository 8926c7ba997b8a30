/-
  Three tiers, third part: made, over, closed, asked from outside; the law FoldTells.
-/
import Derived.Test.YtapadkjknnfifaaGreatP14b
namespace Go.Proofs.YtapadkjknnfifaaGreat
open Go.Flat Go.Plim
set_option linter.unusedVariables false
set_option linter.unusedSimpArgs false
/-! ### asked from outside -/
/-! ### equal -/
theorem r13_same_l (n : Nat) (l : List Slo) (hL : l.length ≤ 1000000) : ∀ (rest pre : List Slo) (f : Nat) (ix len : Int), l = pre ++ rest → ix = pre.length → len = l.length → rest.length < f → r13_Same_l4 n f (l, l, len, ix, ()) = some (.inl ()) := by
  intro rest
  induction rest with
  | nil =>
    intro pre f ix len hl hi hn hf
    obtain ⟨f, rfl⟩ : ∃ g, f = g + 1 := ⟨f - 1, by simp at hf; omega⟩
    rw [r13_Same_l4_eq]
    simp only [tif_dec, if_neg (idxe hl hi hn)]
  | cons x rest ih =>
    intro pre f ix len hl hi hn hf
    obtain ⟨f, rfl⟩ : ∃ g, f = g + 1 := ⟨f - 1, by simp at hf; omega⟩
    rw [r13_Same_l4_eq]
    simp only [tif_dec, if_pos (idx hl hi hn), at_mid hl hi, obind_some, sloEq, decide_true, Bool.not_true, tif_false, idxw hl hi (by omega)]
    exact ih (pre ++ [x]) f (ix + 1) len (idxl hl) (idxs hi) hn (by simp at hf; omega)
theorem r13_same_refl (n : Nat) (l : List Slo) (hL : l.length ≤ 1000000) : r13_Same (n + 1) l l = some true := by
  rw [r13_Same_eq]
  simp only [decide_true, Bool.not_true, tif_false, r13_same_l n l hL l [] loopFuel 0 _ rfl rfl rfl (by unfold loopFuel; omega), obind_some, selim_inl]
theorem r14_same_refl (n : Nat) (s : Trs) (h0 : s.1.length ≤ 1000000) (h1 : s.2.1.length ≤ 1000000) (h2 : s.2.2.length ≤ 1000000) : r14_Same (n + 2) s s = some true := by
  rw [r14_Same_eq, r13_same_refl n _ h0, r13_same_refl n _ h1, r13_same_refl n _ h2]
  simp only [obind_some, Bool.not_true, tif_false]
end Go.Proofs.YtapadkjknnfifaaGreat
