/-
  A tier's slots: what the program and the document make of them, as plain functions.
-/
import Derived.Test.YtapadkjknnfifaaGreatP08c
import Derived.Test.YtapadkjknnfifaaGreatPSort3
import Derived.Test.YtapadkjknnfifaaGreatM13
namespace Go.Proofs.YtapadkjknnfifaaGreat
open Go.Flat Go.Plim
set_option linter.unusedVariables false
set_option linter.unusedSimpArgs false
structure SloW (s : Slo) : Prop where
  i : I64 s.1
  c : CelW s.2
theorem sloEq (a b : Slo) : ((decide (a.1 = b.1)) && ((decide (a.2.1 = b.2.1)) && ((decide (a.2.2.1.1 = b.2.2.1.1)) && ((decide (a.2.2.1.2.1 = b.2.2.1.2.1)) && ((decide (a.2.2.1.2.2.1 = b.2.2.1.2.2.1)) && ((a.2.2.1.2.2.2 == b.2.2.1.2.2.2) && ((decide (a.2.2.2.1.1 = b.2.2.2.1.1)) && ((decide (a.2.2.2.1.2.1 = b.2.2.2.1.2.1)) && ((decide (a.2.2.2.1.2.2.1 = b.2.2.2.1.2.2.1)) && ((a.2.2.2.1.2.2.2 == b.2.2.2.1.2.2.2) && ((decide (a.2.2.2.2.1.1 = b.2.2.2.2.1.1)) && ((decide (a.2.2.2.2.1.2 = b.2.2.2.2.1.2)) && ((decide (a.2.2.2.2.2.1 = b.2.2.2.2.2.1)) && ((decide (a.2.2.2.2.2.2.1 = b.2.2.2.2.2.2.1)) && (decide (a.2.2.2.2.2.2.2 = b.2.2.2.2.2.2.2)))))))))))))))) = decide (a = b) := by
  rw [celEq a.2 b.2, Bool.eq_iff_iff]; simp [Prod.ext_iff]
/-! ### windows -/
theorem window_in (n : Nat) (x a b : Int) : window_in_int64 (n + 1) x a b = some (decide (a ≤ x ∧ x ≤ b)) := by
  rw [window_in_int64_eq]
  by_cases h1 : a ≤ x <;> by_cases h2 : x ≤ b <;> simp [h1, h2]
/-- a time that has a window -/
def OfP (t w : Int) : Prop := 0 ≤ t ∧ t < 35184372088832 ∧ 1 ≤ w ∧ w ≤ 1099511627776
instance (t w : Int) : Decidable (OfP t w) := by unfold OfP; infer_instance
theorem quo_range {t w : Int} (h : OfP t w) : 0 ≤ t / w ∧ t / w < 35184372088832 := by
  obtain ⟨h1, h2, h3, h4⟩ := h
  have : 0 ≤ t / w := Int.ediv_nonneg h1 (by omega)
  have : t / w ≤ t := Int.ediv_le_self _ h1
  omega
theorem window_of (n : Nat) (t w : Int) : window_Of (n + 3) t w = some (if OfP t w then (t / w, 0) else (0, 1)) := by
  rw [window_Of_eq, window_width_eq, window_in, window_in]
  simp only [obind_some, tif_not, tif_dec]
  by_cases h : OfP t w
  · have hq := quo_range h
    rw [if_pos h]
    obtain ⟨h1, h2, h3, h4⟩ := h
    rw [if_pos (show (0 : Int) ≤ t ∧ t ≤ 35184372088831 by omega), if_pos (And.intro h3 h4), if_neg (show ¬ (w = 0) by omega), tdiv_nn h1, w64 (by omega) (by omega)]
  · rw [if_neg h]
    by_cases h1 : (0 : Int) ≤ t ∧ t ≤ 35184372088831
    · rw [if_pos h1, if_neg (fun k => h ⟨h1.1, by omega, k.1, k.2⟩)]
    · rw [if_neg h1]
theorem r09_of (n : Nat) (t w : Int) : r09_Of (n + 2) t w = some (if OfP t w then (t / w, 0) else (0, 1)) := by
  rw [r09_Of_eq, r09_width_eq]
  simp only [tif_dec]
  by_cases h : OfP t w
  · have hq := quo_range h
    rw [if_pos h]
    obtain ⟨h1, h2, h3, h4⟩ := h
    rw [if_neg (show ¬ (t < 0) by omega), if_neg (show ¬ ((35184372088832 : Int) ≤ t) by omega), if_pos h3, decide_eq_true h4]
    simp only [obind_some, Bool.not_true, tif_false]
    rw [if_neg (show ¬ (w = 0) by omega), tmod_nn h1]
    have e : t - t % w = w * (t / w) := by have := Int.mul_ediv_add_emod t w; omega
    have m0 := Int.emod_nonneg t (show w ≠ 0 by omega)
    have m1 : t % w ≤ t := by
      have := Int.mul_nonneg (show 0 ≤ w by omega) hq.1
      omega
    rw [w64 (x := t - t % w) (by omega) (by omega), tdiv_nn (by omega), e, Int.mul_ediv_cancel_left _ (show w ≠ 0 by omega), w64 (by omega) (by omega), if_neg (show ¬ (w = 0) by omega)]
  · rw [if_neg h]
    by_cases h1 : t < 0
    · rw [if_pos h1]
    by_cases h2 : (35184372088832 : Int) ≤ t
    · rw [if_neg h1, if_pos h2]
    rw [if_neg h1, if_neg h2]
    by_cases h3 : (1 : Int) ≤ w
    · have h4 : ¬ (w ≤ 1099511627776) := fun k => h ⟨by omega, by omega, h3, k⟩
      rw [if_pos h3, decide_eq_false h4]; rfl
    · rw [if_neg h3]; rfl
/-! ### a window's cell -/
/-! ### is a tier right? -/
end Go.Proofs.YtapadkjknnfifaaGreat
