/-
  Are tiers small? The statements' own test.
-/
import Derived.Test.YthjnbidgliejkaaGreatP14
namespace Go.Proofs.YthjnbidgliejkaaGreat
open Go.Flat Go.Plim
set_option linter.unusedVariables false
set_option linter.unusedSimpArgs false
theorem small_l2_3 (n f : Nat) (s : Trs) : l14_Small_l2 n (f + 1) (s, (3 : Int), ()) = some (.inl ()) := by
  rw [l14_Small_l2_eq, show (decide ((3 : Int) < 3)) = false from rfl, tif_false]
theorem small_l2_2 (n f : Nat) (s : Trs) : l14_Small_l2 n (f + 2) (s, (2 : Int), ()) = some (if (40 : Int) < s.2.2.length then .inr 0 else .inl ()) := by
  rw [l14_Small_l2_eq, show (decide ((2 : Int) < 3)) = true from rfl, tif_true, show (decide ((2 : Int) = 0)) = false from rfl, tif_false, show (decide ((2 : Int) = 1)) = false from rfl, tif_false, show (decide ((2 : Int) = 2)) = true from rfl, tif_true]
  rw [show IntKind.wrap .i64 ((2 : Int) + 1) = 3 from rfl, small_l2_3]
  simp only [tif_dec]
  split <;> rfl
theorem small_l2_1 (n f : Nat) (s : Trs) : l14_Small_l2 n (f + 3) (s, (1 : Int), ()) = some (if (40 : Int) < s.2.1.length ∨ (40 : Int) < s.2.2.length then .inr 0 else .inl ()) := by
  rw [l14_Small_l2_eq, show (decide ((1 : Int) < 3)) = true from rfl, tif_true, show (decide ((1 : Int) = 0)) = false from rfl, tif_false, show (decide ((1 : Int) = 1)) = true from rfl, tif_true]
  rw [show IntKind.wrap .i64 ((1 : Int) + 1) = 2 from rfl, small_l2_2]
  simp only [tif_dec]
  by_cases h : (40 : Int) < s.2.1.length
  · rw [if_pos h, if_pos (.inl h)]
  · rw [if_neg h]
    by_cases h' : (40 : Int) < s.2.2.length
    · rw [if_pos h', if_pos (.inr h')]
    · rw [if_neg h', if_neg (fun k => k.elim h h')]
theorem small_l2_0 (n f : Nat) (s : Trs) : l14_Small_l2 n (f + 4) (s, (0 : Int), ()) = some (if (40 : Int) < s.1.length ∨ (40 : Int) < s.2.1.length ∨ (40 : Int) < s.2.2.length then .inr 0 else .inl ()) := by
  rw [l14_Small_l2_eq, show (decide ((0 : Int) < 3)) = true from rfl, tif_true, show (decide ((0 : Int) = 0)) = true from rfl, tif_true]
  rw [show IntKind.wrap .i64 ((0 : Int) + 1) = 1 from rfl, small_l2_1]
  simp only [tif_dec]
  by_cases h : (40 : Int) < s.1.length
  · rw [if_pos h, if_pos (.inl h)]
  · rw [if_neg h]
    by_cases h' : (40 : Int) < s.2.1.length ∨ (40 : Int) < s.2.2.length
    · rw [if_pos h', if_pos (.inr h')]
    · rw [if_neg h', if_neg (fun k => k.elim h h')]
/-- small tiers -/
def Small14 (s : Trs) : Prop := s.1.length ≤ 40 ∧ s.2.1.length ≤ 40 ∧ s.2.2.length ≤ 40
instance (s : Trs) : Decidable (Small14 s) := by unfold Small14; infer_instance
theorem l14_small (n : Nat) (s : Trs) : l14_Small (n + 1) s = some (if Small14 s then 1 else 0) := by
  rw [l14_Small_eq, show loopFuel = (2 ^ 70 - 4) + 4 from by decide, small_l2_0]
  by_cases h : Small14 s
  · rw [if_pos h, if_neg (by unfold Small14 at h; omega)]; rfl
  · rw [if_neg h, if_pos (by unfold Small14 at h; omega)]; rfl
end Go.Proofs.YthjnbidgliejkaaGreat
