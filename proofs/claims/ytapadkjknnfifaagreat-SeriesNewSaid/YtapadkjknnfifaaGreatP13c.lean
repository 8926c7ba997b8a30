/-
  A tier's slots, third part: got, put, merged.
-/
import Derived.Test.YtapadkjknnfifaaGreatP13b
namespace Go.Proofs.YtapadkjknnfifaaGreat
open Go.Flat Go.Plim
set_option linter.unusedVariables false
set_option linter.unusedSimpArgs false
theorem tier_new (n : Nat) (m : Int) : tier_New (n + 1) m = some (if 1 ≤ m ∧ m ≤ 4096 then List.replicate m.toNat s0 else []) := by
  rw [tier_New_eq]
  simp only [tif_dec, tif_and]
  by_cases h1 : m < 1
  · rw [if_pos h1, if_neg (by omega)]
  by_cases h2 : 4096 < m
  · rw [if_neg h1, if_pos h2, if_neg (by omega)]
  rw [if_neg h1, if_neg h2, if_pos (by omega), if_pos (by omega), if_pos (by omega), if_pos (by omega)]
  rfl
theorem r13_new (n : Nat) (m : Int) : r13_New (n + 1) m = some (if 1 ≤ m ∧ m ≤ 4096 then List.replicate m.toNat s0 else []) := by
  rw [r13_New_eq]
  simp only [tif_dec, tif_and]
  by_cases h1 : m < 1
  · rw [if_pos h1, if_neg (by omega)]
  by_cases h2 : 4096 < m
  · rw [if_neg h1, if_pos h2, if_neg (by omega)]
  rw [if_neg h1, if_neg h2, if_pos (by omega), if_pos (by omega), if_pos (by omega), if_pos (by omega)]
  rfl
/-! ### merged -/
theorem slow_s0 : SloW s0 := ⟨by simp [I64, s0], celW_z0⟩
theorem tierOk_w {l : List Slo} {w : Int} (h : TierOk l w) : ∀ s ∈ l, SloW s := by
  intro s hs
  obtain ⟨j, hj⟩ := List.getElem?_of_mem hs
  rcases h.s j s hj with rfl | ⟨_, hf⟩
  · exact slow_s0
  · have := hf.i0
    exact ⟨by unfold I64; omega, .ofN hf.n⟩
end Go.Proofs.YtapadkjknnfifaaGreat
