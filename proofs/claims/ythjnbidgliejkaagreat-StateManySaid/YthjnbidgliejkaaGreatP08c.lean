/-
  Cells, third part: merged, and those of events.
-/
import Derived.Test.YthjnbidgliejkaaGreatP08b
namespace Go.Proofs.YthjnbidgliejkaaGreat
open Go.Flat Go.Plim
set_option linter.unusedVariables false
set_option linter.unusedSimpArgs false
theorem z02 (p : Prop) [Decidable p] : ((if p then (0 : Int) else 2) = 0) ↔ p := by by_cases h : p <;> simp [h]
/-! ### those of events -/
theorem foll_snoc {l : List Ev} {x : Ev} : Foll (l ++ [x]) ↔ Foll l ∧ EvOk x ∧ ∀ e ∈ l, e.1 < x.1 := by
  rw [foll_append]
  constructor
  · rintro ⟨h1, h2, h3⟩; exact ⟨h1, h2.ok x (by simp), fun e he => h3 e he x (by simp)⟩
  · rintro ⟨h1, h2, h3⟩
    refine ⟨h1, ⟨by simpa using h2, by simp⟩, fun e he y hy => ?_⟩
    simp at hy; subst hy; exact h3 e he
theorem last_all {l : List Ev} (h : Foll l) {x y : Ev} (hy : l.getLast? = some y) (hlt : y.1 < x.1) : ∀ e ∈ l, e.1 < x.1 := by
  intro e he
  rcases List.eq_nil_or_concat l with rfl | ⟨q, z, rfl⟩
  · cases he
  rw [List.concat_eq_append] at *
  simp at hy; subst hy
  rcases List.mem_append.1 he with h1 | h1
  · have := (foll_append.1 h).2.2 e h1 z (by simp); omega
  · simp at h1; subst h1; exact hlt
end Go.Proofs.YthjnbidgliejkaaGreat
