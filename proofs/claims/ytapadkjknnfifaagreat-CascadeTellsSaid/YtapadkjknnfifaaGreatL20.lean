/-
  The law CascadeTells.
-/
import Derived.Test.YtapadkjknnfifaaGreatP20
import Derived.Test.YtapadkjknnfifaaGreatPL20
namespace Go.Proofs.YtapadkjknnfifaaGreat
open Go.Flat Go.Plim
set_option linter.unusedVariables false
set_option linter.unusedSimpArgs false
/-- THE LAW CascadeTells -/
theorem cascadeTells_true (n : Nat) (s : Sta) (now k : Int) (hs : Wf tyState s) : l20_CascadeTells (n + 41) s now k = some true := by
  have hw := sta_wf hs
  rw [l20_CascadeTells_eq, l20_lives_true n]
  rcases l17_small (n + 37) hw with h | ⟨h, _⟩
  · rw [h]; rfl
  rw [h, cascade_tick (n + 25) hw, r20_tick (n + 30) hw, cascade_sealed (n + 23) hw, r20_sealed (n + 29) hw, cascade_kept (n + 24) hw, r20_kept (n + 30) hw, cascade_steps (n + 24) hw, r20_steps (n + 28) hw]
  simp only [obind_some, r17_same_refl (n + 36) (tickV_w hw now), decide_true, tif_true, beq_self_eq_true, Bool.and_self, show (decide ((1 : Int) = 0)) = false from rfl, tif_false]
end Go.Proofs.YtapadkjknnfifaaGreat
