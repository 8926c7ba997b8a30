/-
  The law SeriesTells.
-/
import Derived.Test.YtapadkjknnfifaaGreatP15e
import Derived.Test.YtapadkjknnfifaaGreatPL15
namespace Go.Proofs.YtapadkjknnfifaaGreat
open Go.Flat Go.Plim
set_option linter.unusedVariables false
set_option linter.unusedSimpArgs false

/-- THE LAW SeriesTells -/
theorem seriesTells_true (n : Nat) (c : Conf) (s : Ser) (e : Ev) (k i j : Int) (hs : Wf tySeries s) (he : Wf tyEvent e) : l15_SeriesTells (n + 41) c s e k i j = some true := by
  have hw := ser_wf hs
  have hev := ev_wf he
  have hL : s.1.length ≤ 9223372036854775807 := by
    have h1 : s.1.length ≤ maxLen := hs.1.1
    simp only [maxLen] at h1
    omega
  rw [l15_SeriesTells_eq, l15_lives_true n]
  rcases l15_small (n + 38) s hL with h | h
  · rw [h]; rfl
  obtain ⟨v, e1, e2⟩ := cell_same (n + 19) (n + 30) c hw k i
  obtain ⟨w, e3, e4⟩ := range_same (n + 18) (n + 30) c hw k i j
  rw [h, series_put (n + 17) c hw hev, r15_put (n + 29) c hw hev, e1, e2, e3, e4, series_check (n + 29) c hw, r15_check (n + 32) c hw]
  simp only [obind_some, celEq, decide_true, tif_true, r15_same_refl (n + 37) (putE_l c s e)]
  rfl
end Go.Proofs.YtapadkjknnfifaaGreat
