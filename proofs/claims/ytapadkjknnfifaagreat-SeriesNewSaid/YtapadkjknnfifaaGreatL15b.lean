/-
  The law SeriesNew.
-/
import Derived.Test.YtapadkjknnfifaaGreatP15g
import Derived.Test.YtapadkjknnfifaaGreatPL15
namespace Go.Proofs.YtapadkjknnfifaaGreat
open Go.Flat Go.Plim
set_option linter.unusedVariables false
set_option linter.unusedSimpArgs false
theorem r15_new (n : Nat) (c : Conf) (l : List Lab) : r15_New (n + 6) c l = some (newV c l) := by
  rw [r15_New_eq, r10_check (n + 2) c, r05_check (n + 3) l]
  unfold newV
  by_cases h : OkC c
  case neg => rw [if_neg h, if_neg h]; rfl
  rw [if_pos h, if_pos h]
  simp only [obind_some, decide_true, Bool.not_true, tif_false]
  by_cases h1 : LabOk l
  case neg => rw [if_neg h1, if_neg h1]; rfl
  have := h1.n1
  rw [if_pos h1, if_pos h1, decide_eq_true (show (0 + l.length) * 32 ≤ 140737488355328 by omega), r14_empty (n + 1) c]
  rfl
theorem ser_m {s : Ser} (h : Wf tySeries s) : SerM s := by
  obtain ⟨h1, h2, h3, ⟨h4, h5, h6⟩, h7⟩ := h
  have e1 := h1.1; have e3 := h3.2.2.1; have e4 := h4.1; have e5 := h5.1; have e6 := h6.1
  simp only [maxLen] at e1 e3 e4 e5 e6
  exact ⟨e1, e3, e4, e5, e6⟩
/-- THE LAW SeriesNew -/
theorem seriesNew_true (n : Nat) (c : Conf) (l : List Lab) (s o : Ser) (last now : Int) (hl : Wf (.slice tyLabel) l) (hs : Wf tySeries s) (ho : Wf tySeries o) : l15_SeriesNew (n + 41) c l s o last now = some true := by
  have hL : l.length ≤ 9223372036854775807 := by
    have h1 := hl.1
    simpa only [maxLen] using h1
  have hm := ser_m hs
  have hm' := ser_m ho
  rw [l15_SeriesNew_eq]
  rcases l05_small (n + 39) l hL with h | h
  · rw [h, l15_lives_true n]; rfl
  rcases l15_small (n + 38) s hm.l with h1 | h1
  · rw [h, h1, l15_lives_true n]; rfl
  rcases l15_small (n + 38) o hm'.l with h2 | h2
  · rw [h, h1, h2, l15_lives_true n]; rfl
  simp only [h, h1, h2, l15_lives_true n, series_new (n + 33) c l, r15_new (n + 34) c l, series_same (n + 37) s o hm, r15_same (n + 37) s o hm, series_dead (n + 34) c last now, r15_dead (n + 35) c last now, r15_same_refl (n + 37) (newV_l c l), obind_some, decide_true, tif_true, beq_self_eq_true, tif_same]
end Go.Proofs.YtapadkjknnfifaaGreat
