/-
  Series, seventh part: a new one; is a time gone?
-/
import Derived.Test.YthjnbidgliejkaaGreatP15f
namespace Go.Proofs.YthjnbidgliejkaaGreat
open Go.Flat Go.Plim
set_option linter.unusedVariables false
set_option linter.unusedSimpArgs false
/-- the oldest window that is kept at a time -/
def oldV (now w m : Int) : Int × Int := if OfP now w ∧ 1 ≤ m ∧ m ≤ 4096 then (if 0 < now / w + 1 - m then now / w + 1 - m else 0, 0) else (0, 1)
theorem window_oldest (n : Nat) (now w m : Int) : window_Oldest (n + 4) now w m = some (oldV now w m) := by
  rw [window_Oldest_eq, window_of n now w, window_in_int_eq]
  unfold oldV
  by_cases h : OfP now w
  case neg => rw [if_neg h, if_neg (fun k => h k.1)]; rfl
  rw [if_pos h]
  have hq := quo_range h
  simp only [obind_some, decide_true, Bool.not_true, tif_false]
  by_cases h1 : 1 ≤ m
  case neg => simp [h, h1]
  by_cases h2 : m ≤ 4096
  case neg => simp [h, h1, h2]
  rw [w64 (x := now / w + 1) (by omega) (by omega), w64 (x := now / w + 1 - m) (by omega) (by omega)]
  simp [h, h1, h2]
theorem r09_oldest (n : Nat) (now w m : Int) : r09_Oldest (n + 3) now w m = some (oldV now w m) := by
  rw [r09_Oldest_eq, r09_of n now w]
  unfold oldV
  by_cases h : OfP now w
  case neg => rw [if_neg h, if_neg (fun k => h k.1)]; rfl
  rw [if_pos h]
  have hq := quo_range h
  simp only [obind_some, decide_true, Bool.not_true, tif_false, tif_dec]
  by_cases h1 : m < 1
  · rw [if_pos h1, if_neg (by omega)]
  rw [if_neg h1]
  by_cases h2 : 4096 < m
  · rw [if_pos h2, if_neg (by omega)]
  rw [if_neg h2, w64 (x := now / w - m) (by omega) (by omega), w64 (x := now / w - m + 1) (by omega) (by omega), if_pos (show OfP now w ∧ 1 ≤ m ∧ m ≤ 4096 from ⟨h, by omega, by omega⟩)]
  have e : (if now / w - m + 1 < 0 then (0 : Int) else now / w - m + 1) = if 0 < now / w + 1 - m then now / w + 1 - m else 0 := by
    split <;> split <;> omega
  rw [e]
noncomputable def goneV (t now w m : Int) : Bool := decide (OfP t w ∧ (oldV now w m).2 = 0 ∧ t / w < (oldV now w m).1)
theorem window_gone (n : Nat) (t now w m : Int) : window_Gone (n + 5) t now w m = some (goneV t now w m) := by
  rw [window_Gone_eq, window_of (n + 1) t w, window_oldest n now w m]
  unfold goneV
  simp only [obind_some, tif_dec]
  by_cases h : OfP t w
  case neg => rw [if_neg h, if_neg (by simp), decide_eq_false (fun k => h k.1)]
  rw [if_pos h, if_pos rfl]
  by_cases h1 : (oldV now w m).2 = 0
  · rw [if_pos h1]; exact congrArg some (decide_eq_decide.2 ⟨fun k => ⟨h, h1, k⟩, fun k => k.2.2⟩)
  · rw [if_neg h1, decide_eq_false (fun k => h1 k.2.1)]
theorem r09_gone (n : Nat) (t now w m : Int) : r09_Gone (n + 4) t now w m = some (goneV t now w m) := by
  rw [r09_Gone_eq, r09_of (n + 1) t w, r09_oldest n now w m]
  unfold goneV
  simp only [obind_some, tif_dec]
  by_cases h : OfP t w
  case neg => rw [if_neg h, if_neg (by simp), decide_eq_false (fun k => h k.1)]
  rw [if_pos h, if_pos rfl]
  by_cases h1 : (oldV now w m).2 = 0
  · rw [if_pos h1]; exact congrArg some (decide_eq_decide.2 ⟨fun k => ⟨h, h1, k⟩, fun k => k.2.2⟩)
  · rw [if_neg h1, decide_eq_false (fun k => h1 k.2.1)]
noncomputable def deadV (c : Conf) (last now : Int) : Bool :=
  decide (OkC c) && (goneV last now c.2.1.1 c.2.2.1.1 && (goneV last now c.2.1.2.1 c.2.2.1.2.1 && goneV last now c.2.1.2.2 c.2.2.1.2.2))
theorem series_dead (n : Nat) (c : Conf) (last now : Int) : series_Dead (n + 6) c last now = some (deadV c last now) := by
  rw [series_Dead_eq, conf_check (n + 2) c, window_gone n, window_gone n, window_gone n]
  unfold deadV
  by_cases h : OkC c
  case neg => rw [if_neg h, decide_eq_false h]; rfl
  rw [if_pos h, decide_eq_true h]
  simp only [obind_some, decide_true, tif_true, Bool.true_and]
  cases goneV last now c.2.1.1 c.2.2.1.1 <;> cases goneV last now c.2.1.2.1 c.2.2.1.2.1 <;> cases goneV last now c.2.1.2.2 c.2.2.1.2.2 <;> rfl
theorem r15_dead (n : Nat) (c : Conf) (last now : Int) : r15_Dead (n + 5) c last now = some (deadV c last now) := by
  rw [r15_Dead_eq, r10_check (n + 1) c, r09_gone n, r09_gone n, r09_gone n]
  unfold deadV
  by_cases h : OkC c
  case neg => rw [if_neg h, decide_eq_false h]; rfl
  rw [if_pos h, decide_eq_true h]
  simp only [obind_some, decide_true, Bool.not_true, tif_false, Bool.true_and]
  cases goneV last now c.2.1.1 c.2.2.1.1 <;> cases goneV last now c.2.1.2.1 c.2.2.1.2.1 <;> cases goneV last now c.2.1.2.2 c.2.2.1.2.2 <;> rfl
/-! ### a new one -/
end Go.Proofs.YthjnbidgliejkaaGreat
