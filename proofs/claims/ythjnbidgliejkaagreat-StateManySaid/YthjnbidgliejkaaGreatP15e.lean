/-
  Series, fifth part: a series is the same as itself; are series small?
-/
import Derived.Test.YthjnbidgliejkaaGreatP15d
import Derived.Test.YthjnbidgliejkaaGreatPS14
namespace Go.Proofs.YthjnbidgliejkaaGreat
open Go.Flat Go.Plim
set_option linter.unusedVariables false
set_option linter.unusedSimpArgs false
theorem r05_same_l (n : Nat) (l : List Lab) (hL : l.length ≤ 1000000) : ∀ (rest pre : List Lab) (f : Nat) (ix len : Int), l = pre ++ rest → ix = pre.length → len = l.length → rest.length < f → r05_Same_l4 n f (l, l, len, ix, ()) = some (.inl ()) := by
  intro rest
  induction rest with
  | nil =>
    intro pre f ix len hl hi hn hf
    obtain ⟨f, rfl⟩ : ∃ g, f = g + 1 := ⟨f - 1, by simp at hf; omega⟩
    rw [r05_Same_l4_eq]
    simp only [tif_dec, if_neg (idxe hl hi hn)]
  | cons x rest ih =>
    intro pre f ix len hl hi hn hf
    obtain ⟨f, rfl⟩ : ∃ g, f = g + 1 := ⟨f - 1, by simp at hf; omega⟩
    rw [r05_Same_l4_eq]
    simp only [tif_dec, if_pos (idx hl hi hn), at_mid hl hi, obind_some, labEq, decide_true, Bool.not_true, tif_false, idxw hl hi (by omega)]
    exact ih (pre ++ [x]) f (ix + 1) len (idxl hl) (idxs hi) hn (by simp at hf; omega)
/-- lists that are not too long -/
structure SerL (s : Ser) : Prop where
  l : s.1.length ≤ 1000000
  r : s.2.2.1.2.2.length ≤ 1000000
  a : s.2.2.2.1.1.length ≤ 1000000
  b : s.2.2.2.1.2.1.length ≤ 1000000
  d : s.2.2.2.1.2.2.length ≤ 1000000
theorem series_check (n : Nat) (c : Conf) {s : Ser} (hw : SerW s) : series_Check (n + 11) c s = some (if SerOk c s then 0 else 2) := by
  rw [series_Check_eq, series_open_val n c hw]
  by_cases h : SerOk c s
  · rw [if_pos h, if_pos h]; rfl
  · rw [if_neg h, if_neg h]; rfl
/-! ### small ones -/
theorem small05_l (n : Nat) (l : List Lab) (hL : l.length ≤ 9223372036854775807) : ∀ (rest pre : List Lab) (f : Nat) (ix len : Int), l = pre ++ rest → ix = pre.length → len = l.length → rest.length < f →
    l05_Small_l2 n f (l, len, ix, ()) = some (.inl ()) ∨ l05_Small_l2 n f (l, len, ix, ()) = some (.inr 0) := by
  intro rest
  induction rest with
  | nil =>
    intro pre f ix len hl hi hn hf
    obtain ⟨f, rfl⟩ : ∃ g, f = g + 1 := ⟨f - 1, by simp at hf; omega⟩
    left
    rw [l05_Small_l2_eq]
    simp only [tif_dec, if_neg (idxe hl hi hn)]
  | cons x rest ih =>
    intro pre f ix len hl hi hn hf
    obtain ⟨f, rfl⟩ : ∃ g, f = g + 1 := ⟨f - 1, by simp at hf; omega⟩
    have hlen := congrArg List.length hl
    simp at hlen
    rw [l05_Small_l2_eq]
    simp only [tif_dec, if_pos (idx hl hi hn), at_mid hl hi, obind_some]
    rw [w64 (x := ix + 1) (by omega) (by omega)]
    by_cases h1 : ix = 40
    · right; rw [if_pos h1]
    rw [if_neg h1]
    by_cases h2 : (1000 : Int) < x.1.length
    · right; rw [if_pos h2]
    rw [if_neg h2]
    by_cases h3 : (1000 : Int) < x.2.length
    · right; rw [if_pos h3]
    rw [if_neg h3]
    exact ih (pre ++ [x]) f (ix + 1) len (idxl hl) (idxs hi) hn (by simp at hf; omega)
theorem l05_small (n : Nat) (l : List Lab) (hL : l.length ≤ 9223372036854775807) : l05_Small (n + 1) l = some 0 ∨ l05_Small (n + 1) l = some 1 := by
  rw [l05_Small_eq]
  rcases small05_l n l hL l [] loopFuel 0 _ rfl rfl rfl (by unfold loopFuel; omega) with h | h
  · right; rw [h]; rfl
  · left; rw [h]; rfl
theorem l15_small (n : Nat) (s : Ser) (hL : s.1.length ≤ 9223372036854775807) : l15_Small (n + 2) s = some 0 ∨ l15_Small (n + 2) s = some 1 := by
  rw [l15_Small_eq]
  rcases l05_small n s.1 hL with h | h
  · left; rw [h]; rfl
  · rw [h]
    simp only [obind_some, tif_dec, if_neg (show ¬ ((1 : Int) = 0) by omega)]
    by_cases h1 : (60 : Int) < s.2.2.1.2.2.length
    · left; rw [if_pos h1]
    rw [if_neg h1, l14_small]
    simp only [obind_some]
    split
    · right; rfl
    · left; rfl
theorem ser_wf {s : Ser} (h : Wf tySeries s) : SerW s := by
  obtain ⟨h1, h2, h3, h4, h5⟩ := h
  refine ⟨h2, ?_, trs_wf h4, slo_wf h5⟩
  intro e he
  exact ev_wf (h3.2.2.2 e he)
end Go.Proofs.YthjnbidgliejkaaGreat
