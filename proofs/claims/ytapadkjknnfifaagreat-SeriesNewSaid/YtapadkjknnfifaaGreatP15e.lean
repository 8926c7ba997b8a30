/-
  Series, fifth part: a series is the same as itself; are series small?
-/
import Derived.Test.YtapadkjknnfifaaGreatP15d
import Derived.Test.YtapadkjknnfifaaGreatPS14
namespace Go.Proofs.YtapadkjknnfifaaGreat
open Go.Flat Go.Plim
set_option linter.unusedVariables false
set_option linter.unusedSimpArgs false
theorem r05_same_l (n : Nat) (l : List Lab) (hL : l.length ≤ 1000000) : ∀ (rest pre : List Lab) (f : Nat) (ix len : Int), l = pre ++ rest → ix = pre.length → len = l.length → rest.length < f → r05_Same_l4 n f (l, l, len, ix, ()) = some (.inl ()) := by
  intro rest
  induction rest with
  | nil =>
    intro pre f ix len hl hi hn hf
    obtain ⟨f, rfl⟩ : ∃ g, f = g + 1 := ⟨f - 1, by simp at hf; omega⟩
    rw [r05_Same_l4_eq]
    simp only [tif_dec, if_neg (idxe hl hi hn)]
  | cons x rest ih =>
    intro pre f ix len hl hi hn hf
    obtain ⟨f, rfl⟩ : ∃ g, f = g + 1 := ⟨f - 1, by simp at hf; omega⟩
    rw [r05_Same_l4_eq]
    simp only [tif_dec, if_pos (idx hl hi hn), at_mid hl hi, obind_some, labEq, decide_true, Bool.not_true, tif_false, idxw hl hi (by omega)]
    exact ih (pre ++ [x]) f (ix + 1) len (idxl hl) (idxs hi) hn (by simp at hf; omega)
theorem r05_same_refl (n : Nat) (l : List Lab) (hL : l.length ≤ 1000000) : r05_Same (n + 1) l l = some true := by
  rw [r05_Same_eq]
  simp only [decide_true, Bool.not_true, tif_false, r05_same_l n l hL l [] loopFuel 0 _ rfl rfl rfl (by unfold loopFuel; omega), obind_some, selim_inl]
theorem r12_samel_l (n : Nat) (l : List Ev) (hL : l.length ≤ 1000000) : ∀ (rest pre : List Ev) (f : Nat) (ix len : Int), l = pre ++ rest → ix = pre.length → len = l.length → rest.length < f → r12_SameList_l4 n f (l, l, len, ix, ()) = some (.inl ()) := by
  intro rest
  induction rest with
  | nil =>
    intro pre f ix len hl hi hn hf
    obtain ⟨f, rfl⟩ : ∃ g, f = g + 1 := ⟨f - 1, by simp at hf; omega⟩
    rw [r12_SameList_l4_eq]
    simp only [tif_dec, if_neg (idxe hl hi hn)]
  | cons x rest ih =>
    intro pre f ix len hl hi hn hf
    obtain ⟨f, rfl⟩ : ∃ g, f = g + 1 := ⟨f - 1, by simp at hf; omega⟩
    rw [r12_SameList_l4_eq]
    simp only [tif_dec, if_pos (idx hl hi hn), at_mid hl hi, obind_some, evEq, decide_true, Bool.not_true, tif_false, idxw hl hi (by omega)]
    exact ih (pre ++ [x]) f (ix + 1) len (idxl hl) (idxs hi) hn (by simp at hf; omega)
theorem r12_same_refl (n : Nat) (r : Rw) (hL : r.2.2.length ≤ 1000000) : r12_Same (n + 2) r r = some true := by
  rw [r12_Same_eq, r12_SameList_eq]
  simp only [decide_true, Bool.not_true, tif_false, tif_true, r12_samel_l n r.2.2 hL r.2.2 [] loopFuel 0 _ rfl rfl rfl (by unfold loopFuel; omega), obind_some, selim_inl]
/-- lists that are not too long -/
structure SerL (s : Ser) : Prop where
  l : s.1.length ≤ 1000000
  r : s.2.2.1.2.2.length ≤ 1000000
  a : s.2.2.2.1.1.length ≤ 1000000
  b : s.2.2.2.1.2.1.length ≤ 1000000
  d : s.2.2.2.1.2.2.length ≤ 1000000
theorem r15_same_refl (n : Nat) {s : Ser} (h : SerL s) : r15_Same (n + 3) s s = some true := by
  rw [r15_Same_eq, r05_same_refl (n + 1) s.1 h.l, r12_same_refl n s.2.2.1 h.r, r14_same_refl n _ h.a h.b h.d]
  simp only [obind_some, decide_true, tif_true, beq_self_eq_true, Bool.and_true]
theorem ser0_l : SerL ser0 := ⟨by simp [ser0], by simp [ser0, r0w], by simp [ser0], by simp [ser0], by simp [ser0]⟩
/-! ### small ones -/
theorem small05_l (n : Nat) (l : List Lab) (hL : l.length ≤ 9223372036854775807) : ∀ (rest pre : List Lab) (f : Nat) (ix len : Int), l = pre ++ rest → ix = pre.length → len = l.length → rest.length < f →
    l05_Small_l2 n f (l, len, ix, ()) = some (.inl ()) ∨ l05_Small_l2 n f (l, len, ix, ()) = some (.inr 0) := by
  intro rest
  induction rest with
  | nil =>
    intro pre f ix len hl hi hn hf
    obtain ⟨f, rfl⟩ : ∃ g, f = g + 1 := ⟨f - 1, by simp at hf; omega⟩
    left
    rw [l05_Small_l2_eq]
    simp only [tif_dec, if_neg (idxe hl hi hn)]
  | cons x rest ih =>
    intro pre f ix len hl hi hn hf
    obtain ⟨f, rfl⟩ : ∃ g, f = g + 1 := ⟨f - 1, by simp at hf; omega⟩
    have hlen := congrArg List.length hl
    simp at hlen
    rw [l05_Small_l2_eq]
    simp only [tif_dec, if_pos (idx hl hi hn), at_mid hl hi, obind_some]
    rw [w64 (x := ix + 1) (by omega) (by omega)]
    by_cases h1 : ix = 40
    · right; rw [if_pos h1]
    rw [if_neg h1]
    by_cases h2 : (1000 : Int) < x.1.length
    · right; rw [if_pos h2]
    rw [if_neg h2]
    by_cases h3 : (1000 : Int) < x.2.length
    · right; rw [if_pos h3]
    rw [if_neg h3]
    exact ih (pre ++ [x]) f (ix + 1) len (idxl hl) (idxs hi) hn (by simp at hf; omega)
theorem l05_small (n : Nat) (l : List Lab) (hL : l.length ≤ 9223372036854775807) : l05_Small (n + 1) l = some 0 ∨ l05_Small (n + 1) l = some 1 := by
  rw [l05_Small_eq]
  rcases small05_l n l hL l [] loopFuel 0 _ rfl rfl rfl (by unfold loopFuel; omega) with h | h
  · right; rw [h]; rfl
  · left; rw [h]; rfl
theorem l15_small (n : Nat) (s : Ser) (hL : s.1.length ≤ 9223372036854775807) : l15_Small (n + 2) s = some 0 ∨ l15_Small (n + 2) s = some 1 := by
  rw [l15_Small_eq]
  rcases l05_small n s.1 hL with h | h
  · left; rw [h]; rfl
  · rw [h]
    simp only [obind_some, tif_dec, if_neg (show ¬ ((1 : Int) = 0) by omega)]
    by_cases h1 : (60 : Int) < s.2.2.1.2.2.length
    · left; rw [if_pos h1]
    rw [if_neg h1, l14_small]
    simp only [obind_some]
    split
    · right; rfl
    · left; rfl
end Go.Proofs.YtapadkjknnfifaaGreat
