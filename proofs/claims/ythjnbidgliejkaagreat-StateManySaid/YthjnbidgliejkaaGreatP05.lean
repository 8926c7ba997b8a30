/-
  Labels: which are right, by the program and by the document; equal ones.
-/
import Derived.Test.YthjnbidgliejkaaGreatP08
import Derived.Test.YthjnbidgliejkaaGreatPSort
namespace Go.Proofs.YthjnbidgliejkaaGreat
open Go.Flat Go.Plim
set_option linter.unusedVariables false
set_option linter.unusedSimpArgs false
abbrev Lab := List UInt8 × List UInt8
/-- a byte that may be in a name -/
def sgn (c : Int) : Prop := (97 ≤ c ∧ c ≤ 122) ∨ (65 ≤ c ∧ c ≤ 90) ∨ (48 ≤ c ∧ c ≤ 57) ∨ c = 95
instance (c : Int) : Decidable (sgn c) := by unfold sgn; infer_instance
def digitP (c : Int) : Prop := 48 ≤ c ∧ c ≤ 57
instance (c : Int) : Decidable (digitP c) := by unfold digitP; infer_instance
def NameOk : List UInt8 → Prop
  | [] => False
  | b :: r => (b :: r).length ≤ 64 ∧ ¬ digitP (b.toNat : Int) ∧ ∀ x ∈ b :: r, sgn (x.toNat : Int)
instance : (s : List UInt8) → Decidable (NameOk s)
  | [] => .isFalse id
  | b :: r => by unfold NameOk; infer_instance
theorem low_all : ∀ c : Fin 256, (97 ≤ orI .u8 (c.val : Int) 32 ∧ orI .u8 (c.val : Int) 32 ≤ 122) ↔ ((97 ≤ (c.val : Int) ∧ (c.val : Int) ≤ 122) ∨ (65 ≤ (c.val : Int) ∧ (c.val : Int) ≤ 90)) := by decide +kernel
theorem low (c : Int) (h : 0 ≤ c ∧ c ≤ 255) : (97 ≤ orI .u8 c 32 ∧ orI .u8 c 32 ≤ 122) ↔ ((97 ≤ c ∧ c ≤ 122) ∨ (65 ≤ c ∧ c ≤ 90)) := by
  obtain ⟨k, rfl⟩ := Int.eq_ofNat_of_zero_le h.1
  exact low_all ⟨k, by omega⟩
theorem label_digit_val (n : Nat) (c : Int) : label_digit (n + 1) c = some (decide (digitP c)) := by
  rw [label_digit_eq]
  unfold digitP
  by_cases h1 : (48 : Int) ≤ c <;> by_cases h2 : c ≤ 57 <;> simp [h1, h2]
theorem label_sign_val (n : Nat) (c : Int) (h : 0 ≤ c ∧ c ≤ 255) : label_sign (n + 2) c = some (decide (sgn c)) := by
  rw [label_sign_eq, label_digit_val]
  simp only [obind_some, tif_dec]
  have hl := low c h
  by_cases h1 : digitP c
  · rw [if_pos h1, decide_eq_true (show sgn c from .inr (.inr (.inl h1)))]
  rw [if_neg h1]
  by_cases h2 : c = 95
  · rw [if_pos h2, decide_eq_true (show sgn c from .inr (.inr (.inr h2)))]
  rw [if_neg h2]
  by_cases h3 : 97 ≤ orI .u8 c 32
  · rw [if_pos h3]
    refine congrArg some (decide_eq_decide.2 ?_)
    constructor
    · intro k
      rcases hl.1 ⟨h3, k⟩ with q | q
      · exact .inl q
      · exact .inr (.inl q)
    · intro k
      rcases k with k | k | k | k
      · exact (hl.2 (.inl k)).2
      · exact (hl.2 (.inr k)).2
      · exact absurd k h1
      · exact absurd k h2
  · rw [if_neg h3, decide_eq_false]
    intro k
    rcases k with k | k | k | k
    · exact h3 (hl.2 (.inl k)).1
    · exact h3 (hl.2 (.inr k)).1
    · exact h1 k
    · exact h2 k
theorem index_byte (n : Nat) {del : Int × Unit → Option Bool} {p : Int → Bool} (l : List Int) (hL : l.length ≤ 1000000000000) (hd : ∀ x ∈ l, del (x, ()) = some (p x)) : ∀ (rest pre : List Int) (f : Nat) (i len : Int), l = pre ++ rest → i = pre.length → len = l.length → rest.length < f →
    (slices_IndexFunc_byte_l2 n f (l, del, len, i, ()) = some (.inl ()) ∧ ∀ x ∈ rest, p x = false) ∨
    (∃ k : Int, 0 ≤ k ∧ slices_IndexFunc_byte_l2 n f (l, del, len, i, ()) = some (.inr k) ∧ ∃ x ∈ rest, p x = true) := by
  intro rest
  induction rest with
  | nil =>
    intro pre f i len hl hi hn hf
    obtain ⟨f, rfl⟩ : ∃ g, f = g + 1 := ⟨f - 1, by simp at hf; omega⟩
    rw [slices_IndexFunc_byte_l2_eq]
    exact .inl ⟨by simp only [tif_dec, if_neg (idxe hl hi hn)], by simp⟩
  | cons x rest ih =>
    intro pre f i len hl hi hn hf
    obtain ⟨f, rfl⟩ : ∃ g, f = g + 1 := ⟨f - 1, by simp at hf; omega⟩
    rw [slices_IndexFunc_byte_l2_eq]
    simp only [tif_dec, if_pos (idx hl hi hn), at_mid hl hi, obind_some, hd x (by rw [hl]; simp), idxw hl hi hL]
    cases hp : p x with
    | true => exact .inr ⟨i, by omega, by simp, x, by simp, hp⟩
    | false =>
      rw [tif_false]
      rcases ih (pre ++ [x]) f (i + 1) len (idxl hl) (idxs hi) hn (by simp at hf; omega) with ⟨h1, h2⟩ | ⟨k, h1, h2, y, hy, h3⟩
      · exact .inl ⟨h1, by intro z hz; rcases List.mem_cons.1 hz with rfl | hz; exact hp; exact h2 z hz⟩
      · exact .inr ⟨k, h1, h2, y, by simp [hy], h3⟩
theorem contains_byte (n : Nat) {del : Int × Unit → Option Bool} {p : Int → Bool} (l : List Int) (hL : l.length ≤ 1000000000000) (hd : ∀ x ∈ l, del (x, ()) = some (p x)) : slices_ContainsFunc_byte (n + 2) l del = some (l.any p) := by
  rw [slices_ContainsFunc_byte_eq, slices_IndexFunc_byte_eq]
  rcases index_byte n l hL hd l [] loopFuel 0 l.length rfl rfl rfl (by unfold loopFuel; omega) with ⟨h1, h2⟩ | ⟨k, h1, h2, x, hx, h3⟩
  · rw [h1]
    have : l.any p = false := by rw [List.any_eq_false]; intro x hx; simp [h2 x hx]
    rw [this]; rfl
  · rw [h2]
    have : l.any p = true := List.any_eq_true.2 ⟨x, hx, h3⟩
    simp [this, h1]
theorem label_name_val (n : Nat) (s : List UInt8) : label_name (n + 5) s = some (decide (NameOk s)) := by
  rw [label_name_eq]
  match s with
  | [] => rfl
  | b :: r =>
    have e1 : ((b :: r) == []) = false := rfl
    have e2 : at? (b :: r) (0 : Int) = some b := rfl
    rw [e1, tif_false, e2, obind_some, label_digit_val, obind_some]
    simp only [tif_dec]
    by_cases h1 : (64 : Int) < (b :: r).length
    · rw [if_pos h1, decide_eq_false (fun k : NameOk (b :: r) => by have := k.1; omega)]
    rw [if_neg h1]
    by_cases h2 : digitP (b.toNat : Int)
    · rw [if_pos h2, decide_eq_false (fun k : NameOk (b :: r) => k.2.1 h2)]
    rw [if_neg h2, contains_byte (p := fun c => !decide (sgn c)) (n + 2) _ (by simp at h1 ⊢; omega) (fun x hx => by
      obtain ⟨c, _, rfl⟩ := List.mem_map.1 hx
      have := c.toNat_lt
      show label_name_1 (n + 3 + 1) _ = _
      rw [label_name_1_eq, label_sign_val (n + 1) _ (by omega)]; rfl)]
    simp only [obind_some]
    refine congrArg some ?_
    by_cases h3 : ∀ x ∈ b :: r, sgn (x.toNat : Int)
    · rw [decide_eq_true (show NameOk (b :: r) from ⟨by omega, h2, h3⟩)]
      rw [List.any_eq_false.2]
      · rfl
      · intro x hx
        obtain ⟨c, hc, rfl⟩ := List.mem_map.1 hx
        simp [h3 c hc]
    · rw [decide_eq_false (fun k : NameOk (b :: r) => h3 k.2.2)]
      have : ∃ x ∈ b :: r, ¬ sgn (x.toNat : Int) := Classical.byContradiction fun k => h3 fun x hx => Classical.byContradiction fun q => k ⟨x, hx, q⟩
      obtain ⟨x, hx, hq⟩ := this
      rw [List.any_eq_true.2 ⟨(x.toNat : Int), List.mem_map.2 ⟨x, hx, rfl⟩, by simp [hq]⟩]
      rfl
theorem r05_name_l (n : Nat) (s : List UInt8) (hL : s.length ≤ 1000000000000) : ∀ (rest pre : List UInt8) (f : Nat) (i : Int), s = pre ++ rest → i = pre.length → rest.length < f →
    r05_name_l4 n f (s, i, ()) = some (if ∀ x ∈ rest, sgn (x.toNat : Int) then .inl () else .inr false) := by
  intro rest
  induction rest with
  | nil =>
    intro pre f i hl hi hf
    obtain ⟨f, rfl⟩ : ∃ g, f = g + 1 := ⟨f - 1, by simp at hf; omega⟩
    rw [r05_name_l4_eq]
    simp [tif_dec, if_neg (idxe hl hi rfl)]
  | cons x rest ih =>
    intro pre f i hl hi hf
    obtain ⟨f, rfl⟩ : ∃ g, f = g + 1 := ⟨f - 1, by simp at hf; omega⟩
    rw [r05_name_l4_eq]
    simp only [tif_dec, tif_not, if_pos (idx hl hi rfl), at_mid hl hi, obind_some, idxw hl hi hL]
    rw [ih (pre ++ [x]) f (i + 1) (idxl hl) (idxs hi) (by simp at hf; omega)]
    have hsplit : (∀ y ∈ x :: rest, sgn (y.toNat : Int)) ↔ sgn (x.toNat : Int) ∧ ∀ y ∈ rest, sgn (y.toNat : Int) := by simp
    generalize hR : (some (if ∀ y ∈ rest, sgn (y.toNat : Int) then (Sum.inl () : Unit ⊕ Bool) else .inr false)) = R
    have good : sgn (x.toNat : Int) → R = some (if ∀ y ∈ x :: rest, sgn (y.toNat : Int) then .inl () else .inr false) := by
      intro hx
      rw [← hR]
      by_cases h : ∀ y ∈ rest, sgn (y.toNat : Int)
      · rw [if_pos h, if_pos (hsplit.2 ⟨hx, h⟩)]
      · rw [if_neg h, if_neg (fun k => h (hsplit.1 k).2)]
    have bad : ¬ sgn (x.toNat : Int) → some (.inr false) = some (if ∀ y ∈ x :: rest, sgn (y.toNat : Int) then (Sum.inl () : Unit ⊕ Bool) else .inr false) := by
      intro hx
      rw [if_neg (fun k => hx (hsplit.1 k).1)]
    have hc := x.toNat_lt
    generalize (x.toNat : Int) = c at *
    clear hR ih
    unfold sgn at good bad
    by_cases a1 : (97 : Int) ≤ c <;> by_cases a2 : c ≤ 122 <;> by_cases a3 : (65 : Int) ≤ c <;> by_cases a4 : c ≤ 90 <;> by_cases a5 : (48 : Int) ≤ c <;> by_cases a6 : c ≤ 57 <;> by_cases a7 : c = 95 <;>
      first
        | omega
        | (simp only [a1, a2, a3, a4, a5, a6, a7, if_true, if_false]; first | exact good (by omega) | exact bad (by omega))
        | (simp [a1, a2, a3, a4, a5, a6, a7]; done)
end Go.Proofs.YthjnbidgliejkaaGreat
