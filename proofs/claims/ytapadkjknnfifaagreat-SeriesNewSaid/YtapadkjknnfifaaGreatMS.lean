/-
  Plain laws of sorting in place: what is moved within bounds, swaps, turning two blocks, and merging halves.
-/
import Derived.IntWalk
namespace Go.Plim
set_option linter.unusedVariables false
variable {α : Type}
/-- in order within bounds -/
def Srt (key : α → Int) (d : List α) (a b : Nat) : Prop := ∀ i j x y, a ≤ i → i < j → j < b → d[i]? = some x → d[j]? = some y → key x ≤ key y
/-- moved within bounds alone -/
structure Mv (d d' : List α) (a b : Nat) : Prop where
  perm : d'.Perm d
  out : ∀ i, (i < a ∨ b ≤ i) → d'[i]? = d[i]?
  ins : ∀ i x, a ≤ i → i < b → d'[i]? = some x → ∃ j, a ≤ j ∧ j < b ∧ d[j]? = some x
theorem Mv.len {d d' : List α} {a b : Nat} (h : Mv d d' a b) : d'.length = d.length := h.perm.length_eq
theorem Mv.refl (d : List α) (a b : Nat) : Mv d d a b := ⟨.refl _, fun _ _ => rfl, fun i x h1 h2 h => ⟨i, h1, h2, h⟩⟩
theorem Mv.trans {d d' d'' : List α} {a b : Nat} (h : Mv d d' a b) (g : Mv d' d'' a b) : Mv d d'' a b :=
  ⟨g.perm.trans h.perm, fun i hi => (g.out i hi).trans (h.out i hi), fun i x h1 h2 hx => by
    obtain ⟨j, j1, j2, hj⟩ := g.ins i x h1 h2 hx
    exact h.ins j x j1 j2 hj⟩
theorem Mv.mono {d d' : List α} {a b a' b' : Nat} (h : Mv d d' a b) (ha : a' ≤ a) (hb : b ≤ b') : Mv d d' a' b' :=
  ⟨h.perm, fun i hi => h.out i (by omega), fun i x h1 h2 hx => by
    by_cases k : a ≤ i ∧ i < b
    · obtain ⟨j, j1, j2, hj⟩ := h.ins i x k.1 k.2 hx
      exact ⟨j, by omega, by omega, hj⟩
    · rw [h.out i (by omega)] at hx
      exact ⟨i, h1, h2, hx⟩⟩
theorem Srt.mono {key : α → Int} {d : List α} {a b a' b' : Nat} (h : Srt key d a b) (ha : a ≤ a') (hb : b' ≤ b) : Srt key d a' b' :=
  fun i j x y h1 h2 h3 => h i j x y (by omega) h2 (by omega)
/-- what is in order elsewhere stays so -/
theorem Srt.keep {key : α → Int} {d d' : List α} {a b p q : Nat} (h : Srt key d p q) (m : Mv d d' a b) (hd : q ≤ a ∨ b ≤ p) : Srt key d' p q :=
  fun i j x y h1 h2 h3 hx hy => h i j x y h1 h2 h3 (by rw [← m.out i (by omega)]; exact hx) (by rw [← m.out j (by omega)]; exact hy)
theorem Srt.one (key : α → Int) (d : List α) {a b : Nat} (h : b ≤ a + 1) : Srt key d a b := fun i j _ _ h1 h2 h3 => by omega
/-- two blocks that lie side by side, turned -/
structure Turned (d d' : List α) (a m b : Nat) : Prop where
  mv : Mv d d' a b
  lo : ∀ i, a ≤ i → i < a + (b - m) → d'[i]? = d[i + (m - a)]?
  hi : ∀ i, a + (b - m) ≤ i → i < b → d'[i]? = d[i - (b - m)]?
end Go.Plim
