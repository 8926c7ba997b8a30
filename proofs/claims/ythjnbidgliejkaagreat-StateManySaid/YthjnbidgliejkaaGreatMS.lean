/-
  Plain laws of sorting in place: what is moved within bounds, swaps, turning two blocks, and merging halves.
-/
import Derived.IntWalk
namespace Go.Plim
set_option linter.unusedVariables false
variable {α : Type}
/-- in order within bounds -/
def Srt (key : α → Int) (d : List α) (a b : Nat) : Prop := ∀ i j x y, a ≤ i → i < j → j < b → d[i]? = some x → d[j]? = some y → key x ≤ key y
/-- moved within bounds alone -/
structure Mv (d d' : List α) (a b : Nat) : Prop where
  perm : d'.Perm d
  out : ∀ i, (i < a ∨ b ≤ i) → d'[i]? = d[i]?
  ins : ∀ i x, a ≤ i → i < b → d'[i]? = some x → ∃ j, a ≤ j ∧ j < b ∧ d[j]? = some x
theorem Mv.len {d d' : List α} {a b : Nat} (h : Mv d d' a b) : d'.length = d.length := h.perm.length_eq
theorem Mv.refl (d : List α) (a b : Nat) : Mv d d a b := ⟨.refl _, fun _ _ => rfl, fun i x h1 h2 h => ⟨i, h1, h2, h⟩⟩
theorem Mv.trans {d d' d'' : List α} {a b : Nat} (h : Mv d d' a b) (g : Mv d' d'' a b) : Mv d d'' a b :=
  ⟨g.perm.trans h.perm, fun i hi => (g.out i hi).trans (h.out i hi), fun i x h1 h2 hx => by
    obtain ⟨j, j1, j2, hj⟩ := g.ins i x h1 h2 hx
    exact h.ins j x j1 j2 hj⟩
theorem Mv.mono {d d' : List α} {a b a' b' : Nat} (h : Mv d d' a b) (ha : a' ≤ a) (hb : b ≤ b') : Mv d d' a' b' :=
  ⟨h.perm, fun i hi => h.out i (by omega), fun i x h1 h2 hx => by
    by_cases k : a ≤ i ∧ i < b
    · obtain ⟨j, j1, j2, hj⟩ := h.ins i x k.1 k.2 hx
      exact ⟨j, by omega, by omega, hj⟩
    · rw [h.out i (by omega)] at hx
      exact ⟨i, h1, h2, hx⟩⟩
theorem Srt.mono {key : α → Int} {d : List α} {a b a' b' : Nat} (h : Srt key d a b) (ha : a ≤ a') (hb : b' ≤ b) : Srt key d a' b' :=
  fun i j x y h1 h2 h3 => h i j x y (by omega) h2 (by omega)
/-- what is in order elsewhere stays so -/
theorem Srt.keep {key : α → Int} {d d' : List α} {a b p q : Nat} (h : Srt key d p q) (m : Mv d d' a b) (hd : q ≤ a ∨ b ≤ p) : Srt key d' p q :=
  fun i j x y h1 h2 h3 hx hy => h i j x y h1 h2 h3 (by rw [← m.out i (by omega)]; exact hx) (by rw [← m.out j (by omega)]; exact hy)
theorem Srt.one (key : α → Int) (d : List α) {a b : Nat} (h : b ≤ a + 1) : Srt key d a b := fun i j _ _ h1 h2 h3 => by omega
theorem swap_get {d : List α} {i j : Nat} {x y : α} (hi : d[i]? = some x) (hj : d[j]? = some y) (k : Nat) :
    ((d.set i y).set j x)[k]? = if k = j then some x else if k = i then some y else d[k]? := by
  have li := (List.getElem?_eq_some_iff.1 hi).1
  have lj := (List.getElem?_eq_some_iff.1 hj).1
  simp only [List.getElem?_set, List.length_set]
  by_cases e : j = k
  · subst e; simp [lj]
  · by_cases e' : i = k
    · subst e'; simp [e, li, Ne.symm e]
    · simp [e, e', Ne.symm e, Ne.symm e']
theorem swap_mv {d : List α} {i j a b : Nat} {x y : α} (hi : d[i]? = some x) (hj : d[j]? = some y) (i1 : a ≤ i) (i2 : i < b) (j1 : a ≤ j) (j2 : j < b) : Mv d ((d.set i y).set j x) a b := by
  have li := (List.getElem?_eq_some_iff.1 hi)
  have lj := (List.getElem?_eq_some_iff.1 hj)
  obtain ⟨li, rfl⟩ := li
  obtain ⟨lj, rfl⟩ := lj
  refine ⟨List.set_set_perm li lj, fun k hk => ?_, fun k z k1 k2 hz => ?_⟩
  · rw [swap_get hi hj, if_neg (by omega), if_neg (by omega)]
  · rw [swap_get hi hj] at hz
    by_cases e : k = j
    · rw [if_pos e] at hz; exact ⟨i, i1, i2, by rw [← hz, hi]⟩
    · rw [if_neg e] at hz
      by_cases e' : k = i
      · rw [if_pos e'] at hz; exact ⟨j, j1, j2, by rw [← hz, hj]⟩
      · rw [if_neg e'] at hz; exact ⟨k, k1, k2, hz⟩
/-- two blocks that lie side by side, turned -/
structure Turned (d d' : List α) (a m b : Nat) : Prop where
  mv : Mv d d' a b
  lo : ∀ i, a ≤ i → i < a + (b - m) → d'[i]? = d[i + (m - a)]?
  hi : ∀ i, a + (b - m) ≤ i → i < b → d'[i]? = d[i - (b - m)]?
theorem turned_lists {P U V S d d' : List α} {a m b : Nat} (hd : d = P ++ (U ++ (V ++ S))) (hd' : d' = P ++ (V ++ (U ++ S))) (ha : P.length = a) (hm : a + U.length = m) (hb : m + V.length = b) : Turned d d' a m b := by
  subst hd hd' ha hm hb
  have perm : (P ++ (V ++ (U ++ S))).Perm (P ++ (U ++ (V ++ S))) := by
    refine List.Perm.append_left P ?_
    rw [← List.append_assoc, ← List.append_assoc]
    exact List.Perm.append_right S List.perm_append_comm
  have out : ∀ i, (i < P.length ∨ P.length + U.length + V.length ≤ i) → (P ++ (V ++ (U ++ S)))[i]? = (P ++ (U ++ (V ++ S)))[i]? := by
    intro i hi
    rcases hi with hi | hi
    · rw [List.getElem?_append_left hi, List.getElem?_append_left hi]
    · rw [List.getElem?_append_right (by omega), List.getElem?_append_right (by omega), List.getElem?_append_right (by omega), List.getElem?_append_right (by omega), List.getElem?_append_right (by omega), List.getElem?_append_right (by omega)]
      congr 1; omega
  have lo : ∀ i, P.length ≤ i → i < P.length + (P.length + U.length + V.length - (P.length + U.length)) → (P ++ (V ++ (U ++ S)))[i]? = (P ++ (U ++ (V ++ S)))[i + (P.length + U.length - P.length)]? := by
    intro i h1 h2
    rw [List.getElem?_append_right (by omega), List.getElem?_append_left (by omega), List.getElem?_append_right (by omega), List.getElem?_append_right (by omega), List.getElem?_append_left (by omega)]
    congr 1; omega
  have hi : ∀ i, P.length + (P.length + U.length + V.length - (P.length + U.length)) ≤ i → i < P.length + U.length + V.length → (P ++ (V ++ (U ++ S)))[i]? = (P ++ (U ++ (V ++ S)))[i - (P.length + U.length + V.length - (P.length + U.length))]? := by
    intro i h1 h2
    rw [List.getElem?_append_right (by omega), List.getElem?_append_right (by omega), List.getElem?_append_left (by omega), List.getElem?_append_right (by omega), List.getElem?_append_left (by omega)]
    congr 1; omega
  refine ⟨⟨perm, out, fun i x h1 h2 hx => ?_⟩, lo, hi⟩
  by_cases k : i < P.length + (P.length + U.length + V.length - (P.length + U.length))
  · rw [lo i h1 k] at hx; exact ⟨_, by omega, by omega, hx⟩
  · rw [hi i (by omega) h2] at hx; exact ⟨_, by omega, by omega, hx⟩
theorem turned_refl (d : List α) {a m b : Nat} (h : (a ≤ m ∧ m = b) ∨ (a = m ∧ m ≤ b)) : Turned d d a m b := by
  rcases h with ⟨h1, rfl⟩ | ⟨rfl, h1⟩
  · exact ⟨.refl _ _ _, fun i h2 h3 => by omega, fun i h2 h3 => by simp⟩
  · exact ⟨.refl _ _ _, fun i h2 h3 => by simp, fun i h2 h3 => by omega⟩
/-- cut in four -/
theorem cut4 (d : List α) {a m b : Nat} (h1 : a ≤ m) (h2 : m ≤ b) (h3 : b ≤ d.length) :
    ∃ P U V S, d = P ++ (U ++ (V ++ S)) ∧ P.length = a ∧ a + U.length = m ∧ m + V.length = b := by
  refine ⟨d.take a, (d.drop a).take (m - a), (d.drop m).take (b - m), d.drop b, ?_, ?_, ?_, ?_⟩
  · have e1 : (d.drop m).take (b - m) ++ d.drop b = d.drop m := by
      conv => rhs; rw [← List.take_append_drop (b - m) (d.drop m), List.drop_drop]
      rw [show m + (b - m) = b by omega]
    have e2 : (d.drop a).take (m - a) ++ d.drop m = d.drop a := by
      conv => rhs; rw [← List.take_append_drop (m - a) (d.drop a), List.drop_drop]
      rw [show a + (m - a) = m by omega]
    rw [e1, e2, List.take_append_drop]
  all_goals simp
  all_goals omega
/-- HALVES: of two runs in order, turned where they must be, each half's runs are in order, and nothing of the first is greater than anything of the second -/
theorem halves {key : α → Int} {d d' : List α} {a m b mid s e : Nat} (h1 : Srt key d a m) (h2 : Srt key d m b) (t : Turned d d' s m e)
    (k1 : a ≤ s) (k2 : s ≤ m) (k3 : m ≤ e) (k4 : e ≤ b) (k5 : e + s = mid + m) (hb : b ≤ d.length)
    (c1 : ∀ x y, a < s → e < b → d[s - 1]? = some x → d[e]? = some y → key x ≤ key y)
    (c2 : ∀ x y, s < m → m < e → d[e - 1]? = some x → d[s]? = some y → key x ≤ key y) :
    (Srt key d' a s ∧ Srt key d' s mid ∧ Srt key d' mid e ∧ Srt key d' e b) ∧
    ∀ i j x y, a ≤ i → i < mid → mid ≤ j → j < b → d'[i]? = some x → d'[j]? = some y → key x ≤ key y := by
  have lo := t.lo; have hi := t.hi; have out := t.mv.out
  have e1 : s + (e - m) = mid := by omega
  rw [e1] at lo hi
  have le1 : ∀ {i j x y}, a ≤ i → i ≤ j → j < m → d[i]? = some x → d[j]? = some y → key x ≤ key y := by
    intro i j x y q1 q2 q3 hx hy
    rcases Nat.lt_or_eq_of_le q2 with q | q
    · exact h1 i j x y q1 q q3 hx hy
    · subst q; rw [hx] at hy; injection hy with hy; subst hy; exact Int.le_refl _
  have le2 : ∀ {i j x y}, m ≤ i → i ≤ j → j < b → d[i]? = some x → d[j]? = some y → key x ≤ key y := by
    intro i j x y q1 q2 q3 hx hy
    rcases Nat.lt_or_eq_of_le q2 with q | q
    · exact h2 i j x y q1 q q3 hx hy
    · subst q; rw [hx] at hy; injection hy with hy; subst hy; exact Int.le_refl _
  have getm : ∀ i, i < d.length → ∃ x, d[i]? = some x := fun i h => ⟨d[i], List.getElem?_eq_getElem h⟩
  refine ⟨⟨?_, ?_, ?_, ?_⟩, ?_⟩
  · intro i j x y q1 q2 q3 hx hy
    rw [out i (by omega)] at hx; rw [out j (by omega)] at hy
    exact h1 i j x y q1 q2 (by omega) hx hy
  · intro i j x y q1 q2 q3 hx hy
    rw [lo i (by omega) (by omega)] at hx; rw [lo j (by omega) (by omega)] at hy
    exact h2 _ _ x y (by omega) (by omega) (by omega) hx hy
  · intro i j x y q1 q2 q3 hx hy
    rw [hi i (by omega) (by omega)] at hx; rw [hi j (by omega) (by omega)] at hy
    exact h1 _ _ x y (by omega) (by omega) (by omega) hx hy
  · intro i j x y q1 q2 q3 hx hy
    rw [out i (by omega)] at hx; rw [out j (by omega)] at hy
    exact h2 i j x y (by omega) q2 q3 hx hy
  · intro i j x y q1 q2 q3 q4 hx hy
    by_cases r1 : i < s
    · rw [out i (by omega)] at hx
      by_cases r2 : j < e
      · rw [hi j (by omega) (by omega)] at hy
        exact le1 (by omega) (by omega) (by omega) hx hy
      · rw [out j (by omega)] at hy
        obtain ⟨u, hu⟩ := getm (s - 1) (by omega)
        obtain ⟨v, hv⟩ := getm e (by omega)
        have := c1 u v (by omega) (by omega) hu hv
        have := le1 (i := i) (j := s - 1) (by omega) (by omega) (by omega) hx hu
        have := le2 (i := e) (j := j) (by omega) (by omega) (by omega) hv hy
        omega
    · rw [lo i (by omega) (by omega)] at hx
      by_cases r2 : j < e
      · rw [hi j (by omega) (by omega)] at hy
        obtain ⟨u, hu⟩ := getm (e - 1) (by omega)
        obtain ⟨v, hv⟩ := getm s (by omega)
        have := c2 u v (by omega) (by omega) hu hv
        have := le2 (i := i + (m - s)) (j := e - 1) (by omega) (by omega) (by omega) hx hu
        have := le1 (i := s) (j := j - (e - m)) (by omega) (by omega) (by omega) hv hy
        omega
      · rw [out j (by omega)] at hy
        exact le2 (by omega) (by omega) (by omega) hx hy
/-- two halves in order, nothing of the first greater than anything of the second -/
theorem Srt.join {key : α → Int} {d : List α} {a m b : Nat} (h1 : Srt key d a m) (h2 : Srt key d m b) (h : ∀ i j x y, a ≤ i → i < m → m ≤ j → j < b → d[i]? = some x → d[j]? = some y → key x ≤ key y) : Srt key d a b := by
  intro i j x y q1 q2 q3 hx hy
  by_cases r1 : j < m
  · exact h1 i j x y q1 q2 r1 hx hy
  · by_cases r2 : m ≤ i
    · exact h2 i j x y r2 q2 q3 hx hy
    · exact h i j x y q1 (by omega) (by omega) q3 hx hy
/-- what moves within halves leaves what holds between them -/
theorem cross_mv {key : α → Int} {d d' : List α} {a m b : Nat} (h : ∀ i j x y, a ≤ i → i < m → m ≤ j → j < b → d[i]? = some x → d[j]? = some y → key x ≤ key y)
    (t : Mv d d' a m ∨ Mv d d' m b) : ∀ i j x y, a ≤ i → i < m → m ≤ j → j < b → d'[i]? = some x → d'[j]? = some y → key x ≤ key y := by
  intro i j x y q1 q2 q3 q4 hx hy
  rcases t with t | t
  · obtain ⟨k, k1, k2, hk⟩ := t.ins i x q1 q2 hx
    rw [t.out j (by omega)] at hy
    exact h k j x y k1 k2 q3 q4 hk hy
  · obtain ⟨k, k1, k2, hk⟩ := t.ins j y q3 q4 hy
    rw [t.out i (by omega)] at hx
    exact h i k x y q1 q2 k1 k2 hx hk
end Go.Plim
