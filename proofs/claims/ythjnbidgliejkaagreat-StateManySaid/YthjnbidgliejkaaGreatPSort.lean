/-
  The library's stable sort of slots, as a plain function: what it gives is in order, and has the same slots.
-/
import Derived.Test.YthjnbidgliejkaaGreatTr
import Derived.Test.YthjnbidgliejkaaGreatFlatM3
import Derived.Test.YthjnbidgliejkaaGreatMS
namespace Go.Proofs.YthjnbidgliejkaaGreat
open Go.Flat Go.Plim
set_option linter.unusedVariables false
set_option linter.unusedSimpArgs false
theorem at_nat {α : Type} (xs : List α) (i : Nat) : at? xs (i : Int) = xs[i]? := by simp [at?]
theorem at_some {α : Type} {xs : List α} {i : Nat} (h : i < xs.length) : at? xs (i : Int) = some xs[i] := by simp [at?, h]
theorem wn {x : Int} {k : Nat} (h : x = k) (hk : k ≤ 4000000000000) : IntKind.wrap .i64 x = (k : Int) := by rw [w64 (by omega) (by omega), h]
theorem half_nat (a b : Nat) (h : a + b ≤ 4000000000000) : IntKind.wrap .i64 (shrI .u64 (IntKind.wrap .u64 (IntKind.wrap .i64 ((a : Int) + (b : Int)))) 1) = (((a + b) / 2 : Nat) : Int) := by
  rw [w64 (x := (a : Int) + b) (by omega) (by omega), wu64 (by omega) (by omega)]
  have e : shrI .u64 ((a : Int) + (b : Int)) 1 = (((a + b) / 2 : Nat) : Int) := by
    show Int.fdiv ((a : Int) + b) (2 ^ (min 1 64)) = _
    rw [show ((2 : Int) ^ (min 1 64)) = 2 from by decide, Int.fdiv_eq_ediv_of_nonneg _ (by decide)]
    omega
  rw [e, w64 (by omega) (by omega)]
theorem tif_tif {α : Type} (p q : Prop) [Decidable p] [Decidable q] (x y : α) : tif (decide p) (tif (decide q) x y) y = if p ∧ q then x else y := by
  by_cases hp : p <;> by_cases hq : q <;> simp [hp, hq]
/-- a test of two things as numbers -/
def Cmp (cmp : (TSlot × (TSlot × Unit)) → Option Int) (key : TSlot → Int) : Prop := ∀ x y, ∃ c, cmp (x, (y, ())) = some c ∧ (c < 0 ↔ key x < key y)
section
variable {cmp : (TSlot × (TSlot × Unit)) → Option Int} {key : TSlot → Int} (hc : Cmp cmp key)
include hc
/-- one thing that goes down to its place -/
theorem ins_l4 (n : Nat) (a b : Int) (an i : Nat) (ha : a = an) : ∀ (k f : Nat) (d : List TSlot), k ≤ i - an → an + k ≤ i → k < f → i < d.length → d.length ≤ 1000000000000 →
    (∀ p q x y, an ≤ p → p < q → q ≤ i → p ≠ an + k → q ≠ an + k → d[p]? = some x → d[q]? = some y → key x ≤ key y) →
    (∀ q x y, an + k < q → q ≤ i → d[an + k]? = some x → d[q]? = some y → key x ≤ key y) →
    ∃ d', slices_insertionSortCmpFunc_Slot_l4 n f (d, a, b, cmp, (i : Int), ((an + k : Nat) : Int), ()) = some (.inl (d', a, b, cmp, (i : Int), ())) ∧ Mv d d' an (i + 1) ∧ Srt key d' an (i + 1) := by
  subst ha
  intro k
  induction k with
  | zero =>
    intro f d hk hi hf hl hL h1 h2
    obtain ⟨f, rfl⟩ : ∃ g, f = g + 1 := ⟨f - 1, by omega⟩
    rw [slices_insertionSortCmpFunc_Slot_l4_eq]
    simp only [tif_dec, if_neg (show ¬ ((an : Int) < ((an + 0 : Nat) : Int)) by omega)]
    refine ⟨d, rfl, .refl _ _ _, fun p q x y q1 q2 q3 hx hy => ?_⟩
    by_cases e : p = an + 0
    · subst e; exact h2 q x y q2 (by omega) hx hy
    · exact h1 p q x y q1 q2 (by omega) e (by omega) hx hy
  | succ k ih =>
    intro f d hk hi hf hl hL h1 h2
    obtain ⟨f, rfl⟩ : ∃ g, f = g + 1 := ⟨f - 1, by omega⟩
    rw [slices_insertionSortCmpFunc_Slot_l4_eq]
    have e1 : IntKind.wrap .i64 (((an + (k + 1) : Nat) : Int) - 1) = ((an + k : Nat) : Int) := wn (by omega) (by omega)
    have lj : an + (k + 1) < d.length := by omega
    have lk : an + k < d.length := by omega
    obtain ⟨c, hcm, hlt⟩ := hc d[an + (k + 1)] d[an + k]
    have gj : d[an + (k + 1)]? = some d[an + (k + 1)] := List.getElem?_eq_getElem lj
    have gk : d[an + k]? = some d[an + k] := List.getElem?_eq_getElem lk
    simp only [tif_dec, if_pos (show ((an : Int) < ((an + (k + 1) : Nat) : Int)) by omega), e1, at_nat, Int.toNat_natCast, gj, gk, obind_some, hcm]
    by_cases hlt' : c < 0
    · have kl := hlt.1 hlt'
      have g1 : (d.set (an + (k + 1)) d[an + k])[an + k]? = some d[an + k] := by rw [List.getElem?_set_ne (by omega)]; exact gk
      simp only [if_pos hlt', g1, obind_some]
      have sg := swap_get (d := d) gj gk
      have mv := swap_mv (d := d) (a := an) (b := i + 1) gj gk (by omega) (by omega) (by omega) (by omega)
      obtain ⟨d', r1, r2, r3⟩ := ih f ((d.set (an + (k + 1)) d[an + k]).set (an + k) d[an + (k + 1)]) (by omega) (by omega) (by omega) (by simpa using hl) (by simpa using hL)
        (fun p q x y q1 q2 q3 p1 p2 hx hy => by
          rw [sg] at hx hy
          rw [if_neg p1] at hx; rw [if_neg p2] at hy
          by_cases ep : p = an + (k + 1)
          · rw [if_pos ep] at hx
            rw [if_neg (by omega)] at hy
            have : d[an + k]? = some x := by rw [gk]; exact hx
            exact h1 (an + k) q x y (by omega) (by omega) q3 (by omega) (by omega) this hy
          · rw [if_neg ep] at hx
            by_cases eq : q = an + (k + 1)
            · rw [if_pos eq] at hy
              have : d[an + k]? = some y := by rw [gk]; exact hy
              exact h1 p (an + k) x y q1 (by omega) (by omega) ep (by omega) hx this
            · rw [if_neg eq] at hy
              exact h1 p q x y q1 q2 q3 ep eq hx hy)
        (fun q x y q1 q2 hx hy => by
          rw [sg] at hx hy
          rw [if_pos rfl] at hx
          injection hx with hx
          subst hx
          rw [if_neg (by omega)] at hy
          by_cases eq : q = an + (k + 1)
          · rw [if_pos eq] at hy
            injection hy with hy
            subst hy
            omega
          · rw [if_neg eq] at hy
            exact h2 q _ y (by omega) q2 gj hy)
      exact ⟨d', r1, mv.trans r2, r3⟩
    · simp only [if_neg hlt']
      refine ⟨d, rfl, .refl _ _ _, fun p q x y q1 q2 q3 hx hy => ?_⟩
      have kl : key d[an + k] ≤ key d[an + (k + 1)] := by
        have := mt hlt.2 hlt'; omega
      by_cases ep : p = an + (k + 1)
      · subst ep; exact h2 q x y q2 (by omega) hx hy
      · by_cases eq : q = an + (k + 1)
        · subst eq
          rw [gj] at hy; injection hy with hy; subst hy
          by_cases e3 : p = an + k
          · subst e3; rw [gk] at hx; injection hx with hx; subst hx; exact kl
          · have := h1 p (an + k) x _ q1 (by omega) (by omega) ep (by omega) hx gk
            omega
        · exact h1 p q x y q1 q2 (by omega) ep eq hx hy
theorem ins_l1 (n : Nat) (a b : Int) (an bn : Nat) (ha : a = an) (hb : b = bn) : ∀ (k f : Nat) (i : Nat) (d : List TSlot), bn - i ≤ k → k < f → an < i → (i ≤ bn ∨ bn ≤ an + 1) → bn ≤ d.length → d.length ≤ 1000000000000 → Srt key d an i →
    ∃ d', slices_insertionSortCmpFunc_Slot_l1 n f (d, a, b, cmp, (i : Int), ()) = some (.inl (d', ())) ∧ Mv d d' an bn ∧ Srt key d' an bn := by
  intro k
  induction k with
  | zero =>
    intro f i d hk hf hi hib hl hL hs
    obtain ⟨f, rfl⟩ : ∃ g, f = g + 1 := ⟨f - 1, by omega⟩
    rw [slices_insertionSortCmpFunc_Slot_l1_eq]
    subst ha hb
    simp only [tif_dec, if_neg (show ¬ ((i : Int) < (bn : Int)) by omega)]
    exact ⟨d, rfl, .refl _ _ _, hs.mono (by omega) (by omega)⟩
  | succ k ih =>
    intro f i d hk hf hi hib hl hL hs
    obtain ⟨f, rfl⟩ : ∃ g, f = g + 1 := ⟨f - 1, by omega⟩
    rw [slices_insertionSortCmpFunc_Slot_l1_eq]
    by_cases hlt : i < bn
    · obtain ⟨d', r1, r2, r3⟩ := ins_l4 hc n a b an i ha (i - an) loopFuel d (by omega) (by omega) (by unfold loopFuel; omega) (by omega) hL
        (fun p q x y q1 q2 q3 p1 p2 hx hy => hs p q x y q1 q2 (by omega) hx hy) (fun q x y q1 q2 => by omega)
      rw [show an + (i - an) = i by omega] at r1
      subst ha hb
      simp only [tif_dec, if_pos (show ((i : Int) < (bn : Int)) by omega), r1, obind_some, selim_inl]
      rw [wn (k := i + 1) (by omega) (by omega)]
      have ml := r2.len
      obtain ⟨d'', s1, s2, s3⟩ := ih f (i + 1) d' (by omega) (by omega) (by omega) (by omega) (by omega) (by omega) r3
      exact ⟨d'', s1, (r2.mono (by omega) (by omega)).trans s2, s3⟩
    · subst ha hb
      simp only [tif_dec, if_neg (show ¬ ((i : Int) < (bn : Int)) by omega)]
      exact ⟨d, rfl, .refl _ _ _, hs.mono (by omega) (by omega)⟩
theorem ins_ok (n : Nat) (a b : Int) (an bn : Nat) (ha : a = an) (hb : b = bn) (d : List TSlot) (hab : an ≤ bn) (hl : bn ≤ d.length) (hL : d.length ≤ 1000000000000) :
    ∃ d', slices_insertionSortCmpFunc_Slot (n + 1) d a b cmp = some d' ∧ Mv d d' an bn ∧ Srt key d' an bn := by
  rw [slices_insertionSortCmpFunc_Slot_eq]
  have e : IntKind.wrap .i64 (a + 1) = ((an + 1 : Nat) : Int) := wn (by omega) (by omega)
  rw [e]
  obtain ⟨d', r1, r2, r3⟩ := ins_l1 hc n a b an bn ha hb bn loopFuel (an + 1) d (by omega) (by unfold loopFuel; omega) (by omega) (by omega) hl hL (Srt.one _ _ (by omega))
  rw [r1]
  exact ⟨d', by simp, r2, r3⟩
omit hc in
/-- two runs of as many, swapped -/
theorem swapRange_l1 (n : Nat) (a b m : Int) (P : List TSlot) : ∀ (k f i : Nat) (X X' M Y Y' S : List TSlot), X'.length = k → Y'.length = k → X.length = i → Y.length = i → k < f →
    a = P.length → b = P.length + X.length + X'.length + M.length → m = i + k → b + m ≤ 2000000000000 →
    slices_swapRangeCmpFunc_Slot_l1 n f (P ++ (Y ++ (X' ++ (M ++ (X ++ (Y' ++ S))))), a, b, m, (i : Int), ()) = some (.inl (P ++ (Y ++ (Y' ++ (M ++ (X ++ (X' ++ S))))), ())) := by
  intro k
  induction k with
  | zero =>
    intro f i X X' M Y Y' S h1 h2 h3 h4 hf ha hb hm hs
    obtain ⟨f, rfl⟩ : ∃ g, f = g + 1 := ⟨f - 1, by omega⟩
    obtain rfl := List.length_eq_zero_iff.1 h1
    obtain rfl := List.length_eq_zero_iff.1 h2
    rw [slices_swapRangeCmpFunc_Slot_l1_eq]
    simp only [tif_dec, if_neg (show ¬ ((i : Int) < m) by omega)]
  | succ k ih =>
    intro f i X X' M Y Y' S h1 h2 h3 h4 hf ha hb hm hs
    obtain ⟨f, rfl⟩ : ∃ g, f = g + 1 := ⟨f - 1, by omega⟩
    match X', Y' with
    | x :: X', y :: Y' =>
      simp only [List.length_cons] at h1 h2 hb
      rw [slices_swapRangeCmpFunc_Slot_l1_eq]
      have ea : IntKind.wrap .i64 (a + (i : Int)) = ((P.length + i : Nat) : Int) := wn (by omega) (by omega)
      have eb : IntKind.wrap .i64 (b + (i : Int)) = ((P.length + i + (k + 1) + M.length + i : Nat) : Int) := wn (by omega) (by omega)
      have g1 : (P ++ (Y ++ (x :: X' ++ (M ++ (X ++ (y :: Y' ++ S))))))[P.length + i]? = some x := by
        rw [List.getElem?_append_right (by omega), List.getElem?_append_right (by omega)]
        rw [show P.length + i - P.length - Y.length = 0 by omega]; rfl
      have g2 : (P ++ (Y ++ (x :: X' ++ (M ++ (X ++ (y :: Y' ++ S))))))[P.length + i + (k + 1) + M.length + i]? = some y := by
        rw [List.getElem?_append_right (by omega), List.getElem?_append_right (by omega), List.getElem?_append_right (by simp; omega), List.getElem?_append_right (by simp; omega), List.getElem?_append_right (by simp; omega)]
        simp only [List.length_cons]
        rw [show P.length + i + (k + 1) + M.length + i - P.length - Y.length - (X'.length + 1) - M.length - X.length = 0 by omega]; rfl
      have s1 : (P ++ (Y ++ (x :: X' ++ (M ++ (X ++ (y :: Y' ++ S)))))).set (P.length + i) y = P ++ (Y ++ (y :: X' ++ (M ++ (X ++ (y :: Y' ++ S))))) := by
        rw [List.set_append_right _ _ (by omega), List.set_append_right _ _ (by omega), show P.length + i - P.length - Y.length = 0 by omega]; rfl
      have s2 : (P ++ (Y ++ (y :: X' ++ (M ++ (X ++ (y :: Y' ++ S)))))).set (P.length + i + (k + 1) + M.length + i) x = P ++ (Y ++ (y :: X' ++ (M ++ (X ++ (x :: Y' ++ S))))) := by
        rw [List.set_append_right _ _ (by omega), List.set_append_right _ _ (by omega), List.set_append_right _ _ (by simp; omega), List.set_append_right _ _ (by simp; omega), List.set_append_right _ _ (by simp; omega)]
        simp only [List.length_cons]
        rw [show P.length + i + (k + 1) + M.length + i - P.length - Y.length - (X'.length + 1) - M.length - X.length = 0 by omega]; rfl
      have g3 : (P ++ (Y ++ (y :: X' ++ (M ++ (X ++ (y :: Y' ++ S))))))[P.length + i + (k + 1) + M.length + i]? = some y := by
        rw [List.getElem?_append_right (by omega), List.getElem?_append_right (by omega), List.getElem?_append_right (by simp; omega), List.getElem?_append_right (by simp; omega), List.getElem?_append_right (by simp; omega)]
        simp only [List.length_cons]
        rw [show P.length + i + (k + 1) + M.length + i - P.length - Y.length - (X'.length + 1) - M.length - X.length = 0 by omega]; rfl
      simp only [tif_dec, if_pos (show ((i : Int) < m) by omega), ea, eb, at_nat, Int.toNat_natCast, g1, g2, s1, g3, s2, obind_some]
      have e6 : IntKind.wrap .i64 ((i : Int) + 1) = ((i + 1 : Nat) : Int) := wn (by omega) (by omega)
      rw [e6]
      have := ih f (i + 1) (X ++ [x]) X' M (Y ++ [y]) Y' S (by omega) (by omega) (by simp; omega) (by simp; omega) (by omega) ha (by simp; omega) (by omega) hs
      simp only [List.append_assoc, List.singleton_append, List.cons_append] at this ⊢
      exact this
omit hc in
theorem swapRange_ok (n : Nat) (a b m : Int) (P X M Y S : List TSlot) (h : X.length = Y.length) (ha : a = P.length) (hb : b = P.length + X.length + M.length) (hm : m = X.length) (hs : b + m ≤ 2000000000000) (d : List TSlot) (hd : d = P ++ (X ++ (M ++ (Y ++ S)))) :
    slices_swapRangeCmpFunc_Slot (n + 1) d a b m cmp = some (P ++ (Y ++ (M ++ (X ++ S)))) := by
  subst hd
  rw [slices_swapRangeCmpFunc_Slot_eq]
  have := swapRange_l1 n a b m P X.length loopFuel 0 [] X M [] Y S rfl h.symm rfl rfl (by unfold loopFuel; omega) ha (by simp; omega) (by omega) hs
  simp only [List.nil_append] at this
  rw [show ((0 : Int)) = ((0 : Nat) : Int) from rfl, this]
  simp
omit hc in
theorem rotate_l2 (n : Nat) (m : Int) : ∀ (k f : Nat) (P U V S d : List TSlot) (i j : Int), U.length + V.length ≤ k → k < f → U ≠ [] → V ≠ [] → i = U.length → j = V.length → m = P.length + U.length → m + j ≤ 1000000000000 → d = P ++ (U ++ (V ++ S)) →
    ∃ P' U' V' S' d', slices_rotateCmpFunc_Slot_l2 (n + 1) f (d, m, cmp, i, j, ()) = some (.inl (d', m, cmp, (U'.length : Int), ())) ∧ U'.length = V'.length ∧ m = P'.length + U'.length ∧ d' = P' ++ (U' ++ (V' ++ S')) ∧ P' ++ (V' ++ (U' ++ S')) = P ++ (V ++ (U ++ S)) := by
  intro k
  induction k with
  | zero =>
    intro f P U V S d i j hk hf hu hv
    exact absurd (List.length_eq_zero_iff.1 (show U.length = 0 by omega)) hu
  | succ k ih =>
    intro f P U V S d i j hk hf hu hv hi hj hm hmj hd
    obtain ⟨f, rfl⟩ : ∃ g, f = g + 1 := ⟨f - 1, by omega⟩
    have lu := List.length_pos_iff.2 hu
    have lv := List.length_pos_iff.2 hv
    rw [slices_rotateCmpFunc_Slot_l2_eq]
    by_cases e : i = j
    · simp only [tif_not, tif_dec, if_pos e]
      exact ⟨P, U, V, S, d, by rw [hi], by omega, hm, hd, rfl⟩
    · by_cases lt : j < i
      · -- the front of U with V
        have hU : U = U.take V.length ++ U.drop V.length := (List.take_append_drop _ _).symm
        have l1 : (U.take V.length).length = V.length := by simp; omega
        have l2 : (U.drop V.length).length = U.length - V.length := by simp
        have hs := swapRange_ok (cmp := cmp) n (P.length : Int) m j P (U.take V.length) (U.drop V.length) V S l1 rfl (by omega) (by omega) (by omega) d (by rw [hd, ← List.append_assoc (U.take V.length), ← hU])
        have e1 : IntKind.wrap .i64 (m - i) = (P.length : Int) := wn (by omega) (by omega)
        have e2 : IntKind.wrap .i64 (i - j) = ((U.drop V.length).length : Int) := wn (by omega) (by omega)
        simp only [tif_not, tif_dec, if_neg e, if_pos lt, e1, e2, hs, obind_some]
        obtain ⟨P', U', V', S', d', r1, r2, r3, r4, r5⟩ := ih f (P ++ V) (U.drop V.length) (U.take V.length) S (P ++ (V ++ (U.drop V.length ++ (U.take V.length ++ S)))) ((U.drop V.length).length : Int) j (by omega) (by omega)
          (by intro h; rw [h] at l2; simp at l2; omega) (by intro h; rw [h] at l1; simp at l1; omega) rfl (by omega) (by simp; omega) hmj (by simp only [List.append_assoc])
        exact ⟨P', U', V', S', d', r1, r2, r3, r4, by rw [r5]; rw [List.append_assoc, ← List.append_assoc (U.take V.length), ← hU]⟩
      · have hV : V = V.take (V.length - U.length) ++ V.drop (V.length - U.length) := (List.take_append_drop _ _).symm
        have l1 : (V.take (V.length - U.length)).length = V.length - U.length := by simp
        have l2 : (V.drop (V.length - U.length)).length = U.length := by simp; omega
        have hs := swapRange_ok (cmp := cmp) n (P.length : Int) (m + j - i) i P U (V.take (V.length - U.length)) (V.drop (V.length - U.length)) S l2.symm rfl (by omega) (by omega) (by omega) d (by rw [hd, ← List.append_assoc (V.take _) (V.drop _) S, ← hV])
        have e1 : IntKind.wrap .i64 (m - i) = (P.length : Int) := wn (by omega) (by omega)
        have e2 : IntKind.wrap .i64 (j - i) = ((V.take (V.length - U.length)).length : Int) := wn (by omega) (by omega)
        have e3 : IntKind.wrap .i64 (IntKind.wrap .i64 (m + j) - i) = m + j - i := by rw [w64 (x := m + j) (by omega) (by omega), w64 (by omega) (by omega)]
        simp only [tif_not, tif_dec, if_neg e, if_neg lt, e1, e2, e3, hs, obind_some]
        obtain ⟨P', U', V', S', d', r1, r2, r3, r4, r5⟩ := ih f P (V.drop (V.length - U.length)) (V.take (V.length - U.length)) (U ++ S) _ i ((V.take (V.length - U.length)).length : Int) (by omega) (by omega)
          (by intro h; rw [h] at l2; simp at l2; omega) (by intro h; rw [h] at l1; simp at l1; omega) (by omega) rfl (by omega) (by omega) rfl
        exact ⟨P', U', V', S', d', r1, r2, r3, r4, by rw [r5]; rw [← List.append_assoc (V.take _) (V.drop _), ← hV]⟩
omit hc in
theorem rotate_ok (n : Nat) (a m b : Int) (an mn bn : Nat) (ha : a = an) (hm : m = mn) (hb : b = bn) (d : List TSlot) (h1 : an < mn) (h2 : mn < bn) (hl : bn ≤ d.length) (hL : d.length ≤ 1000000000000) :
    ∃ d', slices_rotateCmpFunc_Slot (n + 2) d a m b cmp = some d' ∧ Turned d d' an mn bn := by
  obtain ⟨P, U, V, S, hd, la, lm, lb⟩ := cut4 d (a := an) (m := mn) (b := bn) (by omega) (by omega) hl
  rw [slices_rotateCmpFunc_Slot_eq]
  have e1 : IntKind.wrap .i64 (m - a) = (U.length : Int) := wn (by omega) (by omega)
  have e2 : IntKind.wrap .i64 (b - m) = (V.length : Int) := wn (by omega) (by omega)
  have hfl : U.length + V.length < loopFuel := by
    have : d.length = P.length + (U.length + (V.length + S.length)) := by rw [hd]; simp
    unfold loopFuel; omega
  have hu : U ≠ [] := by intro h; rw [h] at lm; simp at lm; omega
  have hv : V ≠ [] := by intro h; rw [h] at lb; simp at lb; omega
  obtain ⟨P', U', V', S', d', r1, r2, r3, r4, r5⟩ := rotate_l2 (cmp := cmp) n m (U.length + V.length) loopFuel P U V S d (U.length : Int) (V.length : Int) (by omega) hfl hu hv rfl rfl (by omega) (by omega) hd
  have ld : d'.length = d.length := by
    have := congrArg List.length r5
    rw [r4, hd]; simp at this ⊢; omega
  have hs := swapRange_ok (cmp := cmp) n (P'.length : Int) m (U'.length : Int) P' U' [] V' S' r2 rfl (by simp; omega) rfl (by rw [r4] at ld; simp at ld; omega) d' (by rw [r4]; simp)
  simp only [e1, e2, r1, obind_some, selim_inl, wn (x := m - (U'.length : Int)) (k := P'.length) (by omega) (by rw [r4] at ld; simp at ld; omega), hs]
  simp only [List.nil_append]
  exact ⟨_, rfl, turned_lists (P := P) (U := U) (V := V) (S := S) hd r5 la lm lb⟩
/-- the place of the first one that is not less: [a] against [m, b) -/
theorem sym_l3 (n : Nat) (a : Int) (an : Nat) (ha : a = an) (d : List TSlot) (x : TSlot) (hx : d[an]? = some x) (hL : d.length ≤ 1000000000000) (lo hi : Nat) (hs : Srt key d lo hi) (hh : hi ≤ d.length) : ∀ (k f i j : Nat), j - i ≤ k → k < f → i ≤ j → lo ≤ i → j ≤ hi →
    (∀ p y, lo ≤ p → p < i → d[p]? = some y → key y < key x) → (∀ p y, j ≤ p → p < hi → d[p]? = some y → key x ≤ key y) →
    ∃ r : Nat, slices_symMergeCmpFunc_Slot_l3 n f (d, a, cmp, (i : Int), (j : Int), ()) = some (.inl (d, a, (r : Int), ())) ∧ lo ≤ r ∧ r ≤ hi ∧
      (∀ p y, lo ≤ p → p < r → d[p]? = some y → key y < key x) ∧ (∀ p y, r ≤ p → p < hi → d[p]? = some y → key x ≤ key y) := by
  subst ha
  intro k
  induction k with
  | zero =>
    intro f i j hk hf hij hi hj h1 h2
    obtain ⟨f, rfl⟩ : ∃ g, f = g + 1 := ⟨f - 1, by omega⟩
    rw [slices_symMergeCmpFunc_Slot_l3_eq]
    simp only [tif_dec, if_neg (show ¬ ((i : Int) < (j : Int)) by omega)]
    have e : i = j := by omega
    subst e
    exact ⟨i, rfl, by omega, by omega, h1, h2⟩
  | succ k ih =>
    intro f i j hk hf hij hi hj h1 h2
    obtain ⟨f, rfl⟩ : ∃ g, f = g + 1 := ⟨f - 1, by omega⟩
    rw [slices_symMergeCmpFunc_Slot_l3_eq]
    by_cases lt : i < j
    · have e1 := half_nat i j (by omega)
      have lh : (i + j) / 2 < d.length := by omega
      obtain ⟨c, hcm, hlt⟩ := hc d[(i + j) / 2] x
      have gh : d[(i + j) / 2]? = some d[(i + j) / 2] := List.getElem?_eq_getElem lh
      simp only [tif_dec, if_pos (show ((i : Int) < (j : Int)) by omega), e1, at_nat, Int.toNat_natCast, gh, hx, obind_some, hcm]
      by_cases hlt' : c < 0
      · have kl := hlt.1 hlt'
        simp only [if_pos hlt']
        rw [wn (x := (((i + j) / 2 : Nat) : Int) + 1) (k := (i + j) / 2 + 1) (by omega) (by omega)]
        refine ih f ((i + j) / 2 + 1) j (by omega) (by omega) (by omega) (by omega) hj (fun p y p1 p2 hy => ?_) h2
        by_cases ep : p = (i + j) / 2
        · subst ep; rw [gh] at hy; injection hy with hy; subst hy; exact kl
        · have := hs p ((i + j) / 2) y _ p1 (by omega) (by omega) hy gh
          omega
      · have kl : key x ≤ key d[(i + j) / 2] := by have := mt hlt.2 hlt'; omega
        simp only [if_neg hlt']
        refine ih f i ((i + j) / 2) (by omega) (by omega) (by omega) hi (by omega) h1 (fun p y p1 p2 hy => ?_)
        by_cases ep : p = (i + j) / 2
        · subst ep; rw [gh] at hy; injection hy with hy; subst hy; exact kl
        · have := hs ((i + j) / 2) p _ y (by omega) (by omega) (by omega) gh hy
          omega
    · simp only [tif_dec, if_neg (show ¬ ((i : Int) < (j : Int)) by omega)]
      have e : i = j := by omega
      subst e
      exact ⟨i, rfl, by omega, by omega, h1, h2⟩
theorem sym_l15 (n : Nat) (m : Int) (mn : Nat) (hm : m = mn) (d : List TSlot) (x : TSlot) (hx : d[mn]? = some x) (hL : d.length ≤ 1000000000000) (lo hi : Nat) (hs : Srt key d lo hi) (hh : hi ≤ d.length) : ∀ (k f i j : Nat), j - i ≤ k → k < f → i ≤ j → lo ≤ i → j ≤ hi →
    (∀ p y, lo ≤ p → p < i → d[p]? = some y → key y ≤ key x) → (∀ p y, j ≤ p → p < hi → d[p]? = some y → key x < key y) →
    ∃ r : Nat, slices_symMergeCmpFunc_Slot_l15 n f (d, m, cmp, (i : Int), (j : Int), ()) = some (.inl (d, m, (r : Int), ())) ∧ lo ≤ r ∧ r ≤ hi ∧
      (∀ p y, lo ≤ p → p < r → d[p]? = some y → key y ≤ key x) ∧ (∀ p y, r ≤ p → p < hi → d[p]? = some y → key x < key y) := by
  subst hm
  intro k
  induction k with
  | zero =>
    intro f i j hk hf hij hi hj h1 h2
    obtain ⟨f, rfl⟩ : ∃ g, f = g + 1 := ⟨f - 1, by omega⟩
    rw [slices_symMergeCmpFunc_Slot_l15_eq]
    simp only [tif_dec, if_neg (show ¬ ((i : Int) < (j : Int)) by omega)]
    have e : i = j := by omega
    subst e
    exact ⟨i, rfl, by omega, by omega, h1, h2⟩
  | succ k ih =>
    intro f i j hk hf hij hi hj h1 h2
    obtain ⟨f, rfl⟩ : ∃ g, f = g + 1 := ⟨f - 1, by omega⟩
    rw [slices_symMergeCmpFunc_Slot_l15_eq]
    by_cases lt : i < j
    · have e1 := half_nat i j (by omega)
      have lh : (i + j) / 2 < d.length := by omega
      obtain ⟨c, hcm, hlt⟩ := hc x d[(i + j) / 2]
      have gh : d[(i + j) / 2]? = some d[(i + j) / 2] := List.getElem?_eq_getElem lh
      simp only [tif_not, tif_dec, if_pos (show ((i : Int) < (j : Int)) by omega), e1, at_nat, Int.toNat_natCast, gh, hx, obind_some, hcm]
      by_cases hlt' : c < 0
      · have kl := hlt.1 hlt'
        simp only [if_pos hlt']
        refine ih f i ((i + j) / 2) (by omega) (by omega) (by omega) hi (by omega) h1 (fun p y p1 p2 hy => ?_)
        by_cases ep : p = (i + j) / 2
        · subst ep; rw [gh] at hy; injection hy with hy; subst hy; exact kl
        · have := hs ((i + j) / 2) p _ y (by omega) (by omega) (by omega) gh hy
          omega
      · have kl : key d[(i + j) / 2] ≤ key x := by have := mt hlt.2 hlt'; omega
        simp only [if_neg hlt']
        rw [wn (x := (((i + j) / 2 : Nat) : Int) + 1) (k := (i + j) / 2 + 1) (by omega) (by omega)]
        refine ih f ((i + j) / 2 + 1) j (by omega) (by omega) (by omega) (by omega) hj (fun p y p1 p2 hy => ?_) h2
        by_cases ep : p = (i + j) / 2
        · subst ep; rw [gh] at hy; injection hy with hy; subst hy; exact kl
        · have := hs p ((i + j) / 2) y _ p1 (by omega) (by omega) hy gh
          omega
    · simp only [tif_dec, if_neg (show ¬ ((i : Int) < (j : Int)) by omega)]
      have e : i = j := by omega
      subst e
      exact ⟨i, rfl, by omega, by omega, h1, h2⟩
end
end Go.Proofs.YthjnbidgliejkaaGreat
