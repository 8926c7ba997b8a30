/-
  States, second part: the document's answer; two that are equal.
-/
import Derived.Test.YthjnbidgliejkaaGreatP17
namespace Go.Proofs.YthjnbidgliejkaaGreat
open Go.Flat Go.Plim
set_option linter.unusedVariables false
set_option linter.unusedSimpArgs false
theorem r17_whole_val (n : Nat) (s : Sta) : r17_whole (n + 4) s = some (decide (Whole s)) := by
  rw [r17_whole_eq, r10_check n s.1, obind_some, tif_dec]
  by_cases h : OkC s.1
  case neg => rw [if_neg h, if_neg (show ¬ ((2 : Int) = 0) by decide), decide_eq_false (fun k : Whole s => h k.1)]
  rw [if_pos h, if_pos rfl]
  exact congrArg some (decide_eq_decide.2 ⟨fun k => ⟨h, k⟩, fun k => k.2⟩)
theorem r17_mark (n : Nat) {s : Sta} (hh : Whole s) (h : TimeP s.2.1) : r17_Mark (n + 5) s = some (mk s) := by
  have hw := hh.1.rng.w0
  obtain ⟨m1, m2, m3, m4⟩ := mk_range h hw
  have h1 := h.1; have h2 := h.2
  rw [r17_Mark_eq, r17_whole_val n s, obind_some, tif_not, tif_dec, if_pos hh, r17_time_val (n + 3), obind_some, tif_not, tif_dec, if_pos h, tif_dec, if_neg (by omega), quo_at h hw.1]
  rw [w64 (show -9223372036854775808 ≤ s.2.1 / s.1.2.1.1 * s.1.2.1.1 from by unfold mk at m1; omega) (by unfold mk at m2; omega)]
  rfl
theorem r17_l11 (n : Nat) {s : Sta} (hw : StaW s) (hL : s.2.2.2.length ≤ 1000000) (i : Nat) (x : Ser) (hx : s.2.2.2[i]? = some x) (e : Int) (p : List Ser) (q r : Int) : ∀ (d k f : Nat), k + d = i → d < f →
    ((∃ j, k ≤ j ∧ j < i ∧ LvX s x ∧ ∃ y, s.2.2.2[j]? = some y ∧ LvX s y ∧ y.1 = x.1) ∧ r17_Check_l11 (n + 6) f (s, e, (i : Int), x, p, q, r, (i : Int), (k : Int), ()) = some (.inr 2)) ∨
    (¬ (∃ j, k ≤ j ∧ j < i ∧ LvX s x ∧ ∃ y, s.2.2.2[j]? = some y ∧ LvX s y ∧ y.1 = x.1) ∧ r17_Check_l11 (n + 6) f (s, e, (i : Int), x, p, q, r, (i : Int), (k : Int), ()) = some (.inl (s, e, p, q, r, ()))) := by
  have hil : i < s.2.2.2.length := (List.getElem?_eq_some_iff.1 hx).1
  have hm := (hw.at hx).2
  intro d
  induction d with
  | zero =>
    intro k f hk hf
    obtain ⟨f, rfl⟩ : ∃ g, f = g + 1 := ⟨f - 1, by omega⟩
    refine .inr ⟨fun ⟨j, h1, h2, _⟩ => by omega, ?_⟩
    rw [r17_Check_l11_eq, decide_eq_false (by omega), tif_false]
  | succ d ih =>
    intro k f hk hf
    obtain ⟨f, rfl⟩ : ∃ g, f = g + 1 := ⟨f - 1, by omega⟩
    have hkl : k < s.2.2.2.length := by omega
    have hy : s.2.2.2[k]? = some s.2.2.2[k] := List.getElem?_eq_getElem hkl
    generalize s.2.2.2[k] = y at hy
    have hmy := (hw.at hy).2
    have ih' := ih (k + 1) f (by omega) (by omega)
    have step : ¬ (LvX s x ∧ LvX s y ∧ y.1 = x.1) → ((∃ j, k + 1 ≤ j ∧ j < i ∧ LvX s x ∧ ∃ y, s.2.2.2[j]? = some y ∧ LvX s y ∧ y.1 = x.1) ↔ (∃ j, k ≤ j ∧ j < i ∧ LvX s x ∧ ∃ y, s.2.2.2[j]? = some y ∧ LvX s y ∧ y.1 = x.1)) := by
      intro hn
      constructor
      · rintro ⟨j, h1, h2⟩; exact ⟨j, by omega, h2⟩
      · rintro ⟨j, h1, h2, h3, z, h4, h5, h6⟩
        rcases Nat.lt_or_ge k j with g | g
        · exact ⟨j, by omega, h2, h3, z, h4, h5, h6⟩
        · obtain rfl : j = k := by omega
          rw [hy] at h4; cases h4
          exact absurd ⟨h3, h5, h6⟩ hn
    rw [r17_Check_l11_eq, decide_eq_true (by omega), tif_true, r17_lives_val n hx hm, obind_some, tif_dec, r17_lives_val n hy hmy, obind_some, tif_dec, at_el hy, obind_some, eq_r05_Same (n + 5) _ _ hmy.l, obind_some, tif_dec, w64 (by omega) (by omega), show ((k : Int) + 1) = ((k + 1 : Nat) : Int) by omega]
    by_cases h1 : LvX s x
    case neg => rw [if_neg h1, ← step (fun z => h1 z.1)]; exact ih'
    rw [if_pos h1]
    by_cases h2 : LvX s y
    case neg => rw [if_neg h2, ← step (fun z => h2 z.2.1)]; exact ih'
    rw [if_pos h2]
    by_cases h3 : y.1 = x.1
    case neg => rw [if_neg h3, ← step (fun z => h3 z.2.2)]; exact ih'
    rw [if_pos h3]
    exact .inl ⟨⟨k, Nat.le_refl _, by omega, h1, y, hy, h2, h3⟩, rfl⟩
theorem r17_l5 (n : Nat) {s : Sta} (hw : StaW s) (hh : Whole s) (ht : TimeP s.2.1) : ∀ (d i f : Nat), i + d = s.2.2.2.length → d < f →
    ((∀ (j : Nat) x, i ≤ j → s.2.2.2[j]? = some x → RightX s j x) ∧ r17_Check_l5 (n + 8) f (s, mk s + s.1.2.1.1, s.2.2.2, (s.2.2.2.length : Int), (i : Int), ()) = some (.inl ())) ∨
    (¬ (∀ (j : Nat) x, i ≤ j → s.2.2.2[j]? = some x → RightX s j x) ∧ r17_Check_l5 (n + 8) f (s, mk s + s.1.2.1.1, s.2.2.2, (s.2.2.2.length : Int), (i : Int), ()) = some (.inr 2)) := by
  have hL := hh.len
  intro d
  induction d with
  | zero =>
    intro i f hi hf
    obtain ⟨f, rfl⟩ : ∃ g, f = g + 1 := ⟨f - 1, by omega⟩
    refine .inl ⟨fun j x h1 h2 => ?_, ?_⟩
    · have := (List.getElem?_eq_some_iff.1 h2).1; omega
    · rw [r17_Check_l5_eq, decide_eq_false (by omega), tif_false]
  | succ d ih =>
    intro i f hi hf
    obtain ⟨f, rfl⟩ : ∃ g, f = g + 1 := ⟨f - 1, by omega⟩
    have hx : s.2.2.2[i]? = some (s.2.2.2[i]'(by omega)) := List.getElem?_eq_getElem (by omega)
    generalize s.2.2.2[i]'(by omega) = x at hx
    have hm := hw.at hx
    have ih' := ih (i + 1) f (by omega) (by omega)
    have step : RightX s i x → ((∀ (j : Nat) x, i + 1 ≤ j → s.2.2.2[j]? = some x → RightX s j x) ↔ (∀ (j : Nat) x, i ≤ j → s.2.2.2[j]? = some x → RightX s j x)) := by
      intro hr
      constructor
      · intro h j y h1 h2
        rcases Nat.lt_or_ge i j with g | g
        · exact h j y (by omega) h2
        · obtain rfl : j = i := by omega
          rw [hx] at h2; cases h2; exact hr
      · intro h j y h1 h2; exact h j y (by omega) h2
    have bad : ¬ RightX s i x → ¬ (∀ (j : Nat) x, i ≤ j → s.2.2.2[j]? = some x → RightX s j x) := fun h k => h (k i x (Nat.le_refl _) hx)
    rw [r17_Check_l5_eq, decide_eq_true (by omega), tif_true, at_el hx, obind_some, r17_empty (n + 4) hm.2, obind_some, tif_dec, r15_check n s.1 hm.1, obind_some, w64 (by omega) (by omega), show ((i : Int) + 1) = ((i + 1 : Nat) : Int) by omega]
    by_cases h0 : x = ser0
    · rw [if_pos h0, ← step (.inl h0)]; exact ih'
    rw [if_neg h0, tif_not, tif_dec]
    by_cases h1 : SerOk s.1 x
    case neg => rw [if_neg h1, if_neg (show ¬ ((2 : Int) = 0) by decide)]; exact .inr ⟨bad fun k => by rcases k with k | k; exact h0 k; exact h1 k.1, rfl⟩
    rw [if_pos h1, if_pos rfl, tif_dec]
    by_cases h2 : x.2.1 < 0
    · rw [if_pos h2]; exact .inr ⟨bad fun k => by rcases k with k | k; exact h0 k; have := k.2.1; omega, rfl⟩
    rw [if_neg h2, tif_dec]
    by_cases h3 : mk s + s.1.2.1.1 ≤ x.2.1
    · rw [if_pos h3]; exact .inr ⟨bad fun k => by rcases k with k | k; exact h0 k; have := k.2.2.1; omega, rfl⟩
    rw [if_neg h3, decide_eq_true (show (0 : Int) ≤ (i : Int) by omega), decide_eq_true (show (i : Int) ≤ (s.2.2.2.length : Int) by omega), Bool.and_self, tif_true, show (List.drop 0 (List.take (Int.toNat (i : Int)) s.2.2.2)).length = i by simp; omega]
    rcases r17_l11 (n + 2) hw (by omega) i x hx (mk s + s.1.2.1.1) s.2.2.2 (s.2.2.2.length : Int) (i : Int) i 0 loopFuel (by omega) (by unfold loopFuel; omega) with ⟨q1, q2⟩ | ⟨q1, q2⟩
    · have q2' : r17_Check_l11 (n + 8) loopFuel (s, mk s + s.1.2.1.1, (i : Int), x, s.2.2.2, (s.2.2.2.length : Int), (i : Int), (i : Int), (0 : Int), ()) = some (.inr 2) := q2
      rw [q2', obind_some, selim_inr]
      obtain ⟨j, j1, j2, j3, j4⟩ := q1
      exact .inr ⟨bad fun k => by rcases k with k | k; exact h0 k; exact k.2.2.2 ⟨j3, j, j2, j4⟩, rfl⟩
    · have q2' : r17_Check_l11 (n + 8) loopFuel (s, mk s + s.1.2.1.1, (i : Int), x, s.2.2.2, (s.2.2.2.length : Int), (i : Int), (i : Int), (0 : Int), ()) = some (.inl (s, mk s + s.1.2.1.1, s.2.2.2, (s.2.2.2.length : Int), (i : Int), ())) := q2
      rw [q2', obind_some, selim_inl]
      have hr : RightX s i x := .inr ⟨h1, by omega, by omega, fun ⟨k1, j, k2, k3⟩ => q1 ⟨j, by omega, k2, k1, k3⟩⟩
      rw [← step hr, show IntKind.wrap .i64 ((i : Int) + 1) = ((i + 1 : Nat) : Int) by rw [w64 (by omega) (by omega)]; omega]
      exact ih'
theorem r17_check (n : Nat) {s : Sta} (hw : StaW s) : r17_Check (n + 9) s = some (if StaOk s then 0 else 2) := by
  rw [r17_Check_eq, r17_whole_val (n + 4) s, obind_some, tif_not, tif_dec]
  by_cases h : Whole s
  case neg => rw [if_neg h, if_neg (fun k : StaOk s => h k.whole)]
  rw [if_pos h, r17_time_val, obind_some, tif_not, tif_dec]
  by_cases h1 : TimeP s.2.1
  case neg => rw [if_neg h1, if_neg (fun k : StaOk s => h1 k.clock.1)]
  have tail : (Clock s) → (obind (r17_Mark (n + 8) s) fun r3 =>
      obind (r17_Check_l5 (n + 8) loopFuel (s, ((IntKind.wrap .i64 (r3 + s.1.2.1.1)), (s.2.2.2, ((((List.length s.2.2.2) : Nat) : Int), ((0 : Int), ())))))) fun r4 =>
      selim (fun y5 => some (0 : Int)) (fun z6 => some z6) r4) = some (if StaOk s then 0 else 2) := by
    intro hcl
    have hr := h.1.rng
    obtain ⟨m1, m2, m3, m4⟩ := mk_range h1 hr.w0
    have t2 := h1.2; have w0 := hr.w0
    rw [r17_mark (n + 3) h h1, obind_some, w64 (by omega) (by omega)]
    rcases r17_l5 n hw h h1 s.2.2.2.length 0 loopFuel (by omega) (by have := h.len; unfold loopFuel; omega) with ⟨q1, q2⟩ | ⟨q1, q2⟩
    · have q2' : r17_Check_l5 (n + 8) loopFuel (s, mk s + s.1.2.1.1, s.2.2.2, (s.2.2.2.length : Int), (0 : Int), ()) = some (.inl ()) := q2
      rw [q2', obind_some, selim_inl, if_pos (show StaOk s from ⟨h, hcl, fun i x hx => q1 i x (by omega) hx⟩)]
    · have q2' : r17_Check_l5 (n + 8) loopFuel (s, mk s + s.1.2.1.1, s.2.2.2, (s.2.2.2.length : Int), (0 : Int), ()) = some (.inr 2) := q2
      rw [q2', obind_some, selim_inr, if_neg (fun k : StaOk s => q1 fun j x _ hx => k.right j x hx)]
  rw [if_pos h1, tif_not, tif_dec]
  by_cases h2 : s.2.2.1 = -1
  · rw [if_pos h2, tif_dec]
    by_cases h3 : s.2.1 < s.2.2.1
    · have := h1.1; omega
    · rw [if_neg h3]; exact tail ⟨h1, .inl h2, by omega⟩
  · rw [if_neg h2, r17_time_val, obind_some, tif_not, tif_dec]
    by_cases h3 : TimeP s.2.2.1
    case neg => rw [if_neg h3, if_neg (fun k : StaOk s => by rcases k.clock.2.1 with q | q; exact h2 q; exact h3 q)]
    rw [if_pos h3, tif_dec]
    by_cases h4 : s.2.1 < s.2.2.1
    · rw [if_pos h4, if_neg (fun k : StaOk s => by have := k.clock.2.2; omega)]
    · rw [if_neg h4]; exact tail ⟨h1, .inr h3, by omega⟩
/-! ### a state is the same as itself -/
theorem confEq (a b : Conf) : ((decide (a.1 = b.1)) && ((decide (a.2.1.1 = b.2.1.1)) && ((decide (a.2.1.2.1 = b.2.1.2.1)) && ((decide (a.2.1.2.2 = b.2.1.2.2)) && ((decide (a.2.2.1.1 = b.2.2.1.1)) && ((decide (a.2.2.1.2.1 = b.2.2.1.2.1)) && ((decide (a.2.2.1.2.2 = b.2.2.1.2.2)) && ((decide (a.2.2.2.1 = b.2.2.2.1)) && (decide (a.2.2.2.2 = b.2.2.2.2)))))))))) = decide (a = b) := by
  rw [Bool.eq_iff_iff]; simp [Prod.ext_iff, and_assoc]
/-! ### small ones -/
theorem small17_l4 (n : Nat) (l : List Ser) (hL : l.length ≤ 1000000) (hm : ∀ x ∈ l, SerM x) : ∀ (rest pre : List Ser) (f : Nat) (ix len : Int), l = pre ++ rest → ix = pre.length → len = l.length → rest.length < f →
    l17_Small_l4 (n + 2) f (l, len, ix, ()) = some (.inl ()) ∨ l17_Small_l4 (n + 2) f (l, len, ix, ()) = some (.inr 0) := by
  intro rest
  induction rest with
  | nil =>
    intro pre f ix len hl hi hn hf
    obtain ⟨f, rfl⟩ : ∃ g, f = g + 1 := ⟨f - 1, by simp at hf; omega⟩
    left
    rw [l17_Small_l4_eq]
    simp only [tif_dec, if_neg (idxe hl hi hn)]
  | cons x rest ih =>
    intro pre f ix len hl hi hn hf
    obtain ⟨f, rfl⟩ : ∃ g, f = g + 1 := ⟨f - 1, by simp at hf; omega⟩
    have hx : SerM x := hm x (by rw [hl]; simp)
    rw [l17_Small_l4_eq]
    simp only [tif_dec, if_pos (idx hl hi hn), at_mid hl hi, obind_some, idxw hl hi (show l.length ≤ 1000000000000 by omega)]
    rcases l15_small n x hx.l with h | h
    · rw [h]; right; rfl
    · rw [h]
      simp only [obind_some, if_neg (show ¬ ((1 : Int) = 0) by decide)]
      exact ih (pre ++ [x]) f (ix + 1) len (idxl hl) (idxs hi) hn (by simp at hf; omega)
theorem l17_small (n : Nat) {s : Sta} (hw : StaW s) : l17_Small (n + 3) s = some 0 ∨ (l17_Small (n + 3) s = some 1 ∧ s.2.2.2.length ≤ 8) := by
  rw [l17_Small_eq]
  simp only [tif_dec]
  by_cases h : (8 : Int) < (s.2.2.2.length : Int)
  · rw [if_pos h]; exact .inl rfl
  · rw [if_neg h]
    rcases small17_l4 n s.2.2.2 (by omega) (fun x hx => (hw.ser x hx).2) s.2.2.2 [] loopFuel 0 _ rfl rfl rfl (by unfold loopFuel; omega) with h1 | h1
    · rw [h1]; exact .inr ⟨rfl, by omega⟩
    · rw [h1]; exact .inl rfl
theorem ser_m' {s : Ser} (h : Wf tySeries s) : SerM s := by
  obtain ⟨h1, h2, h3, ⟨h4, h5, h6⟩, h7⟩ := h
  have e1 := h1.1; have e3 := h3.2.2.1; have e4 := h4.1; have e5 := h5.1; have e6 := h6.1
  simp only [maxLen] at e1 e3 e4 e5 e6
  exact ⟨e1, e3, e4, e5, e6⟩
theorem sta_wf {s : Sta} (h : Wf tyState s) : StaW s := by
  obtain ⟨h1, h2, h3, h4⟩ := h
  have e := h4.1
  simp only [maxLen] at e
  exact ⟨e, fun x hx => ⟨ser_wf (h4.2 x hx), ser_m' (h4.2 x hx)⟩⟩
end Go.Proofs.YthjnbidgliejkaaGreat
