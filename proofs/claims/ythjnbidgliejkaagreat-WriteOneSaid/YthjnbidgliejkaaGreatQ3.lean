/-
  Plain proofs about the functions of this seat, part 3 of 3.
-/
import Derived.Test.YthjnbidgliejkaaGreatQ2
import Derived.Test.YthjnbidgliejkaaGreatTr
import Derived.Test.YthjnbidgliejkaaGreatFlatM3
namespace Go.Proofs.YthjnbidgliejkaaGreat
open Go.Flat Go.Plim
set_option linter.unusedVariables false
set_option linter.unusedSimpArgs false
theorem r17_whole_val (n : Nat) (s : Sta) : r17_whole (n + 4) s = some (decide (Whole s)) := by
  rw [r17_whole_eq, r10_check n s.1, obind_some, tif_dec]
  by_cases h : OkC s.1
  case neg => rw [if_neg h, if_neg (show ¬ ((2 : Int) = 0) by decide), decide_eq_false (fun k : Whole s => h k.1)]
  rw [if_pos h, if_pos rfl]
  exact congrArg some (decide_eq_decide.2 ⟨fun k => ⟨h, k⟩, fun k => k.2⟩)
theorem r17_mark (n : Nat) {s : Sta} (hh : Whole s) (h : TimeP s.2.1) : r17_Mark (n + 5) s = some (mk s) := by
  have hw := hh.1.rng.w0
  obtain ⟨m1, m2, m3, m4⟩ := mk_range h hw
  have h1 := h.1; have h2 := h.2
  rw [r17_Mark_eq, r17_whole_val n s, obind_some, tif_not, tif_dec, if_pos hh, r17_time_val (n + 3), obind_some, tif_not, tif_dec, if_pos h, tif_dec, if_neg (by omega), quo_at h hw.1]
  rw [w64 (show -9223372036854775808 ≤ s.2.1 / s.1.2.1.1 * s.1.2.1.1 from by unfold mk at m1; omega) (by unfold mk at m2; omega)]
  rfl
theorem r17_l11 (n : Nat) {s : Sta} (hw : StaW s) (hL : s.2.2.2.length ≤ 1000000) (i : Nat) (x : Ser) (hx : s.2.2.2[i]? = some x) (e : Int) (p : List Ser) (q r : Int) : ∀ (d k f : Nat), k + d = i → d < f →
    ((∃ j, k ≤ j ∧ j < i ∧ LvX s x ∧ ∃ y, s.2.2.2[j]? = some y ∧ LvX s y ∧ y.1 = x.1) ∧ r17_Check_l11 (n + 6) f (s, e, (i : Int), x, p, q, r, (i : Int), (k : Int), ()) = some (.inr 2)) ∨
    (¬ (∃ j, k ≤ j ∧ j < i ∧ LvX s x ∧ ∃ y, s.2.2.2[j]? = some y ∧ LvX s y ∧ y.1 = x.1) ∧ r17_Check_l11 (n + 6) f (s, e, (i : Int), x, p, q, r, (i : Int), (k : Int), ()) = some (.inl (s, e, p, q, r, ()))) := by
  have hil : i < s.2.2.2.length := (List.getElem?_eq_some_iff.1 hx).1
  have hm := (hw.at hx).2
  intro d
  induction d with
  | zero =>
    intro k f hk hf
    obtain ⟨f, rfl⟩ : ∃ g, f = g + 1 := ⟨f - 1, by omega⟩
    refine .inr ⟨fun ⟨j, h1, h2, _⟩ => by omega, ?_⟩
    rw [r17_Check_l11_eq, decide_eq_false (by omega), tif_false]
  | succ d ih =>
    intro k f hk hf
    obtain ⟨f, rfl⟩ : ∃ g, f = g + 1 := ⟨f - 1, by omega⟩
    have hkl : k < s.2.2.2.length := by omega
    have hy : s.2.2.2[k]? = some s.2.2.2[k] := List.getElem?_eq_getElem hkl
    generalize s.2.2.2[k] = y at hy
    have hmy := (hw.at hy).2
    have ih' := ih (k + 1) f (by omega) (by omega)
    have step : ¬ (LvX s x ∧ LvX s y ∧ y.1 = x.1) → ((∃ j, k + 1 ≤ j ∧ j < i ∧ LvX s x ∧ ∃ y, s.2.2.2[j]? = some y ∧ LvX s y ∧ y.1 = x.1) ↔ (∃ j, k ≤ j ∧ j < i ∧ LvX s x ∧ ∃ y, s.2.2.2[j]? = some y ∧ LvX s y ∧ y.1 = x.1)) := by
      intro hn
      constructor
      · rintro ⟨j, h1, h2⟩; exact ⟨j, by omega, h2⟩
      · rintro ⟨j, h1, h2, h3, z, h4, h5, h6⟩
        rcases Nat.lt_or_ge k j with g | g
        · exact ⟨j, by omega, h2, h3, z, h4, h5, h6⟩
        · obtain rfl : j = k := by omega
          rw [hy] at h4; cases h4
          exact absurd ⟨h3, h5, h6⟩ hn
    rw [r17_Check_l11_eq, decide_eq_true (by omega), tif_true, r17_lives_val n hx hm, obind_some, tif_dec, r17_lives_val n hy hmy, obind_some, tif_dec, at_el hy, obind_some, eq_r05_Same (n + 5) _ _ hmy.l, obind_some, tif_dec, w64 (by omega) (by omega), show ((k : Int) + 1) = ((k + 1 : Nat) : Int) by omega]
    by_cases h1 : LvX s x
    case neg => rw [if_neg h1, ← step (fun z => h1 z.1)]; exact ih'
    rw [if_pos h1]
    by_cases h2 : LvX s y
    case neg => rw [if_neg h2, ← step (fun z => h2 z.2.1)]; exact ih'
    rw [if_pos h2]
    by_cases h3 : y.1 = x.1
    case neg => rw [if_neg h3, ← step (fun z => h3 z.2.2)]; exact ih'
    rw [if_pos h3]
    exact .inl ⟨⟨k, Nat.le_refl _, by omega, h1, y, hy, h2, h3⟩, rfl⟩
theorem r17_l5 (n : Nat) {s : Sta} (hw : StaW s) (hh : Whole s) (ht : TimeP s.2.1) : ∀ (d i f : Nat), i + d = s.2.2.2.length → d < f →
    ((∀ (j : Nat) x, i ≤ j → s.2.2.2[j]? = some x → RightX s j x) ∧ r17_Check_l5 (n + 8) f (s, mk s + s.1.2.1.1, s.2.2.2, (s.2.2.2.length : Int), (i : Int), ()) = some (.inl ())) ∨
    (¬ (∀ (j : Nat) x, i ≤ j → s.2.2.2[j]? = some x → RightX s j x) ∧ r17_Check_l5 (n + 8) f (s, mk s + s.1.2.1.1, s.2.2.2, (s.2.2.2.length : Int), (i : Int), ()) = some (.inr 2)) := by
  have hL := hh.len
  intro d
  induction d with
  | zero =>
    intro i f hi hf
    obtain ⟨f, rfl⟩ : ∃ g, f = g + 1 := ⟨f - 1, by omega⟩
    refine .inl ⟨fun j x h1 h2 => ?_, ?_⟩
    · have := (List.getElem?_eq_some_iff.1 h2).1; omega
    · rw [r17_Check_l5_eq, decide_eq_false (by omega), tif_false]
  | succ d ih =>
    intro i f hi hf
    obtain ⟨f, rfl⟩ : ∃ g, f = g + 1 := ⟨f - 1, by omega⟩
    have hx : s.2.2.2[i]? = some (s.2.2.2[i]'(by omega)) := List.getElem?_eq_getElem (by omega)
    generalize s.2.2.2[i]'(by omega) = x at hx
    have hm := hw.at hx
    have ih' := ih (i + 1) f (by omega) (by omega)
    have step : RightX s i x → ((∀ (j : Nat) x, i + 1 ≤ j → s.2.2.2[j]? = some x → RightX s j x) ↔ (∀ (j : Nat) x, i ≤ j → s.2.2.2[j]? = some x → RightX s j x)) := by
      intro hr
      constructor
      · intro h j y h1 h2
        rcases Nat.lt_or_ge i j with g | g
        · exact h j y (by omega) h2
        · obtain rfl : j = i := by omega
          rw [hx] at h2; cases h2; exact hr
      · intro h j y h1 h2; exact h j y (by omega) h2
    have bad : ¬ RightX s i x → ¬ (∀ (j : Nat) x, i ≤ j → s.2.2.2[j]? = some x → RightX s j x) := fun h k => h (k i x (Nat.le_refl _) hx)
    rw [r17_Check_l5_eq, decide_eq_true (by omega), tif_true, at_el hx, obind_some, r17_empty (n + 4) hm.2, obind_some, tif_dec, r15_check n s.1 hm.1, obind_some, w64 (by omega) (by omega), show ((i : Int) + 1) = ((i + 1 : Nat) : Int) by omega]
    by_cases h0 : x = ser0
    · rw [if_pos h0, ← step (.inl h0)]; exact ih'
    rw [if_neg h0, tif_not, tif_dec]
    by_cases h1 : SerOk s.1 x
    case neg => rw [if_neg h1, if_neg (show ¬ ((2 : Int) = 0) by decide)]; exact .inr ⟨bad fun k => by rcases k with k | k; exact h0 k; exact h1 k.1, rfl⟩
    rw [if_pos h1, if_pos rfl, tif_dec]
    by_cases h2 : x.2.1 < 0
    · rw [if_pos h2]; exact .inr ⟨bad fun k => by rcases k with k | k; exact h0 k; have := k.2.1; omega, rfl⟩
    rw [if_neg h2, tif_dec]
    by_cases h3 : mk s + s.1.2.1.1 ≤ x.2.1
    · rw [if_pos h3]; exact .inr ⟨bad fun k => by rcases k with k | k; exact h0 k; have := k.2.2.1; omega, rfl⟩
    rw [if_neg h3, decide_eq_true (show (0 : Int) ≤ (i : Int) by omega), decide_eq_true (show (i : Int) ≤ (s.2.2.2.length : Int) by omega), Bool.and_self, tif_true, show (List.drop 0 (List.take (Int.toNat (i : Int)) s.2.2.2)).length = i by simp; omega]
    rcases r17_l11 (n + 2) hw (by omega) i x hx (mk s + s.1.2.1.1) s.2.2.2 (s.2.2.2.length : Int) (i : Int) i 0 loopFuel (by omega) (by unfold loopFuel; omega) with ⟨q1, q2⟩ | ⟨q1, q2⟩
    · have q2' : r17_Check_l11 (n + 8) loopFuel (s, mk s + s.1.2.1.1, (i : Int), x, s.2.2.2, (s.2.2.2.length : Int), (i : Int), (i : Int), (0 : Int), ()) = some (.inr 2) := q2
      rw [q2', obind_some, selim_inr]
      obtain ⟨j, j1, j2, j3, j4⟩ := q1
      exact .inr ⟨bad fun k => by rcases k with k | k; exact h0 k; exact k.2.2.2 ⟨j3, j, j2, j4⟩, rfl⟩
    · have q2' : r17_Check_l11 (n + 8) loopFuel (s, mk s + s.1.2.1.1, (i : Int), x, s.2.2.2, (s.2.2.2.length : Int), (i : Int), (i : Int), (0 : Int), ()) = some (.inl (s, mk s + s.1.2.1.1, s.2.2.2, (s.2.2.2.length : Int), (i : Int), ())) := q2
      rw [q2', obind_some, selim_inl]
      have hr : RightX s i x := .inr ⟨h1, by omega, by omega, fun ⟨k1, j, k2, k3⟩ => q1 ⟨j, by omega, k2, k1, k3⟩⟩
      rw [← step hr, show IntKind.wrap .i64 ((i : Int) + 1) = ((i + 1 : Nat) : Int) by rw [w64 (by omega) (by omega)]; omega]
      exact ih'
theorem r17_check (n : Nat) {s : Sta} (hw : StaW s) : r17_Check (n + 9) s = some (if StaOk s then 0 else 2) := by
  rw [r17_Check_eq, r17_whole_val (n + 4) s, obind_some, tif_not, tif_dec]
  by_cases h : Whole s
  case neg => rw [if_neg h, if_neg (fun k : StaOk s => h k.whole)]
  rw [if_pos h, r17_time_val, obind_some, tif_not, tif_dec]
  by_cases h1 : TimeP s.2.1
  case neg => rw [if_neg h1, if_neg (fun k : StaOk s => h1 k.clock.1)]
  have tail : (Clock s) → (obind (r17_Mark (n + 8) s) fun r3 =>
      obind (r17_Check_l5 (n + 8) loopFuel (s, ((IntKind.wrap .i64 (r3 + s.1.2.1.1)), (s.2.2.2, ((((List.length s.2.2.2) : Nat) : Int), ((0 : Int), ())))))) fun r4 =>
      selim (fun y5 => some (0 : Int)) (fun z6 => some z6) r4) = some (if StaOk s then 0 else 2) := by
    intro hcl
    have hr := h.1.rng
    obtain ⟨m1, m2, m3, m4⟩ := mk_range h1 hr.w0
    have t2 := h1.2; have w0 := hr.w0
    rw [r17_mark (n + 3) h h1, obind_some, w64 (by omega) (by omega)]
    rcases r17_l5 n hw h h1 s.2.2.2.length 0 loopFuel (by omega) (by have := h.len; unfold loopFuel; omega) with ⟨q1, q2⟩ | ⟨q1, q2⟩
    · have q2' : r17_Check_l5 (n + 8) loopFuel (s, mk s + s.1.2.1.1, s.2.2.2, (s.2.2.2.length : Int), (0 : Int), ()) = some (.inl ()) := q2
      rw [q2', obind_some, selim_inl, if_pos (show StaOk s from ⟨h, hcl, fun i x hx => q1 i x (by omega) hx⟩)]
    · have q2' : r17_Check_l5 (n + 8) loopFuel (s, mk s + s.1.2.1.1, s.2.2.2, (s.2.2.2.length : Int), (0 : Int), ()) = some (.inr 2) := q2
      rw [q2', obind_some, selim_inr, if_neg (fun k : StaOk s => q1 fun j x _ hx => k.right j x hx)]
  rw [if_pos h1, tif_not, tif_dec]
  by_cases h2 : s.2.2.1 = -1
  · rw [if_pos h2, tif_dec]
    by_cases h3 : s.2.1 < s.2.2.1
    · have := h1.1; omega
    · rw [if_neg h3]; exact tail ⟨h1, .inl h2, by omega⟩
  · rw [if_neg h2, r17_time_val, obind_some, tif_not, tif_dec]
    by_cases h3 : TimeP s.2.2.1
    case neg => rw [if_neg h3, if_neg (fun k : StaOk s => by rcases k.clock.2.1 with q | q; exact h2 q; exact h3 q)]
    rw [if_pos h3, tif_dec]
    by_cases h4 : s.2.1 < s.2.2.1
    · rw [if_pos h4, if_neg (fun k : StaOk s => by have := k.clock.2.2; omega)]
    · rw [if_neg h4]; exact tail ⟨h1, .inr h3, by omega⟩
/-! ### a state is the same as itself -/
theorem r17_same_l4 (n : Nat) {s : Sta} (hw : StaW s) : ∀ (d i f : Nat), i + d = s.2.2.2.length → d < f → r17_Same_l4 (n + 3) f (s, s, (s.2.2.2.length : Int), (i : Int), ()) = some (.inl ()) := by
  have hL := hw.len
  intro d
  induction d with
  | zero =>
    intro i f hi hf
    obtain ⟨f, rfl⟩ : ∃ g, f = g + 1 := ⟨f - 1, by omega⟩
    rw [r17_Same_l4_eq, decide_eq_false (by omega), tif_false]
  | succ d ih =>
    intro i f hi hf
    obtain ⟨f, rfl⟩ : ∃ g, f = g + 1 := ⟨f - 1, by omega⟩
    have hx : s.2.2.2[i]? = some (s.2.2.2[i]'(by omega)) := List.getElem?_eq_getElem (by omega)
    generalize s.2.2.2[i]'(by omega) = x at hx
    rw [r17_Same_l4_eq, decide_eq_true (by omega), tif_true, at_el hx, obind_some, obind_some, r15_same n x x (hw.at hx).2, obind_some, decide_eq_true rfl, Bool.not_true, tif_false, w64 (by omega) (by omega), show ((i : Int) + 1) = ((i + 1 : Nat) : Int) by omega]
    exact ih (i + 1) f (by omega) (by omega)
theorem r17_same_refl (n : Nat) {s : Sta} (hw : StaW s) : r17_Same (n + 4) s s = some true := by
  have := r17_same_l4 n hw s.2.2.2.length 0 loopFuel (by omega) (by have := hw.len; unfold loopFuel; omega)
  have e : r17_Same_l4 (n + 3) loopFuel (s, s, (s.2.2.2.length : Int), (0 : Int), ()) = some (.inl ()) := this
  rw [r17_Same_eq]
  simp only [decide_true, Bool.and_self, Bool.not_true, tif_false]
  rw [e]; rfl
/-! ### small ones -/
theorem small17_l4 (n : Nat) (l : List Ser) (hL : l.length ≤ 1000000) (hm : ∀ x ∈ l, SerM x) : ∀ (rest pre : List Ser) (f : Nat) (ix len : Int), l = pre ++ rest → ix = pre.length → len = l.length → rest.length < f →
    l17_Small_l4 (n + 2) f (l, len, ix, ()) = some (.inl ()) ∨ l17_Small_l4 (n + 2) f (l, len, ix, ()) = some (.inr 0) := by
  intro rest
  induction rest with
  | nil =>
    intro pre f ix len hl hi hn hf
    obtain ⟨f, rfl⟩ : ∃ g, f = g + 1 := ⟨f - 1, by simp at hf; omega⟩
    left
    rw [l17_Small_l4_eq]
    simp only [tif_dec, if_neg (idxe hl hi hn)]
  | cons x rest ih =>
    intro pre f ix len hl hi hn hf
    obtain ⟨f, rfl⟩ : ∃ g, f = g + 1 := ⟨f - 1, by simp at hf; omega⟩
    have hx : SerM x := hm x (by rw [hl]; simp)
    rw [l17_Small_l4_eq]
    simp only [tif_dec, if_pos (idx hl hi hn), at_mid hl hi, obind_some, idxw hl hi (show l.length ≤ 1000000000000 by omega)]
    rcases l15_small n x hx.l with h | h
    · rw [h]; right; rfl
    · rw [h]
      simp only [obind_some, if_neg (show ¬ ((1 : Int) = 0) by decide)]
      exact ih (pre ++ [x]) f (ix + 1) len (idxl hl) (idxs hi) hn (by simp at hf; omega)
theorem l17_small (n : Nat) {s : Sta} (hw : StaW s) : l17_Small (n + 3) s = some 0 ∨ (l17_Small (n + 3) s = some 1 ∧ s.2.2.2.length ≤ 8) := by
  rw [l17_Small_eq]
  simp only [tif_dec]
  by_cases h : (8 : Int) < (s.2.2.2.length : Int)
  · rw [if_pos h]; exact .inl rfl
  · rw [if_neg h]
    rcases small17_l4 n s.2.2.2 (by omega) (fun x hx => (hw.ser x hx).2) s.2.2.2 [] loopFuel 0 _ rfl rfl rfl (by unfold loopFuel; omega) with h1 | h1
    · rw [h1]; exact .inr ⟨rfl, by omega⟩
    · rw [h1]; exact .inl rfl
theorem ser_m' {s : Ser} (h : Wf tySeries s) : SerM s := by
  obtain ⟨h1, h2, h3, ⟨h4, h5, h6⟩, h7⟩ := h
  have e1 := h1.1; have e3 := h3.2.2.1; have e4 := h4.1; have e5 := h5.1; have e6 := h6.1
  simp only [maxLen] at e1 e3 e4 e5 e6
  exact ⟨e1, e3, e4, e5, e6⟩
theorem sta_wf {s : Sta} (h : Wf tyState s) : StaW s := by
  obtain ⟨h1, h2, h3, h4⟩ := h
  have e := h4.1
  simp only [maxLen] at e
  exact ⟨e, fun x hx => ⟨ser_wf (h4.2 x hx), ser_m' (h4.2 x hx)⟩⟩
end Go.Proofs.YthjnbidgliejkaaGreat

namespace Go.Proofs.YthjnbidgliejkaaGreat
open Go.Flat Go.Plim
set_option linter.unusedVariables false
/-- three tiers and the open slot, behind events -/
def OpenInv (c : Conf) (s : Trs) (o : Slo) (l : List Ev) : Prop :=
  (l = [] ∧ o = s0 ∧ ∀ t, FInv c s [] t) ∨ ∃ t, EndsAt l t ∧ FInv c s l t ∧ o = (t / c.2.1.1, cellOf (win c.2.1.1 l (t / c.2.1.1)))
theorem emp_inv {c : Conf} (h : OkC c) : OpenInv c (emp c) s0 [] := by
  have hr := h.rng
  have n0 := hr.n0; have n1 := hr.n1; have n2 := hr.n2
  refine .inl ⟨rfl, rfl, fun t => ?_⟩
  have e : emp c = (List.replicate c.2.2.1.1.toNat s0, (List.replicate c.2.2.1.2.1.toNat s0, List.replicate c.2.2.1.2.2.toNat s0)) := if_pos h
  have i0 : TierInv (List.replicate c.2.2.1.1.toNat s0) c.2.1.1 [] := tierInv_nil (by omega) (by omega) hr.w0.1 hr.w0.2
  have i1 : TierInv (List.replicate c.2.2.1.2.1.toNat s0) c.2.1.2.1 [] := tierInv_nil (by omega) (by omega) hr.w1.1 hr.w1.2
  have i2 : TierInv (List.replicate c.2.2.1.2.2.toNat s0) c.2.1.2.2 [] := tierInv_nil (by omega) (by omega) hr.w2.1 hr.w2.2
  rw [e]
  exact ⟨⟨h, by simp; omega, by simp; omega, by simp; omega, i0.ok, i1.ok, i2.ok⟩, i0, i1, i2⟩
theorem OpenInv.fold {c : Conf} {s : Trs} {o : Slo} {l : List Ev} (h : OpenInv c s o l) : FoldOk c s := by
  rcases h with ⟨_, _, h⟩ | ⟨t, _, h, _⟩
  · exact (h 0).ok
  · exact h.ok
theorem ev_begins {e : Ev} (h : EvOk e) {w : Int} (hw : 1 ≤ w) : Begins w (e.1 / w) := div_begins hw ⟨h.t0, by have := h.t1; omega⟩
end Go.Proofs.YthjnbidgliejkaaGreat

namespace Go.Proofs.YthjnbidgliejkaaGreat
open Go.Flat Go.Plim
set_option linter.unusedVariables false
set_option linter.unusedSimpArgs false
/-! ### raw events that are kept -/
def rawOf (room : Int) (l : List Ev) : Rw :=
  (if (l.length : Int) ≤ room then 0 else (l.length : Int) - room, (if (l.length : Int) ≤ room then 0 else ((l[l.length - room.toNat - 1]?).getD e0).1, l.drop (l.length - room.toNat)))
theorem rawOf_len {room : Int} (h : 1 ≤ room) (l : List Ev) : ((rawOf room l).2.2.length : Int) = if (l.length : Int) ≤ room then (l.length : Int) else room := by
  simp only [rawOf, List.length_drop]
  split <;> omega
theorem rawOf_last {room : Int} (h : 1 ≤ room) (l : List Ev) : (rawOf room l).2.2.getLast? = l.getLast? := by
  simp only [rawOf, List.getLast?_drop]
  by_cases h0 : l = []
  · subst h0; simp
  · have : 0 < l.length := List.length_pos_iff.2 h0
    rw [if_neg (by omega)]
theorem rawOf_ok {room : Int} (h : 1 ≤ room ∧ room ≤ 4096) {l : List Ev} (hl : Foll l) (hL : l.length ≤ 1000000) : RawOk (rawOf room l) room := by
  have hlen := rawOf_len h.1 l
  refine ⟨h.1, h.2, by rw [hlen]; split <;> omega, ?_, ?_, ?_, ?_, ?_⟩
  · simp only [rawOf]; split <;> omega
  · simp only [rawOf]; split <;> omega
  · exact hl.sub (List.drop_sublist _ _)
  · simp only [rawOf]
    intro k
    split
    · rfl
    · rename_i h1; rw [if_neg h1] at k; omega
  · intro k
    simp only [rawOf] at k hlen ⊢
    by_cases h1 : (l.length : Int) ≤ room
    · rw [if_pos h1] at k; exact absurd rfl k
    rw [if_neg h1] at hlen ⊢
    obtain ⟨d, hd⟩ : ∃ d, l.length - room.toNat = d + 1 := ⟨l.length - room.toNat - 1, by omega⟩
    rw [hd, show d + 1 - 1 = d by omega]
    have hdl : d < l.length := by omega
    have hdl' : d + 1 < l.length := by omega
    rw [List.getElem?_eq_getElem hdl]
    refine ⟨by rw [← hlen, hd], ((hl.ok _ (List.getElem_mem hdl)).t0), fun x hx => ?_⟩
    rw [List.head?_drop, List.getElem?_eq_getElem hdl'] at hx
    have := List.pairwise_iff_getElem.1 hl.inc d (d + 1) hdl hdl' (by omega)
    simp at hx
    rw [← hx]; exact this
/-! ### the series -/
structure SerInv (c : Conf) (s : Ser) (l : List Ev) : Prop where
  lab : LabOk s.1
  len : l.length ≤ 1000000
  raw : s.2.2.1 = rawOf c.1 l
  opn : OpenInv c s.2.2.2.1 s.2.2.2.2 l
  last : (l = [] ∧ s.2.1 = -1) ∨ EndsAt l s.2.1
theorem SerInv.foll {c : Conf} {s : Ser} {l : List Ev} (h : SerInv c s l) : Foll l := by
  rcases h.last with ⟨rfl, _⟩ | h
  · exact Foll.nil
  · exact h.foll
theorem ends_getLast {l : List Ev} {t : Int} (h : EndsAt l t) : ∃ e, l.getLast? = some e ∧ e.1 = t := by
  obtain ⟨x, hx, hxt⟩ := h.last
  rcases List.eq_nil_or_concat l with rfl | ⟨p, y, rfl⟩
  · cases hx
  rw [List.concat_eq_append] at *
  have h1 := h.le y (by simp)
  refine ⟨y, by simp, ?_⟩
  rcases List.mem_append.1 hx with q | q
  · have := (foll_append.1 h.foll).2.2 x q y (by simp); omega
  · simp at q; rw [← q]; exact hxt
theorem ends_uniq {l : List Ev} {t u : Int} (h : EndsAt l t) (k : EndsAt l u) : t = u := by
  obtain ⟨e, h1, h2⟩ := ends_getLast h
  obtain ⟨e', k1, k2⟩ := ends_getLast k
  rw [h1] at k1; simp at k1; rw [← h2, ← k2, k1]
theorem ends_ne {l : List Ev} {t : Int} (h : EndsAt l t) : l ≠ [] := by
  obtain ⟨x, hx, _⟩ := h.last
  exact List.ne_nil_of_mem hx
/-- the open window, if there is one -/
theorem SerInv.at_ {c : Conf} {s : Ser} {l : List Ev} (h : SerInv c s l) (hl : l ≠ []) : EndsAt l s.2.1 ∧ FInv c s.2.2.2.1 l s.2.1 ∧ s.2.2.2.2 = (s.2.1 / c.2.1.1, cellOf (win c.2.1.1 l (s.2.1 / c.2.1.1))) := by
  have he := h.last.resolve_left fun k => hl k.1
  rcases h.opn with k | ⟨t, k1, k2, k3⟩
  · exact absurd k.1 hl
  · have := ends_uniq he k1
    subst this
    exact ⟨he, k2, k3⟩
theorem tall_none {t : List Slo} {w : Int} (h : TierInv t w []) : tall t = [] := by
  cases hc : tall t with
  | nil => rfl
  | cons x r =>
    have hx : x ∈ tall t := by rw [hc]; simp
    have h1 := h.cells x hx
    have := (tall_fits h.ok hx).1.n.n1
    rw [h1] at this
    simp [win, cellOf, z0] at this
theorem behind_below {t : List Slo} {w u : Int} {l : List Ev} (h : TierInv t w (below w l u)) (hl : Foll l) : NoBehind t (u / w) := by
  rw [noBehind_iff h.ok]
  intro x hx
  have h1 := h.cells x hx
  have hn := (tall_fits h.ok hx).1.n
  have hne : win w (below w l u) x.1 ≠ [] := fun k => by
    rw [k] at h1
    exact hn.ne h1
  obtain ⟨e, he⟩ := List.exists_mem_of_ne_nil _ hne
  obtain ⟨k1, k2⟩ := mem_win.1 he
  have := of_decide_eq_true (List.mem_filter.1 k1).2
  omega
theorem cellOf_lastT {w T : Int} {l : List Ev} (he : EndsAt l T) : (cellOf (win w l (T / w))).2.2.1.1 = T := by
  obtain ⟨x, hx, hxt⟩ := he.last
  have hm : x ∈ win w l (T / w) := mem_win.2 ⟨hx, by rw [hxt]⟩
  have hw := win_foll (w := w) he.foll (T / w)
  have hh := cellOf_N hw (List.ne_nil_of_mem hm)
  have ew : EndsAt (win w l (T / w)) T := ⟨hw, fun y hy => he.le y (mem_win.1 hy).1, x, hm, hxt⟩
  obtain ⟨e, k1, k2⟩ := ends_getLast ew
  have := hh.last
  rw [k1] at this
  simp at this
  rw [← this, k2]
theorem serInv_ok {c : Conf} {s : Ser} {l : List Ev} (h : SerInv c s l) : SerOk c s := by
  have hf := h.opn.fold
  have hr := hf.cok.rng
  have hraw : RawOk s.2.2.1 c.1 := by rw [h.raw]; exact rawOf_ok hr.raw h.foll h.len
  refine ⟨hf, h.lab, hraw, ?_⟩
  by_cases hl : l = []
  · subst hl
    refine .inl ?_
    have hlast := h.last.resolve_right fun k => ends_ne k rfl
    rcases h.opn with ⟨_, k1, k2⟩ | ⟨t, k1, _⟩
    · have := k2 0
      exact ⟨hlast.2, by rw [h.raw]; simp [rawOf], k1, (noBehind0 this.ok.t0).2 (tall_none this.i0), (noBehind0 this.ok.t1).2 (tall_none this.i1), (noBehind0 this.ok.t2).2 (tall_none this.i2)⟩
    · exact absurd rfl (ends_ne k1)
  · obtain ⟨he, hi, ho⟩ := h.at_ hl
    obtain ⟨x, hx, hxt⟩ := he.last
    have := (he.foll.ok x hx).t0
    refine .inr ⟨by omega, ?_, ?_, ?_, behind_below hi.i0 he.foll, behind_below hi.i1 he.foll, behind_below hi.i2 he.foll⟩
    · rw [h.raw, rawOf_last hr.raw.1]; exact ends_getLast he
    · rw [ho]; exact cellOf_lastT he
    · rw [ho]; exact (tierInv_close he hi.i0).1
theorem serInv_w {c : Conf} {s : Ser} {l : List Ev} (h : SerInv c s l) : SerW s := by
  have hok := serInv_ok h
  refine ⟨?_, fun e he => EvW.of (hok.raw.f.ok e he), hok.fold.w, ?_⟩
  · by_cases hn : s.2.1 = -1
    · rw [hn]; unfold I64; omega
    · have := serOk_at hok hn; unfold I64; omega
  · rcases h.opn with ⟨_, k, _⟩ | ⟨t, he, hi, ho⟩
    · rw [k]; exact slow_s0
    · obtain ⟨x, hx, hxt⟩ := he.last
      have hxo := he.foll.ok x hx
      have := quo_ev_range hxo hi.ok.cok.rng.w0.1
      rw [hxt] at this
      rw [ho]
      exact ⟨by unfold I64; simp only; omega, .of (cellOf_ok (win_foll he.foll _))⟩
/-! ### what is told -/
theorem new_inv {c : Conf} {l : List Lab} (h : OkC c) (hl : LabOk l) : SerInv c (l, (-1, (r0w, (emp c, s0)))) [] :=
  ⟨hl, by simp, by have := h.rng.raw; simp [rawOf, r0w]; omega, emp_inv h, .inl ⟨rfl, rfl⟩⟩
end Go.Proofs.YthjnbidgliejkaaGreat

namespace Go.Proofs.YthjnbidgliejkaaGreat
open Go.Flat Go.Plim
set_option linter.unusedVariables false
set_option linter.unusedSimpArgs false
/-! ### where -/
noncomputable def findV (s : Sta) (l : List Lab) : Option Nat := s.2.2.2.findIdx? fun x => decide (x.1 = l ∧ LvX s x)
noncomputable def roomV (s : Sta) : Option Nat := s.2.2.2.findIdx? fun x => decide (¬ LvX s x)
theorem findV_some {s : Sta} {l : List Lab} {i : Nat} : findV s l = some i ↔ ∃ x, s.2.2.2[i]? = some x ∧ x.1 = l ∧ LvX s x ∧ ∀ j, j < i → ∀ y, s.2.2.2[j]? = some y → ¬ (y.1 = l ∧ LvX s y) := by
  unfold findV
  rw [List.findIdx?_eq_some_iff_getElem]
  constructor
  · rintro ⟨h, h1, h2⟩
    have h1 := of_decide_eq_true h1
    refine ⟨_, List.getElem?_eq_getElem h, h1.1, h1.2, fun j hj y hy => ?_⟩
    obtain ⟨hjl, e⟩ := List.getElem?_eq_some_iff.1 hy
    have := h2 j hj
    rw [e] at this
    simpa using this
  · rintro ⟨x, hx, h1, h2, h3⟩
    obtain ⟨hl, e⟩ := List.getElem?_eq_some_iff.1 hx
    refine ⟨hl, by rw [e]; exact decide_eq_true ⟨h1, h2⟩, fun j hj => ?_⟩
    have := h3 j hj _ (List.getElem?_eq_getElem (by omega))
    simpa using this
theorem findV_none {s : Sta} {l : List Lab} : findV s l = none ↔ ∀ x ∈ s.2.2.2, ¬ (x.1 = l ∧ LvX s x) := by
  unfold findV
  rw [List.findIdx?_eq_none_iff]
  simp
theorem roomV_some {s : Sta} {i : Nat} : roomV s = some i ↔ ∃ x, s.2.2.2[i]? = some x ∧ ¬ LvX s x ∧ ∀ j, j < i → ∀ y, s.2.2.2[j]? = some y → LvX s y := by
  unfold roomV
  rw [List.findIdx?_eq_some_iff_getElem]
  constructor
  · rintro ⟨h, h1, h2⟩
    refine ⟨_, List.getElem?_eq_getElem h, of_decide_eq_true h1, fun j hj y hy => ?_⟩
    obtain ⟨hjl, e⟩ := List.getElem?_eq_some_iff.1 hy
    have := h2 j hj
    rw [e] at this
    simpa using this
  · rintro ⟨x, hx, h1, h3⟩
    obtain ⟨hl, e⟩ := List.getElem?_eq_some_iff.1 hx
    refine ⟨hl, by rw [e]; exact decide_eq_true h1, fun j hj => ?_⟩
    have := h3 j hj _ (List.getElem?_eq_getElem (by omega))
    simpa using this
theorem roomV_none {s : Sta} : roomV s = none ↔ ∀ x ∈ s.2.2.2, LvX s x := by
  unfold roomV
  rw [List.findIdx?_eq_none_iff]
  simp
/-! ### what is written -/
noncomputable def whereV (s : Sta) (l : List Lab) (e : Ev) : Int × (Bool × Int) :=
  if ¬ StaOk s then (0, (false, 2)) else if ¬ LabOk l then (0, (false, 8)) else if ¬ EvOk e then (0, (false, 2)) else
  if e.1 < mk s ∨ mk s + s.1.2.1.1 ≤ e.1 then (0, (false, 9)) else
  match findV s l with
  | some i => if e.1 ≤ ((s.2.2.2[i]?).getD ser0).2.1 then (0, (false, 9)) else ((i : Int), (false, 0))
  | none => if e.2.2.2 = true then (0, (false, 3)) else match roomV s with | some i => ((i : Int), (true, 0)) | none => (0, (false, 7))
end Go.Proofs.YthjnbidgliejkaaGreat

namespace Go.Proofs.YthjnbidgliejkaaGreat
open Go.Flat
/-- a number of so many bytes off what is left -/
def rd (st : List UInt8 × Bool) (k : Nat) : Int × (List UInt8 × Bool) := if st.2 = true ∨ st.1.length < k then (0, ([], true)) else (valI (bytesI (st.1.take k)), (st.1.drop k, false))
end Go.Proofs.YthjnbidgliejkaaGreat

namespace Go.Proofs.YthjnbidgliejkaaGreat
open Go.Flat
def q0 (s : List UInt8) := rd (s, false) 4
def q1 (s : List UInt8) := rd (q0 s).2 8
def q2 (s : List UInt8) := rd (q1 s).2 8
def q3 (s : List UInt8) := rd (q2 s).2 8
def q4 (s : List UInt8) := rd (q3 s).2 4
def q5 (s : List UInt8) := rd (q4 s).2 4
def q6 (s : List UInt8) := rd (q5 s).2 4
def q7 (s : List UInt8) := rd (q6 s).2 4
def q8 (s : List UInt8) := rd (q7 s).2 4
def q9 (s : List UInt8) := rd (q8 s).2 8
/-- the bytes are just a configuration's -/
structure Full (s : List UInt8) : Prop where
  z : (q9 s).1 = 0
  good : (q9 s).2.2 = false
  left : (q9 s).2.1 = []
end Go.Proofs.YthjnbidgliejkaaGreat

namespace Go.Proofs.YthjnbidgliejkaaGreat
open Go.Flat
def idxC (c : Conf) : Int := prt c.2.2.2.2 120
def hom (c : Conf) : Int := 1 + idxC c + c.2.2.2.2
end Go.Proofs.YthjnbidgliejkaaGreat

namespace Go.Proofs.YthjnbidgliejkaaGreat
open Go.Flat Go.Plim
set_option linter.unusedVariables false
set_option linter.unusedSimpArgs false
theorem el_get {l : List Ser} {k : Nat} (h : k < l.length) : ∃ y, l[k]? = some y := ⟨l[k], List.getElem?_eq_getElem h⟩
noncomputable def findR (s : Sta) (l : List Lab) : Int × Int := if Whole s then (match findV s l with | some i => ((i : Int), 0) | none => (0, 3)) else (0, 2)
noncomputable def roomR (s : Sta) : Int × Int := if Whole s then (match roomV s with | some i => ((i : Int), 0) | none => (0, 7)) else (0, 2)
def IsF (s : Sta) (l : List Lab) (k : Nat) : Prop := ∃ y, s.2.2.2[k]? = some y ∧ y.1 = l ∧ LvX s y
noncomputable instance (s l k) : Decidable (IsF s l k) := Classical.propDecidable _
def IsR (s : Sta) (k : Nat) : Prop := ∃ y, s.2.2.2[k]? = some y ∧ ¬ LvX s y
noncomputable instance (s k) : Decidable (IsR s k) := Classical.propDecidable _
theorem find_first {s : Sta} {l : List Lab} {m : Nat} (h : IsF s l m) (hn : ∀ j, j < m → ¬ IsF s l j) : findV s l = some m := by
  obtain ⟨y, h1, h2, h3⟩ := h
  exact findV_some.2 ⟨y, h1, h2, h3, fun j hj z hz k => hn j hj ⟨z, hz, k.1, k.2⟩⟩
theorem find_no {s : Sta} {l : List Lab} (hn : ∀ j, j < s.2.2.2.length → ¬ IsF s l j) : findV s l = none := by
  refine findV_none.2 fun x hx k => ?_
  obtain ⟨i, hi, e⟩ := List.getElem_of_mem hx
  exact hn i hi ⟨x, by rw [List.getElem?_eq_getElem hi, e], k.1, k.2⟩
theorem room_first {s : Sta} {m : Nat} (h : IsR s m) (hn : ∀ j, j < m → ¬ IsR s j) : roomV s = some m := by
  obtain ⟨y, h1, h2⟩ := h
  exact roomV_some.2 ⟨y, h1, h2, fun j hj z hz => Decidable.byContradiction fun k => hn j hj ⟨z, hz, k⟩⟩
theorem room_no {s : Sta} (hn : ∀ j, j < s.2.2.2.length → ¬ IsR s j) : roomV s = none := by
  refine roomV_none.2 fun x hx => Decidable.byContradiction fun k => ?_
  obtain ⟨i, hi, e⟩ := List.getElem_of_mem hx
  exact hn i hi ⟨x, by rw [List.getElem?_eq_getElem hi, e], k⟩
theorem state_find (n : Nat) {s : Sta} (hw : StaW s) (l : List Lab) : state_Find (n + 10) s l = some (findR s l) := by
  rw [state_Find_eq, st_open (n + 5) s, obind_some, tif_not, tif_dec]
  unfold findR
  by_cases h : Whole s
  case neg => rw [if_neg h, if_neg h, if_neg (show ¬ ((sta0, (2 : Int)).2 = 0) by decide)]
  rw [if_pos h, if_pos h, if_pos rfl]
  have his : ∀ k : Nat, k < s.2.2.2.length → (fun y1 : Int × Unit => state_Find_1 (n + 9) y1.1 s l s) ((k : Int), ()) = some (decide (IsF s l k)) := by
    intro k hk
    obtain ⟨y, hy⟩ := el_get hk
    have hm := (hw.at hy).2
    show state_Find_1 (n + 9) (k : Int) s l s = _
    rw [state_Find_1_eq, at_el hy, obind_some, label_same (n + 6) _ _ hm.l, obind_some, tif_dec, st_lives (n + 1) hy hm, obind_some]
    by_cases h1 : y.1 = l
    · rw [if_pos h1]
      refine congrArg some (decide_eq_decide.2 ⟨fun k => ⟨y, hy, h1, k⟩, fun ⟨z, z1, z2, z3⟩ => ?_⟩)
      rw [hy] at z1; cases z1; exact z3
    · rw [if_neg h1, decide_eq_false (fun q : IsF s l k => by obtain ⟨z, z1, z2, z3⟩ := q; rw [hy] at z1; cases z1; exact h1 z2)]
  rcases first_val (n + 8) s (fun y1 : Int × Unit => state_Find_1 (n + 9) y1.1 s l s) (fun k => decide (IsF s l k)) (by have := h.len; omega) his with ⟨m, q1, q2, q3, q4⟩ | ⟨q1, q2⟩
  · rw [show (fun y1 : Int × Unit => state_Find_1 (n + 9) y1.1 s l (s, (0 : Int)).1) = fun y1 : Int × Unit => state_Find_1 (n + 9) y1.1 s l s from rfl, q4, obind_some, tif_dec, if_neg (by omega), find_first (of_decide_eq_true q2) (fun j hj => of_decide_eq_false (q3 j hj))]
  · rw [show (fun y1 : Int × Unit => state_Find_1 (n + 9) y1.1 s l (s, (0 : Int)).1) = fun y1 : Int × Unit => state_Find_1 (n + 9) y1.1 s l s from rfl, q2, obind_some, tif_dec, if_pos (by decide), find_no (fun j hj => of_decide_eq_false (q1 j hj))]
theorem state_room (n : Nat) {s : Sta} (hw : StaW s) : state_Room (n + 10) s = some (roomR s) := by
  rw [state_Room_eq, st_open (n + 5) s, obind_some, tif_not, tif_dec]
  unfold roomR
  by_cases h : Whole s
  case neg => rw [if_neg h, if_neg h, if_neg (show ¬ ((sta0, (2 : Int)).2 = 0) by decide)]
  rw [if_pos h, if_pos h, if_pos rfl]
  have his : ∀ k : Nat, k < s.2.2.2.length → (fun y1 : Int × Unit => state_Room_1 (n + 9) y1.1 s) ((k : Int), ()) = some (decide (IsR s k)) := by
    intro k hk
    obtain ⟨y, hy⟩ := el_get hk
    have hm := (hw.at hy).2
    show state_Room_1 (n + 9) (k : Int) s = _
    rw [state_Room_1_eq, st_lives (n + 1) hy hm, obind_some]
    by_cases h1 : LvX s y
    · rw [decide_eq_true h1, decide_eq_false (fun q : IsR s k => by obtain ⟨z, z1, z2⟩ := q; rw [hy] at z1; cases z1; exact z2 h1)]; rfl
    · rw [decide_eq_false h1, decide_eq_true (show IsR s k from ⟨y, hy, h1⟩)]; rfl
  rcases first_val (n + 8) s (fun y1 : Int × Unit => state_Room_1 (n + 9) y1.1 s) (fun k => decide (IsR s k)) (by have := h.len; omega) his with ⟨m, q1, q2, q3, q4⟩ | ⟨q1, q2⟩
  · rw [show (fun y1 : Int × Unit => state_Room_1 (n + 9) y1.1 (s, (0 : Int)).1) = fun y1 : Int × Unit => state_Room_1 (n + 9) y1.1 s from rfl, q4, obind_some, tif_dec, if_neg (by omega), room_first (of_decide_eq_true q2) (fun j hj => of_decide_eq_false (q3 j hj))]
  · rw [show (fun y1 : Int × Unit => state_Room_1 (n + 9) y1.1 (s, (0 : Int)).1) = fun y1 : Int × Unit => state_Room_1 (n + 9) y1.1 s from rfl, q2, obind_some, tif_dec, if_pos (by decide), room_no (fun j hj => of_decide_eq_false (q1 j hj))]
theorem r17_find_l4 (n : Nat) {s : Sta} (hw : StaW s) (hL : s.2.2.2.length ≤ 1000000) (l : List Lab) : ∀ (d k f : Nat), k + d = s.2.2.2.length → d < f →
    (∃ m : Nat, k ≤ m ∧ IsF s l m ∧ (∀ j, k ≤ j → j < m → ¬ IsF s l j) ∧ r17_Find_l4 (n + 6) f (l, s, s.2.2.2, (s.2.2.2.length : Int), (k : Int), ()) = some (.inr ((m : Int), 0))) ∨
    ((∀ j, k ≤ j → j < s.2.2.2.length → ¬ IsF s l j) ∧ r17_Find_l4 (n + 6) f (l, s, s.2.2.2, (s.2.2.2.length : Int), (k : Int), ()) = some (.inl ())) := by
  intro d
  induction d with
  | zero =>
    intro k f hk hf
    obtain ⟨f, rfl⟩ : ∃ g, f = g + 1 := ⟨f - 1, by omega⟩
    refine .inr ⟨fun j h1 h2 => by omega, ?_⟩
    rw [r17_Find_l4_eq, decide_eq_false (by omega), tif_false]
  | succ d ih =>
    intro k f hk hf
    obtain ⟨f, rfl⟩ : ∃ g, f = g + 1 := ⟨f - 1, by omega⟩
    obtain ⟨y, hy⟩ := el_get (l := s.2.2.2) (k := k) (by omega)
    have hm := (hw.at hy).2
    have ih' := ih (k + 1) f (by omega) (by omega)
    have next : ¬ IsF s l k → ((∃ m : Nat, k ≤ m ∧ IsF s l m ∧ (∀ j, k ≤ j → j < m → ¬ IsF s l j) ∧ r17_Find_l4 (n + 6) f (l, s, s.2.2.2, (s.2.2.2.length : Int), ((k + 1 : Nat) : Int), ()) = some (.inr ((m : Int), 0))) ∨
    ((∀ j, k ≤ j → j < s.2.2.2.length → ¬ IsF s l j) ∧ r17_Find_l4 (n + 6) f (l, s, s.2.2.2, (s.2.2.2.length : Int), ((k + 1 : Nat) : Int), ()) = some (.inl ()))) := by
      intro hn
      have low : ∀ j, k ≤ j → ¬ k + 1 ≤ j → ¬ IsF s l j := fun j h1 h2 => by rw [show j = k by omega]; exact hn
      rcases ih' with ⟨m, h1, h2, h3, h4⟩ | ⟨h1, h2⟩
      · exact .inl ⟨m, by omega, h2, fun j q1 q2 => if z : k + 1 ≤ j then h3 j z q2 else low j q1 z, h4⟩
      · exact .inr ⟨fun j q1 q2 => if z : k + 1 ≤ j then h1 j z q2 else low j q1 z, h2⟩
    rw [r17_Find_l4_eq, decide_eq_true (by omega), tif_true, at_el hy, obind_some, r17_lives_val n hy hm, obind_some, tif_dec, eq_r05_Same (n + 5) _ _ hm.l, obind_some, tif_dec, w64 (by omega) (by omega), show ((k : Int) + 1) = ((k + 1 : Nat) : Int) by omega]
    by_cases h1 : LvX s y
    case neg => rw [if_neg h1]; exact next (fun q => by obtain ⟨z, z1, z2, z3⟩ := q; rw [hy] at z1; cases z1; exact h1 z3)
    rw [if_pos h1]
    by_cases h2 : y.1 = l
    case neg => rw [if_neg h2]; exact next (fun q => by obtain ⟨z, z1, z2, z3⟩ := q; rw [hy] at z1; cases z1; exact h2 z2)
    rw [if_pos h2]
    exact .inl ⟨k, Nat.le_refl _, ⟨y, hy, h2, h1⟩, fun j q1 q2 => by omega, rfl⟩
theorem r17_find (n : Nat) {s : Sta} (hw : StaW s) (l : List Lab) : r17_Find (n + 7) s l = some (findR s l) := by
  rw [r17_Find_eq, r17_whole_val (n + 2) s, obind_some, tif_not, tif_dec]
  unfold findR
  by_cases h : Whole s
  case neg => rw [if_neg h, if_neg h]
  rw [if_pos h, if_pos h]
  have hL := h.len
  rcases r17_find_l4 n hw (by omega) l s.2.2.2.length 0 loopFuel (by omega) (by unfold loopFuel; omega) with ⟨m, q1, q2, q3, q4⟩ | ⟨q1, q2⟩
  · have q4' : r17_Find_l4 (n + 6) loopFuel (l, s, s.2.2.2, (s.2.2.2.length : Int), (0 : Int), ()) = some (.inr ((m : Int), 0)) := q4
    rw [q4', obind_some, selim_inr, find_first q2 (fun j hj => q3 j (by omega) hj)]
  · have q2' : r17_Find_l4 (n + 6) loopFuel (l, s, s.2.2.2, (s.2.2.2.length : Int), (0 : Int), ()) = some (.inl ()) := q2
    rw [q2', obind_some, selim_inl, find_no (fun j hj => q1 j (by omega) hj)]
theorem r17_room_l4 (n : Nat) {s : Sta} (hw : StaW s) (hL : s.2.2.2.length ≤ 1000000) : ∀ (d k f : Nat), k + d = s.2.2.2.length → d < f →
    (∃ m : Nat, k ≤ m ∧ IsR s m ∧ (∀ j, k ≤ j → j < m → ¬ IsR s j) ∧ r17_Room_l4 (n + 6) f (s, (s.2.2.2.length : Int), (k : Int), ()) = some (.inr ((m : Int), 0))) ∨
    ((∀ j, k ≤ j → j < s.2.2.2.length → ¬ IsR s j) ∧ r17_Room_l4 (n + 6) f (s, (s.2.2.2.length : Int), (k : Int), ()) = some (.inl ())) := by
  intro d
  induction d with
  | zero =>
    intro k f hk hf
    obtain ⟨f, rfl⟩ : ∃ g, f = g + 1 := ⟨f - 1, by omega⟩
    refine .inr ⟨fun j h1 h2 => by omega, ?_⟩
    rw [r17_Room_l4_eq, decide_eq_false (by omega), tif_false]
  | succ d ih =>
    intro k f hk hf
    obtain ⟨f, rfl⟩ : ∃ g, f = g + 1 := ⟨f - 1, by omega⟩
    obtain ⟨y, hy⟩ := el_get (l := s.2.2.2) (k := k) (by omega)
    have hm := (hw.at hy).2
    have ih' := ih (k + 1) f (by omega) (by omega)
    rw [r17_Room_l4_eq, decide_eq_true (by omega), tif_true, r17_lives_val n hy hm, obind_some, tif_not, tif_dec, w64 (by omega) (by omega), show ((k : Int) + 1) = ((k + 1 : Nat) : Int) by omega]
    by_cases h1 : LvX s y
    · rw [if_pos h1]
      have hn : ¬ IsR s k := fun q => by obtain ⟨z, z1, z2⟩ := q; rw [hy] at z1; cases z1; exact z2 h1
      have low : ∀ j, k ≤ j → ¬ k + 1 ≤ j → ¬ IsR s j := fun j h1 h2 => by rw [show j = k by omega]; exact hn
      rcases ih' with ⟨m, h1, h2, h3, h4⟩ | ⟨h1, h2⟩
      · exact .inl ⟨m, by omega, h2, fun j q1 q2 => if z : k + 1 ≤ j then h3 j z q2 else low j q1 z, h4⟩
      · exact .inr ⟨fun j q1 q2 => if z : k + 1 ≤ j then h1 j z q2 else low j q1 z, h2⟩
    · rw [if_neg h1]
      exact .inl ⟨k, Nat.le_refl _, ⟨y, hy, h1⟩, fun j q1 q2 => by omega, rfl⟩
theorem r17_room (n : Nat) {s : Sta} (hw : StaW s) : r17_Room (n + 7) s = some (roomR s) := by
  rw [r17_Room_eq, r17_whole_val (n + 2) s, obind_some, tif_not, tif_dec]
  unfold roomR
  by_cases h : Whole s
  case neg => rw [if_neg h, if_neg h]
  rw [if_pos h, if_pos h]
  have hL := h.len
  rcases r17_room_l4 n hw (by omega) s.2.2.2.length 0 loopFuel (by omega) (by unfold loopFuel; omega) with ⟨m, q1, q2, q3, q4⟩ | ⟨q1, q2⟩
  · have q4' : r17_Room_l4 (n + 6) loopFuel (s, (s.2.2.2.length : Int), (0 : Int), ()) = some (.inr ((m : Int), 0)) := q4
    rw [q4', obind_some, selim_inr, room_first q2 (fun j hj => q3 j (by omega) hj)]
  · have q2' : r17_Room_l4 (n + 6) loopFuel (s, (s.2.2.2.length : Int), (0 : Int), ()) = some (.inl ()) := q2
    rw [q2', obind_some, selim_inl, room_no (fun j hj => q1 j (by omega) hj)]
/-! ### what lives -/
noncomputable def markV (s : Sta) : Int := if Whole s ∧ TimeP s.2.1 then mk s else 0
theorem state_mark (n : Nat) (s : Sta) : state_Mark (n + 5) s = some (markV s) := by
  rw [state_Mark_eq, st_open n s, obind_some, tif_not, tif_dec, st_time (n + 3), obind_some, tif_not, tif_dec]
  unfold markV
  by_cases h : Whole s
  case neg => rw [if_neg h, if_neg (show ¬ ((sta0, (2 : Int)).2 = 0) by decide), if_neg (fun k => h k.1)]
  rw [if_pos h, if_pos rfl]
  by_cases h1 : TimeP s.2.1
  case neg => rw [if_neg h1, if_neg (fun k => h1 k.2)]
  rw [if_pos h1, if_pos ⟨h, h1⟩, st_mark (n + 3) h1 h.1.rng.w0]; rfl
theorem r17_Mark_val (n : Nat) (s : Sta) : r17_Mark (n + 5) s = some (markV s) := by
  unfold markV
  by_cases h : Whole s ∧ TimeP s.2.1
  · rw [if_pos h, r17_mark n h.1 h.2]
  rw [if_neg h, r17_Mark_eq, r17_whole_val n s, obind_some, tif_not, tif_dec, r17_time_val (n + 3), obind_some, tif_not, tif_dec]
  by_cases h1 : Whole s
  · rw [if_pos h1, if_neg (fun k => h ⟨h1, k⟩)]
  · rw [if_neg h1]
/-! ### two that are equal -/
/-! ### a new one -/
theorem sta0_w : StaW sta0 := ⟨by simp [sta0], by simp [sta0]⟩
end Go.Proofs.YthjnbidgliejkaaGreat

namespace Go.Proofs.YthjnbidgliejkaaGreat
open Go.Flat Go.Plim
set_option linter.unusedVariables false
set_option linter.unusedSimpArgs false
theorem nb_mono {l : List Slo} {a b : Int} (h : NoBehind l a) (hab : a ≤ b) : NoBehind l b := fun s hs hc => by
  have := h s hs hc; omega
theorem nb_tput {l : List Slo} {b i : Int} {x : Cel} (h : NoBehind l b) (hi : i < b) : NoBehind (tput l i x) b := by
  intro s hs hc
  rcases List.mem_or_eq_of_mem_set hs with k | k
  · exact h s k hc
  · rw [k]; exact hi
theorem ediv_lt_of_ne {a b w : Int} (hw : 1 ≤ w) (hab : a ≤ b) (h : a / w ≠ b / w) : a / w < b / w := by
  have : a / w ≤ b / w := Int.ediv_le_ediv (by omega) hab
  omega
theorem nb_upw {c : Conf} (hc : OkC c) {s : Trs} {T U : Int} (hTU : T ≤ U) (h0 : NoBehind s.1 (U / c.2.1.1)) (h1 : NoBehind s.2.1 (T / c.2.1.2.1)) (h2 : NoBehind s.2.2 (T / c.2.1.2.2)) :
    NoBehind (upw c s (T / c.2.1.1) (U / c.2.1.1)).1 (U / c.2.1.1) ∧ NoBehind (upw c s (T / c.2.1.1) (U / c.2.1.1)).2.1 (U / c.2.1.2.1) ∧ NoBehind (upw c s (T / c.2.1.1) (U / c.2.1.1)).2.2 (U / c.2.1.2.2) := by
  have hr := hc.rng
  have q1 := (ediv_mul_ediv (t := T) hr.w0.1 hr.w1.1 hc.m1).1
  have q1u := (ediv_mul_ediv (t := U) hr.w0.1 hr.w1.1 hc.m1).1
  have q2 := (ediv_mul_ediv (t := T) hr.w0.1 hr.w2.1 hc.m02).1
  have q2u := (ediv_mul_ediv (t := U) hr.w0.1 hr.w2.1 hc.m02).1
  have m1 : T / c.2.1.2.1 ≤ U / c.2.1.2.1 := Int.ediv_le_ediv (by have := hr.w1; omega) hTU
  have m2 : T / c.2.1.2.2 ≤ U / c.2.1.2.2 := Int.ediv_le_ediv (by have := hr.w2; omega) hTU
  have u1 : NoBehind (up1 c s (T / c.2.1.1) (U / c.2.1.1)).1 (U / c.2.1.1) ∧ NoBehind (up1 c s (T / c.2.1.1) (U / c.2.1.1)).2.1 (U / c.2.1.2.1) ∧ NoBehind (up1 c s (T / c.2.1.1) (U / c.2.1.1)).2.2 (T / c.2.1.2.2) := by
    unfold up1
    rw [q1, q1u]
    split
    · exact ⟨h0, nb_mono h1 m1, h2⟩
    · rename_i hne
      split
      · exact ⟨h0, nb_tput (nb_mono h1 m1) (by omega), h2⟩
      · exact ⟨h0, nb_mono h1 m1, h2⟩
  unfold upw
  generalize up1 c s (T / c.2.1.1) (U / c.2.1.1) = v at u1
  unfold up2
  rw [q2, q2u]
  split
  · exact ⟨u1.1, u1.2.1, nb_mono u1.2.2 m2⟩
  · rename_i hne
    split
    · exact ⟨u1.1, u1.2.1, nb_tput (nb_mono u1.2.2 m2) (by omega)⟩
    · exact ⟨u1.1, u1.2.1, nb_mono u1.2.2 m2⟩
theorem rawNext_ok {r : Rw} {room : Int} {e : Ev} (h : RawOk r room) (he : EvOk e) (ha : After r.2.2 e) (hl : ¬ ((r.2.2.length : Int) = room ∧ r.1 = 70368744177664)) : RawOk (rawNext r room e) room ∧ (rawNext r room e).2.2.getLast? = some e := by
  have hf : Foll (r.2.2 ++ [e]) := by
    refine foll_append.2 ⟨h.f, ⟨by simp [he], by simp⟩, fun x hx y hy => ?_⟩
    simp at hy; subst hy
    have hn : r.2.2 ≠ [] := List.ne_nil_of_mem hx
    have hg := List.getLast?_eq_some_getLast hn
    have := ha _ hg
    rcases List.eq_nil_or_concat r.2.2 with k | ⟨p, z, k⟩
    · exact absurd k hn
    · rw [List.concat_eq_append] at k
      have hz : r.2.2.getLast hn = z := by simp [k]
      rw [hz] at this
      rw [k] at hx
      rcases List.mem_append.1 hx with q | q
      · have hf := h.f; rw [k] at hf
        have := (foll_append.1 hf).2.2 x q z (by simp); omega
      · simp at q; rw [q]; exact this
  unfold rawNext
  by_cases h1 : (r.2.2.length : Int) < room
  · rw [if_pos h1]
    refine ⟨⟨h.m0, h.m1, by simp; omega, h.l0, h.l1, hf, h.z, fun k => ?_⟩, by simp⟩
    have := (h.p k).1; omega
  · rw [if_neg h1]
    have hlen := h.len
    have hlen' : (r.2.2.length : Int) = room := by omega
    have m0 := h.m0
    cases hc : r.2.2 with
    | nil => rw [hc] at hlen'; simp at hlen'; omega
    | cons a t =>
      rw [hc] at hf hlen'
      have hfa := foll_cons.1 hf
      simp only [List.drop_succ_cons, List.drop_zero, List.headD_cons]
      refine ⟨⟨h.m0, h.m1, by simp at hlen' ⊢; omega, by have := h.l0; simp only; omega, ?_, hfa.2.2, fun k => ?_, fun _ => ⟨by simp at hlen' ⊢; omega, hfa.1.t0, fun x hx => ?_⟩⟩, by simp⟩
      · have := h.l1
        have : r.1 ≠ 70368744177664 := fun k => hl ⟨by rw [hc]; exact hlen', k⟩
        simp only; omega
      · have := h.l0; simp only at k; omega
      · exact hfa.2.1 x (List.mem_of_mem_head? hx)
theorem mrg_fits {a : Cel} {e : Ev} {w i : Int} (h : FitsP a w i) (he : EvOk e) (hlt : a.2.2.1.1 < e.1) (hi : e.1 / w = i) : FitsP (mrg a (evCell e)) w i := by
  have hm := mrg_n h.n (evCell_N he)
  refine ⟨mrg_N h.n (evCell_N he) hlt, h.w0, h.w1, ?_, ?_⟩
  · rw [hm]; exact h.f
  · rw [hm]; exact hi
theorem serOk_put {c : Conf} {s t : Ser} {e : Ev} (h : SerOk c s) (hp : putE c s e = (t, 0)) : SerOk c t ∧ EvOk e ∧ s.2.1 < e.1 ∧ t.2.1 = e.1 ∧ t.1 = s.1 := by
  have hr := h.fold.cok.rng
  unfold putE at hp
  by_cases h1 : SerOk c s ∧ EvOk e
  case neg => rw [if_neg h1] at hp; cases hp
  rw [if_pos h1] at hp
  have he := h1.2
  by_cases h2 : e.1 ≤ s.2.1
  · rw [if_pos h2] at hp; cases hp
  rw [if_neg h2] at hp
  by_cases h3 : (turned c s (e.1 / c.2.1.1)).2 ≠ 0
  · rw [if_pos h3] at hp; exact absurd (congrArg Prod.snd hp) h3
  rw [if_neg h3] at hp
  by_cases h4 : (rawPut s.2.2.1 c.1 e).2 ≠ 0
  · rw [if_pos h4] at hp; exact absurd (congrArg Prod.snd hp) h4
  rw [if_neg h4] at hp
  by_cases h5 : (mrgE (turned c s (e.1 / c.2.1.1)).1.2.2 (evCell e)).2 ≠ 0
  · rw [if_pos h5] at hp; exact absurd (congrArg Prod.snd hp) h5
  rw [if_neg h5] at hp
  have hp := (Prod.ext_iff.1 hp).1
  simp only at hp
  subst hp
  refine ⟨?_, he, by omega, rfl, rfl⟩
  have h3 : (turned c s (e.1 / c.2.1.1)).2 = 0 := Decidable.byContradiction h3
  have h4 : (rawPut s.2.2.1 c.1 e).2 = 0 := Decidable.byContradiction h4
  have h5 : (mrgE (turned c s (e.1 / c.2.1.1)).1.2.2 (evCell e)).2 = 0 := Decidable.byContradiction h5
  have e0 : 0 ≤ e.1 := he.t0
  -- the raw events
  have hraw : RawOk (rawPut s.2.2.1 c.1 e).1 c.1 ∧ (rawPut s.2.2.1 c.1 e).1.2.2.getLast? = some e := by
    unfold rawPut at h4 ⊢
    rw [if_pos ⟨h.raw, he⟩] at h4 ⊢
    by_cases k1 : After s.2.2.1.2.2 e
    case neg => rw [if_neg k1] at h4; cases h4
    rw [if_pos k1] at h4 ⊢
    by_cases k2 : (s.2.2.1.2.2.length : Int) = c.1 ∧ s.2.2.1.1 = 70368744177664
    · rw [if_pos k2] at h4; cases h4
    rw [if_neg k2] at h4 ⊢
    exact rawNext_ok h.raw he k1 k2
  -- tiers and the open window
  have key : FoldOk c (turned c s (e.1 / c.2.1.1)).1.1 ∧ NoBehind (turned c s (e.1 / c.2.1.1)).1.1.1 (e.1 / c.2.1.1) ∧ NoBehind (turned c s (e.1 / c.2.1.1)).1.1.2.1 (e.1 / c.2.1.2.1) ∧ NoBehind (turned c s (e.1 / c.2.1.1)).1.1.2.2 (e.1 / c.2.1.2.2) ∧
      FitsP (mrgE (turned c s (e.1 / c.2.1.1)).1.2.2 (evCell e)).1 c.2.1.1 (e.1 / c.2.1.1) ∧ (mrgE (turned c s (e.1 / c.2.1.1)).1.2.2 (evCell e)).1.2.2.1.1 = e.1 := by
    have fresh1 : FitsP (evCell e) c.2.1.1 (e.1 / c.2.1.1) := ⟨evCell_N he, hr.w0.1, hr.w0.2, rfl, rfl⟩
    have z1 : mrgE s0.2 (evCell e) = (evCell e, 0) := mrgE_z0 (evCell_N he).ok
    rcases h.st with ⟨l1, hf⟩ | ⟨l1, hd⟩
    · have ht : turned c s (e.1 / c.2.1.1) = ((s.2.2.2.1, s.2.2.2.2), 0) := by
        unfold turned; rw [if_neg (fun k : TurnS s _ => k.1 hf.opn)]
      rw [ht]
      simp only
      rw [hf.opn, z1]
      exact ⟨h.fold, nb_mono hf.b0 (Int.ediv_nonneg e0 (by have := hr.w0; omega)), nb_mono hf.b1 (Int.ediv_nonneg e0 (by have := hr.w1; omega)), nb_mono hf.b2 (Int.ediv_nonneg e0 (by have := hr.w2; omega)), fresh1, rfl⟩
    · have hT : s.2.1 ≤ e.1 := by omega
      have ho : s.2.2.2.2.1 = s.2.1 / c.2.1.1 := by rw [← hd.fit.l, hd.ol]
      by_cases hts : TurnS s (e.1 / c.2.1.1)
      · have hlt : s.2.1 / c.2.1.1 < e.1 / c.2.1.1 := ediv_lt_of_ne hr.w0.1 hT (by rw [← ho]; exact hts.2)
        have hcl : closeE c s.2.2.2.1 s.2.2.2.2 (e.1 / c.2.1.1) = (upw c (tput s.2.2.2.1.1 s.2.2.2.2.1 s.2.2.2.2.2, s.2.2.2.1.2) (s.2.1 / c.2.1.1) (e.1 / c.2.1.1), 0) := by
          unfold closeE
          rw [if_pos h.fold, if_neg hts.1, if_pos hd.fit, if_neg hts.2, if_pos ⟨by omega, ev_begins he hr.w0.1⟩, ho]
        have ht : turned c s (e.1 / c.2.1.1) = ((upw c (tput s.2.2.2.1.1 s.2.2.2.2.1 s.2.2.2.2.2, s.2.2.2.1.2) (s.2.1 / c.2.1.1) (e.1 / c.2.1.1), s0), 0) := by
          unfold turned; rw [if_pos hts, hcl, if_pos rfl]
        rw [ht]
        simp only
        rw [z1]
        obtain ⟨n0, n1, n2⟩ := nb_upw (s := (tput s.2.2.2.1.1 s.2.2.2.2.1 s.2.2.2.2.2, s.2.2.2.1.2)) h.fold.cok hT (nb_tput (nb_mono hd.b0 (by omega)) (by omega)) hd.b1 hd.b2
        exact ⟨upw_ok (foldOk_put0 h.fold hd.fit) _ _, n0, n1, n2, fresh1, rfl⟩
      · have ht : turned c s (e.1 / c.2.1.1) = ((s.2.2.2.1, s.2.2.2.2), 0) := by
          unfold turned; rw [if_neg hts]
        have hop : s.2.2.2.2 ≠ s0 := fun k => by have := hd.fit.n.n1; rw [k] at this; simp [s0, z0] at this
        have hw : s.2.2.2.2.1 = e.1 / c.2.1.1 := Decidable.byContradiction fun k => hts ⟨hop, k⟩
        rw [ht] at h5 ⊢
        simp only at h5 ⊢
        obtain ⟨k1, k2, k3, k4, k5⟩ := mrgE_ok h5
        rw [k4]
        have hfit := hd.fit
        rw [hw] at hfit
        have hm := mrg_n hd.fit.n (evCell_N he)
        exact ⟨h.fold, nb_mono hd.b0 (by omega), nb_mono hd.b1 (Int.ediv_le_ediv (by have := hr.w1; omega) hT), nb_mono hd.b2 (Int.ediv_le_ediv (by have := hr.w2; omega) hT),
          mrg_fits hfit he (by have := hd.ol; omega) rfl, by rw [hm]; rfl⟩
  obtain ⟨k1, k2, k3, k4, k5, k6⟩ := key
  exact ⟨k1, h.lab, hraw.1, .inr ⟨by show e.1 ≠ -1; omega, ⟨e, hraw.2, rfl⟩, k6, k5, k2, k3, k4⟩⟩
/-! ### states -/
def setS (s : Sta) (i : Nat) (y : Ser) : Sta := (s.1, (s.2.1, (s.2.2.1, s.2.2.2.set i y)))
noncomputable def xOf (s : Sta) (l : List Lab) (w : Int × (Bool × Int)) : Ser := if w.2.1 = true then (newV s.1 l).1 else (s.2.2.2[w.1.toNat]?).getD ser0
noncomputable def writeV (s : Sta) (l : List Lab) (e : Ev) : Sta × Int :=
  if (whereV s l e).2.2 ≠ 0 then (sta0, (whereV s l e).2.2)
  else if (putE s.1 (xOf s l (whereV s l e)) e).2 ≠ 0 then (sta0, (putE s.1 (xOf s l (whereV s l e)) e).2)
  else (setS s (whereV s l e).1.toNat (putE s.1 (xOf s l (whereV s l e)) e).1, 0)
/-- what it takes -/
structure Goes (s : Sta) (l : List Lab) (e : Ev) : Prop where
  st : StaOk s
  lab : LabOk l
  ev : EvOk e
  lo : mk s ≤ e.1
  hi : e.1 < mk s + s.1.2.1.1
/-- where it goes -/
inductive PlaceAt (s : Sta) (l : List Lab) (e : Ev) : Nat → Ser → Bool → Prop
  | found {i : Nat} {x : Ser} (hf : findV s l = some i) (hx : s.2.2.2[i]? = some x) (hl : x.1 = l) (hlv : LvX s x) (ht : x.2.1 < e.1) : PlaceAt s l e i x false
  | room {i : Nat} (hf : findV s l = none) (hs : e.2.2.2 = false) (hr : roomV s = some i) : PlaceAt s l e i (l, (-1, (r0w, (emp s.1, s0)))) true
theorem new_val {c : Conf} {l : List Lab} (h : OkC c) (hl : LabOk l) : newV c l = ((l, (-1, (r0w, (emp c, s0)))), 0) := by
  unfold newV; rw [if_pos h, if_pos hl]
theorem goes_iff {s : Sta} {l : List Lab} {e : Ev} (h : (whereV s l e).2.2 = 0) : Goes s l e ∧ ∃ i x b, PlaceAt s l e i x b ∧ (whereV s l e).1.toNat = i ∧ xOf s l (whereV s l e) = x ∧ whereV s l e = ((i : Int), (b, 0)) := by
  unfold whereV at h ⊢
  by_cases h1 : StaOk s
  case neg => rw [if_pos h1] at h; cases h
  rw [if_neg (fun k => k h1)] at h ⊢
  by_cases h2 : LabOk l
  case neg => rw [if_pos h2] at h; cases h
  rw [if_neg (fun k => k h2)] at h ⊢
  by_cases h3 : EvOk e
  case neg => rw [if_pos h3] at h; cases h
  rw [if_neg (fun k => k h3)] at h ⊢
  by_cases h4 : e.1 < mk s ∨ mk s + s.1.2.1.1 ≤ e.1
  · rw [if_pos h4] at h; cases h
  rw [if_neg h4] at h ⊢
  refine ⟨⟨h1, h2, h3, by omega, by omega⟩, ?_⟩
  cases hf : findV s l with
  | some i =>
    rw [hf] at h
    simp only at h ⊢
    obtain ⟨x, hx, k1, k2, k3⟩ := findV_some.1 hf
    rw [hx] at h ⊢
    simp only [Option.getD_some] at h ⊢
    by_cases h5 : e.1 ≤ x.2.1
    · rw [if_pos h5] at h; cases h
    rw [if_neg h5]
    exact ⟨i, x, false, .found hf hx k1 k2 (by omega), rfl, by unfold xOf; simp [hx], rfl⟩
  | none =>
    rw [hf] at h
    simp only at h ⊢
    cases h5 : e.2.2.2 with
    | true => rw [h5, if_pos rfl] at h; cases h
    | false =>
      rw [h5, if_neg (by simp)] at h
      rw [if_neg (by simp)]
      cases hr : roomV s with
      | none => rw [hr] at h; cases h
      | some i =>
        simp only
        exact ⟨i, _, true, .room hf h5 hr, rfl, by unfold xOf; rw [if_pos rfl, new_val h1.whole.1 h2], rfl⟩
theorem place_ok {s : Sta} {l : List Lab} {e : Ev} (h : Goes s l e) {i : Nat} {x : Ser} {b : Bool} (hp : PlaceAt s l e i x b) : SerOk s.1 x ∧ x.1 = l ∧ i < s.2.2.2.length ∧ x.2.1 < e.1 := by
  cases hp with
  | found hf hx hl hlv ht =>
    rcases h.st.right _ _ hx with k | k
    · exact absurd k hlv.1
    · exact ⟨k.1, hl, (List.getElem?_eq_some_iff.1 hx).1, ht⟩
  | room hf hs hr =>
    obtain ⟨y, hy, _⟩ := roomV_some.1 hr
    exact ⟨serInv_ok (new_inv h.st.whole.1 h.lab), rfl, (List.getElem?_eq_some_iff.1 hy).1, by have := h.ev.t0; show (-1 : Int) < e.1; omega⟩
theorem write_ok {s t : Sta} {l : List Lab} {e : Ev} (h : writeV s l e = (t, 0)) : Goes s l e ∧ ∃ i x b y, PlaceAt s l e i x b ∧ putE s.1 x e = (y, 0) ∧ t = setS s i y ∧ whereV s l e = ((i : Int), (b, 0)) := by
  unfold writeV at h
  by_cases h1 : (whereV s l e).2.2 = 0
  case neg => rw [if_pos h1] at h; exact absurd (congrArg Prod.snd h) h1
  rw [if_neg (fun k => k h1)] at h
  obtain ⟨hg, i, x, b, k1, k2, k3, k4⟩ := goes_iff h1
  rw [k2, k3] at h
  by_cases h2 : (putE s.1 x e).2 = 0
  case neg => rw [if_pos h2] at h; exact absurd (congrArg Prod.snd h) h2
  rw [if_neg (fun k => k h2)] at h
  exact ⟨hg, i, x, b, _, k1, Prod.ext rfl h2, (congrArg Prod.fst h).symm, k4⟩
end Go.Proofs.YthjnbidgliejkaaGreat

namespace Go.Proofs.YthjnbidgliejkaaGreat
open Go.Flat Go.Plim
set_option linter.unusedVariables false
set_option linter.unusedSimpArgs false
theorem r15_new (n : Nat) (c : Conf) (l : List Lab) : r15_New (n + 6) c l = some (newV c l) := by
  rw [r15_New_eq, r10_check (n + 2) c, r05_check (n + 3) l]
  unfold newV
  by_cases h : OkC c
  case neg => rw [if_neg h, if_neg h]; rfl
  rw [if_pos h, if_pos h]
  simp only [obind_some, decide_true, Bool.not_true, tif_false]
  by_cases h1 : LabOk l
  case neg => rw [if_neg h1, if_neg h1]; rfl
  have := h1.n1
  rw [if_pos h1, if_pos h1, decide_eq_true (show (0 + l.length) * 32 ≤ 140737488355328 by omega), r14_empty (n + 1) c]
  rfl
end Go.Proofs.YthjnbidgliejkaaGreat

namespace Go.Proofs.YthjnbidgliejkaaGreat
open Go.Flat Go.Plim
set_option linter.unusedVariables false
set_option linter.unusedSimpArgs false
noncomputable def openV (s : Sta) : Int × Int := if StaOk s then (mk s, if 35184372088832 < mk s + s.1.2.1.1 then 35184372088832 else mk s + s.1.2.1.1) else (0, 0)
theorem markV_ok {s : Sta} (h : StaOk s) : markV s = mk s ∧ IntKind.wrap .i64 (mk s + s.1.2.1.1) = mk s + s.1.2.1.1 := by
  have hr := h.whole.1.rng.w0
  have ht := h.clock.1.2
  obtain ⟨m1, m2, m3, m4⟩ := mk_range h.clock.1 hr
  exact ⟨if_pos ⟨h.whole, h.clock.1⟩, w64 (by omega) (by omega)⟩
theorem rules_open (n : Nat) {s : Sta} (hw : StaW s) : rules_Open (n + 15) s = some (openV s) := by
  rw [rules_Open_eq, state_check n hw, obind_some, tif_not, tif_dec, state_mark (n + 9) s]
  unfold openV
  by_cases h : StaOk s
  case neg => rw [if_neg h, if_neg h, if_neg (show ¬ ((2 : Int) = 0) by decide)]
  obtain ⟨e1, e2⟩ := markV_ok h
  rw [if_pos h, if_pos h, if_pos rfl, obind_some, e1, e2]
theorem r18_open (n : Nat) {s : Sta} (hw : StaW s) : r18_Open (n + 10) s = some (openV s) := by
  rw [r18_Open_eq, r17_check n hw, obind_some, tif_not, tif_dec, r17_Mark_val (n + 4) s]
  unfold openV
  by_cases h : StaOk s
  case neg => rw [if_neg h, if_neg h, if_neg (show ¬ ((2 : Int) = 0) by decide)]
  obtain ⟨e1, e2⟩ := markV_ok h
  rw [if_pos h, if_pos h, if_pos rfl, obind_some, e1, e2]
theorem open_iff {s : Sta} {e : Ev} (h : StaOk s) (he : EvOk e) : (e.1 < (openV s).1 ∨ (openV s).2 ≤ e.1) ↔ (e.1 < mk s ∨ mk s + s.1.2.1.1 ≤ e.1) := by
  have := he.t1
  unfold openV
  rw [if_pos h]
  simp only
  split <;> omega
theorem findR_some {s : Sta} (h : Whole s) {l : List Lab} {i : Nat} (hf : findV s l = some i) : findR s l = ((i : Int), 0) := by
  unfold findR; rw [if_pos h, hf]
theorem findR_none {s : Sta} (h : Whole s) {l : List Lab} (hf : findV s l = none) : findR s l = (0, 3) := by
  unfold findR; rw [if_pos h, hf]
theorem roomR_some {s : Sta} (h : Whole s) {i : Nat} (hf : roomV s = some i) : roomR s = ((i : Int), 0) := by
  unfold roomR; rw [if_pos h, hf]
theorem roomR_none {s : Sta} (h : Whole s) (hf : roomV s = none) : roomR s = (0, 7) := by
  unfold roomR; rw [if_pos h, hf]
theorem whereV_room {s : Sta} {l : List Lab} {e : Ev} (h : StaOk s) (h1 : LabOk l) (h2 : EvOk e) (h3 : ¬ (e.1 < mk s ∨ mk s + s.1.2.1.1 ≤ e.1)) :
    whereV s l e = match findV s l with
      | some i => if e.1 ≤ ((s.2.2.2[i]?).getD ser0).2.1 then (0, (false, 9)) else ((i : Int), (false, 0))
      | none => if e.2.2.2 = true then (0, (false, 3)) else match roomV s with | some i => ((i : Int), (true, 0)) | none => (0, (false, 7)) := by
  unfold whereV
  rw [if_neg (fun k => k h), if_neg (fun k => k h1), if_neg (fun k => k h2), if_neg h3]
  all_goals (cases findV s l <;> first | rfl | (cases roomV s <;> rfl))
theorem rules_where (n : Nat) {s : Sta} (hw : StaW s) (l : List Lab) {e : Ev} (he : EvW e) : rules_Where (n + 16) s l e = some (whereV s l e) := by
  rw [rules_Where_eq, state_check (n + 1) hw, obind_some, tif_not, tif_dec, label_check _ l, event_check _ he, rules_open n hw, state_find (n + 5) hw l, state_room (n + 5) hw]
  by_cases h : StaOk s
  case neg =>
    rw [if_neg h, if_neg (show ¬ ((2 : Int) = 0) by decide)]
    unfold whereV; rw [if_pos h]
  rw [if_pos h, if_pos rfl, obind_some, tif_not, tif_dec]
  by_cases h1 : LabOk l
  case neg =>
    rw [if_neg h1, if_neg (show ¬ ((8 : Int) = 0) by decide)]
    unfold whereV; rw [if_neg (fun k => k h), if_pos h1]
  rw [if_pos h1, if_pos rfl, obind_some, tif_not, tif_dec]
  by_cases h2 : EvOk e
  case neg =>
    rw [if_neg h2, if_neg (show ¬ ((2 : Int) = 0) by decide)]
    unfold whereV; rw [if_neg (fun k => k h), if_neg (fun k => k h1), if_pos h2]
  rw [if_pos h2, if_pos rfl, obind_some, obind_some, tif_dec, tif_dec]
  by_cases h3 : e.1 < mk s ∨ mk s + s.1.2.1.1 ≤ e.1
  · have ht : whereV s l e = (0, (false, 9)) := by
      unfold whereV; rw [if_neg (fun k => k h), if_neg (fun k => k h1), if_neg (fun k => k h2), if_pos h3]
    rw [ht]
    rcases (open_iff h h2).2 h3 with q | q
    · rw [if_pos q]
    · by_cases q' : e.1 < (openV s).1
      · rw [if_pos q']
      · rw [if_neg q', if_pos q]
  have h3' := mt (open_iff h h2).1 h3
  rw [if_neg (fun k => h3' (.inl k)), if_neg (fun k => h3' (.inr k)), whereV_room h h1 h2 h3, tif_dec]
  cases hf : findV s l with
  | some i =>
    obtain ⟨x, hx, _⟩ := findV_some.1 hf
    rw [findR_some h.whole hf, if_pos rfl, at_el hx, obind_some, tif_dec]
    simp only [hx, Option.getD_some]
    by_cases h4 : e.1 ≤ x.2.1
    · rw [if_pos h4, if_pos h4]
    · rw [if_neg h4, if_neg h4]; rfl
  | none =>
    rw [findR_none h.whole hf, if_neg (show ¬ ((3 : Int) = 0) by decide), show (decide (((0 : Int), (3 : Int)).2 = 0)) = false from rfl, tif_false]
    cases hs : e.2.2.2 with
    | true => rw [tif_true]; simp
    | false =>
      rw [tif_false, obind_some]
      simp only [Bool.false_eq_true, if_false]
      cases hr : roomV s with
      | some i => rw [roomR_some h.whole hr]; rfl
      | none => rw [roomR_none h.whole hr]; rfl
theorem r18_accept (n : Nat) {s : Sta} (hw : StaW s) (l : List Lab) {e : Ev} (he : EvW e) : r18_Accept (n + 11) s l e = some (whereV s l e).2.2 := by
  rw [r18_Accept_eq, r17_check (n + 1) hw, obind_some, tif_not, tif_dec, r05_check _ l, r07_check _ he, r18_open n hw, r17_find (n + 3) hw l, r17_room (n + 3) hw]
  by_cases h : StaOk s
  case neg =>
    rw [if_neg h, if_neg (show ¬ ((2 : Int) = 0) by decide)]
    unfold whereV; rw [if_pos h]
  rw [if_pos h, if_pos rfl, obind_some, tif_not, tif_dec]
  by_cases h1 : LabOk l
  case neg =>
    rw [if_neg h1, if_neg (show ¬ ((8 : Int) = 0) by decide)]
    unfold whereV; rw [if_neg (fun k => k h), if_pos h1]
  rw [if_pos h1, if_pos rfl, obind_some, tif_not, tif_dec]
  by_cases h2 : EvOk e
  case neg =>
    rw [if_neg h2, if_neg (show ¬ ((2 : Int) = 0) by decide)]
    unfold whereV; rw [if_neg (fun k => k h), if_neg (fun k => k h1), if_pos h2]
  rw [if_pos h2, if_pos rfl, obind_some, tif_dec, tif_dec]
  by_cases h3 : e.1 < mk s ∨ mk s + s.1.2.1.1 ≤ e.1
  · have ht : whereV s l e = (0, (false, 9)) := by
      unfold whereV; rw [if_neg (fun k => k h), if_neg (fun k => k h1), if_neg (fun k => k h2), if_pos h3]
    rw [ht]
    rcases (open_iff h h2).2 h3 with q | q
    · rw [if_pos q]
    · by_cases q' : e.1 < (openV s).1
      · rw [if_pos q']
      · rw [if_neg q', if_pos q]
  have h3' := mt (open_iff h h2).1 h3
  rw [if_neg (fun k => h3' (.inl k)), if_neg (fun k => h3' (.inr k)), whereV_room h h1 h2 h3, obind_some, tif_dec]
  cases hf : findV s l with
  | some i =>
    obtain ⟨x, hx, _⟩ := findV_some.1 hf
    rw [findR_some h.whole hf, if_pos rfl, at_el hx, obind_some, tif_dec]
    simp only [hx, Option.getD_some]
    by_cases h4 : e.1 ≤ x.2.1
    · rw [if_pos h4, if_pos h4]
    · rw [if_neg h4, if_neg h4]
  | none =>
    rw [findR_none h.whole hf, if_neg (show ¬ ((3 : Int) = 0) by decide)]
    cases hs : e.2.2.2 with
    | true => rw [tif_true]; simp
    | false =>
      rw [tif_false, obind_some]
      simp only [Bool.false_eq_true, if_false]
      cases hr : roomV s with
      | some i => rw [roomR_some h.whole hr]
      | none => rw [roomR_none h.whole hr]
theorem r18_where (n : Nat) {s : Sta} (hw : StaW s) (l : List Lab) {e : Ev} (he : EvW e) : r18_Where (n + 12) s l e = some (if (whereV s l e).2.2 = 0 then whereV s l e else (0, (false, (whereV s l e).2.2))) := by
  rw [r18_Where_eq, r18_accept n hw l he, obind_some, tif_not, tif_dec, r17_find (n + 4) hw l, r17_room (n + 4) hw]
  by_cases h : (whereV s l e).2.2 = 0
  case neg => rw [if_neg h, if_neg h]
  rw [if_pos h, if_pos h, obind_some, tif_dec]
  obtain ⟨hg, i, x, b, hp, _, _, hv⟩ := goes_iff h
  rw [hv]
  cases hp with
  | found hf hx hl hlv ht => rw [findR_some hg.st.whole hf, if_pos rfl]
  | room hf hs hr => rw [findR_none hg.st.whole hf, if_neg (show ¬ ((3 : Int) = 0) by decide), roomR_some hg.st.whole hr, obind_some]
theorem where_err {s : Sta} {l : List Lab} {e : Ev} (h : (whereV s l e).2.2 ≠ 0) : writeV s l e = (sta0, (whereV s l e).2.2) := by
  unfold writeV; rw [if_pos h]
theorem clone_ser (n : Nat) (s : List Ser) (h : s.length ≤ 1000000) : slices_Clone_Series (n + 1) s = some s := by
  rw [slices_Clone_Series_eq, decide_eq_true (show (0 + s.length) * 264 ≤ 140737488355328 by omega)]
  simp only [tif_true, List.nil_append]
  by_cases h0 : s.length = 0
  · rw [decide_eq_true h0, tif_true, List.length_eq_zero_iff.1 h0, both_same]
  · rw [decide_eq_false h0, tif_false]
theorem place_w {s : Sta} (hw : StaW s) {l : List Lab} {e : Ev} (hg : Goes s l e) {i : Nat} {x : Ser} {b : Bool} (hp : PlaceAt s l e i x b) : SerW x := by
  cases hp with
  | found hf hx hl hlv ht => exact (hw.at hx).1
  | room hf hs hr => exact serInv_w (new_inv hg.st.whole.1 hg.lab)
theorem write_val {s : Sta} {l : List Lab} {e : Ev} {i : Nat} {x : Ser} {b : Bool} (hp : (whereV s l e).1.toNat = i) (hx : xOf s l (whereV s l e) = x) (h : (whereV s l e).2.2 = 0) :
    writeV s l e = if (putE s.1 x e).2 = 0 then (setS s i (putE s.1 x e).1, 0) else (sta0, (putE s.1 x e).2) := by
  unfold writeV
  rw [if_neg (fun k => k h), hp, hx]
  by_cases h1 : (putE s.1 x e).2 = 0
  · rw [if_neg (fun k => k h1), if_pos h1]
  · rw [if_pos h1, if_neg h1]
theorem set_tail {s : Sta} {i : Nat} (hi : i < s.2.2.2.length) (y : Ser) :
    (obind (at? s.2.2.2 (i : Int)) fun r4 => obind ((s.2.2.2)[(Int.toNat (i : Int))]?) fun r5 => some ((s.1, (s.2.1, (s.2.2.1, (List.set s.2.2.2 (Int.toNat (i : Int)) y)))), (0 : Int))) = some (setS s i y, 0) := by
  obtain ⟨z, hz⟩ := el_get hi
  rw [at_el hz, obind_some, Int.toNat_natCast, hz, obind_some]
  rfl
theorem write_one (n : Nat) {s : Sta} (hw : StaW s) (l : List Lab) {e : Ev} (he : EvW e) : write_One (n + 24) s l e = some (writeV s l e) := by
  rw [write_One_eq, rules_where (n + 7) hw l he, obind_some, tif_not, tif_dec]
  by_cases h : (whereV s l e).2.2 = 0
  case neg => rw [if_neg h, where_err h]; rfl
  obtain ⟨hg, i, x, b, hp, k1, k2, hv⟩ := goes_iff h
  obtain ⟨p1, p2, p3, p4⟩ := place_ok hg hp
  rw [if_pos h, write_val (b := b) k1 k2 h, hv, write_place_eq]
  have hx : (tif b (obind (series_New (n + 22) s.1 l) fun r0 => some r0) (obind (at? s.2.2.2 (i : Int)) fun r1 => some (r1, (0 : Int)))) = some (x, 0) := by
    cases hp with
    | found hf hx hl hlv ht => rw [tif_false, at_el hx, obind_some]
    | room hf hs hr => rw [tif_true, series_new (n + 15), new_val hg.st.whole.1 hg.lab, obind_some]
  simp only
  rw [hx, obind_some, tif_not, tif_dec, if_pos rfl]
  simp only
  rw [series_put n s.1 (place_w hw hg hp) he, obind_some, tif_not, tif_dec]
  by_cases h1 : (putE s.1 x e).2 = 0
  case neg => rw [if_neg h1, if_neg h1]; rfl
  rw [if_pos h1, if_pos h1, clone_ser (n + 22) _ (by have := hg.st.whole.len; omega), obind_some, set_tail p3]
theorem r19_one (n : Nat) {s : Sta} (hw : StaW s) (l : List Lab) {e : Ev} (he : EvW e) : r19_One (n + 13) s l e = some (writeV s l e) := by
  rw [r19_One_eq, r18_where n hw l he, obind_some, tif_not, tif_dec]
  by_cases h : (whereV s l e).2.2 = 0
  case neg => rw [if_neg h, if_neg h, where_err h]; rfl
  obtain ⟨hg, i, x, b, hp, k1, k2, hv⟩ := goes_iff h
  obtain ⟨p1, p2, p3, p4⟩ := place_ok hg hp
  have hlen := hg.st.whole.len
  rw [if_pos h, write_val (b := b) k1 k2 h, if_pos h, hv]
  obtain ⟨z, hz⟩ := el_get p3
  simp only [List.nil_append]
  rw [at_el hz, obind_some, decide_eq_true (show (0 + s.2.2.2.length) * 264 ≤ 140737488355328 by omega)]
  simp only [tif_true]
  have tail : ∀ y, (obind (some z) fun r4 => obind ((s.2.2.2)[(Int.toNat (i : Int))]?) fun r5 => some ((s.1, (s.2.1, (s.2.2.1, (List.set s.2.2.2 (Int.toNat (i : Int)) y)))), (0 : Int))) = some (setS s i y, 0) := by
    intro y
    have := set_tail p3 y
    rwa [at_el hz] at this
  cases hp with
  | found hf hx hl hlv ht =>
    rw [hx] at hz; cases hz
    rw [tif_false, r15_put (n + 1) s.1 (hw.at hx).1 he, obind_some, tif_not, tif_dec]
    by_cases h1 : (putE s.1 x e).2 = 0
    case neg => rw [if_neg h1, if_neg h1]; rfl
    rw [if_pos h1, if_pos h1, tail]
  | room hf hs hr =>
    rw [tif_true, r15_new (n + 6), new_val hg.st.whole.1 hg.lab, obind_some, r15_put (n + 1) s.1 (serInv_w (new_inv hg.st.whole.1 hg.lab)) he, obind_some, tif_not, tif_dec]
    by_cases h1 : (putE s.1 (l, (-1, (r0w, (emp s.1, s0)))) e).2 = 0
    case neg => rw [if_neg h1, if_neg h1]; rfl
    rw [if_pos h1, if_pos h1, tail]
end Go.Proofs.YthjnbidgliejkaaGreat

namespace Go.Proofs.YthjnbidgliejkaaGreat
open Go.Flat
def ks0 : TSlot := (0, (0, ((0, (0, (0, false))), ((0, (0, (0, false))), ((0, 0), (0, (0, 0)))))))
def kt0 : List TSlot × (List TSlot × List TSlot) := ([ks0, ks0, ks0, ks0], ([ks0, ks0, ks0, ks0, ks0], [ks0, ks0, ks0, ks0, ks0, ks0]))
def kz : TSeries := ([], (0, ((0, (0, [])), (([], ([], [])), ks0))))
def kc : TConfig := (20, ((10, (20, 60)), ((4, (5, 6)), (3, 9))))
def ka : TSeries := ([([97], [])], (3, ((0, (0, [(3, (2, (0, false)))])), (kt0, (0, (1, ((3, (2, (0, false))), ((3, (2, (0, false))), ((0, 0), (0, (0, 0)))))))))))
def kb : TSeries := ([([98], [])], (4, ((0, (0, [(4, (1, (0, false)))])), (kt0, (0, (1, ((4, (1, (0, false))), ((4, (1, (0, false))), ((0, 0), (0, (0, 0)))))))))))
def ka2 : TSeries := ([([97], [])], (5, ((0, (0, [(3, (2, (0, false))), (5, (3, (0, false)))])), (kt0, (0, (2, ((3, (2, (0, false))), ((5, (3, (0, false))), ((0, 1), (0, (0, 2)))))))))))
def k1 : TState := (kc, (0, (-1, [kz, kz, kz])))
def k2 : TState := (kc, (0, (-1, [ka, kz, kz])))
def k3 : TState := (kc, (0, (-1, [ka, kb, kz])))
def k4 : TState := (kc, (0, (-1, [ka2, kb, kz])))
def k0 : TState := ((0, ((0, (0, 0)), ((0, (0, 0)), (0, 0)))), (0, (0, [])))
theorem kl_new (n : Nat) : state_New (n + 39) (20, ((10, (20, 60)), ((4, (5, 6)), (3, 9)))) = some (k1, 0) := by kernel_rfl
theorem kl_a (n : Nat) : write_One (n + 39) k1 [([97], [])] (3, (2, (0, false))) = some (k2, 0) := by kernel_rfl
theorem kl_b (n : Nat) : write_One (n + 39) k2 [([98], [])] (4, (1, (0, false))) = some (k3, 0) := by kernel_rfl
theorem kl_c (n : Nat) : write_One (n + 38) k3 [([97], [])] (5, (3, (0, false))) = some (k4, 0) := by kernel_rfl
theorem kl_d (n : Nat) : write_One (n + 38) k4 [([97], [])] (5, (4, (0, false))) = some (k0, 9) := by kernel_rfl
theorem kl_e (n : Nat) : write_One (n + 39) k1 [] (3, (0, (0, false))) = some (k0, 8) := by kernel_rfl
theorem kl_m (n : Nat) : state_Many (n + 39) k4 = some 2 := by kernel_rfl
theorem kl_k (n : Nat) : state_Check (n + 39) k4 = some 0 := by kernel_rfl
theorem kl_all (n : Nat) : write_All (n + 39) k3 [([97], [])] [(5, (3, (0, false))), (5, (4, (0, false))), (6, (0, (0, false)))] = some (k4, (1, 9)) := by
  rw [write_All_eq, show loopFuel = (2 ^ 70 - 3) + 3 from by decide, write_All_l2_eq]
  rw [show at? [((5 : Int), ((3 : Int), ((0 : Int), false))), (5, (4, (0, false))), (6, (0, (0, false)))] (0 : Int) = some (5, (3, (0, false))) from rfl]
  simp only [obind_some, kl_c n]
  rw [show (decide ((0 : Int) < (([((5 : Int), ((3 : Int), ((0 : Int), false))), (5, (4, (0, false))), (6, (0, (0, false)))].length : Nat) : Int))) = true from rfl, tif_true, decide_true, Bool.not_true, tif_false, show IntKind.wrap .i64 ((0 : Int) + 1) = 1 from rfl, write_All_l2_eq]
  rw [show at? [((5 : Int), ((3 : Int), ((0 : Int), false))), (5, (4, (0, false))), (6, (0, (0, false)))] (1 : Int) = some (5, (4, (0, false))) from rfl]
  simp only [obind_some, kl_d n]
  rfl
theorem l19_lives_true (n : Nat) : l19_lives (n + 40) = some true := by
  have e1 : at? k4.2.2.2 (0 : Int) = some ka2 := rfl
  have e2 : at? k4.2.2.2 (1 : Int) = some kb := rfl
  have e3 : at? k1.2.2.2 (0 : Int) = some kz := rfl
  have e4 : (k1.2.2.2)[0]? = some kz := rfl
  rw [l19_lives_eq, show l10_Fit (n + 39) = some (20, ((10, (20, 60)), ((4, (5, 6)), (3, 9)))) from l10_Fit_eq (n + 38)]
  simp only [obind_some, kl_new n, kl_a n, kl_b n, kl_all n, kl_e n, kl_m n, kl_k n, e1, e2, e3, e4]
  rfl
end Go.Proofs.YthjnbidgliejkaaGreat

namespace Go.Proofs.YthjnbidgliejkaaGreat
open Go.Flat Go.Plim
set_option linter.unusedVariables false
set_option linter.unusedSimpArgs false
theorem serW_put {c : Conf} {s t : Ser} {e : Ev} (h : SerOk c s) (hp : putE c s e = (t, 0)) : SerW t ∧ SerM t := by
  obtain ⟨q1, q2, q3, q4, q5⟩ := serOk_put h hp
  have hc := q1.fold.cok.rng
  refine ⟨⟨?_, fun x hx => EvW.of (q1.raw.f.ok x hx), q1.fold.w, ?_⟩, ?_⟩
  · have := q2.t0; have := q2.t1; rw [q4]; unfold I64; omega
  · rcases q1.st with ⟨_, k⟩ | ⟨_, k⟩
    · rw [k.opn]; exact slow_s0
    · have := k.fit.i0
      exact ⟨by unfold I64; omega, .of k.fit.n.ok⟩
  · have l1 := q1.lab.n1; have l2 := q1.raw.len; have l3 := q1.raw.m1
    have := q1.fold.lens
    exact ⟨by omega, by omega, by omega, by omega, by omega⟩
theorem write_w {s t : Sta} (hw : StaW s) {l : List Lab} {e : Ev} {v : Int} (h : writeV s l e = (t, v)) : StaW t := by
  by_cases hv : v = 0
  · subst hv
    obtain ⟨hg, i, x, b, y, hp, hput, rfl, _⟩ := write_ok h
    obtain ⟨p1, p2, p3, p4⟩ := place_ok hg hp
    have hy := serW_put p1 hput
    refine ⟨by simpa [setS] using hw.len, fun z hz => ?_⟩
    rcases List.mem_or_eq_of_mem_set hz with k | k
    · exact hw.ser z k
    · rw [k]; exact hy
  · have : t = sta0 := by
      unfold writeV at h
      split at h
      · exact (congrArg Prod.fst h).symm
      · split at h
        · exact (congrArg Prod.fst h).symm
        · exact absurd (congrArg Prod.snd h).symm hv
    rw [this]; exact sta0_w
theorem writeV_w {s : Sta} (hw : StaW s) (l : List Lab) (e : Ev) : StaW (writeV s l e).1 := write_w hw (v := (writeV s l e).2) rfl
noncomputable def allV (l : List Lab) : Sta → List Ev → Int → Sta × (Int × Int)
  | s, [], k => (s, (k, 0))
  | s, e :: r, k => if (writeV s l e).2 = 0 then allV l (writeV s l e).1 r (k + 1) else (s, (k, (writeV s l e).2))
theorem allV_w (l : List Lab) : ∀ (es : List Ev) (s : Sta) (k : Int), StaW s → StaW (allV l s es k).1 := by
  intro es
  induction es with
  | nil => intro s k h; exact h
  | cons e r ih =>
    intro s k h
    unfold allV
    split
    · exact ih _ _ (writeV_w h l e)
    · exact h
theorem write_all_l2 (n : Nat) (l : List Lab) (s6 : Sta) (es : List Ev) (hL : es.length ≤ 1000000) (he : ∀ e ∈ es, EvW e) : ∀ (rest pre : List Ev) (f : Nat) (s : Sta) (ix len : Int), es = pre ++ rest → ix = pre.length → len = es.length → rest.length < f → StaW s →
    write_All_l2 (n + 24) f (l, es, s, s6, es, len, ix, ()) = some (if (allV l s rest ix).2.2 = 0 then .inl (es, (allV l s rest ix).1, s6, ()) else .inr (allV l s rest ix)) ∧ ((allV l s rest ix).2.2 = 0 → (allV l s rest ix).2.1 = es.length) := by
  intro rest
  induction rest with
  | nil =>
    intro pre f s ix len hl hi hn hf hs
    obtain ⟨f, rfl⟩ : ∃ g, f = g + 1 := ⟨f - 1, by simp at hf; omega⟩
    rw [write_All_l2_eq, decide_eq_false (idxe hl hi hn), tif_false]
    refine ⟨rfl, fun _ => ?_⟩
    show ix = _
    rw [hi, hl]; simp
  | cons x rest ih =>
    intro pre f s ix len hl hi hn hf hs
    obtain ⟨f, rfl⟩ : ∃ g, f = g + 1 := ⟨f - 1, by simp at hf; omega⟩
    have hx := he x (by rw [hl]; simp)
    rw [write_All_l2_eq, decide_eq_true (idx hl hi hn), tif_true, at_mid hl hi, obind_some, write_one n hs l hx, obind_some, tif_not, tif_dec, idxw hl hi (show es.length ≤ 1000000000000 by omega)]
    unfold allV
    by_cases h : (writeV s l x).2 = 0
    · rw [if_pos h, if_pos h]
      exact ih (pre ++ [x]) f _ (ix + 1) len (idxl hl) (idxs hi) hn (by simp at hf; omega) (writeV_w hs l x)
    · rw [if_neg h, if_neg h]
      exact ⟨by rw [if_neg h], fun k => absurd k h⟩
theorem r19_all_l2 (n : Nat) (l : List Lab) (s6 : Sta) (es : List Ev) (hL : es.length ≤ 1000000) (he : ∀ e ∈ es, EvW e) : ∀ (rest pre : List Ev) (f : Nat) (s : Sta) (ix len : Int), es = pre ++ rest → ix = pre.length → len = es.length → rest.length < f → StaW s →
    r19_All_l2 (n + 13) f (l, es, s, s6, es, len, ix, ()) = some (if (allV l s rest ix).2.2 = 0 then .inl (es, (allV l s rest ix).1, s6, ()) else .inr (allV l s rest ix)) := by
  intro rest
  induction rest with
  | nil =>
    intro pre f s ix len hl hi hn hf hs
    obtain ⟨f, rfl⟩ : ∃ g, f = g + 1 := ⟨f - 1, by simp at hf; omega⟩
    rw [r19_All_l2_eq, decide_eq_false (idxe hl hi hn), tif_false]
    rfl
  | cons x rest ih =>
    intro pre f s ix len hl hi hn hf hs
    obtain ⟨f, rfl⟩ : ∃ g, f = g + 1 := ⟨f - 1, by simp at hf; omega⟩
    have hx := he x (by rw [hl]; simp)
    rw [r19_All_l2_eq, decide_eq_true (idx hl hi hn), tif_true, at_mid hl hi, obind_some, r19_one n hs l hx, obind_some, tif_not, tif_dec, idxw hl hi (show es.length ≤ 1000000000000 by omega)]
    unfold allV
    by_cases h : (writeV s l x).2 = 0
    · rw [if_pos h, if_pos h]
      exact ih (pre ++ [x]) f _ (ix + 1) len (idxl hl) (idxs hi) hn (by simp at hf; omega) (writeV_w hs l x)
    · rw [if_neg h, if_neg h, if_neg h]
theorem write_all (n : Nat) {s : Sta} (hw : StaW s) (l : List Lab) (es : List Ev) (hL : es.length ≤ 1000000) (he : ∀ e ∈ es, EvW e) : write_All (n + 25) s l es = some (allV l s es 0) := by
  obtain ⟨e1, e2⟩ := write_all_l2 n l sta0 es hL he es [] loopFuel s 0 _ rfl rfl rfl (by unfold loopFuel; omega) hw
  rw [write_All_eq]
  change obind (write_All_l2 (n + 24) loopFuel (l, es, s, sta0, es, (es.length : Int), (0 : Int), ())) _ = _
  rw [e1, obind_some]
  by_cases h : (allV l s es 0).2.2 = 0
  · rw [if_pos h, selim_inl]
    refine congrArg some (Prod.ext rfl (Prod.ext (e2 h).symm h.symm))
  · rw [if_neg h, selim_inr]
theorem r19_all (n : Nat) {s : Sta} (hw : StaW s) (l : List Lab) (es : List Ev) (hL : es.length ≤ 1000000) (he : ∀ e ∈ es, EvW e) : r19_All (n + 14) s l es = some (allV l s es 0) := by
  have e1 := r19_all_l2 n l sta0 es hL he es [] loopFuel s 0 _ rfl rfl rfl (by unfold loopFuel; omega) hw
  obtain ⟨_, e2⟩ := write_all_l2 n l sta0 es hL he es [] loopFuel s 0 _ rfl rfl rfl (by unfold loopFuel; omega) hw
  rw [r19_All_eq]
  change obind (r19_All_l2 (n + 13) loopFuel (l, es, s, sta0, es, (es.length : Int), (0 : Int), ())) _ = _
  rw [e1, obind_some]
  by_cases h : (allV l s es 0).2.2 = 0
  · rw [if_pos h, selim_inl]
    refine congrArg some (Prod.ext rfl (Prod.ext (e2 h).symm h.symm))
  · rw [if_neg h, selim_inr]
theorem one_l8 (n : Nat) {s : Sta} (hw : StaW s) (l : List Lab) (es : List Ev) (hL : es.length ≤ 1000000) (he : ∀ e ∈ es, EvW e) : ∀ (rest pre : List Ev) (f : Nat) (ix len : Int), es = pre ++ rest → ix = pre.length → len = es.length → rest.length < f →
    l19_WriteOne_l8 (n + 24) f (l, s, es, len, ix, ()) = some (.inl ()) := by
  intro rest
  induction rest with
  | nil =>
    intro pre f ix len hl hi hn hf
    obtain ⟨f, rfl⟩ : ∃ g, f = g + 1 := ⟨f - 1, by simp at hf; omega⟩
    rw [l19_WriteOne_l8_eq, decide_eq_false (idxe hl hi hn), tif_false]
  | cons x rest ih =>
    intro pre f ix len hl hi hn hf
    obtain ⟨f, rfl⟩ : ∃ g, f = g + 1 := ⟨f - 1, by simp at hf; omega⟩
    have hx := he x (by rw [hl]; simp)
    rw [l19_WriteOne_l8_eq, decide_eq_true (idx hl hi hn), tif_true, at_mid hl hi, obind_some, write_one n hw l hx, obind_some, r19_one (n + 11) hw l hx, obind_some, r17_same_refl (n + 20) (writeV_w hw l x), obind_some, Bool.not_true, tif_false, decide_eq_true rfl, Bool.not_true, tif_false, idxw hl hi (show es.length ≤ 1000000000000 by omega)]
    exact ih (pre ++ [x]) f (ix + 1) len (idxl hl) (idxs hi) hn (by simp at hf; omega)
/-- THE LAW WriteOne -/
theorem writeOne_true (n : Nat) (s : Sta) (l : List Lab) (es : List Ev) (hs : Wf tyState s) (hl : Wf (.slice tyLabel) l) (he : Wf (.slice tyEvent) es) : l19_WriteOne (n + 41) s l es = some true := by
  have hw := sta_wf hs
  have hev : ∀ e ∈ es, EvW e := fun e h => ev_wf (he.2 e h)
  have hL : l.length ≤ 9223372036854775807 := by
    have h1 := hl.1
    simpa only [maxLen] using h1
  rw [l19_WriteOne_eq, l19_lives_true n]
  rcases l17_small (n + 37) hw with h | ⟨h, _⟩
  · rw [h]; rfl
  rcases l05_small (n + 39) l hL with h2 | h2
  · rw [h, h2]; rfl
  rw [h, h2]
  simp only [obind_some, show (decide ((1 : Int) = 0)) = false from rfl, tif_false]
  by_cases h3 : (40 : Int) < (es.length : Int)
  · rw [decide_eq_true h3, tif_true]
  rw [decide_eq_false h3, tif_false, write_all (n + 15) hw l es (by omega) hev, r19_all (n + 26) hw l es (by omega) hev]
  simp only [obind_some, r17_same_refl (n + 36) (allV_w l es s 0 hw), decide_true, Bool.not_true, tif_false]
  rw [one_l8 (n + 16) hw l es (by omega) hev es [] loopFuel 0 _ rfl rfl rfl (by unfold loopFuel; omega)]
  rfl
end Go.Proofs.YthjnbidgliejkaaGreat
