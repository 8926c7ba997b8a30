/-
  A tier's slots: what the program and the document make of them, as plain functions.
-/
import Derived.Test.YthjnbidgliejkaaGreatP08c
import Derived.Test.YthjnbidgliejkaaGreatPSort3
import Derived.Test.YthjnbidgliejkaaGreatM13
namespace Go.Proofs.YthjnbidgliejkaaGreat
open Go.Flat Go.Plim
set_option linter.unusedVariables false
set_option linter.unusedSimpArgs false
structure SloW (s : Slo) : Prop where
  i : I64 s.1
  c : CelW s.2
theorem sloEq (a b : Slo) : ((decide (a.1 = b.1)) && ((decide (a.2.1 = b.2.1)) && ((decide (a.2.2.1.1 = b.2.2.1.1)) && ((decide (a.2.2.1.2.1 = b.2.2.1.2.1)) && ((decide (a.2.2.1.2.2.1 = b.2.2.1.2.2.1)) && ((a.2.2.1.2.2.2 == b.2.2.1.2.2.2) && ((decide (a.2.2.2.1.1 = b.2.2.2.1.1)) && ((decide (a.2.2.2.1.2.1 = b.2.2.2.1.2.1)) && ((decide (a.2.2.2.1.2.2.1 = b.2.2.2.1.2.2.1)) && ((a.2.2.2.1.2.2.2 == b.2.2.2.1.2.2.2) && ((decide (a.2.2.2.2.1.1 = b.2.2.2.2.1.1)) && ((decide (a.2.2.2.2.1.2 = b.2.2.2.2.1.2)) && ((decide (a.2.2.2.2.2.1 = b.2.2.2.2.2.1)) && ((decide (a.2.2.2.2.2.2.1 = b.2.2.2.2.2.2.1)) && (decide (a.2.2.2.2.2.2.2 = b.2.2.2.2.2.2.2)))))))))))))))) = decide (a = b) := by
  rw [celEq a.2 b.2, Bool.eq_iff_iff]; simp [Prod.ext_iff]
theorem sloEq0 (a : Slo) : ((decide (a.1 = (0 : Int))) && ((decide (a.2.1 = (0 : Int))) && ((decide (a.2.2.1.1 = (0 : Int))) && ((decide (a.2.2.1.2.1 = (0 : Int))) && ((decide (a.2.2.1.2.2.1 = (0 : Int))) && ((a.2.2.1.2.2.2 == false) && ((decide (a.2.2.2.1.1 = (0 : Int))) && ((decide (a.2.2.2.1.2.1 = (0 : Int))) && ((decide (a.2.2.2.1.2.2.1 = (0 : Int))) && ((a.2.2.2.1.2.2.2 == false) && ((decide (a.2.2.2.2.1.1 = (0 : Int))) && ((decide (a.2.2.2.2.1.2 = (0 : Int))) && ((decide (a.2.2.2.2.2.1 = (0 : Int))) && ((decide (a.2.2.2.2.2.2.1 = (0 : Int))) && (decide (a.2.2.2.2.2.2.2 = (0 : Int))))))))))))))))) = decide (a = s0) := sloEq a s0
/-! ### windows -/
theorem window_in (n : Nat) (x a b : Int) : window_in_int64 (n + 1) x a b = some (decide (a ≤ x ∧ x ≤ b)) := by
  rw [window_in_int64_eq]
  by_cases h1 : a ≤ x <;> by_cases h2 : x ≤ b <;> simp [h1, h2]
/-- a time that has a window -/
def OfP (t w : Int) : Prop := 0 ≤ t ∧ t < 35184372088832 ∧ 1 ≤ w ∧ w ≤ 1099511627776
instance (t w : Int) : Decidable (OfP t w) := by unfold OfP; infer_instance
theorem quo_range {t w : Int} (h : OfP t w) : 0 ≤ t / w ∧ t / w < 35184372088832 := by
  obtain ⟨h1, h2, h3, h4⟩ := h
  have : 0 ≤ t / w := Int.ediv_nonneg h1 (by omega)
  have : t / w ≤ t := Int.ediv_le_self _ h1
  omega
theorem window_of (n : Nat) (t w : Int) : window_Of (n + 3) t w = some (if OfP t w then (t / w, 0) else (0, 1)) := by
  rw [window_Of_eq, window_width_eq, window_in, window_in]
  simp only [obind_some, tif_not, tif_dec]
  by_cases h : OfP t w
  · have hq := quo_range h
    rw [if_pos h]
    obtain ⟨h1, h2, h3, h4⟩ := h
    rw [if_pos (show (0 : Int) ≤ t ∧ t ≤ 35184372088831 by omega), if_pos (And.intro h3 h4), if_neg (show ¬ (w = 0) by omega), tdiv_nn h1, w64 (by omega) (by omega)]
  · rw [if_neg h]
    by_cases h1 : (0 : Int) ≤ t ∧ t ≤ 35184372088831
    · rw [if_pos h1, if_neg (fun k => h ⟨h1.1, by omega, k.1, k.2⟩)]
    · rw [if_neg h1]
theorem r09_of (n : Nat) (t w : Int) : r09_Of (n + 2) t w = some (if OfP t w then (t / w, 0) else (0, 1)) := by
  rw [r09_Of_eq, r09_width_eq]
  simp only [tif_dec]
  by_cases h : OfP t w
  · have hq := quo_range h
    rw [if_pos h]
    obtain ⟨h1, h2, h3, h4⟩ := h
    rw [if_neg (show ¬ (t < 0) by omega), if_neg (show ¬ ((35184372088832 : Int) ≤ t) by omega), if_pos h3, decide_eq_true h4]
    simp only [obind_some, Bool.not_true, tif_false]
    rw [if_neg (show ¬ (w = 0) by omega), tmod_nn h1]
    have e : t - t % w = w * (t / w) := by have := Int.mul_ediv_add_emod t w; omega
    have m0 := Int.emod_nonneg t (show w ≠ 0 by omega)
    have m1 : t % w ≤ t := by
      have := Int.mul_nonneg (show 0 ≤ w by omega) hq.1
      omega
    rw [w64 (x := t - t % w) (by omega) (by omega), tdiv_nn (by omega), e, Int.mul_ediv_cancel_left _ (show w ≠ 0 by omega), w64 (by omega) (by omega), if_neg (show ¬ (w = 0) by omega)]
  · rw [if_neg h]
    by_cases h1 : t < 0
    · rw [if_pos h1]
    by_cases h2 : (35184372088832 : Int) ≤ t
    · rw [if_neg h1, if_pos h2]
    rw [if_neg h1, if_neg h2]
    by_cases h3 : (1 : Int) ≤ w
    · have h4 : ¬ (w ≤ 1099511627776) := fun k => h ⟨by omega, by omega, h3, k⟩
      rw [if_pos h3, decide_eq_false h4]; rfl
    · rw [if_neg h3]; rfl
def slotOf (i n : Int) : Int := if i < 0 then 0 else if n < 1 then 0 else i % n
theorem window_slot (n : Nat) (i m : Int) : window_Slot (n + 1) i m = some (slotOf i m) := by
  rw [window_Slot_eq]
  simp only [tif_dec]
  unfold slotOf
  by_cases h1 : i < 0
  · rw [if_pos h1, if_pos h1]
  by_cases h2 : m < 1
  · rw [if_neg h1, if_neg h1, if_pos h2, if_pos h2]
  rw [if_neg h1, if_neg h1, if_neg h2, if_neg h2, if_neg (by omega), tmod_nn (by omega)]
theorem r09_slot (n : Nat) (i m : Int) : r09_Slot (n + 1) i m = some (slotOf i m) := by
  rw [r09_Slot_eq]
  simp only [tif_dec]
  unfold slotOf
  by_cases h1 : i < 0
  · rw [if_pos h1, if_pos h1]
  by_cases h2 : m < 1
  · rw [if_neg h1, if_neg h1, if_pos h2, if_pos h2]
  rw [if_neg h1, if_neg h1, if_neg h2, if_neg h2, if_neg (by omega), tmod_nn (by omega)]
theorem slotOf_val {i n : Int} (hi : 0 ≤ i) (hn : 1 ≤ n) : slotOf i n = i % n := by
  unfold slotOf; rw [if_neg (by omega), if_neg (by omega)]
/-! ### a window's cell -/
theorem fitsP_iff (c : Cel) (w i : Int) : FitsP c w i ↔ c ≠ z0 ∧ CellOk c ∧ OfP c.2.1.1 w ∧ c.2.1.1 / w = i ∧ OfP c.2.2.1.1 w ∧ c.2.2.1.1 / w = i := by
  constructor
  · rintro ⟨n, w0, w1, f, l⟩
    exact ⟨n.ne, n.ok, ⟨n.f.t0, n.f.t1, w0, w1⟩, f, ⟨n.l.t0, n.l.t1, w0, w1⟩, l⟩
  · rintro ⟨h1, h2, h3, h4, h5, h6⟩
    exact ⟨h2.n h1, h3.2.2.1, h3.2.2.2, h4, h6⟩
theorem of01 (p : Prop) [Decidable p] (x : Int) : ((if p then (x, (0 : Int)) else (0, 1)).2 = 0) ↔ p := by by_cases h : p <;> simp [h]
theorem fits_l4_2 (n f : Nat) (w i : Int) (s : Int × Int) : tier_Fits_l4 n (f + 1) (w, i, s, (2 : Int), ()) = some (.inl ()) := by
  rw [tier_Fits_l4_eq, show (decide ((2 : Int) < 2)) = false from rfl, tif_false]
theorem fits_l4_1 (n f : Nat) (w i : Int) (s : Int × Int) : tier_Fits_l4 (n + 3) (f + 2) (w, i, s, (1 : Int), ()) = some (if OfP s.2 w ∧ s.2 / w = i then .inl () else .inr false) := by
  rw [tier_Fits_l4_eq, show (decide ((1 : Int) < 2)) = true from rfl, tif_true, show (decide ((1 : Int) = 0)) = false from rfl, tif_false, show (decide ((1 : Int) = 1)) = true from rfl, tif_true, window_of]
  simp only [tif_dec, tif_not, obind_some, of01]
  rw [show IntKind.wrap .i64 ((1 : Int) + 1) = 2 from rfl, fits_l4_2]
  by_cases h3 : OfP s.2 w
  · rw [if_pos h3, if_pos h3]
    by_cases h4 : s.2 / w = i
    · rw [if_pos h4, if_pos (And.intro h3 h4)]
    · rw [if_neg h4, if_neg (fun k => h4 k.2)]
  · rw [if_neg h3, if_neg (fun k => h3 k.1)]
theorem fits_l4_0 (n f : Nat) (w i : Int) (s : Int × Int) : tier_Fits_l4 (n + 3) (f + 3) (w, i, s, (0 : Int), ()) = some (if (OfP s.1 w ∧ s.1 / w = i) ∧ (OfP s.2 w ∧ s.2 / w = i) then .inl () else .inr false) := by
  rw [tier_Fits_l4_eq, show (decide ((0 : Int) < 2)) = true from rfl, tif_true, show (decide ((0 : Int) = 0)) = true from rfl, tif_true, window_of]
  simp only [tif_dec, tif_not, obind_some, of01]
  rw [show IntKind.wrap .i64 ((0 : Int) + 1) = 1 from rfl, fits_l4_1]
  by_cases h3 : OfP s.1 w
  · rw [if_pos h3, if_pos h3]
    by_cases h4 : s.1 / w = i
    · rw [if_pos h4]
      by_cases h5 : OfP s.2 w ∧ s.2 / w = i
      · rw [if_pos h5, if_pos (And.intro (And.intro h3 h4) h5)]
      · rw [if_neg h5, if_neg (fun k => h5 k.2)]
    · rw [if_neg h4, if_neg (fun k => h4 k.1.2)]
  · rw [if_neg h3, if_neg (fun k => h3 k.1.1)]
theorem tier_fits (n : Nat) {c : Cel} (hc : CelW c) (w i : Int) : tier_Fits (n + 6) c w i = some (decide (FitsP c w i)) := by
  rw [tier_Fits_eq, cell_check n hc]
  simp only [tif_dec, obind_some, tif_not, z02]
  have e : loopFuel = (2 ^ 70 - 3) + 3 := by decide
  rw [e, fits_l4_0]
  have hiff := fitsP_iff c w i
  by_cases h1 : c.1 = 0
  · rw [if_pos h1, decide_eq_false]
    intro k; have := k.n.n1; omega
  rw [if_neg h1]
  by_cases h2 : CellOk c
  case neg => rw [if_neg h2, decide_eq_false (fun k => h2 (hiff.1 k).2.1)]
  rw [if_pos h2]
  by_cases h3 : (OfP c.2.1.1 w ∧ c.2.1.1 / w = i) ∧ (OfP c.2.2.1.1 w ∧ c.2.2.1.1 / w = i)
  · rw [if_pos h3, decide_eq_true (hiff.2 ⟨mt h2.count.1.2 h1, h2, h3.1.1, h3.1.2, h3.2.1, h3.2.2⟩)]; rfl
  · rw [if_neg h3, decide_eq_false (fun k => h3 (by have := hiff.1 k; exact ⟨⟨this.2.2.1, this.2.2.2.1⟩, this.2.2.2.2⟩))]; rfl
theorem r13_fits (n : Nat) {c : Cel} (hc : CelW c) (w i : Int) : r13_Fits (n + 5) c w i = some (decide (FitsP c w i)) := by
  rw [r13_Fits_eq, r08_check n hc, r09_of, r09_of]
  simp only [tif_dec, obind_some, tif_not, z02, of01]
  have hiff := fitsP_iff c w i
  by_cases h2 : CellOk c
  case neg => rw [if_neg h2, decide_eq_false (fun k => h2 (hiff.1 k).2.1)]
  rw [if_pos h2]
  by_cases h1 : c.1 = 0
  · rw [if_pos h1, decide_eq_false]
    intro k; have := k.n.n1; omega
  rw [if_neg h1]
  by_cases h3 : OfP c.2.1.1 w
  case neg => rw [if_neg h3, decide_eq_false (fun k => h3 (hiff.1 k).2.2.1)]
  rw [if_pos h3, if_pos h3]
  by_cases h5 : OfP c.2.2.1.1 w
  case neg => rw [if_neg h5, decide_eq_false (fun k => h5 (hiff.1 k).2.2.2.2.1)]
  rw [if_pos h5, if_pos h5]
  by_cases h4 : c.2.1.1 / w = i
  case neg => rw [if_neg h4, decide_eq_false (fun k => h4 (hiff.1 k).2.2.2.1)]
  rw [if_pos h4]
  congr 1
  exact decide_eq_decide.2 ⟨fun h6 => hiff.2 ⟨mt h2.count.1.2 h1, h2, h3, h4, h5, h6⟩, fun k => (hiff.1 k).2.2.2.2.2⟩
/-! ### is a tier right? -/
theorem tier_none_val (n : Nat) (s : Slo) : tier_none (n + 1) s = some (decide (s = s0)) := by rw [tier_none_eq, sloEq0]
/-- one slot is right -/
def SlotP (m w : Int) (j : Int) (s : Slo) : Prop := s = s0 ∨ (slotOf s.1 m = j ∧ FitsP s.2 w s.1)
theorem tier_check_l (n : Nat) (l : List Slo) (w : Int) (hL : l.length ≤ 4096) (hw : ∀ s ∈ l, SloW s) : ∀ (rest pre : List Slo) (f : Nat) (i len : Int), l = pre ++ rest → i = pre.length → len = l.length → rest.length < f →
    ((∀ (j : Nat) s, rest[j]? = some s → SlotP l.length w (i + j) s) → tier_Check_l4 (n + 6) f (l, w, l, len, i, ()) = some (.inl ())) ∧
    (¬ (∀ (j : Nat) s, rest[j]? = some s → SlotP l.length w (i + j) s) → tier_Check_l4 (n + 6) f (l, w, l, len, i, ()) = some (.inr 2)) := by
  intro rest
  induction rest with
  | nil =>
    intro pre f i len hl hi hn hf
    obtain ⟨f, rfl⟩ : ∃ g, f = g + 1 := ⟨f - 1, by simp at hf; omega⟩
    rw [tier_Check_l4_eq]
    refine ⟨fun _ => by simp only [tif_dec, if_neg (idxe hl hi hn)], fun h => absurd ?_ h⟩
    intro j s hs; simp at hs
  | cons x rest ih =>
    intro pre f i len hl hi hn hf
    obtain ⟨f, rfl⟩ : ∃ g, f = g + 1 := ⟨f - 1, by simp at hf; omega⟩
    rw [tier_Check_l4_eq]
    have hx : SloW x := hw x (by rw [hl]; simp)
    have ih' := ih (pre ++ [x]) f (i + 1) len (idxl hl) (idxs hi) hn (by simp at hf; omega)
    simp only [tif_dec, tif_not, if_pos (idx hl hi hn), at_mid hl hi, obind_some, tier_none_val, window_slot, tier_fits n hx.c, idxw hl hi (by omega)]
    have split : (∀ (j : Nat) s, (x :: rest)[j]? = some s → SlotP l.length w (i + j) s) ↔ SlotP l.length w i x ∧ (∀ (j : Nat) s, rest[j]? = some s → SlotP l.length w (i + 1 + j) s) := by
      constructor
      · intro h
        refine ⟨by simpa using h 0 x rfl, fun j s hs => ?_⟩
        have := h (j + 1) s hs
        rwa [show i + ((j + 1 : Nat) : Int) = i + 1 + j by omega] at this
      · rintro ⟨h1, h2⟩ j s hs
        cases j with
        | zero => simp at hs; subst hs; simpa using h1
        | succ j =>
          have := h2 j s hs
          rwa [show i + ((j + 1 : Nat) : Int) = i + 1 + j by omega]
    rw [split]
    by_cases h0 : x = s0
    · rw [if_pos h0]
      have hp : SlotP l.length w i x := .inl h0
      exact ⟨fun h => ih'.1 h.2, fun h => ih'.2 (fun k => h ⟨hp, k⟩)⟩
    · rw [if_neg h0]
      by_cases h1 : slotOf x.1 l.length = i
      · rw [if_pos h1]
        by_cases h2 : FitsP x.2 w x.1
        · rw [if_pos h2]
          have hp : SlotP l.length w i x := .inr ⟨h1, h2⟩
          exact ⟨fun h => ih'.1 h.2, fun h => ih'.2 (fun k => h ⟨hp, k⟩)⟩
        · rw [if_neg h2]
          exact ⟨fun h => absurd (h.1.resolve_left h0).2 h2, fun _ => rfl⟩
      · rw [if_neg h1]
        exact ⟨fun h => absurd (h.1.resolve_left h0).1 h1, fun _ => rfl⟩
theorem r13_check_l (n : Nat) (l : List Slo) (w : Int) (hL : l.length ≤ 4096) (hw : ∀ s ∈ l, SloW s) : ∀ (rest pre : List Slo) (f : Nat) (i len : Int), l = pre ++ rest → i = pre.length → len = l.length → rest.length < f →
    ((∀ (j : Nat) s, rest[j]? = some s → SlotP l.length w (i + j) s) → r13_Check_l4 (n + 5) f (l, w, l, len, i, ()) = some (.inl ())) ∧
    (¬ (∀ (j : Nat) s, rest[j]? = some s → SlotP l.length w (i + j) s) → r13_Check_l4 (n + 5) f (l, w, l, len, i, ()) = some (.inr 2)) := by
  intro rest
  induction rest with
  | nil =>
    intro pre f i len hl hi hn hf
    obtain ⟨f, rfl⟩ : ∃ g, f = g + 1 := ⟨f - 1, by simp at hf; omega⟩
    rw [r13_Check_l4_eq]
    refine ⟨fun _ => by simp only [tif_dec, if_neg (idxe hl hi hn)], fun h => absurd ?_ h⟩
    intro j s hs; simp at hs
  | cons x rest ih =>
    intro pre f i len hl hi hn hf
    obtain ⟨f, rfl⟩ : ∃ g, f = g + 1 := ⟨f - 1, by simp at hf; omega⟩
    rw [r13_Check_l4_eq]
    have hx : SloW x := hw x (by rw [hl]; simp)
    have ih' := ih (pre ++ [x]) f (i + 1) len (idxl hl) (idxs hi) hn (by simp at hf; omega)
    simp only [tif_dec, tif_not, if_pos (idx hl hi hn), at_mid hl hi, obind_some, sloEq0, r09_slot, r13_fits n hx.c, idxw hl hi (by omega)]
    have split : (∀ (j : Nat) s, (x :: rest)[j]? = some s → SlotP l.length w (i + j) s) ↔ SlotP l.length w i x ∧ (∀ (j : Nat) s, rest[j]? = some s → SlotP l.length w (i + 1 + j) s) := by
      constructor
      · intro h
        refine ⟨by simpa using h 0 x rfl, fun j s hs => ?_⟩
        have := h (j + 1) s hs
        rwa [show i + ((j + 1 : Nat) : Int) = i + 1 + j by omega] at this
      · rintro ⟨h1, h2⟩ j s hs
        cases j with
        | zero => simp at hs; subst hs; simpa using h1
        | succ j =>
          have := h2 j s hs
          rwa [show i + ((j + 1 : Nat) : Int) = i + 1 + j by omega]
    rw [split]
    by_cases h0 : x = s0
    · rw [if_pos h0]
      have hp : SlotP l.length w i x := .inl h0
      exact ⟨fun h => ih'.1 h.2, fun h => ih'.2 (fun k => h ⟨hp, k⟩)⟩
    · rw [if_neg h0]
      by_cases h2 : FitsP x.2 w x.1
      · rw [if_pos h2]
        by_cases h1 : slotOf x.1 l.length = i
        · rw [if_pos h1]
          have hp : SlotP l.length w i x := .inr ⟨h1, h2⟩
          exact ⟨fun h => ih'.1 h.2, fun h => ih'.2 (fun k => h ⟨hp, k⟩)⟩
        · rw [if_neg h1]
          exact ⟨fun h => absurd (h.1.resolve_left h0).1 h1, fun _ => rfl⟩
      · rw [if_neg h2]
        exact ⟨fun h => absurd (h.1.resolve_left h0).2 h2, fun _ => rfl⟩
theorem slots_iff {l : List Slo} {w : Int} (h0 : 1 ≤ l.length) : (∀ (j : Nat) s, l[j]? = some s → SlotP l.length w (0 + j) s) ↔ (∀ (j : Nat) s, l[j]? = some s → s = s0 ∨ (s.1 % (l.length : Int) = j ∧ FitsP s.2 w s.1)) := by
  constructor
  · intro h j s hs
    rcases h j s hs with e | ⟨e, f⟩
    · exact .inl e
    · rw [slotOf_val f.i0.1 (by omega)] at e
      exact .inr ⟨by omega, f⟩
  · intro h j s hs
    rcases h j s hs with e | ⟨e, f⟩
    · exact .inl e
    · exact .inr ⟨by rw [slotOf_val f.i0.1 (by omega)]; omega, f⟩
theorem tier_check (n : Nat) (l : List Slo) (w : Int) (hw : ∀ s ∈ l, SloW s) : tier_Check (n + 7) l w = some (if TierOk l w then 0 else 2) := by
  rw [tier_Check_eq]
  simp only [tif_dec]
  by_cases h1 : (l.length : Int) = 0
  · rw [if_pos h1, if_neg (fun k => by have := k.l0; omega)]
  by_cases h2 : (4096 : Int) < l.length
  · rw [if_neg h1, if_pos h2, if_neg (fun k => by have := k.l1; omega)]
  by_cases h3 : w < 1
  · rw [if_neg h1, if_neg h2, if_pos h3, if_neg (fun k => by have := k.w0; omega)]
  by_cases h4 : (1099511627776 : Int) < w
  · rw [if_neg h1, if_neg h2, if_neg h3, if_pos h4, if_neg (fun k => by have := k.w1; omega)]
  rw [if_neg h1, if_neg h2, if_neg h3, if_neg h4]
  have hl := tier_check_l n l w (by omega) hw l [] loopFuel 0 l.length rfl rfl rfl (by unfold loopFuel; omega)
  rw [slots_iff (by omega)] at hl
  by_cases h5 : ∀ (j : Nat) s, l[j]? = some s → s = s0 ∨ (s.1 % (l.length : Int) = j ∧ FitsP s.2 w s.1)
  · rw [hl.1 h5, if_pos ⟨by omega, by omega, by omega, by omega, h5⟩]; rfl
  · rw [hl.2 h5, if_neg (fun k => h5 k.s)]; rfl
theorem r13_check (n : Nat) (l : List Slo) (w : Int) (hw : ∀ s ∈ l, SloW s) : r13_Check (n + 6) l w = some (if TierOk l w then 0 else 2) := by
  rw [r13_Check_eq]
  simp only [tif_dec]
  by_cases h1 : (l.length : Int) < 1
  · rw [if_pos h1, if_neg (fun k => by have := k.l0; omega)]
  by_cases h2 : (4096 : Int) < l.length
  · rw [if_neg h1, if_pos h2, if_neg (fun k => by have := k.l1; omega)]
  by_cases h3 : w < 1
  · rw [if_neg h1, if_neg h2, if_pos h3, if_neg (fun k => by have := k.w0; omega)]
  by_cases h4 : (1099511627776 : Int) < w
  · rw [if_neg h1, if_neg h2, if_neg h3, if_pos h4, if_neg (fun k => by have := k.w1; omega)]
  rw [if_neg h1, if_neg h2, if_neg h3, if_neg h4]
  have hl := r13_check_l n l w (by omega) hw l [] loopFuel 0 l.length rfl rfl rfl (by unfold loopFuel; omega)
  rw [slots_iff (by omega)] at hl
  by_cases h5 : ∀ (j : Nat) s, l[j]? = some s → s = s0 ∨ (s.1 % (l.length : Int) = j ∧ FitsP s.2 w s.1)
  · rw [hl.1 h5, if_pos ⟨by omega, by omega, by omega, by omega, h5⟩]; rfl
  · rw [hl.2 h5, if_neg (fun k => h5 k.s)]; rfl
end Go.Proofs.YthjnbidgliejkaaGreat
