/-
  States: what a place has, and whether a state is right.
-/
import Derived.Test.YthjnbidgliejkaaGreatP15e
import Derived.Test.YthjnbidgliejkaaGreatP15g
namespace Go.Proofs.YthjnbidgliejkaaGreat
open Go.Flat Go.Plim
set_option linter.unusedVariables false
set_option linter.unusedSimpArgs false
abbrev Sta := Conf × (Int × (Int × List Ser))
structure StaW (s : Sta) : Prop where
  len : s.2.2.2.length ≤ 9223372036854775807
  ser : ∀ x ∈ s.2.2.2, SerW x ∧ SerM x
def Whole (s : Sta) : Prop := OkC s.1 ∧ (s.2.2.2.length : Int) = s.1.2.2.2.1
noncomputable instance (s) : Decidable (Whole s) := Classical.propDecidable _
/-- a series that lives, by a state's sweep -/
def LvX (s : Sta) (x : Ser) : Prop := x ≠ ser0 ∧ (s.2.2.1 = -1 ∨ deadV s.1 x.2.1 s.2.2.1 = false)
noncomputable instance (s x) : Decidable (LvX s x) := Classical.propDecidable _
def TimeP (t : Int) : Prop := 0 ≤ t ∧ t < 35184372088832
instance (t) : Decidable (TimeP t) := by unfold TimeP; infer_instance
def Clock (s : Sta) : Prop := TimeP s.2.1 ∧ (s.2.2.1 = -1 ∨ TimeP s.2.2.1) ∧ s.2.2.1 ≤ s.2.1
instance (s) : Decidable (Clock s) := by unfold Clock; infer_instance
/-- where the open window begins -/
def mk (s : Sta) : Int := s.2.1 / s.1.2.1.1 * s.1.2.1.1
/-- its labels are those of one that lives ahead of it -/
def Twin (s : Sta) (i : Nat) (x : Ser) : Prop := LvX s x ∧ ∃ k, k < i ∧ ∃ y, s.2.2.2[k]? = some y ∧ LvX s y ∧ y.1 = x.1
noncomputable instance (s i x) : Decidable (Twin s i x) := Classical.propDecidable _
def RightX (s : Sta) (i : Nat) (x : Ser) : Prop := x = ser0 ∨ (SerOk s.1 x ∧ 0 ≤ x.2.1 ∧ x.2.1 < mk s + s.1.2.1.1 ∧ ¬ Twin s i x)
noncomputable instance (s i x) : Decidable (RightX s i x) := Classical.propDecidable _
structure StaOk (s : Sta) : Prop where
  whole : Whole s
  clock : Clock s
  right : ∀ (i : Nat) x, s.2.2.2[i]? = some x → RightX s i x
noncomputable instance (s) : Decidable (StaOk s) := Classical.propDecidable _
theorem Whole.len {s : Sta} (h : Whole s) : s.2.2.2.length ≤ 65536 := by
  have := h.1.rng.cap; have := h.2; omega
theorem at_el {α : Type} {l : List α} {i : Nat} {x : α} (h : l[i]? = some x) : at? l (i : Int) = some x := by
  unfold at?
  rw [decide_eq_true (show (0 : Int) ≤ (i : Int) by omega), Int.toNat_natCast]
  exact h
theorem StaW.at {s : Sta} (h : StaW s) {i : Nat} {x : Ser} (hx : s.2.2.2[i]? = some x) : SerW x ∧ SerM x := h.ser x (List.mem_of_getElem? hx)
theorem ser0_m : SerM ser0 := ⟨by simp [ser0], by simp [ser0, r0w], by simp [ser0], by simp [ser0], by simp [ser0]⟩
/-! ### one place -/
theorem st_empty (n : Nat) {x : Ser} (h : SerM x) : state_empty (n + 4) x = some (decide (x = ser0)) := by
  have := series_same n x ser0 h
  rw [state_empty_eq]
  have e : series_Same (n + 3) x ([], ((0 : Int), (((0 : Int), ((0 : Int), [])), (([], ([], [])), ((0 : Int), z0))))) = some (decide (x = ser0)) := this
  change obind (series_Same (n + 3) x ([], ((0 : Int), (((0 : Int), ((0 : Int), [])), (([], ([], [])), ((0 : Int), z0)))))) _ = _
  rw [e]; rfl
theorem r17_empty (n : Nat) {x : Ser} (h : SerM x) : r17_Empty (n + 4) x = some (decide (x = ser0)) := by
  have := r15_same n x ser0 h
  rw [r17_Empty_eq]
  have e : r15_Same (n + 3) x ([], ((0 : Int), (((0 : Int), ((0 : Int), [])), (([], ([], [])), ((0 : Int), z0))))) = some (decide (x = ser0)) := this
  change obind (r15_Same (n + 3) x ([], ((0 : Int), (((0 : Int), ((0 : Int), [])), (([], ([], [])), ((0 : Int), z0)))))) _ = _
  rw [e]; rfl
theorem st_lives (n : Nat) {s : Sta} {i : Nat} {x : Ser} (hx : s.2.2.2[i]? = some x) (hm : SerM x) : state_view_lives (n + 7) s (i : Int) = some (decide (LvX s x)) := by
  rw [state_view_lives_eq, at_el hx, obind_some, st_empty (n + 2) hm, obind_some, tif_not, tif_dec, series_dead n]
  by_cases h : x = ser0
  · rw [if_pos h, decide_eq_false (fun k : LvX s x => k.1 h)]
  rw [if_neg h, tif_dec]
  by_cases h1 : s.2.2.1 = -1
  · rw [if_pos h1, decide_eq_true (show LvX s x from ⟨h, .inl h1⟩)]
  · rw [if_neg h1]
    cases hd : deadV s.1 x.2.1 s.2.2.1
    · rw [decide_eq_true (show LvX s x from ⟨h, .inr hd⟩)]; rfl
    · rw [decide_eq_false (fun k : LvX s x => by rcases k.2 with k | k; exact h1 k; rw [hd] at k; cases k)]; rfl
theorem r17_lives_val (n : Nat) {s : Sta} {i : Nat} {x : Ser} (hx : s.2.2.2[i]? = some x) (hm : SerM x) : r17_lives (n + 6) s (i : Int) = some (decide (LvX s x)) := by
  rw [r17_lives_eq, at_el hx, obind_some, r17_empty (n + 1) hm, obind_some, tif_not, tif_dec, obind_some, r15_dead n]
  by_cases h : x = ser0
  · rw [if_pos h, decide_eq_false (fun k : LvX s x => k.1 h)]
  rw [if_neg h, tif_dec]
  by_cases h1 : s.2.2.1 = -1
  · rw [if_pos h1, decide_eq_true (show LvX s x from ⟨h, .inl h1⟩)]
  · rw [if_neg h1]
    cases hd : deadV s.1 x.2.1 s.2.2.1
    · rw [decide_eq_true (show LvX s x from ⟨h, .inr hd⟩)]; rfl
    · rw [decide_eq_false (fun k : LvX s x => by rcases k.2 with k | k; exact h1 k; rw [hd] at k; cases k)]; rfl
/-! ### the first place that is so -/
theorem place_l (n : Nat) (is : (Int × Unit) → Option Bool) (p : Nat → Bool) (L : Nat) (hL : L ≤ 1000000) (his : ∀ k : Nat, k < L → is ((k : Int), ()) = some (p k)) : ∀ (d k f : Nat), k + d = L → d < f →
    (∃ m : Nat, k ≤ m ∧ m < L ∧ p m = true ∧ (∀ j, k ≤ j → j < m → p j = false) ∧ state_view_place_l2 n f (is, (L : Int), (k : Int), ()) = some (.inr (m : Int))) ∨
    ((∀ j, k ≤ j → j < L → p j = false) ∧ state_view_place_l2 n f (is, (L : Int), (k : Int), ()) = some (.inl ())) := by
  intro d
  induction d with
  | zero =>
    intro k f hk hf
    obtain ⟨f, rfl⟩ : ∃ g, f = g + 1 := ⟨f - 1, by omega⟩
    refine .inr ⟨fun j h1 h2 => by omega, ?_⟩
    rw [state_view_place_l2_eq, decide_eq_false (by omega), tif_false]
  | succ d ih =>
    intro k f hk hf
    obtain ⟨f, rfl⟩ : ∃ g, f = g + 1 := ⟨f - 1, by omega⟩
    rw [state_view_place_l2_eq, decide_eq_true (by omega), tif_true, his k (by omega), obind_some]
    cases hp : p k
    · rw [tif_false, w64 (by omega) (by omega), show ((k : Int) + 1) = ((k + 1 : Nat) : Int) by omega]
      rcases ih (k + 1) f (by omega) (by omega) with ⟨m, h1, h2, h3, h4, h5⟩ | ⟨h1, h2⟩
      · exact .inl ⟨m, by omega, h2, h3, fun j q1 q2 => by
          rcases Nat.lt_or_ge k j with q | q
          · exact h4 j (by omega) q2
          · rw [show j = k by omega]; exact hp, h5⟩
      · exact .inr ⟨fun j q1 q2 => by
          rcases Nat.lt_or_ge k j with q | q
          · exact h1 j (by omega) q2
          · rw [show j = k by omega]; exact hp, h2⟩
    · rw [tif_true]
      exact .inl ⟨k, Nat.le_refl _, by omega, hp, fun j q1 q2 => by omega, rfl⟩
theorem first_val (n : Nat) (s : Sta) (is : (Int × Unit) → Option Bool) (p : Nat → Bool) (hL : s.2.2.2.length ≤ 1000000) (his : ∀ k : Nat, k < s.2.2.2.length → is ((k : Int), ()) = some (p k)) :
    (∃ m : Nat, m < s.2.2.2.length ∧ p m = true ∧ (∀ j, j < m → p j = false) ∧ state_view_place (n + 1) s is = some (m : Int)) ∨
    ((∀ j, j < s.2.2.2.length → p j = false) ∧ state_view_place (n + 1) s is = some (-1)) := by
  rw [state_view_place_eq]
  rcases place_l n is p _ hL his s.2.2.2.length 0 loopFuel (by omega) (by unfold loopFuel; omega) with ⟨m, h1, h2, h3, h4, h5⟩ | ⟨h1, h2⟩
  · refine .inl ⟨m, h2, h3, fun j q => h4 j (by omega) q, ?_⟩
    have h5' : state_view_place_l2 n loopFuel (is, (s.2.2.2.length : Int), (0 : Int), ()) = some (.inr (m : Int)) := h5
    rw [h5']; rfl
  · refine .inr ⟨fun j q => h1 j (by omega) q, ?_⟩
    have h2' : state_view_place_l2 n loopFuel (is, (s.2.2.2.length : Int), (0 : Int), ()) = some (.inl ()) := h2
    rw [h2']; rfl
/-! ### twins -/
theorem label_same (n : Nat) (a b : List Lab) (h : a.length ≤ 9223372036854775807) : label_Same (n + 2) a b = some (decide (a = b)) := by
  rw [label_Same_eq, eq_slices_Equal_Label n a b h]; rfl
def IsTw (s : Sta) (i k : Nat) (x : Ser) : Prop := k = i ∨ ∃ y, s.2.2.2[k]? = some y ∧ LvX s y ∧ y.1 = x.1
noncomputable instance (s i k x) : Decidable (IsTw s i k x) := Classical.propDecidable _
theorem st_twin (n : Nat) {s : Sta} (hw : StaW s) (hL : s.2.2.2.length ≤ 1000000) {i : Nat} {x : Ser} (hx : s.2.2.2[i]? = some x) : state_view_twin (n + 9) s (i : Int) = some (decide (Twin s i x)) := by
  have hil : i < s.2.2.2.length := (List.getElem?_eq_some_iff.1 hx).1
  have hm := (hw.at hx).2
  rw [state_view_twin_eq]
  have his : ∀ k : Nat, k < s.2.2.2.length → (fun y0 : Int × Unit => state_view_twin_1 (n + 8) y0.1 (i : Int) s) ((k : Int), ()) = some (decide (IsTw s i k x)) := by
    intro k hk
    have hy : s.2.2.2[k]? = some s.2.2.2[k] := List.getElem?_eq_getElem hk
    generalize s.2.2.2[k] = y at hy
    have hmy := (hw.at hy).2
    show state_view_twin_1 (n + 8) (k : Int) (i : Int) s = _
    rw [state_view_twin_1_eq, tif_dec, st_lives n hy hmy, obind_some, at_el hy, obind_some, at_el hx, obind_some, label_same (n + 5) _ _ hmy.l, obind_some, tif_dec]
    by_cases h1 : k = i
    · rw [if_pos (by rw [h1]), decide_eq_true (show IsTw s i k x from .inl h1)]
    rw [if_neg (by omega)]
    by_cases h2 : LvX s y
    · rw [if_pos h2]
      refine congrArg some (decide_eq_decide.2 ⟨fun h3 => .inr ⟨y, hy, h2, h3⟩, fun h3 => ?_⟩)
      rcases h3 with h3 | ⟨z, z1, z2, z3⟩
      · exact absurd h3 h1
      · rw [hy] at z1; cases z1; exact z3
    · rw [if_neg h2, decide_eq_false]
      rintro (h3 | ⟨z, z1, z2, z3⟩)
      · exact h1 h3
      · rw [hy] at z1; cases z1; exact h2 z2
  rcases first_val (n + 7) s (fun y0 : Int × Unit => state_view_twin_1 (n + 8) y0.1 (i : Int) s) (fun k => decide (IsTw s i k x)) hL his with ⟨m, h1, h2, h3, h4⟩ | ⟨h1, h2⟩
  · rw [h4, obind_some, tif_dec, st_lives (n + 1) hx hm]
    have h2 := of_decide_eq_true h2
    have hmi : m ≤ i := by
      rcases Nat.lt_or_ge i m with q | q
      · have := of_decide_eq_false (h3 i q); exact absurd (.inl rfl) this
      · exact q
    by_cases q : m < i
    · rw [if_pos (by omega), obind_some]
      refine congrArg some (decide_eq_decide.2 ⟨fun k => ⟨k, m, q, ?_⟩, fun k => k.1⟩)
      exact h2.resolve_left (by omega)
    · rw [if_neg (by omega), decide_eq_false]
      rintro ⟨k1, k, k2, k3⟩
      exact of_decide_eq_false (h3 k (by omega)) (.inr k3)
  · exact absurd (.inl rfl) (of_decide_eq_false (h1 i hil))
/-! ### right places -/
theorem mk_range {s : Sta} (h : TimeP s.2.1) (hw : 1 ≤ s.1.2.1.1 ∧ s.1.2.1.1 ≤ 1099511627776) : 0 ≤ mk s ∧ mk s ≤ s.2.1 ∧ s.2.1 < mk s + s.1.2.1.1 ∧ s.2.1 - s.2.1 % s.1.2.1.1 = mk s := by
  have e := Int.mul_ediv_add_emod s.2.1 s.1.2.1.1
  have e1 := Int.emod_nonneg s.2.1 (show s.1.2.1.1 ≠ 0 by omega)
  have e2 := Int.emod_lt_of_pos s.2.1 (show 0 < s.1.2.1.1 by omega)
  rw [Int.mul_comm] at e
  have e3 : 0 ≤ mk s := Int.mul_nonneg (Int.ediv_nonneg h.1 (by omega)) (by omega)
  unfold mk at *
  exact ⟨e3, by omega, by omega, by omega⟩
theorem st_mark (n : Nat) {s : Sta} (h : TimeP s.2.1) (hw : 1 ≤ s.1.2.1.1 ∧ s.1.2.1.1 ≤ 1099511627776) : state_view_mark (n + 1) s = some (mk s) := by
  have := mk_range h hw
  have := h.1; have := h.2
  rw [state_view_mark_eq, tif_dec, if_neg (by omega), tmod_nn h.1, w64 (by omega) (by omega), (mk_range h hw).2.2.2]
theorem st_right (n : Nat) {s : Sta} (hw : StaW s) (hh : Whole s) (ht : TimeP s.2.1) {i : Nat} {x : Ser} (hx : s.2.2.2[i]? = some x) : state_view_right (n + 12) s (i : Int) = some (decide (RightX s i x)) := by
  have hm := hw.at hx
  have hr := hh.1.rng
  have hL := hh.len
  have hmk := mk_range ht hr.w0
  have ht1 := ht.1; have ht2 := ht.2; have hw0 := hr.w0
  obtain ⟨m1, m2, m3, m4⟩ := hmk
  rw [state_view_right_eq, at_el hx, obind_some, st_empty (n + 7) hm.2, obind_some, tif_dec, series_check n s.1 hm.1, obind_some, st_mark (n + 10) ht hr.w0, obind_some, w64 (by omega) (by omega), st_twin (n + 2) hw (by omega) hx, obind_some]
  simp only [tif_dec]
  by_cases h0 : x = ser0
  · rw [if_pos h0, decide_eq_true (show RightX s i x from .inl h0)]
  rw [if_neg h0]
  by_cases h1 : SerOk s.1 x
  case neg => rw [if_neg h1, if_neg (by decide), decide_eq_false (fun q : RightX s i x => by rcases q with k | k; exact h0 k; exact h1 k.1)]
  rw [if_pos h1, if_pos rfl]
  by_cases h2 : 0 ≤ x.2.1
  case neg => rw [if_neg h2, decide_eq_false (fun q : RightX s i x => by rcases q with k | k; exact h0 k; exact h2 k.2.1)]
  rw [if_pos h2]
  by_cases h3 : x.2.1 < mk s + s.1.2.1.1
  case neg => rw [if_neg h3, decide_eq_false (fun q : RightX s i x => by rcases q with k | k; exact h0 k; exact h3 k.2.2.1)]
  rw [if_pos h3]
  by_cases h4 : Twin s i x
  · rw [decide_eq_true h4, decide_eq_false (fun q : RightX s i x => by rcases q with k | k; exact h0 k; exact k.2.2.2 h4)]; rfl
  · rw [decide_eq_false h4, decide_eq_true (show RightX s i x from .inr ⟨h1, h2, h3, h4⟩)]; rfl
/-! ### whole, at a time -/
def sta0 : Sta := (((0 : Int), (((0 : Int), ((0 : Int), (0 : Int))), (((0 : Int), ((0 : Int), (0 : Int))), ((0 : Int), (0 : Int))))), ((0 : Int), ((0 : Int), [])))
theorem st_open (n : Nat) (s : Sta) : state_open (n + 4) s = some (if Whole s then (s, 0) else (sta0, 2)) := by
  rw [state_open_eq, conf_check n s.1, obind_some, tif_not, tif_dec, tif_not, tif_dec]
  by_cases h : OkC s.1
  case neg => rw [if_neg h, if_neg (show ¬ ((2 : Int) = 0) by decide), if_neg (fun k : Whole s => h k.1)]; rfl
  rw [if_pos h, if_pos rfl]
  by_cases h1 : (s.2.2.2.length : Int) = s.1.2.2.2.1
  · rw [if_pos h1, if_pos (show Whole s from ⟨h, h1⟩)]
  · rw [if_neg h1, if_neg (fun k : Whole s => h1 k.2)]; rfl
theorem st_time (n : Nat) (t : Int) : state_time (n + 1) t = some (decide (TimeP t)) := by
  rw [state_time_eq, tif_dec]
  by_cases h : 0 ≤ t
  · rw [if_pos h]; exact congrArg some (decide_eq_decide.2 ⟨fun k => ⟨h, k⟩, fun k => k.2⟩)
  · rw [if_neg h, decide_eq_false (fun k : TimeP t => h k.1)]
theorem r17_time_val (n : Nat) (t : Int) : r17_time (n + 1) t = some (decide (TimeP t)) := by
  rw [r17_time_eq, tif_dec]
  by_cases h : 0 ≤ t
  · rw [if_pos h]; exact congrArg some (decide_eq_decide.2 ⟨fun k => ⟨h, k⟩, fun k => k.2⟩)
  · rw [if_neg h, decide_eq_false (fun k : TimeP t => h k.1)]
theorem st_clock (n : Nat) (s : Sta) : state_view_clock (n + 2) s = some (decide (Clock s)) := by
  rw [state_view_clock_eq, st_time n, st_time n, obind_some, obind_some]
  simp only [tif_dec]
  by_cases h : TimeP s.2.1
  case neg => rw [if_neg h, decide_eq_false (fun k : Clock s => h k.1)]
  rw [if_pos h]
  by_cases h1 : s.2.2.1 = -1
  · rw [if_pos h1]; exact congrArg some (decide_eq_decide.2 ⟨fun k => ⟨h, .inl h1, k⟩, fun k => k.2.2⟩)
  rw [if_neg h1]
  by_cases h2 : TimeP s.2.2.1
  · rw [if_pos h2]; exact congrArg some (decide_eq_decide.2 ⟨fun k => ⟨h, .inr h2, k⟩, fun k => k.2.2⟩)
  · rw [if_neg h2, decide_eq_false (fun k : Clock s => by rcases k.2.1 with q | q; exact h1 q; exact h2 q)]
def Wrong (s : Sta) (k : Nat) : Prop := ∃ x, s.2.2.2[k]? = some x ∧ ¬ RightX s k x
noncomputable instance (s k) : Decidable (Wrong s k) := Classical.propDecidable _
theorem state_check (n : Nat) {s : Sta} (hw : StaW s) : state_Check (n + 14) s = some (if StaOk s then 0 else 2) := by
  rw [state_Check_eq, st_open (n + 9) s, obind_some, tif_not, tif_dec]
  by_cases h : Whole s
  case neg => rw [if_neg h, if_neg (show ¬ ((sta0, (2 : Int)).2 = 0) by decide), if_neg (fun k : StaOk s => h k.whole)]
  rw [if_pos h, if_pos rfl, st_clock (n + 11) s, obind_some, tif_not, tif_dec]
  by_cases h1 : Clock s
  case neg => rw [if_neg h1, if_neg (fun k : StaOk s => h1 k.clock)]
  rw [if_pos h1]
  have hL := h.len
  have his : ∀ k : Nat, k < s.2.2.2.length → (fun y2 : Int × Unit => state_Check_1 (n + 13) y2.1 s) ((k : Int), ()) = some (decide (Wrong s k)) := by
    intro k hk
    have hy : s.2.2.2[k]? = some s.2.2.2[k] := List.getElem?_eq_getElem hk
    generalize s.2.2.2[k] = y at hy
    show state_Check_1 (n + 13) (k : Int) s = _
    rw [state_Check_1_eq, st_right n hw h h1.1 hy, obind_some]
    by_cases q : RightX s k y
    · rw [decide_eq_true q, decide_eq_false (fun z : Wrong s k => by obtain ⟨x, x1, x2⟩ := z; rw [hy] at x1; cases x1; exact x2 q)]; rfl
    · rw [decide_eq_false q, decide_eq_true (show Wrong s k from ⟨y, hy, q⟩)]; rfl
  rcases first_val (n + 12) s (fun y2 : Int × Unit => state_Check_1 (n + 13) y2.1 s) (fun k => decide (Wrong s k)) (by omega) his with ⟨m, q1, q2, q3, q4⟩ | ⟨q1, q2⟩
  · rw [show (fun y2 : Int × Unit => state_Check_1 (n + 13) y2.1 (s, (0 : Int)).1) = fun y2 : Int × Unit => state_Check_1 (n + 13) y2.1 s from rfl]
    obtain ⟨x, x1, x2⟩ := of_decide_eq_true q2
    rw [q4, obind_some, tif_dec, if_pos (by omega), if_neg (fun k : StaOk s => x2 (k.right m x x1))]
  · rw [show (fun y2 : Int × Unit => state_Check_1 (n + 13) y2.1 (s, (0 : Int)).1) = fun y2 : Int × Unit => state_Check_1 (n + 13) y2.1 s from rfl]
    rw [q2, obind_some, tif_dec, if_neg (by decide), if_pos]
    refine ⟨h, h1, fun i x hx => ?_⟩
    have := of_decide_eq_false (q1 i (List.getElem?_eq_some_iff.1 hx).1)
    exact Decidable.byContradiction fun k => this ⟨x, hx, k⟩
end Go.Proofs.YthjnbidgliejkaaGreat
