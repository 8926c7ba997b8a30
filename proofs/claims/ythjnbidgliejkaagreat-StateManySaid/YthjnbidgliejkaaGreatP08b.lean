/-
  Events and cells, second part.
-/
import Derived.Test.YthjnbidgliejkaaGreatP08
namespace Go.Proofs.YthjnbidgliejkaaGreat
open Go.Flat Go.Plim
set_option linter.unusedVariables false
set_option linter.unusedSimpArgs false
/-! ### events -/
theorem event_check (n : Nat) {e : Ev} (h : EvW e) : event_Check (n + 1) e = some (if EvOk e then 0 else 2) := by
  obtain ⟨_, hv, _⟩ := h
  rw [event_Check_eq]
  simp only [tif_dec]
  by_cases h1 : e.1 < 0
  · rw [if_pos h1, if_neg (fun k => by have := k.t0; omega)]
  by_cases h2 : (35184372088832 : Int) ≤ e.1
  · rw [if_neg h1, if_pos h2, if_neg (fun k => by have := k.t1; omega)]
  by_cases h3 : e.2.2.1 < 0
  · rw [if_neg h1, if_neg h2, if_pos h3, if_neg (fun k => by have := k.c0; omega)]
  by_cases h4 : e.1 < e.2.2.1
  · rw [if_neg h1, if_neg h2, if_neg h3, if_pos h4, if_neg (fun k => by have := k.c1; omega)]
  rw [if_neg h1, if_neg h2, if_neg h3, if_neg h4]
  cases h5 : e.2.2.2 with
  | false =>
    rw [tif_false, if_pos ⟨by omega, by omega, hv.1, hv.2, by omega, by omega, fun k => by rw [h5] at k; cases k⟩]
  | true =>
    rw [tif_true]
    by_cases h6 : e.2.1 = 0 ∧ e.2.2.1 = 0
    · rw [if_pos ⟨by omega, by omega, hv.1, hv.2, by omega, by omega, fun _ => h6⟩]
      simp [h6]
    · rw [if_neg (fun k => h6 (k.st h5))]
      by_cases h7 : e.2.1 = 0
      · have h8 : ¬ (e.2.2.1 = 0) := fun k => h6 ⟨h7, k⟩
        simp [h7, h8]
      · simp [h7]
theorem r07_check (n : Nat) {e : Ev} (h : EvW e) : r07_Check (n + 1) e = some (if EvOk e then 0 else 2) := by
  obtain ⟨_, hv, _⟩ := h
  rw [r07_Check_eq]
  simp only [tif_dec, tif_not]
  by_cases h1 : e.1 < 0
  · rw [if_pos h1, if_neg (fun k => by have := k.t0; omega)]
  by_cases h2 : (35184372088832 : Int) ≤ e.1
  · rw [if_neg h1, if_pos h2, if_neg (fun k => by have := k.t1; omega)]
  by_cases h3 : e.2.2.1 < 0
  · rw [if_neg h1, if_neg h2, if_pos h3, if_neg (fun k => by have := k.c0; omega)]
  by_cases h4 : e.1 < e.2.2.1
  · rw [if_neg h1, if_neg h2, if_neg h3, if_pos h4, if_neg (fun k => by have := k.c1; omega)]
  rw [if_neg h1, if_neg h2, if_neg h3, if_neg h4]
  cases h5 : e.2.2.2 with
  | false =>
    rw [tif_false, if_pos ⟨by omega, by omega, hv.1, hv.2, by omega, by omega, fun k => by rw [h5] at k; cases k⟩]
  | true =>
    rw [tif_true]
    by_cases h6 : e.2.1 = 0 ∧ e.2.2.1 = 0
    · rw [if_pos h6.1, if_pos h6.2, if_pos ⟨by omega, by omega, hv.1, hv.2, by omega, by omega, fun _ => h6⟩]
    · by_cases h7 : e.2.1 = 0
      · have h8 : ¬ (e.2.2.1 = 0) := fun k => h6 ⟨h7, k⟩
        rw [if_pos h7, if_neg h8, if_neg (fun k => h6 (k.st h5))]
      · rw [if_neg h7, if_neg (fun k => h6 (k.st h5))]
theorem zif (p : Prop) [Decidable p] : decide ((if p then (0 : Int) else 2) = 0) = decide p := by by_cases h : p <;> simp [h]
theorem event_right_l (n : Nat) (l : List Ev) (hL : l.length ≤ 1000000000000) (hw : ∀ e ∈ l, EvW e) : ∀ (rest pre : List Ev) (f : Nat) (i len : Int), l = pre ++ rest → i = pre.length → len = l.length → rest.length < f →
    event_right_l2 (n + 1) f (l, len, i, ()) = some (if ∀ e ∈ rest, EvOk e then .inl () else .inr false) := by
  intro rest
  induction rest with
  | nil =>
    intro pre f i len hl hi hn hf
    obtain ⟨f, rfl⟩ : ∃ g, f = g + 1 := ⟨f - 1, by simp at hf; omega⟩
    rw [event_right_l2_eq]
    have := idxe hl hi hn
    simp [tif_dec, if_neg this]
  | cons x rest ih =>
    intro pre f i len hl hi hn hf
    obtain ⟨f, rfl⟩ : ∃ g, f = g + 1 := ⟨f - 1, by simp at hf; omega⟩
    rw [event_right_l2_eq]
    have hlt := idx hl hi hn
    have hx : EvW x := hw x (by rw [hl]; simp)
    simp only [tif_dec, tif_not, if_pos hlt, at_mid hl hi, obind_some, event_check n hx, idxw hl hi hL]
    by_cases ho : EvOk x
    · rw [if_pos ho, if_pos rfl, ih (pre ++ [x]) f (i + 1) len (idxl hl) (idxs hi) hn (by simp at hf; omega)]
      have e : (∀ e ∈ x :: rest, EvOk e) ↔ (∀ e ∈ rest, EvOk e) := by simp [ho]
      by_cases hr : ∀ e ∈ rest, EvOk e
      · rw [if_pos hr, if_pos (e.2 hr)]
      · rw [if_neg hr, if_neg (fun k => hr (e.1 k))]
    · have h2 : ¬ (∀ e ∈ x :: rest, EvOk e) := fun k => ho (k x (by simp))
      rw [if_neg ho, if_neg (by decide), if_neg h2]
theorem event_right_val (n : Nat) (l : List Ev) (hL : l.length ≤ 1000000000000) (hw : ∀ e ∈ l, EvW e) : event_right (n + 2) l = some (decide (∀ e ∈ l, EvOk e)) := by
  rw [event_right_eq, event_right_l n l hL hw l [] loopFuel 0 l.length rfl rfl rfl (by unfold loopFuel; omega)]
  by_cases h : ∀ e ∈ l, EvOk e
  · rw [if_pos h, decide_eq_true h]; simp
  · rw [if_neg h, decide_eq_false h]; simp
theorem event_right2 (n : Nat) {p c : Ev} (hp : EvW p) (hc : EvW c) : event_right (n + 2) [p, c] = some (decide (EvOk p ∧ EvOk c)) := by
  rw [event_right_val n [p, c] (by simp) (by simp [hp, hc])]
  simp
theorem event_follow (n : Nat) {p c : Ev} (hp : EvW p) (hc : EvW c) : event_Follow (n + 3) p c = some (decide (EvOk p ∧ EvOk c ∧ p.1 < c.1)) := by
  rw [event_Follow_eq, event_right2 n hp hc]
  by_cases h : EvOk p ∧ EvOk c
  · simp [h.1, h.2]
  · have h2 : ¬ (EvOk p ∧ EvOk c ∧ p.1 < c.1) := fun k => h ⟨k.1, k.2.1⟩
    rw [decide_eq_false h, decide_eq_false h2]; simp
/-! ### is a cell right? -/
theorem cell_none_val (n : Nat) (c : Cel) : cell_none (n + 1) c = some (decide (c = z0)) := by rw [cell_none_eq, celEq0]
theorem cell_in_val (n : Nat) (x m : Int) : cell_in (n + 1) x m = some (decide (0 ≤ x ∧ x ≤ m)) := by
  rw [cell_in_eq]
  by_cases h1 : (0 : Int) ≤ x <;> by_cases h2 : x ≤ m <;> simp [h1, h2]
/-- the cell's ends may be -/
def Spans (c : Cel) : Prop := (c.1 = 1 ∧ c.2.1 = c.2.2.1 ∧ EvOk c.2.1) ∨ (1 < c.1 ∧ EvOk c.2.1 ∧ EvOk c.2.2.1 ∧ c.2.1.1 < c.2.2.1.1 ∧ c.1 - 1 ≤ c.2.2.1.1 - c.2.1.1)
instance (c : Cel) : Decidable (Spans c) := by unfold Spans; infer_instance
theorem cell_spans_val (n : Nat) {c : Cel} (hw : CelW c) : cell_spans (n + 4) c = some (decide (Spans c)) := by
  rw [cell_spans_eq, evEq]
  simp only [tif_dec]
  by_cases h1 : c.1 = 1
  · rw [if_pos h1]
    by_cases h2 : c.2.1 = c.2.2.1
    · rw [if_pos h2, event_check _ hw.f]
      simp only [obind_some, zif]
      congr 1
      refine decide_eq_decide.2 ⟨fun h => .inl ⟨h1, h2, h⟩, fun h => ?_⟩
      rcases h with h | h
      · exact h.2.2
      · exact h.2.1
    · rw [if_neg h2, decide_eq_false]
      rintro (h | h)
      · exact h2 h.2.1
      · omega
  · rw [if_neg h1]
    by_cases h2 : 1 < c.1
    · rw [if_pos h2, event_follow _ hw.f hw.l]
      simp only [obind_some, tif_dec]
      by_cases h3 : EvOk c.2.1 ∧ EvOk c.2.2.1 ∧ c.2.1.1 < c.2.2.1.1
      · rw [if_pos h3]
        obtain ⟨h3, h4, h5⟩ := h3
        have := hw.n; unfold I64 at this
        have := h3.t0; have := h4.t1; have := h3.t1; have := h4.t0
        rw [w64 (by omega) (by omega), w64 (by omega) (by omega)]
        congr 1
        refine decide_eq_decide.2 ⟨fun h => .inr ⟨h2, h3, h4, h5, h⟩, fun h => ?_⟩
        rcases h with h | h
        · omega
        · exact h.2.2.2.2
      · rw [if_neg h3, decide_eq_false]
        rintro (h | h)
        · omega
        · exact h3 ⟨h.2.1, h.2.2.1, h.2.2.2.1⟩
    · rw [if_neg h2, decide_eq_false]
      rintro (h | h) <;> omega
theorem CellN.spans {c : Cel} (h : CellN c) : Spans c := by
  by_cases h1 : c.1 = 1
  · exact .inl ⟨h1, h.one h1, h.f⟩
  · have := h.n1
    exact .inr ⟨by omega, h.f, h.l, h.more (by omega), h.n2⟩
theorem cellN_of {c : Cel} (hw : CelW c) (hs : Spans c) (hi : wv c.2.2.2.1 ≤ 18446744073709551615 * (c.1 - 1)) (hr : 0 ≤ c.2.2.2.2.1) (hg : 0 ≤ c.2.2.2.2.2.1) (hrg : c.2.2.2.2.1 + c.2.2.2.2.2.1 ≤ c.1 - 1)
    (h0 : 0 ≤ c.2.2.2.2.2.2) (h1 : c.2.2.2.2.2.2 ≤ c.2.2.1.1 - c.2.1.1) : CellN c := by
  rcases hs with ⟨a, b, d⟩ | ⟨a, b, d, e, f⟩
  · exact ⟨by omega, d, b ▸ d, fun _ => b, fun h => by omega, by rw [b]; omega, hw.w, hi, hr, hg, hrg, h0, h1⟩
  · exact ⟨by omega, b, d, fun h => by omega, fun _ => e, f, hw.w, hi, hr, hg, hrg, h0, h1⟩
theorem spans_small {c : Cel} (h : Spans c) : 1 ≤ c.1 ∧ c.1 ≤ 35184372088832 ∧ 0 ≤ c.2.2.1.1 - c.2.1.1 ∧ c.2.2.1.1 - c.2.1.1 ≤ 35184372088832 := by
  rcases h with ⟨a, b, d⟩ | ⟨a, b, d, e, f⟩
  · rw [b]; have := d.t0; omega
  · have := b.t0; have := d.t1; omega
theorem times_most {k : Int} (h : 0 ≤ k ∧ k ≤ 35184372088832) : timesW (0, 18446744073709551615) k = (mkW (18446744073709551615 * k), 0) := by
  unfold timesW
  rw [show wv (0, 18446744073709551615) = 18446744073709551615 from rfl, if_pos (by omega)]
theorem cell_check (n : Nat) {c : Cel} (hw : CelW c) : cell_Check (n + 5) c = some (if CellOk c then 0 else 2) := by
  rw [cell_Check_eq, cell_none_val, cell_spans_val n hw]
  simp only [obind_some, tif_dec, tif_not]
  by_cases h0 : c = z0
  · rw [if_pos h0, if_pos (.inl h0)]
  rw [if_neg h0]
  by_cases hs : Spans c
  · rw [if_pos hs]
    obtain ⟨s1, s2, s3, s4⟩ := spans_small hs
    have hg := hw.g; have hr := hw.r; have hse := hw.s
    unfold I64 at hg hr hse
    have hmw : WdOk (mkW (18446744073709551615 * (c.1 - 1))) := mkW_ok (by omega) (by omega)
    rw [wide_of, w64 (x := c.1 - 1) (by omega) (by omega), wu64 (by omega) (by omega)]
    simp only [obind_some]
    rw [wide_times (n + 2) ⟨by simp, by simp⟩ _ (by omega), times_most (by omega)]
    simp only [obind_some, if_pos trivial, wide_less (n + 3) hmw hw.w, wv_mkW, cell_in_val, tif_dec]
    by_cases c1 : 18446744073709551615 * (c.1 - 1) < wv c.2.2.2.1
    · rw [if_pos c1, if_neg (fun k => by have := (k.n h0).inc; omega)]
    rw [if_neg c1]
    by_cases c2 : 0 ≤ c.2.2.2.2.2.1 ∧ c.2.2.2.2.2.1 ≤ c.1 - 1
    · rw [if_pos c2, w64 (by omega) (by omega)]
      by_cases c3 : 0 ≤ c.2.2.2.2.1 ∧ c.2.2.2.2.1 ≤ c.1 - 1 - c.2.2.2.2.2.1
      · rw [if_pos c3, w64 (by omega) (by omega)]
        by_cases c4 : 0 ≤ c.2.2.2.2.2.2 ∧ c.2.2.2.2.2.2 ≤ c.2.2.1.1 - c.2.1.1
        · rw [if_pos c4, if_pos (.inr (cellN_of hw hs (by omega) c3.1 c2.1 (by omega) c4.1 c4.2))]
        · rw [if_neg c4, if_neg (fun k => c4 ⟨(k.n h0).s0, (k.n h0).s1⟩)]
      · rw [if_neg c3, if_neg (fun k => c3 (by have := (k.n h0).r; have := (k.n h0).rg; omega))]
    · rw [if_neg c2, if_neg (fun k => c2 (by have := (k.n h0).r; have := (k.n h0).g; have := (k.n h0).rg; omega))]
  · rw [if_neg hs, if_neg (fun k => hs (CellN.spans (k.n h0)))]
theorem r08_check (n : Nat) {c : Cel} (hw : CelW c) : r08_Check (n + 4) c = some (if CellOk c then 0 else 2) := by
  rw [r08_Check_eq, evEq, celEq0, r07_check _ hw.f, r07_check _ hw.l]
  simp only [obind_some, tif_dec, tif_not]
  by_cases h0 : c = z0
  · rw [if_pos h0, if_pos (.inl h0)]
  rw [if_neg h0]
  have no : ∀ {p : Prop}, (CellN c → p) → ¬ p → (if CellOk c then (0 : Int) else 2) = 2 := fun h h' => if_neg (fun k => h' (h (k.n h0)))
  by_cases c1 : c.1 < 1
  · rw [if_pos c1, no (fun k => k.n1) (by omega)]
  rw [if_neg c1]
  by_cases c2 : EvOk c.2.1
  case neg => rw [if_neg c2, if_neg (by decide), no (fun k => k.f) c2]
  by_cases c3 : EvOk c.2.2.1
  case neg => rw [if_pos c2, if_pos rfl, if_neg c3, if_neg (by decide), no (fun k => k.l) c3]
  rw [if_pos c2, if_pos rfl, if_pos c3, if_pos rfl]
  have t0 := c2.t0; have t1 := c2.t1; have t2 := c3.t0; have t3 := c3.t1
  by_cases c4 : c.2.2.1.1 < c.2.1.1
  · rw [if_pos c4, no (fun k => k.ft) (by omega)]
  rw [if_neg c4, w64 (x := c.2.2.1.1 - c.2.1.1) (by omega) (by omega), w64 (x := c.2.2.1.1 - c.2.1.1 + 1) (by omega) (by omega)]
  by_cases c5 : c.2.2.1.1 - c.2.1.1 + 1 < c.1
  · rw [if_pos c5, no (fun k => k.n2) (by omega)]
  rw [if_neg c5]
  have hg := hw.g; have hr := hw.r; have hse := hw.s
  unfold I64 at hg hr hse
  have hmw : WdOk (mkW (18446744073709551615 * (c.1 - 1))) := mkW_ok (by omega) (by omega)
  rw [w64 (x := c.1 - 1) (by omega) (by omega), wu64 (by omega) (by omega), r01_times n (a := (0, 18446744073709551615)) ⟨by simp, by simp⟩ _ (by omega), times_most (by omega)]
  simp only [obind_some, r01_less (n + 1) hmw hw.w, wv_mkW, tif_dec]
  have tail : Spans c → (if c.2.2.2.2.1 < 0 then some (2 : Int) else if c.2.2.2.2.2.1 < 0 then some 2 else if c.2.2.2.2.2.2 < 0 then some 2 else if c.1 ≤ c.2.2.2.2.1 then some 2 else if c.1 ≤ c.2.2.2.2.2.1 then some 2
      else if c.1 ≤ IntKind.wrap .i64 (c.2.2.2.2.1 + c.2.2.2.2.2.1) then some 2 else if c.2.2.1.1 - c.2.1.1 < c.2.2.2.2.2.2 then some 2 else if 18446744073709551615 * (c.1 - 1) < wv c.2.2.2.1 then some 2 else some 0) = some (if CellOk c then 0 else 2) := by
    intro hs
    by_cases d1 : c.2.2.2.2.1 < 0
    · rw [if_pos d1, no (fun k => k.r) (by omega)]
    by_cases d2 : c.2.2.2.2.2.1 < 0
    · rw [if_neg d1, if_pos d2, no (fun k => k.g) (by omega)]
    by_cases d3 : c.2.2.2.2.2.2 < 0
    · rw [if_neg d1, if_neg d2, if_pos d3, no (fun k => k.s0) (by omega)]
    by_cases d4 : c.1 ≤ c.2.2.2.2.1
    · rw [if_neg d1, if_neg d2, if_neg d3, if_pos d4, no (fun k => k.rg) (by omega)]
    by_cases d5 : c.1 ≤ c.2.2.2.2.2.1
    · rw [if_neg d1, if_neg d2, if_neg d3, if_neg d4, if_pos d5, no (fun k => k.rg) (by omega)]
    rw [if_neg d1, if_neg d2, if_neg d3, if_neg d4, if_neg d5, w64 (x := c.2.2.2.2.1 + c.2.2.2.2.2.1) (by omega) (by omega)]
    by_cases d6 : c.1 ≤ c.2.2.2.2.1 + c.2.2.2.2.2.1
    · rw [if_pos d6, no (fun k => k.rg) (by omega)]
    by_cases d7 : c.2.2.1.1 - c.2.1.1 < c.2.2.2.2.2.2
    · rw [if_neg d6, if_pos d7, no (fun k => k.s1) (by omega)]
    by_cases d8 : 18446744073709551615 * (c.1 - 1) < wv c.2.2.2.1
    · rw [if_neg d6, if_neg d7, if_pos d8, no (fun k => k.inc) (by omega)]
    · rw [if_neg d6, if_neg d7, if_neg d8, if_pos (.inr (cellN_of hw hs (by omega) (by omega) (by omega) (by omega) (by omega) (by omega)))]
  by_cases c6 : c.1 = 1
  · rw [if_pos c6]
    by_cases c7 : c.2.1 = c.2.2.1
    · rw [if_pos c7, if_neg (show ¬ (1 < c.1) by omega)]
      exact tail (.inl ⟨c6, c7, c2⟩)
    · rw [if_neg c7, no (fun k => k.one c6) c7]
  · rw [if_neg c6]
    have c8 : 1 < c.1 := by omega
    rw [if_pos c8]
    by_cases c9 : c.2.1.1 = c.2.2.1.1
    · rw [if_pos c9, no (fun k => k.more c8) (by omega)]
    · rw [if_neg c9]
      exact tail (.inr ⟨c8, c2, c3, by omega, by omega⟩)
end Go.Proofs.YthjnbidgliejkaaGreat
