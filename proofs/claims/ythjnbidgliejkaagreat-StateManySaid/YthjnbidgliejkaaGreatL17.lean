/-
  The laws StateTells, StateNew and StateMany.
-/
import Derived.Test.YthjnbidgliejkaaGreatP17c
import Derived.Test.YthjnbidgliejkaaGreatPL17
namespace Go.Proofs.YthjnbidgliejkaaGreat
open Go.Flat Go.Plim
set_option linter.unusedVariables false
set_option linter.unusedSimpArgs false
theorem labs_len {l : List Lab} (hl : Wf (.slice tyLabel) l) : l.length ≤ 9223372036854775807 := by
  have h1 := hl.1
  simpa only [maxLen] using h1
/-- THE LAW StateTells -/
theorem stateTells_true (n : Nat) (s o : Sta) (l : List Lab) (i : Int) (hs : Wf tyState s) (ho : Wf tyState o) (hl : Wf (.slice tyLabel) l) : l17_StateTells (n + 41) s o l i = some true := by
  have hw := sta_wf hs
  have hw' := sta_wf ho
  have hsm := liveR_small s
  rw [l17_StateTells_eq]
  rcases l17_small (n + 37) hw with h | ⟨h, _⟩
  · rw [h, l17_lives_true n]; rfl
  rcases l17_small (n + 37) hw' with h1 | ⟨h1, _⟩
  · rw [h, h1, l17_lives_true n]; rfl
  rcases l05_small (n + 39) l (labs_len hl) with h2 | h2
  · rw [h, h1, h2, l17_lives_true n]; rfl
  simp only [h, h1, h2, l17_lives_true n, state_find (n + 30) hw l, r17_find (n + 33) hw l, state_room (n + 30) hw, r17_room (n + 33) hw, state_check (n + 26) hw, r17_check (n + 31) hw, state_live (n + 32) hw, r17_live (n + 33) hw, r06_same_refl (n + 39) (liveR s) (by omega), state_many (n + 31) hw, state_lives (n + 32) hw, r17_Lives_val (n + 33) hw, state_mark (n + 35) s, r17_Mark_val (n + 35) s, state_same (n + 35) hw o, r17_same (n + 36) hw o, obind_some, decide_true, tif_true, tif_false, beq_self_eq_true, show (decide ((1 : Int) = 0)) = false from rfl]
/-- THE LAW StateNew -/
theorem stateNew_true (n : Nat) (c : Conf) : l17_StateNew (n + 41) c = some true := by
  have hw := newSt_w c
  have tail : (obind (state_New (n + 40) c) fun r7 =>
      obind (r17_New (n + 40) c) fun r8 =>
      obind (l17_lives (n + 40)) fun r9 =>
      tif r9 (obind (r17_Same (n + 40) r7.1 r8.1) fun r10 =>
      tif r10 (tif (decide (r7.2 = r8.2)) (tif (!(decide (r7.2 = (0 : Int)))) (some true) (obind (state_Check (n + 40) r7.1) fun r11 =>
      tif (decide (r11 = (0 : Int))) (obind (state_Many (n + 40) r7.1) fun r12 => some (decide (r12 = (0 : Int)))) (some false))) (some false)) (some false)) (some false)) = some true := by
    simp only [state_new (n + 33) c, r17_new (n + 33) c, l17_lives_true n, obind_some, r17_same (n + 36) hw, decide_true, tif_true, tif_not, tif_dec, state_check (n + 26) hw, state_many (n + 31) hw]
    by_cases h : (newSt c).2 = 0
    · obtain ⟨h1, h2⟩ := newSt_ok h
      have e : (liveR (newSt c).1).length = 0 := by rw [liveR_len h1.whole, h2]; rfl
      rw [if_pos trivial, if_pos h, if_pos h1, if_pos rfl, e]; rfl
    · rw [if_pos trivial, if_neg h]
  rw [l17_StateNew_eq, l17_lives_true n]
  rw [l17_lives_true n] at tail
  rw [tail]
  simp only [obind_some, tif_same]
theorem many_l7 (n : Nat) {s : Sta} (hw : StaW s) (h : StaOk s) (l : List Lab) : ∀ (d k f : Nat), k + d = s.2.2.2.length → d < f →
    l17_StateMany_l7 (n + 10) f (l, s, (((List.range k).filter (lvAt s)).length : Int), s.2.2.2, (s.2.2.2.length : Int), (k : Int), ()) = some (.inl (l, s, ((liveV s).length : Int), ())) := by
  have hL := h.whole.len
  intro d
  induction d with
  | zero =>
    intro k f hk hf
    obtain ⟨f, rfl⟩ : ∃ g, f = g + 1 := ⟨f - 1, by omega⟩
    rw [l17_StateMany_l7_eq, decide_eq_false (by omega), tif_false]
    unfold liveV
    rw [show k = s.2.2.2.length by omega]
  | succ d ih =>
    intro k f hk hf
    obtain ⟨f, rfl⟩ : ∃ g, f = g + 1 := ⟨f - 1, by omega⟩
    obtain ⟨x, hx⟩ := el_get (l := s.2.2.2) (k := k) (by omega)
    have hb : livesB s (k : Int) = lvAt s k := by
      unfold livesB
      rw [Int.toNat_natCast]
      cases hl : lvAt s k
      · exact decide_eq_false (by rintro ⟨_, _, q⟩; cases q)
      · exact decide_eq_true ⟨h.whole, by omega, rfl⟩
    have hle := List.length_filter_le (lvAt s) (List.range k)
    rw [List.length_range] at hle
    rw [l17_StateMany_l7_eq, decide_eq_true (by omega), tif_true, at_el hx, obind_some, state_lives (n + 2) hw, obind_some, hb, tif_not, w64 (x := (k : Int) + 1) (by omega) (by omega), show ((k : Int) + 1) = ((k + 1 : Nat) : Int) by omega]
    have ih' := ih (k + 1) f (by omega) (by omega)
    rw [List.range_succ, List.filter_append, List.length_append] at ih'
    cases hl : lvAt s k
    · rw [tif_false]
      rw [List.filter_cons_of_neg (by simp [hl])] at ih'
      simpa using ih'
    · rw [tif_true, state_find n hw, obind_some]
      have hlv : LvX s x := by rw [lvAt_some hx] at hl; exact of_decide_eq_true hl
      have hf' : findR s x.1 = ((k : Int), 0) := by
        unfold findR; rw [if_pos h.whole, find_self h hx hlv]
      rw [hf']
      simp only [decide_true, Bool.not_true, tif_false]
      rw [w64 (by omega) (by omega)]
      rw [List.filter_cons_of_pos hl] at ih'
      simpa using ih'
/-- THE LAW StateMany -/
theorem stateMany_true (n : Nat) (s : Sta) (l : List Lab) (hs : Wf tyState s) (hl : Wf (.slice tyLabel) l) : l17_StateMany (n + 41) s l = some true := by
  have hw := sta_wf hs
  rw [l17_StateMany_eq, l17_lives_true n, obind_some, Bool.not_true, tif_false]
  rcases l17_small (n + 37) hw with h | ⟨h, _⟩
  · rw [h]; rfl
  rcases l05_small (n + 39) l (labs_len hl) with h2 | h2
  · rw [h, h2]; rfl
  rw [h, h2, state_check (n + 26) hw]
  simp only [obind_some, show (decide ((1 : Int) = 0)) = false from rfl, tif_false]
  by_cases hok : StaOk s
  case neg => rw [if_neg hok]; rfl
  rw [if_pos hok]
  have hw0 := hok.whole
  have e := many_l7 (n + 30) hw hok l s.2.2.2.length 0 loopFuel (by omega) (by have := hw0.len; unfold loopFuel; omega)
  have e' : l17_StateMany_l7 (n + 40) loopFuel (l, s, (0 : Int), s.2.2.2, (s.2.2.2.length : Int), (0 : Int), ()) = some (.inl (l, s, ((liveV s).length : Int), ())) := e
  rw [e']
  simp only [decide_true, Bool.not_true, tif_false, obind_some, selim_inl, state_room (n + 30) hw, state_lives (n + 32) hw, state_many (n + 31) hw, state_find (n + 30) hw, liveR_len hw0, tif_dec, tif_not]
  have tail : (if (findR s l).2 = 3 then (if (findR s l).1 = 0 then some true else if (findR s l).2 = 0 then some (livesB s (findR s l).1) else some false) else if (findR s l).2 = 0 then some (livesB s (findR s l).1) else some false) = some true := by
    unfold findR
    rw [if_pos hw0]
    cases hf : findV s l with
    | none => rfl
    | some i =>
      obtain ⟨x, hx, _, hlv, _⟩ := findV_some.1 hf
      have hb : livesB s (i : Int) = true := by
        unfold livesB
        rw [Int.toNat_natCast, lvAt_some hx]
        exact decide_eq_true ⟨hw0, by omega, decide_eq_true hlv⟩
      simp only
      rw [if_neg (by decide), if_pos trivial, hb]
  have hr := live_all (s := s)
  cases hrm : roomV s with
  | none =>
    have e1 := hr.2 hrm
    have er : roomR s = (0, 7) := by unfold roomR; rw [if_pos hw0, hrm]
    rw [er, e1]
    simp only [decide_true, BEq.rfl, tif_true]
    rw [if_neg (by decide), if_pos trivial]
    exact tail
  | some i =>
    have e1 : ¬ ((liveV s).length : Int) = (s.2.2.2.length : Int) := fun k => by
      have := hr.1 (by omega); rw [hrm] at this; cases this
    have er : roomR s = ((i : Int), 0) := by unfold roomR; rw [if_pos hw0, hrm]
    obtain ⟨x, hx, hnl, _⟩ := roomV_some.1 hrm
    have hb : livesB s (i : Int) = false := by
      unfold livesB
      rw [Int.toNat_natCast, lvAt_some hx]
      refine decide_eq_false fun k => hnl (of_decide_eq_true k.2.2)
    rw [er]
    simp only [decide_eq_false e1, show (decide ((0 : Int) = 7)) = false from rfl, BEq.rfl, tif_true, hb, tif_false]
    rw [if_pos trivial, if_pos trivial]
    exact tail
end Go.Proofs.YthjnbidgliejkaaGreat
