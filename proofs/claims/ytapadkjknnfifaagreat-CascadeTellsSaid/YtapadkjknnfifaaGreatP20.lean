/-
  Cascade: time goes by; what is sealed, and kept.
-/
import Derived.Test.YtapadkjknnfifaaGreatP17b
namespace Go.Proofs.YtapadkjknnfifaaGreat
open Go.Flat Go.Plim
set_option linter.unusedVariables false
set_option linter.unusedSimpArgs false
def Moves (s : Sta) (now : Int) : Prop := StaOk s ∧ s.2.1 < now ∧ now < 35184372088832
noncomputable instance (s now) : Decidable (Moves s now) := Classical.propDecidable _
def tickS (s : Sta) (now : Int) : Sta := (s.1, (now, s.2.2))
noncomputable def tickV (s : Sta) (now : Int) : Sta × Bool := if Moves s now then (tickS s now, true) else (s, false)
theorem cascade_tick (n : Nat) {s : Sta} (hw : StaW s) (now : Int) : cascade_Tick (n + 15) s now = some (tickV s now) := by
  rw [cascade_Tick_eq, state_check n hw]
  unfold tickV
  simp only [tif_dec, tif_not, obind_some]
  by_cases h : Moves s now
  · rw [if_neg (by have := h.2.1; omega), if_neg (by have := h.2.2; omega), if_pos h.1, if_pos rfl, if_pos h]; rfl
  · rw [if_neg h]
    by_cases h1 : now ≤ s.2.1
    · rw [if_pos h1]
    rw [if_neg h1]
    by_cases h2 : 35184372088832 ≤ now
    · rw [if_pos h2]
    rw [if_neg h2, if_neg (fun k : StaOk s => h ⟨k, by omega, by omega⟩)]; rfl
theorem r20_tick (n : Nat) {s : Sta} (hw : StaW s) (now : Int) : r20_Tick (n + 10) s now = some (tickV s now) := by
  rw [r20_Tick_eq, r17_check n hw]
  unfold tickV
  simp only [tif_dec, tif_not, obind_some]
  by_cases h : Moves s now
  · rw [if_pos h.1, if_pos rfl, if_neg (by have := h.2.1; omega), if_neg (by have := h.2.2; omega), if_pos h]; rfl
  · rw [if_neg h]
    by_cases h0 : StaOk s
    case neg => rw [if_neg h0]; rfl
    rw [if_pos h0, if_pos rfl]
    by_cases h1 : now ≤ s.2.1
    · rw [if_pos h1]
    rw [if_neg h1, if_pos]
    exact Decidable.byContradiction fun k => h ⟨h0, by omega, by omega⟩
theorem tickS_w {s : Sta} (hw : StaW s) (now : Int) : StaW (tickS s now) := ⟨hw.len, hw.ser⟩
theorem tickV_w {s : Sta} (hw : StaW s) (now : Int) : StaW (tickV s now).1 := by
  unfold tickV; split
  · exact tickS_w hw now
  · exact hw
theorem tick_ok {s : Sta} {now : Int} (h : Moves s now) : StaOk (tickS s now) := by
  obtain ⟨h, h1, h2⟩ := h
  have t0 := h.clock.1.1
  have hr := h.whole.1.rng.w0
  refine ⟨h.whole, ⟨⟨by show 0 ≤ now; omega, h2⟩, h.clock.2.1, by have := h.clock.2.2; show s.2.2.1 ≤ now; omega⟩, fun i x hx => ?_⟩
  rcases h.right i x hx with k | ⟨k1, k2, k3, k4⟩
  · exact .inl k
  · refine .inr ⟨k1, k2, ?_, k4⟩
    have : mk s ≤ mk (tickS s now) := Int.mul_le_mul_of_nonneg_right (Int.ediv_le_ediv (by omega) (by show s.2.1 ≤ now; omega)) (by omega)
    show x.2.1 < mk (tickS s now) + s.1.2.1.1
    omega
/-! ### kept -/
def tierW (c : Conf) (k : Int) : Int := if k = 0 then c.2.1.1 else if k = 1 then c.2.1.2.1 else c.2.1.2.2
def tierN (c : Conf) (k : Int) : Int := if k = 0 then c.2.2.1.1 else if k = 1 then c.2.2.1.2.1 else c.2.2.1.2.2
noncomputable def keptV (s : Sta) (k : Int) : Int × (Int × Int) :=
  if StaOk s then (if k < 0 ∨ 2 < k then (0, (0, 1)) else ((oldV s.2.1 (tierW s.1 k) (tierN s.1 k)).1, (s.2.1 / tierW s.1 k, 0))) else (0, (0, 2))
theorem old_none {now w m : Int} (h : OfP now w) (hm : 1 ≤ m ∧ m ≤ 4096) : (oldV now w m).2 = 0 := by
  unfold oldV; rw [if_pos ⟨h, hm.1, hm.2⟩]
theorem cascade_kept (n : Nat) {s : Sta} (hw : StaW s) (k : Int) : cascade_Kept (n + 16) s k = some (keptV s k) := by
  rw [cascade_Kept_eq, cascade_tiers_eq, state_check n hw]
  unfold keptV
  by_cases h : StaOk s
  case neg => rw [if_neg h, if_neg h]; rfl
  rw [if_pos h, if_pos h]
  have hr := h.whole.1.rng
  have ht := h.clock.1
  simp only [obind_some, decide_true, Bool.not_true, tif_false, tif_dec, tif_not, window_oldest (n + 11)]
  by_cases h1 : k < 0
  · rw [if_pos h1, if_pos (Or.inl h1)]; rfl
  rw [if_neg h1]
  by_cases h2 : 3 ≤ k
  · rw [if_pos h2, if_pos (show k < 0 ∨ 2 < k by omega)]; rfl
  rw [if_neg h2, if_neg (show ¬ (k < 0 ∨ 2 < k) by omega)]
  simp only [obind_some, if_true]
  have q0 := quo_at ht hr.w0.1; have q1 := quo_at ht hr.w1.1; have q2 := quo_at ht hr.w2.1
  rcases (by omega : k = 0 ∨ k = 1 ∨ k = 2) with e | e | e
  · subst e
    simp only [if_true, if_neg (nz hr.w0.1), q0, old_none ⟨ht.1, ht.2, hr.w0.1, hr.w0.2⟩ hr.n0]; rfl
  · subst e
    simp only [if_true, if_neg (show ¬ ((1 : Int) = 0) by decide), if_neg (nz hr.w1.1), q1, old_none ⟨ht.1, ht.2, hr.w1.1, hr.w1.2⟩ hr.n1]; rfl
  · subst e
    simp only [if_true, if_neg (show ¬ ((2 : Int) = 0) by decide), if_neg (show ¬ ((2 : Int) = 1) by decide), if_neg (nz hr.w2.1), q2, old_none ⟨ht.1, ht.2, hr.w2.1, hr.w2.2⟩ hr.n2]; rfl
theorem of_val {now w : Int} (h : OfP now w) : (if OfP now w then (now / w, (0 : Int)) else (0, 1)) = (now / w, 0) := if_pos h
theorem r20_kept (n : Nat) {s : Sta} (hw : StaW s) (k : Int) : r20_Kept (n + 10) s k = some (keptV s k) := by
  rw [r20_Kept_eq, r17_check n hw]
  unfold keptV
  by_cases h : StaOk s
  case neg => rw [if_neg h, if_neg h]; rfl
  rw [if_pos h, if_pos h]
  have hr := h.whole.1.rng
  have ht := h.clock.1
  simp only [obind_some, decide_true, Bool.not_true, tif_false, tif_dec, tif_not, if_true, r09_oldest (n + 6), r09_of (n + 7)]
  by_cases h1 : k < 0
  · rw [if_pos h1, if_pos (show k < 0 ∨ 2 < k from .inl h1)]
  rw [if_neg h1]
  by_cases h2 : 2 < k
  · rw [if_pos h2, if_pos (show k < 0 ∨ 2 < k from .inr h2)]
  rw [if_neg h2, if_neg (show ¬ (k < 0 ∨ 2 < k) by omega)]
  have q0 := of_val (now := s.2.1) ⟨ht.1, ht.2, hr.w0.1, hr.w0.2⟩; have q1 := of_val (now := s.2.1) ⟨ht.1, ht.2, hr.w1.1, hr.w1.2⟩; have q2 := of_val (now := s.2.1) ⟨ht.1, ht.2, hr.w2.1, hr.w2.2⟩
  rcases (by omega : k = 0 ∨ k = 1 ∨ k = 2) with e | e | e
  · subst e; simp only [if_true, q0]; rfl
  · subst e; simp only [if_true, if_neg (show ¬ ((1 : Int) = 0) by decide), q1]; rfl
  · subst e; simp only [if_true, if_neg (show ¬ ((2 : Int) = 0) by decide), if_neg (show ¬ ((2 : Int) = 1) by decide), q2]; rfl
theorem cascade_sealed (n : Nat) {s : Sta} (hw : StaW s) (k : Int) : cascade_Sealed (n + 17) s k = some (keptV s k).2 := by
  rw [cascade_Sealed_eq, cascade_kept n hw]; rfl
theorem r20_sealed (n : Nat) {s : Sta} (hw : StaW s) (k : Int) : r20_Sealed (n + 11) s k = some (keptV s k).2 := by
  rw [r20_Sealed_eq, r20_kept n hw]; rfl
/-! ### steps -/
noncomputable def stepsV (s : Sta) (now : Int) : Int × (Int × Int) :=
  if Moves s now then (now / s.1.2.1.1 - s.2.1 / s.1.2.1.1, (now / s.1.2.1.2.1 - s.2.1 / s.1.2.1.2.1, now / s.1.2.1.2.2 - s.2.1 / s.1.2.1.2.2)) else (0, (0, 0))
theorem quo_sub {a b w : Int} (ha : 0 ≤ a ∧ a < 35184372088832) (hb : 0 ≤ b ∧ b < 35184372088832) (hw : 1 ≤ w) : IntKind.wrap .i64 (a / w - b / w) = a / w - b / w := by
  have a0 : 0 ≤ a / w := Int.ediv_nonneg ha.1 (by omega)
  have a1 : a / w ≤ a := Int.ediv_le_self _ ha.1
  have b0 : 0 ≤ b / w := Int.ediv_nonneg hb.1 (by omega)
  have b1 : b / w ≤ b := Int.ediv_le_self _ hb.1
  exact w64 (by omega) (by omega)
theorem cascade_steps_l5 (n : Nat) {s t : Sta} (w : Int × (Int × Int)) (hs : TimeP s.2.1) (ht : TimeP t.2.1) (h0 : 1 ≤ w.1) (h1 : 1 ≤ w.2.1) (h2 : 1 ≤ w.2.2) (z : Int × (Int × Int)) (f : Nat) :
    cascade_Steps_l5 n (f + 4) (s, z, (0, (0, 0)), t, w, (0 : Int), ()) = some (.inl (z, ((t.2.1 / w.1 - s.2.1 / w.1, (t.2.1 / w.2.1 - s.2.1 / w.2.1, t.2.1 / w.2.2 - s.2.1 / w.2.2)), ()))) := by
  rw [cascade_Steps_l5_eq]
  simp only [show (decide ((0 : Int) < 3)) = true from rfl, tif_true, decide_true, tif_dec, if_true, if_neg (nz h0), quo_at hs h0, quo_at ht h0, quo_sub ht hs h0, show IntKind.wrap .i64 ((0 : Int) + 1) = 1 from rfl]
  rw [cascade_Steps_l5_eq]
  simp only [show (decide ((1 : Int) < 3)) = true from rfl, tif_true, decide_true, tif_dec, if_true, if_neg (show ¬ ((1 : Int) = 0) by decide), if_neg (nz h1), quo_at hs h1, quo_at ht h1, quo_sub ht hs h1, show IntKind.wrap .i64 ((1 : Int) + 1) = 2 from rfl]
  rw [cascade_Steps_l5_eq]
  simp only [show (decide ((2 : Int) < 3)) = true from rfl, tif_true, decide_true, tif_dec, if_true, if_neg (show ¬ ((2 : Int) = 0) by decide), if_neg (show ¬ ((2 : Int) = 1) by decide), if_neg (nz h2), quo_at hs h2, quo_at ht h2, quo_sub ht hs h2, show IntKind.wrap .i64 ((2 : Int) + 1) = 3 from rfl]
  rw [cascade_Steps_l5_eq, show (decide ((3 : Int) < 3)) = false from rfl, tif_false]
theorem cascade_steps (n : Nat) {s : Sta} (hw : StaW s) (now : Int) : cascade_Steps (n + 16) s now = some (stepsV s now) := by
  rw [cascade_Steps_eq, cascade_tick n hw, obind_some]
  unfold stepsV tickV
  by_cases h : Moves s now
  case neg => rw [if_neg h, if_neg h]; rfl
  rw [if_pos h, if_pos h, tif_true]
  have hr := h.1.whole.1.rng
  have ht := h.1.clock.1
  have hn : TimeP now := ⟨by have := ht.1; have := h.2.1; omega, h.2.2⟩
  have e := cascade_steps_l5 (n + 15) (s := s) (t := tickS s now) s.1.2.1 ht hn hr.w0.1 hr.w1.1 hr.w2.1 (0, (0, 0)) (2 ^ 70 - 4)
  rw [show 2 ^ 70 - 4 + 4 = loopFuel from by decide] at e
  rw [e]; rfl
theorem kept_sealed {s : Sta} (h : StaOk s) {k : Int} (h0 : 0 ≤ k) (h2 : k ≤ 2) : (keptV s k).2.1 = s.2.1 / tierW s.1 k := by
  unfold keptV; rw [if_pos h, if_neg (by omega)]
theorem r20_steps_l6 (n : Nat) {s t : Sta} (ws : StaW s) (wt : StaW t) (hs : StaOk s) (ht : StaOk t) (hc : t.1 = s.1) (z : Int × (Int × Int)) (f : Nat) :
    r20_Steps_l6 (n + 11) (f + 4) (s, z, (0, (0, 0)), t, (0 : Int), ()) = some (.inl (z, ((t.2.1 / s.1.2.1.1 - s.2.1 / s.1.2.1.1, (t.2.1 / s.1.2.1.2.1 - s.2.1 / s.1.2.1.2.1, t.2.1 / s.1.2.1.2.2 - s.2.1 / s.1.2.1.2.2)), ()))) := by
  have hr := hs.whole.1.rng
  have a0 := hs.clock.1; have b0 := ht.clock.1
  have e : ∀ {u : Sta} (wu : StaW u) (hu : StaOk u) (k : Int), 0 ≤ k → k ≤ 2 → ∃ v, r20_Sealed (n + 11) u k = some (u.2.1 / tierW u.1 k, v) := fun wu hu k h1 h2 => ⟨_, by rw [r20_sealed n wu, ← kept_sealed hu h1 h2]⟩
  obtain ⟨_, s0⟩ := e ws hs 0 (by decide) (by decide); obtain ⟨_, s1⟩ := e ws hs 1 (by decide) (by decide); obtain ⟨_, s2⟩ := e ws hs 2 (by decide) (by decide)
  obtain ⟨_, t0⟩ := e wt ht 0 (by decide) (by decide); obtain ⟨_, t1⟩ := e wt ht 1 (by decide) (by decide); obtain ⟨_, t2⟩ := e wt ht 2 (by decide) (by decide)
  rw [hc] at t0 t1 t2
  rw [r20_Steps_l6_eq, s0, t0]
  simp only [show (decide ((0 : Int) < 3)) = true from rfl, tif_true, decide_true, obind_some, tif_dec, if_true, show tierW s.1 0 = s.1.2.1.1 from rfl, quo_sub b0 a0 hr.w0.1, show IntKind.wrap .i64 ((0 : Int) + 1) = 1 from rfl]
  rw [r20_Steps_l6_eq, s1, t1]
  simp only [show (decide ((1 : Int) < 3)) = true from rfl, tif_true, decide_true, obind_some, tif_dec, if_true, if_neg (show ¬ ((1 : Int) = 0) by decide), show tierW s.1 1 = s.1.2.1.2.1 from rfl, quo_sub b0 a0 hr.w1.1, show IntKind.wrap .i64 ((1 : Int) + 1) = 2 from rfl]
  rw [r20_Steps_l6_eq, s2, t2]
  simp only [show (decide ((2 : Int) < 3)) = true from rfl, tif_true, decide_true, obind_some, tif_dec, if_true, if_neg (show ¬ ((2 : Int) = 0) by decide), if_neg (show ¬ ((2 : Int) = 1) by decide), show tierW s.1 2 = s.1.2.1.2.2 from rfl, quo_sub b0 a0 hr.w2.1, show IntKind.wrap .i64 ((2 : Int) + 1) = 3 from rfl]
  rw [r20_Steps_l6_eq, show (decide ((3 : Int) < 3)) = false from rfl, tif_false]
theorem r20_steps (n : Nat) {s : Sta} (hw : StaW s) (now : Int) : r20_Steps (n + 12) s now = some (stepsV s now) := by
  rw [r20_Steps_eq, r20_tick (n + 1) hw, obind_some]
  unfold stepsV tickV
  by_cases h : Moves s now
  case neg => rw [if_neg h, if_neg h]; rfl
  rw [if_pos h, if_pos h, Bool.not_true, tif_false]
  have e := r20_steps_l6 n hw (tickS_w hw now) h.1 (tick_ok h) rfl (0, (0, 0)) (2 ^ 70 - 4)
  rw [show 2 ^ 70 - 4 + 4 = loopFuel from by decide] at e
  rw [e]; rfl
end Go.Proofs.YtapadkjknnfifaaGreat
