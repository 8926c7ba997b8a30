/-
  The library's stable sort of slots, third part: the whole of it; what is not zero, in order.
-/
import Derived.Test.YthjnbidgliejkaaGreatPSort2
namespace Go.Proofs.YthjnbidgliejkaaGreat
open Go.Flat Go.Plim
set_option linter.unusedVariables false
set_option linter.unusedSimpArgs false
/-- runs of so many are in order -/
def Runs (key : TSlot → Int) (d : List TSlot) (B N : Nat) : Prop := ∀ c, B ∣ c → Srt key d c (min (c + B) N)
theorem dvd_step {B a c : Nat} (ha : B ∣ a) (hc : B ∣ c) (h : a < c) : a + B ≤ c := by
  obtain ⟨x, rfl⟩ := ha
  obtain ⟨y, rfl⟩ := hc
  have : x < y := Nat.lt_of_mul_lt_mul_left h
  calc B * x + B = B * (x + 1) := by rw [Nat.mul_succ]
    _ ≤ B * y := Nat.mul_le_mul_left B this
section
variable {cmp : (TSlot × (TSlot × Unit)) → Option Int} {key : TSlot → Int} (hc : Cmp cmp key)
include hc
theorem stable_l2 (n : Nat) (N : Nat) (n_ : Int) (hn : n_ = N) : ∀ (k f a : Nat) (d : List TSlot), N - a ≤ k → k < f → 20 ∣ a → a ≤ N → N = d.length → d.length ≤ 100000000000 → (∀ c, 20 ∣ c → c < a → Srt key d c (min (c + 20) N)) →
    ∃ d' a', slices_stableCmpFunc_Slot_l2 (n + 1) f (d, n_, cmp, (20 : Int), (a : Int), ((a + 20 : Nat) : Int), ()) = some (.inl (d', n_, cmp, (20 : Int), ((a' : Nat) : Int), ())) ∧ 20 ∣ a' ∧ a' ≤ N ∧ N < a' + 20 ∧ Mv d d' 0 N ∧
      (∀ c, 20 ∣ c → c < a' → Srt key d' c (min (c + 20) N)) := by
  subst hn
  intro k
  induction k with
  | zero =>
    intro f a d hk hf h20 haN hN hL hs
    obtain ⟨f, rfl⟩ : ∃ g, f = g + 1 := ⟨f - 1, by omega⟩
    rw [slices_stableCmpFunc_Slot_l2_eq]
    simp only [tif_dec, if_neg (show ¬ (((a + 20 : Nat) : Int) ≤ (N : Int)) by omega)]
    exact ⟨d, a, rfl, h20, haN, by omega, .refl _ _ _, hs⟩
  | succ k ih =>
    intro f a d hk hf h20 haN hN hL hs
    obtain ⟨f, rfl⟩ : ∃ g, f = g + 1 := ⟨f - 1, by omega⟩
    rw [slices_stableCmpFunc_Slot_l2_eq]
    by_cases hle : a + 20 ≤ N
    · obtain ⟨d1, r1, r2, r3⟩ := ins_ok hc n (a : Int) ((a + 20 : Nat) : Int) a (a + 20) rfl rfl d (by omega) (by omega) (by omega)
      have l1 := r2.len
      simp only [tif_dec, if_pos (show (((a + 20 : Nat) : Int) ≤ (N : Int)) by omega), r1, obind_some]
      rw [wn (x := ((a + 20 : Nat) : Int) + 20) (k := a + 20 + 20) (by omega) (by omega)]
      obtain ⟨d', a', s1, s2, s3, s4, s5, s6⟩ := ih f (a + 20) d1 (by omega) (by omega) (by omega) (by omega) (by omega) (by omega) (fun c c1 c2 => by
        by_cases e : c < a
        · have := dvd_step c1 h20 e
          exact (hs c c1 e).keep r2 (.inl (by omega))
        · have : c = a := by
            rcases Nat.lt_or_eq_of_le (Nat.le_of_not_lt e) with h | h
            · have := dvd_step h20 c1 h; omega
            · exact h.symm
          subst this
          rw [Nat.min_eq_left (by omega)]
          exact r3)
      exact ⟨d', a', s1, s2, s3, s4, (r2.mono (by omega) (by omega)).trans s5, s6⟩
    · simp only [tif_dec, if_neg (show ¬ (((a + 20 : Nat) : Int) ≤ (N : Int)) by omega)]
      exact ⟨d, a, rfl, h20, haN, by omega, .refl _ _ _, hs⟩
theorem stable_l9 (n dd : Nat) (N B : Nat) (n_ : Int) (hn : n_ = N) (hB : 0 < B) (hBN : B < N) (hdd : N ≤ 2 ^ dd) : ∀ (k f a : Nat) (d : List TSlot), N - a ≤ k → k < f → 2 * B ∣ a → a ≤ N → N = d.length → d.length ≤ 100000000000 →
      (∀ c, 2 * B ∣ c → c < a → Srt key d c (min (c + 2 * B) N)) → (∀ c, B ∣ c → a ≤ c → Srt key d c (min (c + B) N)) →
    ∃ d' a', slices_stableCmpFunc_Slot_l9 (n + dd + 2) f (d, n_, cmp, (B : Int), (a : Int), ((a + 2 * B : Nat) : Int), ()) = some (.inl (d', n_, cmp, (B : Int), ((a' : Nat) : Int), ())) ∧ 2 * B ∣ a' ∧ a' ≤ N ∧ N < a' + 2 * B ∧ Mv d d' 0 N ∧
      (∀ c, 2 * B ∣ c → c < a' → Srt key d' c (min (c + 2 * B) N)) ∧ (∀ c, B ∣ c → a' ≤ c → Srt key d' c (min (c + B) N)) := by
  subst hn
  have dB : B ∣ 2 * B := ⟨2, by omega⟩
  intro k
  induction k with
  | zero =>
    intro f a d hk hf h20 haN hN hL hs hs'
    obtain ⟨f, rfl⟩ : ∃ g, f = g + 1 := ⟨f - 1, by omega⟩
    rw [slices_stableCmpFunc_Slot_l9_eq]
    simp only [tif_dec, if_neg (show ¬ (((a + 2 * B : Nat) : Int) ≤ (N : Int)) by omega)]
    exact ⟨d, a, rfl, h20, haN, by omega, .refl _ _ _, hs, hs'⟩
  | succ k ih =>
    intro f a d hk hf h20 haN hN hL hs hs'
    obtain ⟨f, rfl⟩ : ∃ g, f = g + 1 := ⟨f - 1, by omega⟩
    rw [slices_stableCmpFunc_Slot_l9_eq]
    by_cases hle : a + 2 * B ≤ N
    · have ba : B ∣ a := Nat.dvd_trans dB h20
      have q1 := hs' a ba (Nat.le_refl _)
      have q2 := hs' (a + B) (Nat.dvd_add ba (Nat.dvd_refl _)) (by omega)
      rw [Nat.min_eq_left (by omega)] at q1 q2
      rw [wn (x := (a : Int) + B) (k := a + B) (by omega) (by omega)]
      obtain ⟨d1, r1, r2, r3⟩ := symMerge_ok hc dd n (a : Int) ((a + B : Nat) : Int) ((a + 2 * B : Nat) : Int) a (a + B) (a + 2 * B) d rfl rfl rfl (by omega) (by omega) (by omega) (by omega) (by omega) q1 (q2.mono (by omega) (by omega))
      have l1 := r2.len
      simp only [tif_dec, if_pos (show (((a + 2 * B : Nat) : Int) ≤ (N : Int)) by omega), r1, obind_some]
      rw [wn (x := 2 * (B : Int)) (k := 2 * B) (by omega) (by omega), wn (x := ((a + 2 * B : Nat) : Int) + ((2 * B : Nat) : Int)) (k := a + 2 * B + 2 * B) (by omega) (by omega)]
      obtain ⟨d', a', s1, s2, s3, s4, s5, s6, s7⟩ := ih f (a + 2 * B) d1 (by omega) (by omega) (Nat.dvd_add h20 (Nat.dvd_refl _)) (by omega) (by omega) (by omega) (fun c c1 c2 => by
        by_cases e : c < a
        · have := dvd_step c1 h20 e
          exact (hs c c1 e).keep r2 (.inl (by omega))
        · have : c = a := by
            rcases Nat.lt_or_eq_of_le (Nat.le_of_not_lt e) with h | h
            · have := dvd_step h20 c1 h; omega
            · exact h.symm
          subst this
          rw [Nat.min_eq_left (by omega)]
          exact r3)
        (fun c c1 c2 => (hs' c c1 (by omega)).keep r2 (.inr (by omega)))
      exact ⟨d', a', s1, s2, s3, s4, (r2.mono (by omega) (by omega)).trans s5, s6, s7⟩
    · simp only [tif_dec, if_neg (show ¬ (((a + 2 * B : Nat) : Int) ≤ (N : Int)) by omega)]
      exact ⟨d, a, rfl, h20, haN, by omega, .refl _ _ _, hs, hs'⟩
theorem stable_l7 (n dd : Nat) (N : Nat) (n_ : Int) (hn : n_ = N) (hdd : N ≤ 2 ^ dd) : ∀ (k f B : Nat) (d : List TSlot), N - B ≤ k → k < f → 0 < B → B ≤ 200000000000 → N = d.length → d.length ≤ 100000000000 → Runs key d B N →
    ∃ d', slices_stableCmpFunc_Slot_l7 (n + dd + 2) f (d, n_, cmp, (B : Int), ()) = some (.inl (d', ())) ∧ Mv d d' 0 N ∧ Srt key d' 0 N := by
  subst hn
  intro k
  induction k with
  | zero =>
    intro f B d hk hf hB hBl hN hL hs
    obtain ⟨f, rfl⟩ : ∃ g, f = g + 1 := ⟨f - 1, by omega⟩
    rw [slices_stableCmpFunc_Slot_l7_eq]
    simp only [tif_dec, if_neg (show ¬ ((B : Int) < (N : Int)) by omega)]
    have := hs 0 (Nat.dvd_zero _)
    rw [Nat.min_eq_right (by omega)] at this
    exact ⟨d, rfl, .refl _ _ _, this⟩
  | succ k ih =>
    intro f B d hk hf hB hBl hN hL hs
    obtain ⟨f, rfl⟩ : ∃ g, f = g + 1 := ⟨f - 1, by omega⟩
    rw [slices_stableCmpFunc_Slot_l7_eq]
    by_cases hlt : B < N
    · obtain ⟨d1, a, r1, r2, r3, r4, r5, r6, r7⟩ := stable_l9 hc n dd N B (N : Int) rfl hB hlt hdd N loopFuel 0 d (by omega) (by unfold loopFuel; omega) (Nat.dvd_zero _) (by omega) hN hL (fun c _ h => by omega) (fun c h _ => hs c h)
      have l1 := r5.len
      rw [Nat.zero_add] at r1
      simp only [tif_dec, if_pos (show ((B : Int) < (N : Int)) by omega), wn (x := 2 * (B : Int)) (k := 2 * B) (by omega) (by omega)]
      rw [show ((0 : Int)) = ((0 : Nat) : Int) from rfl, r1]
      simp only [obind_some, selim_inl, wn (x := (a : Int) + B) (k := a + B) (by omega) (by omega), wn (x := (B : Int) * 2) (k := 2 * B) (by omega) (by omega)]
      have dB : B ∣ 2 * B := ⟨2, by omega⟩
      have ba : B ∣ a := Nat.dvd_trans dB r2
      by_cases hm : a + B < N
      · have q1 := r7 a ba (Nat.le_refl _)
        have q2 := r7 (a + B) (Nat.dvd_add ba (Nat.dvd_refl _)) (by omega)
        rw [Nat.min_eq_left (by omega)] at q1
        rw [Nat.min_eq_right (by omega)] at q2
        obtain ⟨d2, t1, t2, t3⟩ := symMerge_ok hc dd n (a : Int) ((a + B : Nat) : Int) (N : Int) a (a + B) N d1 rfl rfl rfl (by omega) (by omega) (by omega) (by omega) (by omega) q1 q2
        have l2 := t2.len
        simp only [if_pos (show (((a + B : Nat) : Int) < (N : Int)) by omega), t1, obind_some]
        obtain ⟨d3, u1, u2, u3⟩ := ih f (2 * B) d2 (by omega) (by omega) (by omega) (by omega) (by omega) (by omega) (fun c hcd => by
          by_cases e : c < a
          · have := dvd_step hcd r2 e
            exact (r6 c hcd e).keep t2 (.inl (by omega))
          · by_cases e' : c = a
            · subst e'
              exact t3.mono (Nat.le_refl _) (by omega)
            · have := dvd_step r2 hcd (by omega)
              exact Srt.one _ _ (by omega))
        exact ⟨d3, u1, (r5.trans (t2.mono (by omega) (by omega))).trans u2, u3⟩
      · simp only [if_neg (show ¬ (((a + B : Nat) : Int) < (N : Int)) by omega)]
        obtain ⟨d3, u1, u2, u3⟩ := ih f (2 * B) d1 (by omega) (by omega) (by omega) (by omega) (by omega) (by omega) (fun c hcd => by
          by_cases e : c < a
          · exact r6 c hcd e
          · by_cases e' : c = a
            · subst e'
              have q1 := r7 c ba (Nat.le_refl _)
              exact q1.mono (Nat.le_refl _) (by omega)
            · have := dvd_step r2 hcd (by omega)
              exact Srt.one _ _ (by omega))
        exact ⟨d3, u1, r5.trans u2, u3⟩
    · simp only [tif_dec, if_neg (show ¬ ((B : Int) < (N : Int)) by omega)]
      have := hs 0 (Nat.dvd_zero _)
      rw [Nat.min_eq_right (by omega)] at this
      exact ⟨d, rfl, .refl _ _ _, this⟩
theorem sortStable_ok (n dd : Nat) (d : List TSlot) (hL : d.length ≤ 2 ^ dd) (hL' : d.length ≤ 100000000000) :
    ∃ d', slices_SortStableFunc_Slot (n + dd + 4) d cmp = some d' ∧ d'.Perm d ∧ Srt key d' 0 d.length := by
  rw [slices_SortStableFunc_Slot_eq, slices_stableCmpFunc_Slot_eq]
  obtain ⟨d1, a, r1, r2, r3, r4, r5, r6⟩ := stable_l2 hc (n + dd + 1) d.length (d.length : Int) rfl d.length loopFuel 0 d (by omega) (by unfold loopFuel; omega) (Nat.dvd_zero _) (by omega) rfl hL' (fun c _ h => by omega)
  have l1 := r5.len
  obtain ⟨d2, s1, s2, s3⟩ := ins_ok hc (n + dd + 1) (a : Int) (d.length : Int) a d.length rfl rfl d1 r3 (by omega) (by omega)
  have l2 := s2.len
  obtain ⟨d3, t1, t2, t3⟩ := stable_l7 hc n dd d.length (d.length : Int) rfl hL d.length loopFuel 20 d2 (by omega) (by unfold loopFuel; omega) (by omega) (by omega) (by omega) (by omega) (fun c hcd => by
    by_cases e : c < a
    · have := dvd_step hcd r2 e
      exact (r6 c hcd e).keep s2 (.inl (by omega))
    · by_cases e' : c = a
      · subst e'
        exact s3.mono (Nat.le_refl _) (by omega)
      · have := dvd_step r2 hcd (by omega)
        exact Srt.one _ _ (by omega))
  have r1' : slices_stableCmpFunc_Slot_l2 (n + dd + 2) loopFuel (d, ((d.length : Nat) : Int), cmp, (20 : Int), (0 : Int), (20 : Int), ()) = _ := r1
  rw [r1']
  simp only [obind_some, selim_inl, s1]
  have t1' : slices_stableCmpFunc_Slot_l7 (n + dd + 2) loopFuel (d2, ((d.length : Nat) : Int), cmp, (20 : Int), ()) = _ := t1
  rw [t1']
  exact ⟨d3, by simp, (t2.perm.trans s2.perm).trans r5.perm, t3⟩
end
end Go.Proofs.YthjnbidgliejkaaGreat
