/-
  Events and cells: what the program and the document make of them, as plain functions.
-/
import Derived.Test.YthjnbidgliejkaaGreatP01
namespace Go.Proofs.YthjnbidgliejkaaGreat
open Go.Flat Go.Plim
set_option linter.unusedVariables false
set_option linter.unusedSimpArgs false
theorem at_mid {α : Type} {l pre rest : List α} {x : α} {i : Int} (h : l = pre ++ x :: rest) (hi : i = pre.length) : at? l i = some x := by
  subst h hi; simp [at?]
theorem idx {α : Type} {l pre rest : List α} {x : α} {i len : Int} (h : l = pre ++ x :: rest) (hi : i = pre.length) (hn : len = l.length) : i < len := by
  have := congrArg List.length h
  simp at this
  omega
theorem idxe {α : Type} {l pre : List α} {i len : Int} (h : l = pre ++ []) (hi : i = pre.length) (hn : len = l.length) : ¬ (i < len) := by
  have := congrArg List.length h
  simp at this
  omega
theorem idxw {α : Type} {l pre rest : List α} {x : α} {i : Int} (h : l = pre ++ x :: rest) (hi : i = pre.length) (hL : l.length ≤ 1000000000000) : IntKind.wrap .i64 (i + 1) = i + 1 := by
  have := congrArg List.length h
  simp at this
  rw [w64 (by omega) (by omega)]
theorem idxs {α : Type} {pre : List α} {x : α} {i : Int} (hi : i = pre.length) : i + 1 = ((pre ++ [x]).length : Int) := by simp; omega
theorem idxl {α : Type} {l pre rest : List α} {x : α} (h : l = pre ++ x :: rest) : l = (pre ++ [x]) ++ rest := by rw [h]; simp
/-! ### equal, field by field -/
theorem evEq (a b : Ev) : ((decide (a.1 = b.1)) && ((decide (a.2.1 = b.2.1)) && ((decide (a.2.2.1 = b.2.2.1)) && (a.2.2.2 == b.2.2.2)))) = decide (a = b) := by
  rw [Bool.eq_iff_iff]; simp [Prod.ext_iff]
theorem celEq (a b : Cel) : ((decide (a.1 = b.1)) && ((decide (a.2.1.1 = b.2.1.1)) && ((decide (a.2.1.2.1 = b.2.1.2.1)) && ((decide (a.2.1.2.2.1 = b.2.1.2.2.1)) && ((a.2.1.2.2.2 == b.2.1.2.2.2) && ((decide (a.2.2.1.1 = b.2.2.1.1)) && ((decide (a.2.2.1.2.1 = b.2.2.1.2.1)) && ((decide (a.2.2.1.2.2.1 = b.2.2.1.2.2.1)) && ((a.2.2.1.2.2.2 == b.2.2.1.2.2.2) && ((decide (a.2.2.2.1.1 = b.2.2.2.1.1)) && ((decide (a.2.2.2.1.2 = b.2.2.2.1.2)) && ((decide (a.2.2.2.2.1 = b.2.2.2.2.1)) && ((decide (a.2.2.2.2.2.1 = b.2.2.2.2.2.1)) && (decide (a.2.2.2.2.2.2 = b.2.2.2.2.2.2))))))))))))))) = decide (a = b) := by
  rw [Bool.eq_iff_iff]; simp [Prod.ext_iff]; grind
theorem celEq0 (a : Cel) : ((decide (a.1 = (0 : Int))) && ((decide (a.2.1.1 = (0 : Int))) && ((decide (a.2.1.2.1 = (0 : Int))) && ((decide (a.2.1.2.2.1 = (0 : Int))) && ((a.2.1.2.2.2 == false) && ((decide (a.2.2.1.1 = (0 : Int))) && ((decide (a.2.2.1.2.1 = (0 : Int))) && ((decide (a.2.2.1.2.2.1 = (0 : Int))) && ((a.2.2.1.2.2.2 == false) && ((decide (a.2.2.2.1.1 = (0 : Int))) && ((decide (a.2.2.2.1.2 = (0 : Int))) && ((decide (a.2.2.2.2.1 = (0 : Int))) && ((decide (a.2.2.2.2.2.1 = (0 : Int))) && (decide (a.2.2.2.2.2.2 = (0 : Int)))))))))))))))) = decide (a = z0) := celEq a z0
/-! ### ranges -/
def I64 (x : Int) : Prop := -9223372036854775808 ≤ x ∧ x ≤ 9223372036854775807
structure EvW (e : Ev) : Prop where
  t : I64 e.1
  v : 0 ≤ e.2.1 ∧ e.2.1 ≤ 18446744073709551615
  c : I64 e.2.2.1
structure CelW (c : Cel) : Prop where
  n : I64 c.1
  f : EvW c.2.1
  l : EvW c.2.2.1
  w : WdOk c.2.2.2.1
  r : I64 c.2.2.2.2.1
  g : I64 c.2.2.2.2.2.1
  s : I64 c.2.2.2.2.2.2
theorem EvW.of {e : Ev} (h : EvOk e) : EvW e := by
  obtain ⟨a, b, c, d, f, g, _⟩ := h
  exact ⟨by unfold I64; omega, ⟨c, d⟩, by unfold I64; omega⟩
theorem CelW.ofN {c : Cel} (h : CellN c) : CelW c := by
  have := h.small; have := h.n1; have := h.f.t0; have := h.f.t1; have := h.l.t0; have := h.l.t1; have := h.r; have := h.g; have := h.rg; have := h.s0; have := h.s1
  exact ⟨by unfold I64; omega, .of h.f, .of h.l, h.w, by unfold I64; omega, by unfold I64; omega, by unfold I64; omega⟩
theorem celW_z0 : CelW z0 := ⟨by simp [I64, z0], ⟨by simp [I64, z0, e0], by simp [z0, e0], by simp [I64, z0, e0]⟩, ⟨by simp [I64, z0, e0], by simp [z0, e0], by simp [I64, z0, e0]⟩, ⟨by simp [z0], by simp [z0]⟩, by simp [I64, z0], by simp [I64, z0], by simp [I64, z0]⟩
theorem CelW.of {c : Cel} (h : CellOk c) : CelW c := by
  rcases h with rfl | h
  · exact celW_z0
  · exact .ofN h
/-! ### sums -/
/-! ### the document's product, by doubling -/
theorem r01_times_over (n : Nat) (s4 out : Wd) : ∀ (k f : Nat) (m : Int) (a : Wd), m ≤ k → k < f → 0 < m → m ≤ 18446744073709551615 → WdOk a → r01_Times_l4 (n + 2) f (m, a, s4, out, true, ()) = some (.inr ((0, 0), 1)) := by
  intro k
  induction k with
  | zero => intro f m a h1 h2 h3; omega
  | succ k ih =>
    intro f m a h1 h2 h3 h4 ha
    obtain ⟨f, rfl⟩ : ∃ g, f = g + 1 := ⟨f - 1, by omega⟩
    rw [r01_Times_l4_eq]
    simp only [tif_dec, if_pos h3, tmod_nn (a := m) (by omega), tif_true]
    by_cases c : m % 2 = 1
    · rw [if_pos c]
    · rw [if_neg c, r01_add n ha ha]
      simp only [obind_some]
      rw [tdiv_nn (by omega), wu64 (by omega) (by omega)]
      exact ih f (m / 2) (addW a a).1 (by omega) (by omega) (by omega) (by omega) (by
        unfold addW; have := wv_range ha
        split
        · exact mkW_ok (by omega) (by omega)
        · exact ⟨by simp, by simp⟩)
theorem r01_times_l (n : Nat) (s4 : Wd) : ∀ (k f : Nat) (m : Int) (a out : Wd), m ≤ k → k < f → 0 ≤ m → m ≤ 18446744073709551615 → WdOk a → WdOk out → ∀ p, p = wv a * m →
    r01_Times_l4 (n + 2) f (m, a, s4, out, false, ()) = some (if wv out + p < 340282366920938463463374607431768211456 then .inl (s4, mkW (wv out + p), ()) else .inr ((0, 0), 1)) := by
  intro k
  induction k with
  | zero =>
    intro f m a out h1 h2 h3 h4 ha ho p hp
    obtain ⟨f, rfl⟩ : ∃ g, f = g + 1 := ⟨f - 1, by omega⟩
    obtain rfl : m = 0 := by omega
    rw [r01_Times_l4_eq]
    have := wv_range ho
    rw [Int.mul_zero] at hp
    subst hp
    simp only [tif_dec, if_neg (show ¬ ((0 : Int) < 0) by omega), Int.add_zero]
    rw [if_pos (by omega), mkW_wv ho]
  | succ k ih =>
    intro f m a out h1 h2 h3 h4 ha ho p hp
    obtain ⟨f, rfl⟩ : ∃ g, f = g + 1 := ⟨f - 1, by omega⟩
    rw [r01_Times_l4_eq]
    have ra := wv_range ha
    have ro := wv_range ho
    by_cases h0 : 0 < m
    · have hp0 : 0 ≤ p := by rw [hp]; exact Int.mul_nonneg ra.1 h3
      have hq : wv a * m = 2 * (wv a * (m / 2)) + wv a * (m % 2) := by
        have e : m = 2 * (m / 2) + m % 2 := by omega
        conv => lhs; rw [e, Int.mul_add, Int.mul_left_comm]
      have hq0 : 0 ≤ wv a * (m / 2) := Int.mul_nonneg ra.1 (by omega)
      have hq1 : 1 ≤ m / 2 → wv a ≤ wv a * (m / 2) := fun h => by
        have := Int.mul_le_mul_of_nonneg_left h ra.1
        omega
      have hz : m / 2 = 0 → wv a * (m / 2) = 0 := fun h => by rw [h, Int.mul_zero]
      rw [← hp] at hq
      -- the next round, from any sum
      have next : ∀ out' : Wd, WdOk out' → obind (some (addW a a)) (fun r1 => tif false (r01_Times_l4 (n + 2) f (IntKind.wrap .u64 (Int.tdiv m 2), r1.1, s4, out', true, ())) (r01_Times_l4 (n + 2) f (IntKind.wrap .u64 (Int.tdiv m 2), r1.1, s4, out', !(decide (r1.2 = (0 : Int))), ()))) =
          some (if wv out' + 2 * (wv a * (m / 2)) < 340282366920938463463374607431768211456 then .inl (s4, mkW (wv out' + 2 * (wv a * (m / 2))), ()) else .inr ((0, 0), 1)) := by
        intro out' ho'
        have ro' := wv_range ho'
        rw [tdiv_nn (by omega), wu64 (by omega) (by omega)]
        simp only [obind_some, tif_false]
        by_cases hov : wv a + wv a < 340282366920938463463374607431768211456
        · have ew : addW a a = (mkW (wv a + wv a), 0) := if_pos hov
          rw [ew]
          have := ih f (m / 2) (mkW (wv a + wv a)) out' (by omega) (by omega) (by omega) (by omega) (mkW_ok (by omega) hov) ho' (2 * (wv a * (m / 2))) (by rw [wv_mkW, ← Int.two_mul, Int.mul_assoc])
          simpa using this
        · have ew : addW a a = ((0, 0), 1) := if_neg hov
          rw [ew]
          by_cases hm : 0 < m / 2
          · have := r01_times_over n s4 out' k f (m / 2) (0, 0) (by omega) (by omega) hm (by omega) ⟨by simp, by simp⟩
            have := hq1 (by omega)
            rw [if_neg (by omega)]
            simpa using by assumption
          · obtain ⟨f, rfl⟩ : ∃ g, f = g + 1 := ⟨f - 1, by omega⟩
            have e0 : m / 2 = 0 := by omega
            rw [hz e0, e0, r01_Times_l4_eq]
            simp only [tif_dec, if_neg (show ¬ ((0 : Int) < 0) by omega), Int.mul_zero, Int.add_zero]
            rw [if_pos (by omega), mkW_wv ho']
      simp only [tif_dec, if_pos h0, tmod_nn (a := m) (by omega), tif_false]
      by_cases c : m % 2 = 1
      · rw [if_pos c, r01_add n ho ha]
        rw [c, Int.mul_one] at hq
        by_cases hov : wv out + wv a < 340282366920938463463374607431768211456
        · have ew : addW out a = (mkW (wv out + wv a), 0) := if_pos hov
          rw [ew]
          have := next (mkW (wv out + wv a)) (mkW_ok (by omega) hov)
          rw [wv_mkW] at this
          rw [r01_add n ha ha]
          simp only [tif_false] at this
          simp only [obind_some, tif_not, tif_dec, if_pos trivial, tif_false] at this ⊢
          rw [this, hq]
          rw [show wv out + (2 * (wv a * (m / 2)) + wv a) = wv out + wv a + 2 * (wv a * (m / 2)) by omega]
        · have ew : addW out a = ((0, 0), 1) := if_neg hov
          rw [ew]
          simp only [obind_some, tif_not, tif_dec]
          rw [if_neg (by decide), if_neg (by omega)]
      · rw [if_neg c, r01_add n ha ha]
        have c0 : m % 2 = 0 := by omega
        rw [c0, Int.mul_zero, Int.add_zero] at hq
        have := next out ho
        simp only [tif_false] at this
        simp only [obind_some] at this ⊢
        rw [this, hq]
    · obtain rfl : m = 0 := by omega
      rw [Int.mul_zero] at hp
      subst hp
      simp only [tif_dec, if_neg (show ¬ ((0 : Int) < 0) by omega), Int.add_zero]
      rw [if_pos (by omega), mkW_wv ho]
theorem r01_times (n : Nat) {a : Wd} (ha : WdOk a) (k : Int) (hk : 0 ≤ k ∧ k ≤ 18446744073709551615) : r01_Times (n + 3) a k = some (timesW a k) := by
  rw [r01_Times_eq, r01_times_l n (0, 0) 18446744073709551615 loopFuel k a (0, 0) (by omega) (by unfold loopFuel; omega) hk.1 hk.2 ha ⟨by simp, by simp⟩ _ rfl]
  simp only [wv_zero, Int.zero_add, obind_some]
  unfold timesW
  by_cases h : wv a * k < 340282366920938463463374607431768211456
  · rw [if_pos h, if_pos h]; simp
  · rw [if_neg h, if_neg h]; simp
end Go.Proofs.YthjnbidgliejkaaGreat
