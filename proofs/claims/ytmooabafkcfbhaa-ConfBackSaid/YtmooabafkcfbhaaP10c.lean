/-
  Configurations: how great they are; the statements' own tests.
-/
import Derived.Test.YtmooabafkcfbhaaP10b
namespace Go.Proofs.Ytmooabafkcfbhaa
open Go.Flat

theorem factor_no (n : Nat) {c : Conf} (t : Int) (h : ¬ (OkC c ∧ 1 ≤ t ∧ t ≤ 2)) : conf_Factor (n + 4) c t = some 0 := by
  rw [conf_Factor_eq, in_int]
  simp only [obind_some, tif_dec, tif_not]
  by_cases ht : 1 ≤ t ∧ t ≤ 2
  · rw [if_pos ht]
    have hc : ¬ OkC c := fun hc => h ⟨hc, ht⟩
    rw [check_no n hc]
    simp only [obind_some]
    rw [if_neg (by decide)]
  · rw [if_neg ht]
theorem factor_1 (n : Nat) {c : Conf} (h : OkC c) : conf_Factor (n + 4) c 1 = some (c.2.1.2.1 / c.2.1.1) := by
  have hr := h.rng
  rw [conf_Factor_eq, in_int, check_ok n h]
  have z : ¬ (c.2.1.1 = 0) := by have := hr.w0; omega
  have e : IntKind.wrap .i64 ((1 : Int) - 1) = 0 := by decide
  simp only [obind_some, tif_dec, tif_not, e]
  rw [if_pos (by decide), if_pos trivial, if_neg (by decide), if_pos trivial, if_pos trivial, if_neg z, quo_w hr.w1 hr.w0.1]
theorem factor_2 (n : Nat) {c : Conf} (h : OkC c) : conf_Factor (n + 4) c 2 = some (c.2.1.2.2 / c.2.1.2.1) := by
  have hr := h.rng
  rw [conf_Factor_eq, in_int, check_ok n h]
  have z : ¬ (c.2.1.2.1 = 0) := by have := hr.w1; omega
  have e : IntKind.wrap .i64 ((2 : Int) - 1) = 1 := by decide
  simp only [obind_some, tif_dec, tif_not, e]
  rw [if_pos (by decide), if_pos trivial, if_neg (by decide), if_neg (by decide), if_pos trivial, if_neg (by decide), if_pos trivial, if_neg z, quo_w hr.w2 hr.w1.1]
theorem r10_factor_no (n : Nat) {c : Conf} (t : Int) (h : ¬ (OkC c ∧ 1 ≤ t ∧ t ≤ 2)) : r10_Factor (n + 4) c t = some 0 := by
  rw [r10_Factor_eq]
  by_cases hc : OkC c
  · rw [r10_check_ok (n) hc]
    simp only [obind_some, tif_dec, tif_not]
    rw [if_pos trivial]
    by_cases h1 : t < 1
    · rw [if_pos h1]
    · have h2 : 2 < t := by
        by_cases h2 : t ≤ 2
        · exact absurd ⟨hc, by omega, h2⟩ h
        · omega
      rw [if_neg h1, if_pos h2]
  · rw [r10_check_no (n) hc]
    simp only [obind_some, tif_dec, tif_not]
    rw [if_neg (by decide)]
theorem r10_factor_1 (n : Nat) {c : Conf} (h : OkC c) : r10_Factor (n + 4) c 1 = some (c.2.1.2.1 / c.2.1.1) := by
  have hr := h.rng
  rw [r10_Factor_eq, r10_check_ok n h]
  have z : ¬ (c.2.1.1 = 0) := by have := hr.w0; omega
  have e : IntKind.wrap .i64 ((1 : Int) - 1) = 0 := by decide
  simp only [obind_some, tif_dec, tif_not, e]
  rw [if_pos trivial, if_neg (by decide), if_neg (by decide), if_neg (by decide), if_pos trivial, if_pos trivial, if_neg z, quo_w hr.w1 hr.w0.1]
theorem r10_factor_2 (n : Nat) {c : Conf} (h : OkC c) : r10_Factor (n + 4) c 2 = some (c.2.1.2.2 / c.2.1.2.1) := by
  have hr := h.rng
  rw [r10_Factor_eq, r10_check_ok n h]
  have z : ¬ (c.2.1.2.1 = 0) := by have := hr.w1; omega
  have e : IntKind.wrap .i64 ((2 : Int) - 1) = 1 := by decide
  simp only [obind_some, tif_dec, tif_not, e]
  rw [if_pos trivial, if_neg (by decide), if_neg (by decide), if_neg (by decide), if_neg (by decide), if_pos trivial, if_neg (by decide), if_pos trivial, if_neg z, quo_w hr.w2 hr.w1.1]
theorem factor_same (n : Nat) (c : Conf) (t : Int) : ∃ v, conf_Factor (n + 4) c t = some v ∧ r10_Factor (n + 4) c t = some v := by
  by_cases h : OkC c ∧ 1 ≤ t ∧ t ≤ 2
  · obtain ⟨h, h1, h2⟩ := h
    have : t = 1 ∨ t = 2 := by omega
    rcases this with rfl | rfl
    · exact ⟨_, factor_1 n h, r10_factor_1 n h⟩
    · exact ⟨_, factor_2 n h, r10_factor_2 n h⟩
  · exact ⟨_, factor_no n t h, r10_factor_no n t h⟩

def idx (c : Conf) : Int := prt c.2.2.2.2 120
def hom (c : Conf) : Int := 1 + idx c + c.2.2.2.2
def siz (c : Conf) : Int := hom c + 1 + c.2.2.2.1 * plc c
theorem idx_range {c : Conf} (h : Rng c) : 0 ≤ idx c ∧ idx c ≤ 8192 := by
  have := prt_range (x := c.2.2.2.2) (e := 120) (by omega) (by have := h.log; omega)
  have := h.log
  unfold idx; omega
theorem index_ok (n : Nat) {c : Conf} (h : OkC c) : conf_Index (n + 4) c = some (idx c) ∧ r10_Index (n + 4) c = some (idx c) := by
  have hl := h.rng.log
  rw [conf_Index_eq, r10_Index_eq, check_ok n h, r10_check_ok n h]
  simp only [obind_some, tif_dec, tif_not]
  rw [if_pos trivial, if_pos trivial, parts_val (n + 2) _ 120 (by omega) (by omega) (by omega) (by omega), r10_parts_val (n + 2) _ 120 (by omega) (by omega) (by omega) (by omega)]
  simp only [obind_some]
  exact ⟨rfl, rfl⟩
theorem index_no (n : Nat) {c : Conf} (h : ¬ OkC c) : conf_Index (n + 4) c = some 0 ∧ r10_Index (n + 4) c = some 0 := by
  rw [conf_Index_eq, r10_Index_eq, check_no n h, r10_check_no n h]
  simp only [obind_some, tif_dec, tif_not]
  rw [if_neg (by decide), if_neg (by decide)]
  exact ⟨rfl, rfl⟩
theorem home_ok (n : Nat) {c : Conf} (h : OkC c) : conf_Home (n + 5) c = some (hom c) ∧ r10_Home (n + 5) c = some (hom c) := by
  have hl := h.rng.log
  have hi := idx_range h.rng
  rw [conf_Home_eq, r10_Home_eq, check_ok (n + 1) h, r10_check_ok (n + 1) h, (index_ok n h).1, (index_ok n h).2]
  simp only [obind_some, tif_dec, tif_not]
  rw [if_pos trivial, w64 (x := 1 + idx c) (by omega) (by omega), w64 (by omega) (by omega)]
  exact ⟨rfl, rfl⟩
theorem home_no (n : Nat) {c : Conf} (h : ¬ OkC c) : conf_Home (n + 5) c = some 0 ∧ r10_Home (n + 5) c = some 0 := by
  rw [conf_Home_eq, r10_Home_eq, check_no (n + 1) h, r10_check_no (n + 1) h]
  simp only [obind_some, tif_dec, tif_not]
  rw [if_neg (by decide), if_neg (by decide)]
  exact ⟨rfl, rfl⟩
theorem Place_ok (n : Nat) {c : Conf} (h : OkC c) : conf_Place (n + 4) c = some (plc c) ∧ r10_Place (n + 4) c = some (plc c) := by
  rw [conf_Place_eq, r10_Place_eq, check_ok n h, r10_check_ok n h, place_val (n + 1) h.rng, r10_place_val (n + 1) h.rng]
  simp only [obind_some, tif_dec, tif_not]
  rw [if_pos trivial]
  exact ⟨rfl, rfl⟩
theorem Place_no (n : Nat) {c : Conf} (h : ¬ OkC c) : conf_Place (n + 4) c = some 0 ∧ r10_Place (n + 4) c = some 0 := by
  rw [conf_Place_eq, r10_Place_eq, check_no n h, r10_check_no n h]
  simp only [obind_some, tif_dec, tif_not]
  rw [if_neg (by decide), if_neg (by decide)]
  exact ⟨rfl, rfl⟩
theorem siz_wrap {c : Conf} (h : OkC c) : IntKind.wrap .i64 (IntKind.wrap .i64 (hom c + 1) + IntKind.wrap .i64 (c.2.2.2.1 * plc c)) = siz c ∧ 0 ≤ siz c ∧ siz c ≤ 2000000000 := by
  have hl := h.rng.log
  have hi := idx_range h.rng
  have hp := plc_range h.rng
  have hcap := h.rng.cap
  have h1 : 0 ≤ c.2.2.2.1 * plc c := Int.mul_nonneg (by omega) (by omega)
  have h2 : c.2.2.2.1 * plc c ≤ 65536 * plc c := Int.mul_le_mul_of_nonneg_right (by omega) (by omega)
  have hh : hom c = 1 + idx c + c.2.2.2.2 := rfl
  rw [w64 (x := hom c + 1) (by omega) (by omega), w64 (x := c.2.2.2.1 * plc c) (by omega) (by omega), w64 (by omega) (by omega)]
  have hs : siz c = hom c + 1 + c.2.2.2.1 * plc c := rfl
  omega
def sizR (c : Conf) : Int × Int := if 16777216 < siz c then (0, 1) else (siz c, 0)
theorem size_ok (n : Nat) {c : Conf} (h : OkC c) : conf_Size (n + 6) c = some (sizR c) ∧ r10_Size (n + 6) c = some (sizR c) := by
  obtain ⟨e, _⟩ := siz_wrap h
  rw [conf_Size_eq, r10_Size_eq, check_ok (n + 2) h, r10_check_ok (n + 2) h, (home_ok n h).1, (home_ok n h).2, (Place_ok (n + 1) h).1, (Place_ok (n + 1) h).2]
  simp only [obind_some, tif_dec, tif_not, e]
  rw [if_pos trivial, if_pos trivial]
  unfold sizR
  by_cases hs : 16777216 < siz c
  · rw [if_pos hs, if_pos hs]; exact ⟨rfl, rfl⟩
  · rw [if_neg hs, if_neg hs]; exact ⟨rfl, rfl⟩
theorem size_no (n : Nat) {c : Conf} (h : ¬ OkC c) : conf_Size (n + 6) c = some (0, 2) ∧ r10_Size (n + 6) c = some (0, 2) := by
  rw [conf_Size_eq, r10_Size_eq, check_no (n + 2) h, r10_check_no (n + 2) h]
  simp only [obind_some, tif_dec, tif_not]
  rw [if_neg (by decide), if_neg (by decide)]
  exact ⟨rfl, rfl⟩
theorem retention_same (n : Nat) (c : Conf) : ∃ v, conf_Retention (n + 4) c = some v ∧ r10_Retention (n + 4) c = some v := by
  by_cases h : OkC c
  · rw [conf_Retention_eq, r10_Retention_eq, check_ok n h, r10_check_ok n h]
    simp only [obind_some, tif_dec, tif_not]
    rw [if_pos trivial]
    exact ⟨_, rfl, rfl⟩
  · rw [conf_Retention_eq, r10_Retention_eq, check_no n h, r10_check_no n h]
    simp only [obind_some, tif_dec, tif_not]
    rw [if_neg (by decide)]
    exact ⟨_, rfl, rfl⟩

theorem lives_ok (n : Nat) : l10_lives (n + 8) = some true := by kernel_rfl

theorem eq9 (c : Conf) : ((decide (c.1 = c.1)) && ((decide (c.2.1.1 = c.2.1.1)) && ((decide (c.2.1.2.1 = c.2.1.2.1)) && ((decide (c.2.1.2.2 = c.2.1.2.2)) && ((decide (c.2.2.1.1 = c.2.2.1.1)) && ((decide (c.2.2.1.2.1 = c.2.2.1.2.1)) && ((decide (c.2.2.1.2.2 = c.2.2.1.2.2)) && ((decide (c.2.2.2.1 = c.2.2.2.1)) && (decide (c.2.2.2.2 = c.2.2.2.2)))))))))) = true := by simp

/-- CONFTELLS, as the flat reading has it. -/
theorem confTells_true (n : Nat) (c : Conf) (t : Int) (s : List UInt8) : l10_ConfTells (n + 9) c t s = some true := by
  rw [l10_ConfTells_eq]
  simp only [tif_dec]
  by_cases hs : (1000 : Int) < ((s.length : Nat) : Int)
  · rw [if_pos hs, lives_ok n]; simp only [obind_some]
  rw [if_neg hs, lives_ok n]
  obtain ⟨f, f1, f2⟩ := factor_same (n + 4) c t
  obtain ⟨r, r1, r2⟩ := retention_same (n + 4) c
  rw [f1, f2, r1, r2]
  have hread : ∃ x, conf_Read (n + 8) s = some x ∧ r10_Read (n + 8) s = some x := by
    by_cases h : OkC (cfg s) ∧ Full s
    · exact ⟨_, read_yes (n + 4) h.1 h.2, r10_read_yes (n + 3) h.1 h.2⟩
    · exact ⟨_, read_no (n + 4) h, r10_read_no (n + 3) h⟩
  obtain ⟨x, x1, x2⟩ := hread
  rw [x1, x2]
  by_cases h : OkC c
  · rw [(size_ok (n + 2) h).1, (size_ok (n + 2) h).2, check_ok (n + 5) h, r10_check_ok (n + 5) h, (index_ok (n + 4) h).1, (index_ok (n + 4) h).2, (home_ok (n + 3) h).1, (home_ok (n + 3) h).2, (Place_ok (n + 4) h).1, (Place_ok (n + 4) h).2, bytes_ok (n + 4) h, r10_bytes_ok (n + 4) h]
    simp only [obind_some, tif_true, if_true, beq_self_eq_true, decide_true, Bool.and_self]
  · rw [(size_no (n + 2) h).1, (size_no (n + 2) h).2, check_no (n + 5) h, r10_check_no (n + 5) h, (index_no (n + 4) h).1, (index_no (n + 4) h).2, (home_no (n + 3) h).1, (home_no (n + 3) h).2, (Place_no (n + 4) h).1, (Place_no (n + 4) h).2, bytes_no (n + 4) h, r10_bytes_no (n + 4) h]
    simp only [obind_some, tif_true, if_true, beq_self_eq_true, decide_true, Bool.and_self]

end Go.Proofs.Ytmooabafkcfbhaa
