/-
  Configurations: how great they are; the statements' own tests.
-/
import Derived.Test.YthjnbidgliejkaaGreatP10b
namespace Go.Proofs.YthjnbidgliejkaaGreat
open Go.Flat
def idxC (c : Conf) : Int := prt c.2.2.2.2 120
def hom (c : Conf) : Int := 1 + idxC c + c.2.2.2.2
def siz (c : Conf) : Int := hom c + 1 + c.2.2.2.1 * plc c
theorem idx_range {c : Conf} (h : Rng c) : 0 ≤ idxC c ∧ idxC c ≤ 8192 := by
  have := prt_range (x := c.2.2.2.2) (e := 120) (by omega) (by have := h.log; omega)
  have := h.log
  unfold idxC; omega
theorem index_ok (n : Nat) {c : Conf} (h : OkC c) : conf_Index (n + 4) c = some (idxC c) ∧ r10_Index (n + 4) c = some (idxC c) := by
  have hl := h.rng.log
  rw [conf_Index_eq, r10_Index_eq, check_ok n h, r10_check_ok n h]
  simp only [obind_some, tif_dec, tif_not]
  rw [if_pos trivial, if_pos trivial, parts_val (n + 2) _ 120 (by omega) (by omega) (by omega) (by omega), r10_parts_val (n + 2) _ 120 (by omega) (by omega) (by omega) (by omega)]
  simp only [obind_some]
  exact ⟨rfl, rfl⟩
theorem home_ok (n : Nat) {c : Conf} (h : OkC c) : conf_Home (n + 5) c = some (hom c) ∧ r10_Home (n + 5) c = some (hom c) := by
  have hl := h.rng.log
  have hi := idx_range h.rng
  rw [conf_Home_eq, r10_Home_eq, check_ok (n + 1) h, r10_check_ok (n + 1) h, (index_ok n h).1, (index_ok n h).2]
  simp only [obind_some, tif_dec, tif_not]
  rw [if_pos trivial, w64 (x := 1 + idxC c) (by omega) (by omega), w64 (by omega) (by omega)]
  exact ⟨rfl, rfl⟩
theorem Place_ok (n : Nat) {c : Conf} (h : OkC c) : conf_Place (n + 4) c = some (plc c) ∧ r10_Place (n + 4) c = some (plc c) := by
  rw [conf_Place_eq, r10_Place_eq, check_ok n h, r10_check_ok n h, place_val (n + 1) h.rng, r10_place_val (n + 1) h.rng]
  simp only [obind_some, tif_dec, tif_not]
  rw [if_pos trivial]
  exact ⟨rfl, rfl⟩
theorem siz_wrap {c : Conf} (h : OkC c) : IntKind.wrap .i64 (IntKind.wrap .i64 (hom c + 1) + IntKind.wrap .i64 (c.2.2.2.1 * plc c)) = siz c ∧ 0 ≤ siz c ∧ siz c ≤ 2000000000 := by
  have hl := h.rng.log
  have hi := idx_range h.rng
  have hp := plc_range h.rng
  have hcap := h.rng.cap
  have h1 : 0 ≤ c.2.2.2.1 * plc c := Int.mul_nonneg (by omega) (by omega)
  have h2 : c.2.2.2.1 * plc c ≤ 65536 * plc c := Int.mul_le_mul_of_nonneg_right (by omega) (by omega)
  have hh : hom c = 1 + idxC c + c.2.2.2.2 := rfl
  rw [w64 (x := hom c + 1) (by omega) (by omega), w64 (x := c.2.2.2.1 * plc c) (by omega) (by omega), w64 (by omega) (by omega)]
  have hs : siz c = hom c + 1 + c.2.2.2.1 * plc c := rfl
  omega
def sizR (c : Conf) : Int × Int := if 16777216 < siz c then (0, 1) else (siz c, 0)
theorem size_ok (n : Nat) {c : Conf} (h : OkC c) : conf_Size (n + 6) c = some (sizR c) ∧ r10_Size (n + 6) c = some (sizR c) := by
  obtain ⟨e, _⟩ := siz_wrap h
  rw [conf_Size_eq, r10_Size_eq, check_ok (n + 2) h, r10_check_ok (n + 2) h, (home_ok n h).1, (home_ok n h).2, (Place_ok (n + 1) h).1, (Place_ok (n + 1) h).2]
  simp only [obind_some, tif_dec, tif_not, e]
  rw [if_pos trivial, if_pos trivial]
  unfold sizR
  by_cases hs : 16777216 < siz c
  · rw [if_pos hs, if_pos hs]; exact ⟨rfl, rfl⟩
  · rw [if_neg hs, if_neg hs]; exact ⟨rfl, rfl⟩
theorem size_no (n : Nat) {c : Conf} (h : ¬ OkC c) : conf_Size (n + 6) c = some (0, 2) ∧ r10_Size (n + 6) c = some (0, 2) := by
  rw [conf_Size_eq, r10_Size_eq, check_no (n + 2) h, r10_check_no (n + 2) h]
  simp only [obind_some, tif_dec, tif_not]
  rw [if_neg (by decide), if_neg (by decide)]
  exact ⟨rfl, rfl⟩
end Go.Proofs.YthjnbidgliejkaaGreat
