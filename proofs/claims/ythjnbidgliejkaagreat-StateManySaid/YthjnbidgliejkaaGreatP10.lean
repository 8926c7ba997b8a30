/-
  Configurations: what the program and the document say of them, as plain functions.
-/
import Derived.Test.YthjnbidgliejkaaGreatTr
import Derived.Test.YthjnbidgliejkaaGreatFlatM3
namespace Go.Proofs.YthjnbidgliejkaaGreat
open Go.Flat
abbrev Conf := Int × ((Int × (Int × Int)) × ((Int × (Int × Int)) × (Int × Int)))
/-- as many parts of so many as there are -/
def prt (n e : Int) : Int := (n + e - 1) / e
def plc (c : Conf) : Int := 1 + prt c.1 16 + prt c.2.2.1.1 4 + prt c.2.2.1.2.1 4 + prt c.2.2.1.2.2 4
/-- numbers that may be -/
structure Rng (c : Conf) : Prop where
  raw : 1 ≤ c.1 ∧ c.1 ≤ 4096
  cap : 1 ≤ c.2.2.2.1 ∧ c.2.2.2.1 ≤ 65536
  log : 1 ≤ c.2.2.2.2 ∧ c.2.2.2.2 ≤ 8192
  w0 : 1 ≤ c.2.1.1 ∧ c.2.1.1 ≤ 1099511627776
  w1 : 1 ≤ c.2.1.2.1 ∧ c.2.1.2.1 ≤ 1099511627776
  w2 : 1 ≤ c.2.1.2.2 ∧ c.2.1.2.2 ≤ 1099511627776
  n0 : 1 ≤ c.2.2.1.1 ∧ c.2.2.1.1 ≤ 4096
  n1 : 1 ≤ c.2.2.1.2.1 ∧ c.2.2.1.2.1 ≤ 4096
  n2 : 1 ≤ c.2.2.1.2.2 ∧ c.2.2.1.2.2 ≤ 4096
/-- a configuration that is right -/
structure OkC (c : Conf) : Prop where
  rng : Rng c
  m1 : c.2.1.2.1 % c.2.1.1 = 0
  d1 : c.2.1.2.1 / c.2.1.1 ≤ c.2.2.1.1
  m2 : c.2.1.2.2 % c.2.1.2.1 = 0
  d2 : c.2.1.2.2 / c.2.1.2.1 ≤ c.2.2.1.2.1
  pl : plc c < c.2.2.2.2
theorem parts_val (n : Nat) (x e : Int) (he : 1 ≤ e) (he' : e ≤ 1000) (hx : 0 ≤ x) (hx' : x ≤ 1000000000) : conf_parts (n + 1) x e = some (prt x e) := by
  rw [conf_parts_eq]
  have h1 : ¬ (e = 0) := by omega
  simp only [tif_dec, if_neg h1]
  rw [w64 (x := x + e) (by omega) (by omega), w64 (x := x + e - 1) (by omega) (by omega), tdiv_nn (by omega)]
  have h2 : 0 ≤ (x + e - 1) / e := Int.ediv_nonneg (by omega) (by omega)
  have h3 : (x + e - 1) / e ≤ x + e - 1 := Int.ediv_le_self _ (by omega)
  rw [w64 (by omega) (by omega)]
  rfl
theorem prt_step (x e : Int) (he : 1 ≤ e) : prt x e = 1 + prt (x - e) e := by
  unfold prt
  rw [show x + e - 1 = (x - e + e - 1) + 1 * e by omega, Int.add_mul_ediv_right _ _ (by omega)]
  omega
theorem prt_zero (x e : Int) (h1 : -e < x) (hx : x ≤ 0) : prt x e = 0 := Int.ediv_eq_zero_of_lt (by omega) (by omega)
theorem r10_parts_loop (n : Nat) (e : Int) (he : 1 ≤ e) (he' : e ≤ 1000) : ∀ (m f : Nat) (x k : Int), x ≤ m → -e < x → m < f → 0 ≤ k → k + m ≤ 1000000000 → m ≤ 1000000000 → r10_parts_l2 n f (x, e, k, ()) = some (.inl (k + prt x e, ())) := by
  intro m
  induction m with
  | zero =>
    intro f x k hx hx' hf hk hkm hm
    obtain ⟨f, rfl⟩ : ∃ g, f = g + 1 := ⟨f - 1, by omega⟩
    rw [r10_parts_l2_eq]
    have h1 : ¬ ((0 : Int) < x) := by omega
    simp only [tif_dec, if_neg h1]
    rw [prt_zero x e hx' (by omega), Int.add_zero]
  | succ m ih =>
    intro f x k hx hx' hf hk hkm hm
    obtain ⟨f, rfl⟩ : ∃ g, f = g + 1 := ⟨f - 1, by omega⟩
    rw [r10_parts_l2_eq]
    by_cases h1 : (0 : Int) < x
    · simp only [tif_dec, if_pos h1]
      rw [w64 (x := x - e) (by omega) (by omega), w64 (x := k + 1) (by omega) (by omega), ih f (x - e) (k + 1) (by omega) (by omega) (by omega) (by omega) (by omega) (by omega), prt_step x e he]
      congr 3
      omega
    · simp only [tif_dec, if_neg h1]
      rw [prt_zero x e hx' (by omega), Int.add_zero]
theorem r10_parts_val (n : Nat) (x e : Int) (he : 1 ≤ e) (he' : e ≤ 1000) (hx : 0 ≤ x) (hx' : x ≤ 100000000) : r10_parts (n + 1) x e = some (prt x e) := by
  rw [r10_parts_eq, r10_parts_loop n e he he' x.toNat loopFuel x 0 (by omega) (by omega) (by unfold loopFuel; omega) (by omega) (by omega) (by omega)]
  simp
theorem prt_range {x e : Int} (he : 1 ≤ e) (hx : 0 ≤ x) : 0 ≤ prt x e ∧ prt x e ≤ x := by
  unfold prt
  refine ⟨Int.ediv_nonneg (by omega) (by omega), ?_⟩
  have : x + e - 1 < (x + 1) * e := by
    have := Int.mul_le_mul_of_nonneg_left he (show 0 ≤ x by omega)
    rw [Int.add_mul]; omega
  have := Int.ediv_lt_of_lt_mul (by omega) this
  omega
theorem plc_range {c : Conf} (h : Rng c) : 1 ≤ plc c ∧ plc c ≤ 20000 := by
  have a := prt_range (x := c.1) (e := 16) (by omega) (by have := h.raw; omega)
  have b := prt_range (x := c.2.2.1.1) (e := 4) (by omega) (by have := h.n0; omega)
  have d := prt_range (x := c.2.2.1.2.1) (e := 4) (by omega) (by have := h.n1; omega)
  have f := prt_range (x := c.2.2.1.2.2) (e := 4) (by omega) (by have := h.n2; omega)
  have := h.raw; have := h.n0; have := h.n1; have := h.n2
  unfold plc
  omega
theorem place_val (n : Nat) {c : Conf} (h : Rng c) : conf_place (n + 2) c = some (plc c) := by
  have h0 := h.raw; have h1 := h.n0; have h2 := h.n1; have h3 := h.n2
  rw [conf_place_eq, parts_val n _ 16 (by omega) (by omega) (by omega) (by omega), parts_val n _ 4 (by omega) (by omega) (by omega) (by omega), parts_val n _ 4 (by omega) (by omega) (by omega) (by omega), parts_val n _ 4 (by omega) (by omega) (by omega) (by omega)]
  simp only [obind_some]
  have a := prt_range (x := c.1) (e := 16) (by omega) (by omega)
  have b := prt_range (x := c.2.2.1.1) (e := 4) (by omega) (by omega)
  have d := prt_range (x := c.2.2.1.2.1) (e := 4) (by omega) (by omega)
  have f := prt_range (x := c.2.2.1.2.2) (e := 4) (by omega) (by omega)
  rw [w64 (x := 1 + _) (by omega) (by omega), w64 (x := 1 + _ + _) (by omega) (by omega), w64 (x := 1 + _ + _ + _) (by omega) (by omega), w64 (by omega) (by omega)]
  rfl
theorem r10_place_val (n : Nat) {c : Conf} (h : Rng c) : r10_place (n + 2) c = some (plc c) := by
  have h0 := h.raw; have h1 := h.n0; have h2 := h.n1; have h3 := h.n2
  rw [r10_place_eq, r10_parts_val n _ 16 (by omega) (by omega) (by omega) (by omega), r10_parts_val n _ 4 (by omega) (by omega) (by omega) (by omega), r10_parts_val n _ 4 (by omega) (by omega) (by omega) (by omega), r10_parts_val n _ 4 (by omega) (by omega) (by omega) (by omega)]
  simp only [obind_some]
  have a := prt_range (x := c.1) (e := 16) (by omega) (by omega)
  have b := prt_range (x := c.2.2.1.1) (e := 4) (by omega) (by omega)
  have d := prt_range (x := c.2.2.1.2.1) (e := 4) (by omega) (by omega)
  have f := prt_range (x := c.2.2.1.2.2) (e := 4) (by omega) (by omega)
  rw [w64 (x := 1 + _) (by omega) (by omega), w64 (x := 1 + _ + _) (by omega) (by omega), w64 (x := 1 + _ + _ + _) (by omega) (by omega), w64 (by omega) (by omega)]
  rfl
theorem in_int (n : Nat) (x a b : Int) : conf_in_int (n + 1) x a b = some (decide (a ≤ x ∧ x ≤ b)) := by
  rw [conf_in_int_eq]
  by_cases h1 : a ≤ x <;> by_cases h2 : x ≤ b <;> simp [h1, h2]
theorem in_int64 (n : Nat) (x a b : Int) : conf_in_int64 (n + 1) x a b = some (decide (a ≤ x ∧ x ≤ b)) := by
  rw [conf_in_int64_eq]
  by_cases h1 : a ≤ x <;> by_cases h2 : x ≤ b <;> simp [h1, h2]
/-- a quotient of widths needs no wrap -/
theorem quo_w {a b : Int} (ha : 1 ≤ a ∧ a ≤ 1099511627776) (hb : 1 ≤ b) : IntKind.wrap .i64 (Int.tdiv a b) = a / b := by
  rw [tdiv_nn (by omega)]
  have h2 : 0 ≤ a / b := Int.ediv_nonneg (by omega) (by omega)
  have h3 : a / b ≤ a := Int.ediv_le_self _ (by omega)
  rw [w64 (by omega) (by omega)]
theorem check_ok (n : Nat) {c : Conf} (h : OkC c) : conf_Check (n + 3) c = some 0 := by
  obtain ⟨hr, m1, d1, m2, d2, pl⟩ := h
  have hp := place_val n hr
  obtain ⟨raw, cap, log, w0, w1, w2, n0, n1, n2⟩ := hr
  rw [conf_Check_eq]
  simp only [in_int, in_int64, obind_some, tif_dec, if_pos raw, if_pos cap, if_pos log, if_pos w0, if_pos w1, if_pos w2, if_pos n0, if_pos n1, if_pos n2]
  have z0 : ¬ (c.2.1.1 = 0) := by omega
  have z1 : ¬ (c.2.1.2.1 = 0) := by omega
  rw [quo_w w1 w0.1, quo_w w2 w1.1, tmod_nn (a := c.2.1.2.1) (by omega), tmod_nn (a := c.2.1.2.2) (by omega)]
  have l : ¬ (c.2.2.2.2 ≤ plc c) := by omega
  simp only [if_neg z0, if_neg z1, if_pos m1, if_pos d1, if_pos m2, if_pos d2, tif_not, tif_dec, hp, obind_some, if_neg l]
theorem check_no (n : Nat) {c : Conf} (h : ¬ OkC c) : conf_Check (n + 3) c = some 2 := by
  rw [conf_Check_eq]
  simp only [in_int, in_int64, obind_some, tif_dec, tif_not]
  by_cases raw : 1 ≤ c.1 ∧ c.1 ≤ 4096
  case neg => rw [if_neg raw]
  rw [if_pos raw]
  by_cases cap : 1 ≤ c.2.2.2.1 ∧ c.2.2.2.1 ≤ 65536
  case neg => rw [if_neg cap]
  rw [if_pos cap]
  by_cases log : 1 ≤ c.2.2.2.2 ∧ c.2.2.2.2 ≤ 8192
  case neg => rw [if_neg log]
  rw [if_pos log]
  by_cases w0 : 1 ≤ c.2.1.1 ∧ c.2.1.1 ≤ 1099511627776
  case neg => rw [if_neg w0]
  rw [if_pos w0]
  by_cases n0 : 1 ≤ c.2.2.1.1 ∧ c.2.2.1.1 ≤ 4096
  case neg => rw [if_neg n0]
  rw [if_pos n0]
  by_cases w1 : 1 ≤ c.2.1.2.1 ∧ c.2.1.2.1 ≤ 1099511627776
  case neg => rw [if_neg w1]
  rw [if_pos w1]
  by_cases n1 : 1 ≤ c.2.2.1.2.1 ∧ c.2.2.1.2.1 ≤ 4096
  case neg => rw [if_neg n1]
  rw [if_pos n1]
  by_cases w2 : 1 ≤ c.2.1.2.2 ∧ c.2.1.2.2 ≤ 1099511627776
  case neg => rw [if_neg w2]
  rw [if_pos w2]
  by_cases n2 : 1 ≤ c.2.2.1.2.2 ∧ c.2.2.1.2.2 ≤ 4096
  case neg => rw [if_neg n2, if_neg n2]
  rw [if_pos n2]
  have hr : Rng c := ⟨raw, cap, log, w0, w1, w2, n0, n1, n2⟩
  have hp := place_val n hr
  have z0 : ¬ (c.2.1.1 = 0) := by omega
  have z1 : ¬ (c.2.1.2.1 = 0) := by omega
  rw [quo_w w1 w0.1, quo_w w2 w1.1, tmod_nn (a := c.2.1.2.1) (by omega), tmod_nn (a := c.2.1.2.2) (by omega)]
  rw [if_neg z0, if_neg z0]
  by_cases m1 : c.2.1.2.1 % c.2.1.1 = 0
  case neg => rw [if_neg m1]
  rw [if_pos m1]
  by_cases d1 : c.2.1.2.1 / c.2.1.1 ≤ c.2.2.1.1
  case neg => rw [if_neg d1, if_neg d1]
  rw [if_pos d1, if_neg z1, if_neg z1]
  by_cases m2 : c.2.1.2.2 % c.2.1.2.1 = 0
  case neg => rw [if_neg m2]
  rw [if_pos m2]
  by_cases d2 : c.2.1.2.2 / c.2.1.2.1 ≤ c.2.2.1.2.1
  case neg => rw [if_neg d2, if_neg d2]
  rw [if_pos d2, if_pos d2, hp]
  simp only [obind_some]
  by_cases pl : c.2.2.2.2 ≤ plc c
  · rw [if_pos pl]
  · exact absurd ⟨hr, m1, d1, m2, d2, by omega⟩ h
theorem r10_check_ok (n : Nat) {c : Conf} (h : OkC c) : r10_Check (n + 3) c = some 0 := by
  obtain ⟨hr, m1, d1, m2, d2, pl⟩ := h
  have hp := r10_place_val n hr
  obtain ⟨raw, cap, log, w0, w1, w2, n0, n1, n2⟩ := hr
  rw [r10_Check_eq]
  rw [quo_w w1 w0.1, quo_w w2 w1.1, tmod_nn (a := c.2.1.2.1) (by omega), tmod_nn (a := c.2.1.2.2) (by omega)]
  have l : ¬ (c.2.2.2.2 ≤ plc c) := by omega
  simp only [tif_dec, tif_not, hp, obind_some]
  rw [if_neg (by omega), if_neg (by omega), if_neg (by omega), if_neg (by omega), if_neg (by omega), if_neg (by omega), if_neg (by omega), if_neg (by omega), if_neg (by omega), if_neg (by omega), if_neg (by omega), if_neg (by omega), if_neg (by omega), if_neg (by omega), if_neg (by omega)]
  rw [if_pos m1, if_neg (by omega), if_neg (by omega), if_neg (by omega), if_neg (by omega), if_neg (by omega), if_neg (by omega), if_neg (by omega)]
  rw [if_pos m2, if_neg (by omega), if_neg (by omega), if_neg l]
theorem r10_check_no (n : Nat) {c : Conf} (h : ¬ OkC c) : r10_Check (n + 3) c = some 2 := by
  rw [r10_Check_eq]
  simp only [tif_dec, tif_not]
  by_cases raw : 1 ≤ c.1 ∧ c.1 ≤ 4096
  case neg =>
    by_cases z : c.1 < 1
    · rw [if_pos z]
    · rw [if_neg z, if_pos (by omega)]
  rw [if_neg (by omega), if_neg (by omega)]
  by_cases cap : 1 ≤ c.2.2.2.1 ∧ c.2.2.2.1 ≤ 65536
  case neg =>
    by_cases z : c.2.2.2.1 < 1
    · rw [if_pos z]
    · rw [if_neg z, if_pos (by omega)]
  rw [if_neg (by omega), if_neg (by omega)]
  by_cases log : 1 ≤ c.2.2.2.2 ∧ c.2.2.2.2 ≤ 8192
  case neg =>
    by_cases z : c.2.2.2.2 < 1
    · rw [if_pos z]
    · rw [if_neg z, if_pos (by omega)]
  rw [if_neg (by omega), if_neg (by omega)]
  by_cases w0 : 1 ≤ c.2.1.1 ∧ c.2.1.1 ≤ 1099511627776
  case neg =>
    by_cases z : c.2.1.1 < 1
    · rw [if_pos z]
    · rw [if_neg z, if_pos (by omega)]
  rw [if_neg (by omega), if_neg (by omega)]
  by_cases n0 : 1 ≤ c.2.2.1.1 ∧ c.2.2.1.1 ≤ 4096
  case neg =>
    by_cases z : c.2.2.1.1 < 1
    · rw [if_pos z]
    · rw [if_neg z, if_pos (by omega)]
  rw [if_neg (by omega), if_neg (by omega)]
  by_cases w1 : 1 ≤ c.2.1.2.1 ∧ c.2.1.2.1 ≤ 1099511627776
  case neg =>
    by_cases z : c.2.1.2.1 < 1
    · rw [if_pos z]
    · rw [if_neg z, if_pos (by omega)]
  rw [if_neg (by omega), if_neg (by omega)]
  by_cases n1 : 1 ≤ c.2.2.1.2.1 ∧ c.2.2.1.2.1 ≤ 4096
  case neg =>
    by_cases z : c.2.2.1.2.1 < 1
    · rw [if_pos z]
    · rw [if_neg z, if_pos (by omega)]
  rw [if_neg (by omega), if_neg (by omega), if_neg (by omega)]
  rw [tmod_nn (a := c.2.1.2.1) (by omega), quo_w w1 w0.1]
  by_cases m1 : c.2.1.2.1 % c.2.1.1 = 0
  case neg => rw [if_neg m1]
  rw [if_pos m1, if_neg (by omega)]
  by_cases d1 : c.2.1.2.1 / c.2.1.1 ≤ c.2.2.1.1
  case neg => rw [if_pos (by omega)]
  rw [if_neg (by omega)]
  by_cases w2 : 1 ≤ c.2.1.2.2 ∧ c.2.1.2.2 ≤ 1099511627776
  case neg =>
    by_cases z : c.2.1.2.2 < 1
    · rw [if_pos z]
    · rw [if_neg z, if_pos (by omega)]
  rw [if_neg (by omega), if_neg (by omega)]
  by_cases n2 : 1 ≤ c.2.2.1.2.2 ∧ c.2.2.1.2.2 ≤ 4096
  case neg =>
    by_cases z : c.2.2.1.2.2 < 1
    · rw [if_pos z]
    · rw [if_neg z, if_pos (by omega)]
  rw [if_neg (by omega), if_neg (by omega), if_neg (by omega)]
  rw [tmod_nn (a := c.2.1.2.2) (by omega), quo_w w2 w1.1]
  by_cases m2 : c.2.1.2.2 % c.2.1.2.1 = 0
  case neg => rw [if_neg m2]
  rw [if_pos m2, if_neg (by omega)]
  by_cases d2 : c.2.1.2.2 / c.2.1.2.1 ≤ c.2.2.1.2.1
  case neg => rw [if_pos (by omega)]
  rw [if_neg (by omega)]
  have hr : Rng c := ⟨raw, cap, log, w0, w1, w2, n0, n1, n2⟩
  rw [r10_place_val n hr]
  simp only [obind_some]
  by_cases pl : c.2.2.2.2 ≤ plc c
  · rw [if_pos pl]
  · exact absurd ⟨hr, m1, d1, m2, d2, by omega⟩ h
end Go.Proofs.YthjnbidgliejkaaGreat
