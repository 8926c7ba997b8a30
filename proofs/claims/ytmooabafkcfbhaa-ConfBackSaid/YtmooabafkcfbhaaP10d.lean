/-
  Configurations: there and back.
-/
import Derived.Test.YtmooabafkcfbhaaP10c
namespace Go.Proofs.Ytmooabafkcfbhaa
open Go.Flat

/-- a configuration with more of all -/
def more3 (c : Conf) (more : Int) : Conf :=
  (c.1, (c.2.1, ((c.2.2.1.1, (c.2.2.1.2.1, (if (4096 : Int) < (IntKind.wrap .i64 (c.2.2.1.2.2 + (IntKind.wrap .i64 more))) then (4096 : Int) else (IntKind.wrap .i64 (c.2.2.1.2.2 + (IntKind.wrap .i64 more)))))), ((if (65536 : Int) < (IntKind.wrap .i64 (c.2.2.2.1 + (IntKind.wrap .i64 more))) then (65536 : Int) else (IntKind.wrap .i64 (c.2.2.2.1 + (IntKind.wrap .i64 more)))), (if (8192 : Int) < (IntKind.wrap .i64 (c.2.2.2.2 + (IntKind.wrap .i64 more))) then (8192 : Int) else (IntKind.wrap .i64 (c.2.2.2.2 + (IntKind.wrap .i64 more))))))))

theorem prt_mono {x y e : Int} (he : 1 ≤ e) (h : x ≤ y) : prt x e ≤ prt y e := by
  unfold prt
  exact Int.ediv_le_ediv (by omega) (by omega)
theorem grown {x m top : Int} (hx : 1 ≤ x) (hx' : x ≤ top) (ht : top ≤ 65536) (hm : 0 ≤ m) (hm' : m ≤ 255) : x ≤ (if top < (IntKind.wrap .i64 (x + (IntKind.wrap .i64 m))) then top else (IntKind.wrap .i64 (x + (IntKind.wrap .i64 m)))) := by
  rw [w64 (x := m) (by omega) (by omega), w64 (by omega) (by omega)]
  split <;> omega
theorem siz_mono {c : Conf} {m : Int} (h : OkC c) (hm : 0 ≤ m) (hm' : m ≤ 255) : siz c ≤ siz (more3 c m) := by
  have hr := h.rng
  have a := grown (top := 4096) hr.n2.1 hr.n2.2 (by omega) hm hm'
  have b := grown (top := 65536) hr.cap.1 hr.cap.2 (by omega) hm hm'
  have d := grown (top := 8192) hr.log.1 hr.log.2 (by omega) hm hm'
  have p1 : plc c ≤ plc (more3 c m) := by
    have a' : prt c.2.2.1.2.2 4 ≤ prt (more3 c m).2.2.1.2.2 4 := prt_mono (e := 4) (by omega) a
    show 1 + prt c.1 16 + prt c.2.2.1.1 4 + prt c.2.2.1.2.1 4 + prt c.2.2.1.2.2 4 ≤ 1 + prt c.1 16 + prt c.2.2.1.1 4 + prt c.2.2.1.2.1 4 + prt (more3 c m).2.2.1.2.2 4
    omega
  have i1 : idx c ≤ idx (more3 c m) := prt_mono (by omega) d
  have hp := plc_range hr
  have cap0 := hr.cap
  have c1 : c.2.2.2.1 * plc c ≤ (more3 c m).2.2.2.1 * plc (more3 c m) := by
    have x1 : c.2.2.2.1 * plc c ≤ c.2.2.2.1 * plc (more3 c m) := Int.mul_le_mul_of_nonneg_left p1 (by omega)
    have x2 : c.2.2.2.1 * plc (more3 c m) ≤ (more3 c m).2.2.2.1 * plc (more3 c m) := Int.mul_le_mul_of_nonneg_right b (by omega)
    omega
  have d' : c.2.2.2.2 ≤ (more3 c m).2.2.2.2 := d
  show 1 + idx c + c.2.2.2.2 + 1 + c.2.2.2.1 * plc c ≤ 1 + idx (more3 c m) + (more3 c m).2.2.2.2 + 1 + (more3 c m).2.2.2.1 * plc (more3 c m)
  omega
theorem quo_back {a b : Int} (ha : 1 ≤ a ∧ a ≤ 1099511627776) (hm : a % b = 0) : IntKind.wrap .i64 (a / b * b) = a := by
  rw [Int.ediv_mul_cancel_of_emod_eq_zero hm, w64 (by omega) (by omega)]

theorem rest_true (k n : Nat) (hn : n = k + 8) (c : Conf) (more : Int) (hm : 0 ≤ more) (hm' : more ≤ 255) :
  (obind (conf_Check n c) fun r14 =>
  tif ((!(decide (r14 = (0 : Int))))) (
  obind (conf_Bytes n c) fun r15 =>
  some (r15 == [])) (
  obind (conf_Bytes n c) fun r16 =>
  obind (conf_Read n r16) fun r17 =>
  tif ((!(decide (r17.2 = (0 : Int))))) (
  some false) (
  tif ((!((decide (r17.1.1 = c.1)) && ((decide (r17.1.2.1.1 = c.2.1.1)) && ((decide (r17.1.2.1.2.1 = c.2.1.2.1)) && ((decide (r17.1.2.1.2.2 = c.2.1.2.2)) && ((decide (r17.1.2.2.1.1 = c.2.2.1.1)) && ((decide (r17.1.2.2.1.2.1 = c.2.2.1.2.1)) && ((decide (r17.1.2.2.1.2.2 = c.2.2.1.2.2)) && ((decide (r17.1.2.2.2.1 = c.2.2.2.1)) && (decide (r17.1.2.2.2.2 = c.2.2.2.2)))))))))))) (
  some false) (
  obind (conf_Factor n c (1 : Int)) fun r18 =>
  tif ((!(decide ((IntKind.wrap .i64 (r18 * c.2.1.1)) = c.2.1.2.1)))) (
  some false) (
  obind (conf_Factor n c (1 : Int)) fun r19 =>
  tif ((decide (c.2.2.1.1 < r19))) (
  some false) (
  obind (conf_Factor n c (2 : Int)) fun r20 =>
  tif ((!(decide ((IntKind.wrap .i64 (r20 * c.2.1.2.1)) = c.2.1.2.2)))) (
  some false) (
  obind (conf_Factor n c (2 : Int)) fun r21 =>
  tif ((decide (c.2.2.1.2.1 < r21))) (
  some false) (
  obind (conf_Size n c) fun r22 =>
  obind (conf_Size n (r17.1.1, (r17.1.2.1, ((r17.1.2.2.1.1, (r17.1.2.2.1.2.1, (if (4096 : Int) < (IntKind.wrap .i64 (r17.1.2.2.1.2.2 + (IntKind.wrap .i64 more))) then (4096 : Int) else (IntKind.wrap .i64 (r17.1.2.2.1.2.2 + (IntKind.wrap .i64 more)))))), ((if (65536 : Int) < (IntKind.wrap .i64 (r17.1.2.2.2.1 + (IntKind.wrap .i64 more))) then (65536 : Int) else (IntKind.wrap .i64 (r17.1.2.2.2.1 + (IntKind.wrap .i64 more)))), (if (8192 : Int) < (IntKind.wrap .i64 (r17.1.2.2.2.2 + (IntKind.wrap .i64 more))) then (8192 : Int) else (IntKind.wrap .i64 (r17.1.2.2.2.2 + (IntKind.wrap .i64 more))))))))) fun r23 =>
  tif ((!(decide (r22.2 = (0 : Int))))) (
  some true) (
  tif ((!(decide (r23.2 = (0 : Int))))) (
  some true) (
  some (decide (r22.1 ≤ r23.1)))))))))))) = some true := by
  subst hn
  by_cases h : OkC c
  · obtain ⟨e1, e2⟩ := cfg_bytes h.rng
    have hread : conf_Read (k + 8) (toB (bts c)) = some (c, 0) := by
      have := read_yes (k + 4) (s := toB (bts c)) (by rw [e1]; exact h) e2
      rw [e1] at this; exact this
    rw [check_ok (k + 5) h, bytes_ok (k + 4) h, factor_1 (k + 4) h, factor_2 (k + 4) h, (size_ok (k + 2) h).1]
    simp only [obind_some, hread, tif_not, eq9, tif_true]
    have q1 := quo_back h.rng.w1 h.m1
    have q2 := quo_back h.rng.w2 h.m2
    have l1 : ¬ (c.2.2.1.1 < c.2.1.2.1 / c.2.1.1) := by have := h.d1; omega
    have l2 : ¬ (c.2.2.1.2.1 < c.2.1.2.2 / c.2.1.2.1) := by have := h.d2; omega
    simp only [tif_dec, q1, q2, if_true, if_neg l1, if_neg l2]
    show obind (conf_Size (k + 8) (more3 c more)) _ = _
    by_cases hd : OkC (more3 c more)
    · rw [(size_ok (k + 2) hd).1]
      simp only [obind_some]
      unfold sizR
      by_cases s1 : 16777216 < siz c
      · rw [if_pos s1]; rfl
      · rw [if_neg s1]
        by_cases s2 : 16777216 < siz (more3 c more)
        · rw [if_pos s2]; rfl
        · rw [if_neg s2]
          have := siz_mono h hm hm'
          simp [this]
    · rw [(size_no (k + 2) hd).1]
      simp only [obind_some]
      split
      · rfl
      · rfl
  · rw [check_no (k + 5) h, bytes_no (k + 4) h]
    rfl

/-- CONFBACK, as the flat reading has it. -/
theorem confBack_true (n : Nat) (c : Conf) (s : List UInt8) (more : Int) (hm : 0 ≤ more) (hm' : more ≤ 255) : l10_ConfBack (n + 9) c s more = some true := by
  rw [l10_ConfBack_eq, lives_ok n]
  simp only [obind_some, tif_not, tif_true]
  rw [tif_dec]
  by_cases hs : (1000 : Int) < ((s.length : Nat) : Int)
  · rw [if_pos hs]
  rw [if_neg hs]
  have rest := rest_true n (n + 8) rfl c more hm hm'
  simp only [tif_not] at rest
  by_cases h : OkC (cfg s) ∧ Full s
  · rw [read_yes (n + 4) h.1 h.2]
    simp only [obind_some]
    rw [tif_dec, if_pos trivial, check_ok (n + 5) h.1, bytes_ok (n + 4) h.1, full_bytes h.1.rng h.2]
    simp only [obind_some]
    rw [tif_dec, if_pos trivial]
    simp only [beq_self_eq_true, tif_true]
    exact rest
  · rw [read_no (n + 4) h]
    simp only [obind_some]
    rw [tif_dec, if_neg (by decide)]
    exact rest

end Go.Proofs.Ytmooabafkcfbhaa
