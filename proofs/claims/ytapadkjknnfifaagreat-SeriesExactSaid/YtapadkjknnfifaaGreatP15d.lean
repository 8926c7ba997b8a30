/-
  Series, fourth part: what the two answer of a window, and of windows. Printed by tools/gen15d.py.
-/
import Derived.Test.YtapadkjknnfifaaGreatP15c
namespace Go.Proofs.YtapadkjknnfifaaGreat
open Go.Flat Go.Plim
set_option linter.unusedVariables false
set_option linter.unusedSimpArgs false
noncomputable def cellV (ok : Prop) [Decidable ok] (i last w : Int) (t : List Slo) (now : Cel × Int) : Cel × Int :=
  if ok then (if i < 0 then (z0, 1) else if last = -1 then (z0, 0) else if last / w < i then (z0, 0) else if i = last / w then now else (tget t i, 0)) else (z0, 2)
noncomputable def rangeV (ok : Prop) [Decidable ok] (i j last w : Int) (t : List Slo) (now : Cel × Int) : Cel × Int :=
  if ok then (if i < 0 then (z0, 1) else if j < i then (z0, 1) else if last = -1 then (z0, 0) else if last / w < i then tfold t i j else if j ≤ last / w then tfold t i j else if now.2 ≠ 0 then (z0, now.2) else mrgE (tfold t i j).1 now.1) else (z0, 2)
theorem now2_w (c : Conf) (s : Ser) : CelW (now2 c s).1 := by
  unfold now2; split
  · exact celW_z0
  · exact mrgE_w _ _
theorem r15_cell0 (n : Nat) (c : Conf) {s : Ser} (hw : SerW s) (i : Int) : r15_Cell (n + 10) c s 0 i = some (cellV (SerOk c s) i s.2.1 c.2.1.1 s.2.2.2.1.1 (s.2.2.2.2.2, 0)) := by
  rw [r15_Cell_eq, r15_check (n + 1) c hw]
  unfold cellV
  by_cases h : SerOk c s
  case neg => rw [if_neg h, if_neg h]; rfl
  rw [if_pos h, if_pos h]
  simp only [obind_some, decide_true, Bool.not_true, tif_false, tif_dec, if_neg (show ¬ ((0 : Int) < 0) by omega), if_neg (show ¬ ((2 : Int) < 0) by omega)]
  by_cases h1 : i < 0
  · rw [if_pos h1, if_pos h1]; rfl
  rw [if_neg h1, if_neg h1]
  by_cases hn : s.2.1 = -1
  · rw [if_pos hn, r15_one_eq_0, hn]; rfl
  rw [if_neg hn, one0 (n + 6) c h hn i (by omega)]
  by_cases h2 : s.2.1 / c.2.1.1 < i
  · rw [if_pos h2, if_pos h2]; rfl
  rw [if_neg h2, if_neg h2]
  by_cases h3 : i = s.2.1 / c.2.1.1
  · rw [if_pos h3, if_neg (by omega)]; rfl
  rw [if_neg h3, if_pos (by omega)]; rfl
theorem kept_span0 (n : Nat) (c : Conf) {s : Ser} (h : SerOk c s) (hw : SerW s) {i j : Int} (h0 : ¬ i < 0) (hij : ¬ j < i) : series_kept_span (n + 21) (c, s) 0 i j = some (rangeV (SerOk c s) i j s.2.1 c.2.1.1 s.2.2.2.1.1 (s.2.2.2.2.2, 0)) := by
  rw [series_kept_span_eq_0]
  unfold rangeV
  rw [if_pos h, if_neg h0, if_neg hij]
  simp only [tif_dec, tif_not]
  by_cases hn : s.2.1 = -1
  · rw [if_pos hn, if_pos hn]; rfl
  have hr := h.fold.cok.rng
  have ht := serOk_at h hn
  rw [if_neg hn, if_neg hn, if_neg (nz hr.w0.1), quo_at ht hr.w0.1, tier_fold (n + 2) h.fold.t0]
  simp only [obind_some, tfold_none h.fold.t0 (show 0 ≤ i by omega) (show i ≤ j by omega), if_true]
  by_cases h2 : s.2.1 / c.2.1.1 < i
  · rw [if_pos h2, if_pos h2]
  rw [if_neg h2, if_neg h2]
  by_cases h3 : j ≤ s.2.1 / c.2.1.1
  · rw [if_pos h3, if_pos h3]
  rw [if_neg h3, if_neg h3, kept_now0 (n + 19) c s]
  simp only [obind_some, cell_merge (n + 14) (tfold_w _ _ _) hw.opn.c]
  rw [if_pos trivial, if_neg (nn rfl)]
theorem series_range0 (n : Nat) (c : Conf) {s : Ser} (hw : SerW s) (i j : Int) : series_Range (n + 22) c s 0 i j = some (rangeV (SerOk c s) i j s.2.1 c.2.1.1 s.2.2.2.1.1 (s.2.2.2.2.2, 0)) := by
  rw [series_Range_eq, series_open_val (n + 11) c hw]
  by_cases h : SerOk c s
  case neg => unfold rangeV; rw [if_neg h, if_neg h]; rfl
  rw [if_pos h]
  simp only [obind_some, oelim_some, decide_true, Bool.not_true, tif_false, tif_dec, if_neg (show ¬ ((0 : Int) < 0) by omega), if_neg (show ¬ ((3 : Int) ≤ 0) by omega)]
  by_cases h1 : i < 0
  · unfold rangeV; rw [if_pos h1, if_pos h, if_pos h1]; rfl
  by_cases h2 : j < i
  · unfold rangeV; rw [if_neg h1, if_pos h2, if_pos h, if_neg h1, if_pos h2]; rfl
  rw [if_neg h1, if_neg h2, kept_span0 n c h hw h1 h2]; rfl
theorem r15_cell1 (n : Nat) (c : Conf) {s : Ser} (hw : SerW s) (i : Int) : r15_Cell (n + 10) c s 1 i = some (cellV (SerOk c s) i s.2.1 c.2.1.2.1 s.2.2.2.1.2.1 (now1 c s)) := by
  rw [r15_Cell_eq, r15_check (n + 1) c hw]
  unfold cellV
  by_cases h : SerOk c s
  case neg => rw [if_neg h, if_neg h]; rfl
  rw [if_pos h, if_pos h]
  simp only [obind_some, decide_true, Bool.not_true, tif_false, tif_dec, if_neg (show ¬ ((1 : Int) < 0) by omega), if_neg (show ¬ ((2 : Int) < 1) by omega)]
  by_cases h1 : i < 0
  · rw [if_pos h1, if_pos h1]; rfl
  rw [if_neg h1, if_neg h1]
  by_cases hn : s.2.1 = -1
  · rw [if_pos hn, r15_one_eq_1, hn]; rfl
  rw [if_neg hn, one1 (n + 1) c h hw hn i (by omega)]
  by_cases h2 : s.2.1 / c.2.1.2.1 < i
  · rw [if_pos h2, if_pos h2]; rfl
  rw [if_neg h2, if_neg h2]
  by_cases h3 : i = s.2.1 / c.2.1.2.1
  · rw [if_pos h3, if_neg (by omega)]; rfl
  rw [if_neg h3, if_pos (by omega)]; rfl
theorem kept_span1 (n : Nat) (c : Conf) {s : Ser} (h : SerOk c s) (hw : SerW s) {i j : Int} (h0 : ¬ i < 0) (hij : ¬ j < i) : series_kept_span (n + 21) (c, s) 1 i j = some (rangeV (SerOk c s) i j s.2.1 c.2.1.2.1 s.2.2.2.1.2.1 (now1 c s)) := by
  rw [series_kept_span_eq_1]
  unfold rangeV
  rw [if_pos h, if_neg h0, if_neg hij]
  simp only [tif_dec, tif_not]
  by_cases hn : s.2.1 = -1
  · rw [if_pos hn, if_pos hn]; rfl
  have hr := h.fold.cok.rng
  have ht := serOk_at h hn
  rw [if_neg hn, if_neg hn, if_neg (nz hr.w1.1), quo_at ht hr.w1.1, tier_fold (n + 2) h.fold.t1]
  simp only [obind_some, tfold_none h.fold.t1 (show 0 ≤ i by omega) (show i ≤ j by omega), if_true]
  by_cases h2 : s.2.1 / c.2.1.2.1 < i
  · rw [if_pos h2, if_pos h2]
  rw [if_neg h2, if_neg h2]
  by_cases h3 : j ≤ s.2.1 / c.2.1.2.1
  · rw [if_pos h3, if_pos h3]
  rw [if_neg h3, if_neg h3, kept_now1 (n + 1) c h hw hn]
  simp only [obind_some, cell_merge (n + 14) (tfold_w _ _ _) (now1_w c s)]
  by_cases h4 : (now1 c s).2 = 0
  · rw [if_pos h4, if_neg (nn h4)]
  · rw [if_neg h4, if_pos h4]; rfl
theorem series_range1 (n : Nat) (c : Conf) {s : Ser} (hw : SerW s) (i j : Int) : series_Range (n + 22) c s 1 i j = some (rangeV (SerOk c s) i j s.2.1 c.2.1.2.1 s.2.2.2.1.2.1 (now1 c s)) := by
  rw [series_Range_eq, series_open_val (n + 11) c hw]
  by_cases h : SerOk c s
  case neg => unfold rangeV; rw [if_neg h, if_neg h]; rfl
  rw [if_pos h]
  simp only [obind_some, oelim_some, decide_true, Bool.not_true, tif_false, tif_dec, if_neg (show ¬ ((1 : Int) < 0) by omega), if_neg (show ¬ ((3 : Int) ≤ 1) by omega)]
  by_cases h1 : i < 0
  · unfold rangeV; rw [if_pos h1, if_pos h, if_pos h1]; rfl
  by_cases h2 : j < i
  · unfold rangeV; rw [if_neg h1, if_pos h2, if_pos h, if_neg h1, if_pos h2]; rfl
  rw [if_neg h1, if_neg h2, kept_span1 n c h hw h1 h2]; rfl
theorem kept_span2 (n : Nat) (c : Conf) {s : Ser} (h : SerOk c s) (hw : SerW s) {i j : Int} (h0 : ¬ i < 0) (hij : ¬ j < i) : series_kept_span (n + 21) (c, s) 2 i j = some (rangeV (SerOk c s) i j s.2.1 c.2.1.2.2 s.2.2.2.1.2.2 (now2 c s)) := by
  rw [series_kept_span_eq_2]
  unfold rangeV
  rw [if_pos h, if_neg h0, if_neg hij]
  simp only [tif_dec, tif_not]
  by_cases hn : s.2.1 = -1
  · rw [if_pos hn, if_pos hn]; rfl
  have hr := h.fold.cok.rng
  have ht := serOk_at h hn
  rw [if_neg hn, if_neg hn, if_neg (nz hr.w2.1), quo_at ht hr.w2.1, tier_fold (n + 2) h.fold.t2]
  simp only [obind_some, tfold_none h.fold.t2 (show 0 ≤ i by omega) (show i ≤ j by omega), if_true]
  by_cases h2 : s.2.1 / c.2.1.2.2 < i
  · rw [if_pos h2, if_pos h2]
  rw [if_neg h2, if_neg h2]
  by_cases h3 : j ≤ s.2.1 / c.2.1.2.2
  · rw [if_pos h3, if_pos h3]
  rw [if_neg h3, if_neg h3, kept_now2 n c h hw hn]
  simp only [obind_some, cell_merge (n + 14) (tfold_w _ _ _) (now2_w c s)]
  by_cases h4 : (now2 c s).2 = 0
  · rw [if_pos h4, if_neg (nn h4)]
  · rw [if_neg h4, if_pos h4]; rfl
theorem series_range2 (n : Nat) (c : Conf) {s : Ser} (hw : SerW s) (i j : Int) : series_Range (n + 22) c s 2 i j = some (rangeV (SerOk c s) i j s.2.1 c.2.1.2.2 s.2.2.2.1.2.2 (now2 c s)) := by
  rw [series_Range_eq, series_open_val (n + 11) c hw]
  by_cases h : SerOk c s
  case neg => unfold rangeV; rw [if_neg h, if_neg h]; rfl
  rw [if_pos h]
  simp only [obind_some, oelim_some, decide_true, Bool.not_true, tif_false, tif_dec, if_neg (show ¬ ((2 : Int) < 0) by omega), if_neg (show ¬ ((3 : Int) ≤ 2) by omega)]
  by_cases h1 : i < 0
  · unfold rangeV; rw [if_pos h1, if_pos h, if_pos h1]; rfl
  by_cases h2 : j < i
  · unfold rangeV; rw [if_neg h1, if_pos h2, if_pos h, if_neg h1, if_pos h2]; rfl
  rw [if_neg h1, if_neg h2, kept_span2 n c h hw h1 h2]; rfl
/-! ### any tier -/
end Go.Proofs.YtapadkjknnfifaaGreat
