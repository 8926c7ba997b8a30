/-
  Series, third part: a window's cell, and that of windows from i to ahead of j.
-/
import Derived.Test.YtapadkjknnfifaaGreatP15b
import Derived.Test.YtapadkjknnfifaaGreatM14b
namespace Go.Proofs.YtapadkjknnfifaaGreat
open Go.Flat Go.Plim
set_option linter.unusedVariables false
set_option linter.unusedSimpArgs false
/-! ### slots of one tier always merge -/
theorem allE_up {w : Int} : ∀ (L : List Slo) (c : Cel) (lo : Int), Up L → (∀ s ∈ L, FitsP s.2 w s.1 ∧ lo ≤ s.1) → CellOk c → (c = z0 ∨ c.2.2.1.1 / w < lo) → (allE c (L.map (·.2))).2 = 0 := by
  intro L
  induction L with
  | nil => intro c lo _ _ _ _; rfl
  | cons s L ih =>
    intro c lo hu hs hc hl
    unfold Up at hu
    rw [List.pairwise_cons] at hu
    obtain ⟨hf, h1⟩ := hs s (by simp)
    have ha : Ahead c s.2 := by
      rcases hl with h | h
      · exact .inl h
      · refine .inr (.inr ?_)
        have e := hf.f
        rcases Int.lt_or_le c.2.2.1.1 s.2.2.1.1 with q | q
        · exact q
        · have := Int.ediv_le_ediv (c := w) (by have := hf.w0; omega) q
          omega
    have em : mrgE c s.2 = (mrg c s.2, 0) := by unfold mrgE; rw [if_pos (And.intro hc hf.n.ok), if_pos ha]
    simp only [List.map_cons, allE]
    rw [em, if_pos rfl]
    refine ih _ (s.1 + 1) hu.2 (fun x hx => ⟨(hs x (by simp [hx])).1, by have := hu.1 x hx; omega⟩) (mrg_ok hc hf.n.ok ha) (.inr ?_)
    have el : (mrg c s.2).2.2.1.1 = s.2.2.2.1.1 := by
      unfold mrg
      by_cases k : c = z0
      · rw [if_pos k]
      · rw [if_neg k, if_neg hf.n.ne]
    rw [el, hf.l]; omega
theorem tfold_none {l : List Slo} {w i k : Int} (h : TierOk l w) (h0 : 0 ≤ i) (hik : i ≤ k) : (tfold l i k).2 = 0 := by
  unfold tfold
  rw [if_neg (by omega)]
  unfold within
  refine allE_up (w := w) _ z0 0 ((tall_up h).filter _) (fun s hs => ?_) ok_z0 (.inl rfl)
  have := (tall_fits h (List.mem_filter.1 hs).1).1
  exact ⟨this, this.i0.1⟩
/-! ### the window that is open -/
noncomputable def now1 (c : Conf) (s : Ser) : Cel × Int := mrgE (tfold s.2.2.2.1.1 (s.2.1 / c.2.1.2.1 * (c.2.1.2.1 / c.2.1.1)) (s.2.1 / c.2.1.1)).1 s.2.2.2.2.2
noncomputable def now2 (c : Conf) (s : Ser) : Cel × Int :=
  if (now1 c s).2 ≠ 0 then (z0, (now1 c s).2) else mrgE (tfold s.2.2.2.1.2.1 (s.2.1 / c.2.1.2.2 * (c.2.1.2.2 / c.2.1.2.1)) (s.2.1 / c.2.1.2.1)).1 (now1 c s).1
theorem tfold_w (l : List Slo) (i k : Int) : CelW (tfold l i k).1 := .of (tfold_okc l i k)
theorem serOk_ends {c : Conf} {s : Ser} (h : SerOk c s) (hn : ¬ (s.2.1 = -1)) : EndsP c s ∧ ∃ e, EvOk e ∧ e.1 = s.2.1 := by
  rcases h.st with q | q
  · exact absurd q.1 hn
  · obtain ⟨e, he, h1⟩ := q.2.last
    exact ⟨q.2, e, last_ok h.raw he, h1⟩
theorem over_range {a b t : Int} (ha : 1 ≤ a ∧ a ≤ 1099511627776) (hb : 1 ≤ b ∧ b ≤ 1099511627776) (hm : b % a = 0) (ht : 0 ≤ t ∧ t < 35184372088832) :
    0 ≤ t / b * (b / a) ∧ t / b * (b / a) ≤ t / a ∧ t / a < 35184372088832 ∧ 0 ≤ t / a := by
  have h1 := (ediv_mul_ediv (t := t) ha.1 hb.1 hm).2
  have h2 : 0 ≤ t / b := Int.ediv_nonneg ht.1 (by omega)
  have h3 : 0 ≤ b / a := Int.ediv_nonneg (by omega) (by omega)
  have h4 : 0 ≤ t / a := Int.ediv_nonneg ht.1 (by omega)
  have h5 : t / a ≤ t := Int.ediv_le_self _ ht.1
  refine ⟨Int.mul_nonneg h2 h3, ?_, by omega, h4⟩
  have h6 : 1 ≤ b / a := by
    have e : a * (b / a) = b := by have := Int.mul_ediv_add_emod b a; omega
    rcases Int.lt_or_le 0 (b / a) with q | q
    · omega
    · have : b / a = 0 := by omega
      rw [this] at e; omega
  rw [← h1]
  exact Int.ediv_mul_le _ (by omega)
structure At (c : Conf) (s : Ser) : Prop where
  l0 : 0 ≤ s.2.1
  l1 : s.2.1 < 35184372088832
theorem serOk_at {c : Conf} {s : Ser} (h : SerOk c s) (hn : ¬ (s.2.1 = -1)) : 0 ≤ s.2.1 ∧ s.2.1 < 35184372088832 := by
  obtain ⟨_, e, he, h1⟩ := serOk_ends h hn
  rw [← h1]; exact ⟨he.t0, he.t1⟩
theorem quo_at {t : Int} (ht : 0 ≤ t ∧ t < 35184372088832) {w : Int} (hw : 1 ≤ w) : IntKind.wrap .i64 (Int.tdiv t w) = t / w := by
  have : 0 ≤ t / w := Int.ediv_nonneg ht.1 (by omega)
  have : t / w ≤ t := Int.ediv_le_self _ ht.1
  rw [tdiv_nn ht.1, w64 (by omega) (by omega)]
theorem nz {w : Int} (h : 1 ≤ w) : ¬ (w = 0) := by omega
theorem kept_now0 (n : Nat) (c : Conf) (s : Ser) : series_kept_now (n + 1) (c, s) 0 = some (s.2.2.2.2.2, 0) := by rw [series_kept_now_eq_0]
theorem mrgE_nn (a b : Cel) : 0 ≤ (mrgE a b).2 := by
  unfold mrgE; split
  · split <;> simp
  · simp
theorem kept_now1 (n : Nat) (c : Conf) {s : Ser} (h : SerOk c s) (hw : SerW s) (hn : ¬ (s.2.1 = -1)) : series_kept_now (n + 19) (c, s) 1 = some (now1 c s) := by
  have hr := h.fold.cok.rng
  have ht := serOk_at h hn
  obtain ⟨o1, o2, o3, o4⟩ := over_range hr.w0 hr.w1 h.fold.cok.m1 ht
  rw [series_kept_now_eq_1]
  simp only [tif_dec, tif_not, if_neg (nz hr.w0.1), if_neg (nz hr.w1.1), quo_at ht hr.w0.1, quo_at ht hr.w1.1, quo_w hr.w1 hr.w0.1]
  rw [w64 (by omega) (by omega), tier_fold n h.fold.t0, kept_now0 (n + 17)]
  simp only [obind_some, tfold_none h.fold.t0 o1 o2, if_true, cell_merge (n + 12) (tfold_w _ _ _) hw.opn.c]
  rfl
theorem now1_w (c : Conf) (s : Ser) : CelW (now1 c s).1 := mrgE_w _ _
theorem kept_now2 (n : Nat) (c : Conf) {s : Ser} (h : SerOk c s) (hw : SerW s) (hn : ¬ (s.2.1 = -1)) : series_kept_now (n + 20) (c, s) 2 = some (now2 c s) := by
  have hr := h.fold.cok.rng
  have ht := serOk_at h hn
  obtain ⟨o1, o2, o3, o4⟩ := over_range hr.w1 hr.w2 h.fold.cok.m2 ht
  rw [series_kept_now_eq_2]
  simp only [tif_dec, tif_not, if_neg (nz hr.w1.1), if_neg (nz hr.w2.1), quo_at ht hr.w1.1, quo_at ht hr.w2.1, quo_w hr.w2 hr.w1.1]
  rw [w64 (by omega) (by omega), tier_fold (n + 1) h.fold.t1, kept_now1 n c h hw hn]
  simp only [obind_some, tfold_none h.fold.t1 o1 o2, if_true, cell_merge (n + 13) (tfold_w _ _ _) (now1_w c s)]
  unfold now2
  by_cases k : (now1 c s).2 = 0
  · rw [if_pos k, if_neg (nn k)]
  · have : 0 ≤ (now1 c s).2 := mrgE_nn _ _
    rw [if_neg k, if_pos k, if_pos (by omega)]; rfl
theorem one0 (n : Nat) (c : Conf) {s : Ser} (h : SerOk c s) (hn : ¬ (s.2.1 = -1)) (i : Int) (hi : 0 ≤ i) : r15_one (n + 3) c s 0 i = some (if s.2.1 / c.2.1.1 < i then (z0, 0) else if i < s.2.1 / c.2.1.1 then (tget s.2.2.2.1.1 i, 0) else (s.2.2.2.2.2, 0)) := by
  have hr := h.fold.cok.rng
  have ht := serOk_at h hn
  rw [r15_one_eq_0]
  simp only [tif_dec, if_neg hn, if_neg (nz hr.w0.1), quo_at ht hr.w0.1, r13_get n h.fold.t0.l0, obind_some]
  split
  · rfl
  · split <;> rfl
theorem one1 (n : Nat) (c : Conf) {s : Ser} (h : SerOk c s) (hw : SerW s) (hn : ¬ (s.2.1 = -1)) (i : Int) (hi : 0 ≤ i) : r15_one (n + 8) c s 1 i = some (if s.2.1 / c.2.1.2.1 < i then (z0, 0) else if i < s.2.1 / c.2.1.2.1 then (tget s.2.2.2.1.2.1 i, 0) else now1 c s) := by
  have hr := h.fold.cok.rng
  have ht := serOk_at h hn
  obtain ⟨o1, o2, o3, o4⟩ := over_range hr.w0 hr.w1 h.fold.cok.m1 ht
  rw [r15_one_eq_1]
  simp only [tif_dec, tif_not, if_neg hn, if_neg (nz hr.w0.1), if_neg (nz hr.w1.1), quo_at ht hr.w0.1, quo_at ht hr.w1.1, r13_get (n + 5) h.fold.t1.l0, obind_some]
  by_cases k1 : s.2.1 / c.2.1.2.1 < i
  · rw [if_pos k1, if_pos k1]; rfl
  rw [if_neg k1, if_neg k1]
  by_cases k2 : i < s.2.1 / c.2.1.2.1
  · rw [if_pos k2, if_pos k2]
  rw [if_neg k2, if_neg k2]
  have e : i = s.2.1 / c.2.1.2.1 := by omega
  subst e
  rw [r10_factor1 (n + 3) h.fold.cok]
  simp only [obind_some]
  rw [w64 (by omega) (by omega), r13_fold n h.fold.t0]
  simp only [obind_some, tfold_none h.fold.t0 o1 o2, if_true]
  rw [one0 (n + 4) c h hn _ o4, if_neg (by omega), if_neg (by omega)]
  simp only [obind_some, if_true, r08_merge (n + 2) (tfold_w _ _ _) hw.opn.c]
  rfl
end Go.Proofs.YtapadkjknnfifaaGreat
