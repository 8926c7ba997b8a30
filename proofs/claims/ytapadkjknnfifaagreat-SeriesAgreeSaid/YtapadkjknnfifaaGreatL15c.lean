/-
  The law SeriesAgree.
-/
import Derived.Test.YtapadkjknnfifaaGreatM15
import Derived.Test.YtapadkjknnfifaaGreatP15g
import Derived.Test.YtapadkjknnfifaaGreatPL15
namespace Go.Proofs.YtapadkjknnfifaaGreat
open Go.Flat Go.Plim
set_option linter.unusedVariables false
set_option linter.unusedSimpArgs false
theorem rng_up {l : List Ev} {a b i j : Int} (ha : 1 ≤ a) (hb : 1 ≤ b) (hm : b % a = 0) : rng a l (i * (b / a)) (j * (b / a)) = rng b l i j := by
  unfold rng
  refine List.filter_congr fun e _ => decide_eq_decide.2 ?_
  have hp := factor_pos ha hb hm
  have q := (ediv_mul_ediv (t := e.1) ha hb hm).2
  rw [← q, Int.le_ediv_iff_mul_le hp, Int.ediv_lt_iff_lt_mul hp]
theorem serInv_time {c : Conf} {s : Ser} {l : List Ev} (h : SerInv c s l) : (s.2.1 = -1 ∧ l = []) ∨ ((0 ≤ s.2.1 ∧ s.2.1 < 35184372088832) ∧ l ≠ []) := by
  rcases h.last with ⟨k1, k2⟩ | k
  · exact .inl ⟨k2, k1⟩
  · obtain ⟨x, hx, hxt⟩ := k.last
    have := k.foll.ok x hx
    exact .inr ⟨⟨by have := this.t0; omega, by have := this.t1; omega⟩, ends_ne k⟩
theorem agree_l7 (n : Nat) (k i j : Int) (c : Conf) (l : List Ev) (hL : l.length ≤ 1000) (hw : ∀ e ∈ l, EvW e) : ∀ (rest pre : List Ev) (f : Nat) (s : Ser) (a : List Ev) (ix len : Int), l = pre ++ rest → ix = pre.length → len = l.length → rest.length < f → SerInv c s a → a.length ≤ pre.length →
    ∃ s' a', l15_SeriesAgree_l7 (n + 23) f (k, i, j, c, s, l, len, ix, ()) = some (.inl (k, i, j, c, s', ())) ∧ SerInv c s' a' := by
  intro rest
  induction rest with
  | nil =>
    intro pre f s a ix len hl hi hn hf' ho ha
    obtain ⟨f, rfl⟩ : ∃ g, f = g + 1 := ⟨f - 1, by simp at hf'; omega⟩
    rw [l15_SeriesAgree_l7_eq]
    exact ⟨s, a, by simp only [tif_dec, if_neg (idxe hl hi hn)], ho⟩
  | cons x rest ih =>
    intro pre f s a ix len hl hi hn hf' ho ha
    obtain ⟨f, rfl⟩ : ∃ g, f = g + 1 := ⟨f - 1, by simp at hf'; omega⟩
    have hxw : EvW x := hw x (by rw [hl]; simp)
    have hp : pre.length + 1 ≤ l.length := by have := congrArg List.length hl; simp at this; omega
    rw [l15_SeriesAgree_l7_eq]
    simp only [tif_dec, if_pos (idx hl hi hn), at_mid hl hi, obind_some, idxw hl hi (show l.length ≤ 1000000000000 by omega), series_put n c (serInv_w ho) hxw]
    by_cases h1 : (putE c s x).2 = 0
    · obtain ⟨s', k1, k2⟩ := serInv_next ho (put_foll ho h1) (by omega)
      rw [if_pos h1, k1]
      exact ih (pre ++ [x]) f s' _ (ix + 1) len (idxl hl) (idxs hi) hn (by simp at hf'; omega) k2 (by simp; omega)
    · rw [if_neg h1]
      exact ih (pre ++ [x]) f s a (ix + 1) len (idxl hl) (idxs hi) hn (by simp at hf'; omega) ho (by simp; omega)
theorem agree_wraps {a b i j : Int} (ha : 1 ≤ a ∧ a ≤ 1099511627776) (hb : 1 ≤ b ∧ b ≤ 1099511627776) (hm : b % a = 0) (h0 : 0 ≤ i) (hij : i ≤ j) (hj : j ≤ 35184372088832 / b) :
    IntKind.wrap .i64 (Int.tdiv b a) = b / a ∧ IntKind.wrap .i64 (i * (b / a)) = i * (b / a) ∧ IntKind.wrap .i64 (j * (b / a)) = j * (b / a) ∧ 0 ≤ i * (b / a) ∧ i * (b / a) ≤ j * (b / a) := by
  have h1 : b / a ≤ b := Int.ediv_le_self _ (by omega)
  have h2 : 0 < b / a := factor_pos ha.1 hb.1 hm
  have h3 : j * b ≤ 35184372088832 := mul_div_le hb.1 hj
  have h4 : j * (b / a) ≤ j * b := Int.mul_le_mul_of_nonneg_left h1 (by omega)
  have h5 : i * (b / a) ≤ j * (b / a) := Int.mul_le_mul_of_nonneg_right hij (by omega)
  have h6 : 0 ≤ i * (b / a) := Int.mul_nonneg h0 (by omega)
  refine ⟨?_, w64 (by omega) (by omega), w64 (by omega) (by omega), h6, h5⟩
  rw [tdiv_nn (by omega), w64 (by omega) (by omega)]
theorem quo_45 {w : Int} (hw : 1 ≤ w) : IntKind.wrap .i64 (Int.tdiv 35184372088832 w) = 35184372088832 / w := by
  have : 0 ≤ (35184372088832 : Int) / w := Int.ediv_nonneg (by omega) (by omega)
  have : (35184372088832 : Int) / w ≤ 35184372088832 := Int.ediv_le_self _ (by omega)
  rw [tdiv_nn (by omega), w64 (by omega) (by omega)]
theorem gone_wrap {t w m : Int} (ht : 0 ≤ t ∧ t < 35184372088832) (hw : 1 ≤ w) (hm : 1 ≤ m ∧ m ≤ 4096) : IntKind.wrap .i64 (IntKind.wrap .i64 (Int.tdiv t w) - m) = t / w - m := by
  rw [quo_at ht hw]
  have : 0 ≤ t / w := Int.ediv_nonneg ht.1 (by omega)
  have : t / w ≤ t := Int.ediv_le_self _ ht.1
  rw [w64 (by omega) (by omega)]
theorem agree_1 {c : Conf} {s : Ser} {a : List Ev} (h : SerInv c s a) {i j : Int} (h0 : 0 ≤ i) (hij : i ≤ j) (hg : s.2.1 = -1 ∨ ¬ i ≤ s.2.1 / c.2.1.2.1 - c.2.2.1.2.1 ∧ ¬ i * (c.2.1.2.1 / c.2.1.1) ≤ s.2.1 / c.2.1.1 - c.2.2.1.1) (h0' : 0 ≤ i * (c.2.1.2.1 / c.2.1.1)) (hij' : i * (c.2.1.2.1 / c.2.1.1) ≤ j * (c.2.1.2.1 / c.2.1.1)) :
    ∃ x, rangeV (SerOk c s) i j s.2.1 c.2.1.2.1 s.2.2.2.1.2.1 (now1 c s) = (x, 0) ∧ rangeV (SerOk c s) (i * (c.2.1.2.1 / c.2.1.1)) (j * (c.2.1.2.1 / c.2.1.1)) s.2.1 c.2.1.1 s.2.2.2.1.1 (s.2.2.2.2.2, 0) = (x, 0) := by
  have hok := serInv_ok h
  have hc := hok.fold.cok
  rcases serInv_time h with ⟨k1, k2⟩ | ⟨k1, k2⟩
  · exact ⟨z0, range_none hok h0 hij k1, range_none hok h0' hij' k1⟩
  · have hg := hg.resolve_left (by omega)
    refine ⟨_, inv_range1 h k2 h0 hij (by omega), ?_⟩
    rw [inv_range0 h k2 h0' hij' (by omega), rng_up hc.rng.w0.1 hc.rng.w1.1 hc.m1]
theorem agree_2 {c : Conf} {s : Ser} {a : List Ev} (h : SerInv c s a) {i j : Int} (h0 : 0 ≤ i) (hij : i ≤ j) (hg : s.2.1 = -1 ∨ ¬ i ≤ s.2.1 / c.2.1.2.2 - c.2.2.1.2.2 ∧ ¬ i * (c.2.1.2.2 / c.2.1.2.1) ≤ s.2.1 / c.2.1.2.1 - c.2.2.1.2.1) (h0' : 0 ≤ i * (c.2.1.2.2 / c.2.1.2.1)) (hij' : i * (c.2.1.2.2 / c.2.1.2.1) ≤ j * (c.2.1.2.2 / c.2.1.2.1)) :
    ∃ x, rangeV (SerOk c s) i j s.2.1 c.2.1.2.2 s.2.2.2.1.2.2 (now2 c s) = (x, 0) ∧ rangeV (SerOk c s) (i * (c.2.1.2.2 / c.2.1.2.1)) (j * (c.2.1.2.2 / c.2.1.2.1)) s.2.1 c.2.1.2.1 s.2.2.2.1.2.1 (now1 c s) = (x, 0) := by
  have hok := serInv_ok h
  have hc := hok.fold.cok
  rcases serInv_time h with ⟨k1, k2⟩ | ⟨k1, k2⟩
  · exact ⟨z0, range_none hok h0 hij k1, range_none hok h0' hij' k1⟩
  · have hg := hg.resolve_left (by omega)
    refine ⟨_, inv_range2 h k2 h0 hij (by omega), ?_⟩
    rw [inv_range1 h k2 h0' hij' (by omega), rng_up hc.rng.w1.1 hc.rng.w2.1 hc.m2]
/-- the label 'a' -/
def la : List Lab := [([97], [])]
theorem newA (c : Conf) : (newV c la).2 ≠ 0 ∨ (OkC c ∧ LabOk la ∧ newV c la = ((la, (-1, (r0w, (emp c, s0)))), 0)) := by
  unfold newV
  by_cases h : OkC c
  case neg => rw [if_neg h]; exact .inl (by decide)
  rw [if_pos h]
  by_cases h1 : LabOk la
  · rw [if_pos h1]; exact .inr ⟨h, h1, rfl⟩
  · rw [if_neg h1]; exact .inl (by decide)
theorem evs_wf {l : List Ev} (h : Wf (.slice tyEvent) l) : ∀ e ∈ l, EvW e := fun e he => ev_wf (h.2 e he)
/-- THE LAW SeriesAgree -/
theorem seriesAgree_true (n : Nat) (c : Conf) (l : List Ev) (k i j : Int) (hl : Wf (.slice tyEvent) l) : l15_SeriesAgree (n + 41) c l k i j = some true := by
  have hlw := evs_wf hl
  have hlive := l15_lives_true n
  have hnew := series_new (n + 33) c la
  have hs1 : la.length ≤ 9223372036854775807 := by decide
  rw [l15_SeriesAgree_eq]
  change _ = some true
  have enew : series_New (n + 40) c ((((97 : UInt8) :: []), []) :: []) = some (newV c la) := hnew
  simp only [hlive, enew, obind_some, Bool.not_true, tif_false, tif_true, tif_not, tif_dec]
  rcases newA c with h | ⟨hc, hla, h⟩
  · simp only [if_neg h, ite_self]
  have hr := hc.rng
  rw [h]
  simp only [if_true]
  have hsm := l15_small (n + 38) (la, (-1, (r0w, (emp c, s0)))) hs1
  rcases hsm with hsm | hsm
  · simp only [hsm, obind_some, if_true, ite_self]
  simp only [hsm, obind_some, if_neg (show ¬ ((1 : Int) = 0) by decide)]
  by_cases c1 : (60 : Int) < (l.length : Int)
  · simp only [if_pos c1, ite_self]
  simp only [if_neg c1]
  have h7 := fun k => agree_l7 (n + 17) k i j c l (by omega) hlw l [] loopFuel (la, (-1, (r0w, (emp c, s0)))) [] 0 l.length rfl rfl rfl (by unfold loopFuel; omega) (new_inv hc hla) (by simp)
  by_cases k1 : k = 1
  · subst k1
    obtain ⟨s', a', e7, hinv⟩ := h7 1
    rw [if_pos rfl]
    by_cases c2 : i < 0
    · rw [if_pos c2]
    by_cases c3 : j < i
    · rw [if_neg c2, if_pos c3]
    rw [if_neg c2, if_neg c3, if_neg (nz hr.w1.1), quo_45 hr.w1.1]
    by_cases c4 : 35184372088832 / c.2.1.2.1 < j
    · rw [if_pos c4]
    obtain ⟨f1, f2, f3, f4, f5⟩ := agree_wraps hr.w0 hr.w1 hc.m1 (show 0 ≤ i by omega) (show i ≤ j by omega) (show j ≤ 35184372088832 / c.2.1.2.1 by omega)
    rw [if_neg c4, e7]
    simp only [obind_some, selim_inl]
    rw [if_pos trivial, if_neg (nz hr.w0.1)]
    simp only [f1, f2, f3]
    have hw := serInv_w hinv
    have fin : (s'.2.1 = -1 ∨ ¬ i ≤ s'.2.1 / c.2.1.2.1 - c.2.2.1.2.1 ∧ ¬ i * (c.2.1.2.1 / c.2.1.1) ≤ s'.2.1 / c.2.1.1 - c.2.2.1.1) → ∃ x, series_Range (n + 40) c s' 1 i j = some (x, 0) ∧ series_Range (n + 40) c s' 0 (i * (c.2.1.2.1 / c.2.1.1)) (j * (c.2.1.2.1 / c.2.1.1)) = some (x, 0) := by
      intro hg
      obtain ⟨x, x1, x2⟩ := agree_1 hinv (by omega) (by omega) hg f4 f5
      exact ⟨x, by rw [series_range1 (n + 18) c hw, x1], by rw [series_range0 (n + 18) c hw, x2]⟩
    rcases serInv_time hinv with ⟨t1, _⟩ | ⟨t1, _⟩
    · obtain ⟨x, x1, x2⟩ := fin (.inl t1)
      rw [if_neg (show ¬ 0 ≤ s'.2.1 by omega), x1, x2]
      simp only [obind_some, if_true, celEq, decide_true]
    · rw [if_pos t1.1, if_neg (nz hr.w1.1), gone_wrap t1 hr.w1.1 hr.n1, if_neg (nz hr.w0.1), gone_wrap t1 hr.w0.1 hr.n0]
      by_cases d1 : i ≤ s'.2.1 / c.2.1.2.1 - c.2.2.1.2.1
      · rw [if_pos d1]
      by_cases d2 : i * (c.2.1.2.1 / c.2.1.1) ≤ s'.2.1 / c.2.1.1 - c.2.2.1.1
      · rw [if_neg d1, if_pos d2]
      obtain ⟨x, x1, x2⟩ := fin (.inr ⟨d1, d2⟩)
      rw [if_neg d1, if_neg d2, x1, x2]
      simp only [obind_some, if_true, celEq, decide_true]
  rw [if_neg k1]
  by_cases k2 : k = 2
  · subst k2
    obtain ⟨s', a', e7, hinv⟩ := h7 2
    rw [if_pos rfl]
    by_cases c2 : i < 0
    · rw [if_pos c2]
    by_cases c3 : j < i
    · rw [if_neg c2, if_pos c3]
    rw [if_neg c2, if_neg c3, if_neg (nz hr.w2.1), quo_45 hr.w2.1]
    by_cases c4 : 35184372088832 / c.2.1.2.2 < j
    · rw [if_pos c4]
    obtain ⟨f1, f2, f3, f4, f5⟩ := agree_wraps hr.w1 hr.w2 hc.m2 (show 0 ≤ i by omega) (show i ≤ j by omega) (show j ≤ 35184372088832 / c.2.1.2.2 by omega)
    rw [if_neg c4, e7]
    simp only [obind_some, selim_inl]
    rw [if_neg (show ¬ ((2 : Int) = 1) by decide), if_pos trivial, if_neg (nz hr.w1.1)]
    simp only [f1, f2, f3]
    have hw := serInv_w hinv
    have fin : (s'.2.1 = -1 ∨ ¬ i ≤ s'.2.1 / c.2.1.2.2 - c.2.2.1.2.2 ∧ ¬ i * (c.2.1.2.2 / c.2.1.2.1) ≤ s'.2.1 / c.2.1.2.1 - c.2.2.1.2.1) → ∃ x, series_Range (n + 40) c s' 2 i j = some (x, 0) ∧ series_Range (n + 40) c s' 1 (i * (c.2.1.2.2 / c.2.1.2.1)) (j * (c.2.1.2.2 / c.2.1.2.1)) = some (x, 0) := by
      intro hg
      obtain ⟨x, x1, x2⟩ := agree_2 hinv (by omega) (by omega) hg f4 f5
      exact ⟨x, by rw [series_range2 (n + 18) c hw, x1], by rw [series_range1 (n + 18) c hw, x2]⟩
    rcases serInv_time hinv with ⟨t1, _⟩ | ⟨t1, _⟩
    · obtain ⟨x, x1, x2⟩ := fin (.inl t1)
      rw [if_neg (show ¬ 0 ≤ s'.2.1 by omega), x1, x2]
      simp only [obind_some, if_true, celEq, decide_true]
    · rw [if_pos t1.1, if_neg (nz hr.w2.1), gone_wrap t1 hr.w2.1 hr.n2, if_neg (nz hr.w1.1), gone_wrap t1 hr.w1.1 hr.n1]
      by_cases d1 : i ≤ s'.2.1 / c.2.1.2.2 - c.2.2.1.2.2
      · rw [if_pos d1]
      by_cases d2 : i * (c.2.1.2.2 / c.2.1.2.1) ≤ s'.2.1 / c.2.1.2.1 - c.2.2.1.2.1
      · rw [if_neg d1, if_pos d2]
      obtain ⟨x, x1, x2⟩ := fin (.inr ⟨d1, d2⟩)
      rw [if_neg d1, if_neg d2, x1, x2]
      simp only [obind_some, if_true, celEq, decide_true]
  rw [if_neg k2]
  by_cases k3 : k < 1
  · rw [if_pos k3]
  rw [if_neg k3, if_pos (show 2 < k by omega)]
end Go.Proofs.YtapadkjknnfifaaGreat
