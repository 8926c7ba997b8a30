/-
  Three tiers, second part: a window that is made, windows that are over.
-/
import Derived.Test.YtapadkjknnfifaaGreatP14
namespace Go.Proofs.YtapadkjknnfifaaGreat
open Go.Flat Go.Plim
set_option linter.unusedVariables false
set_option linter.unusedSimpArgs false
theorem allE_okc (l : List Cel) : ∀ c, CellOk c → CellOk (allE c l).1 := by
  induction l with
  | nil => intro c h; exact h
  | cons x l ih =>
    intro c h
    simp only [allE]
    split
    · rename_i k; exact ih _ (mrgE_ok k).2.2.2.2
    · exact ok_z0
theorem tfold_okc (l : List Slo) (i k : Int) : CellOk (tfold l i k).1 := by
  unfold tfold
  split
  · exact ok_z0
  · exact allE_okc _ _ ok_z0
theorem made_wraps {a b i : Int} (ha : 1 ≤ a ∧ a ≤ 1099511627776) (hb : 1 ≤ b ∧ b ≤ 1099511627776) (hm : b % a = 0) (h : Begins b i) :
    IntKind.wrap .i64 (i * (b / a)) = i * (b / a) ∧ IntKind.wrap .i64 ((IntKind.wrap .i64 (i + 1)) * (b / a)) = (i + 1) * (b / a) := by
  obtain ⟨h1, h2, h3, h4, h5, h6⟩ := made_range ha hb hm h
  have := begins_small hb.1 h
  have := h.1
  rw [w64 (x := i + 1) (by omega) (by omega), h6, w64 (by omega) (by omega), w64 (by omega) (by omega)]
  exact ⟨rfl, rfl⟩
theorem fold_made1 (n : Nat) {c : Conf} {s : Trs} (h : FoldOk c s) {i : Int} (hb : Begins c.2.1.2.1 i) : fold_stack_made (n + 19) (c, s) 1 i = some ((mk1 c s i).1, ((mk1 c s i).2, (c, s))) := by
  have hr := h.cok.rng
  obtain ⟨e1, e2⟩ := made_wraps hr.w0 hr.w1 h.cok.m1 hb
  rw [fold_stack_made_eq_1]
  simp only [tif_dec, if_neg (show ¬ (c.2.1.1 = 0) by have := hr.w0; omega), quo_w hr.w1 hr.w0.1, e1, e2, tier_fold n h.t0, obind_some]
  rfl
theorem fold_made2 (n : Nat) {c : Conf} {s : Trs} (h : FoldOk c s) {i : Int} (hb : Begins c.2.1.2.2 i) : fold_stack_made (n + 19) (c, s) 2 i = some ((mk2 c s i).1, ((mk2 c s i).2, (c, s))) := by
  have hr := h.cok.rng
  obtain ⟨e1, e2⟩ := made_wraps hr.w1 hr.w2 h.cok.m2 hb
  rw [fold_stack_made_eq_2]
  simp only [tif_dec, if_neg (show ¬ (c.2.1.2.1 = 0) by have := hr.w1; omega), quo_w hr.w2 hr.w1.1, e1, e2, tier_fold n h.t1, obind_some]
  rfl
theorem r10_factor1 (n : Nat) {c : Conf} (h : OkC c) : r10_Factor (n + 4) c 1 = some (c.2.1.2.1 / c.2.1.1) := by
  have hr := h.rng
  rw [r10_Factor_eq, r10_check n c, if_pos h]
  rw [show IntKind.wrap .i64 ((1 : Int) - 1) = 0 from rfl]
  simp only [obind_some, decide_true, Bool.not_true, tif_false]
  rw [show (decide ((1 : Int) < 1)) = false from rfl, tif_false, show (decide ((2 : Int) < 1)) = false from rfl, tif_false, show (decide ((1 : Int) = 0)) = false from rfl, tif_false]
  simp only [tif_true, tif_dec, if_neg (show ¬ (c.2.1.1 = 0) by have := hr.w0; omega), quo_w hr.w1 hr.w0.1]
/-! ### put -/
theorem fold_put0 (n : Nat) {c : Conf} {s : Trs} (h : FoldOk c s) (i : Int) {x : Cel} (hx : CelW x) : fold_stack_put (n + 9) (c, s) 0 i x = some (if FitsP x c.2.1.1 i then (0, (c, (tput s.1 i x, s.2))) else (2, (c, s))) := by
  rw [fold_stack_put_eq_0, tier_put n _ _ (tierOk_w h.t0) hx]
  simp only [obind_some, tif_dec]
  by_cases hf : FitsP x c.2.1.1 i
  · rw [if_pos (And.intro h.t0 hf), if_pos hf]; rfl
  · have hn : ¬ (TierOk s.1 c.2.1.1 ∧ FitsP x c.2.1.1 i) := fun k => hf k.2
    rw [if_neg hn, if_neg hf]; rfl
theorem fold_put1 (n : Nat) {c : Conf} {s : Trs} (h : FoldOk c s) (i : Int) {x : Cel} (hx : CelW x) : fold_stack_put (n + 9) (c, s) 1 i x = some (if FitsP x c.2.1.2.1 i then (0, (c, (s.1, (tput s.2.1 i x, s.2.2)))) else (2, (c, s))) := by
  rw [fold_stack_put_eq_1, tier_put n _ _ (tierOk_w h.t1) hx]
  simp only [obind_some, tif_dec]
  by_cases hf : FitsP x c.2.1.2.1 i
  · rw [if_pos (And.intro h.t1 hf), if_pos hf]; rfl
  · have hn : ¬ (TierOk s.2.1 c.2.1.2.1 ∧ FitsP x c.2.1.2.1 i) := fun k => hf k.2
    rw [if_neg hn, if_neg hf]; rfl
theorem fold_put2 (n : Nat) {c : Conf} {s : Trs} (h : FoldOk c s) (i : Int) {x : Cel} (hx : CelW x) : fold_stack_put (n + 9) (c, s) 2 i x = some (if FitsP x c.2.1.2.2 i then (0, (c, (s.1, (s.2.1, tput s.2.2 i x)))) else (2, (c, s))) := by
  rw [fold_stack_put_eq_2, tier_put n _ _ (tierOk_w h.t2) hx]
  simp only [obind_some, tif_dec]
  by_cases hf : FitsP x c.2.1.2.2 i
  · rw [if_pos (And.intro h.t2 hf), if_pos hf]; rfl
  · have hn : ¬ (TierOk s.2.2 c.2.1.2.2 ∧ FitsP x c.2.1.2.2 i) := fun k => hf k.2
    rw [if_neg hn, if_neg hf]; rfl
/-! ### windows that are over -/
theorem over_wraps {a w i j : Int} (ha : 1 ≤ a) (hw : 1 ≤ w) (h0 : 0 ≤ i) (hij : i ≤ j) (hj : Begins a j) :
    IntKind.wrap .i64 (Int.tdiv (IntKind.wrap .i64 (i * a)) w) = i * a / w ∧ Begins w (i * a / w) := by
  have hm := hj.mul ha
  have h1 : 0 ≤ i * a := Int.mul_nonneg h0 (by omega)
  have h2 : i * a ≤ j * a := Int.mul_le_mul_of_nonneg_right hij (by omega)
  have h3 : 0 ≤ i * a / w := Int.ediv_nonneg h1 (by omega)
  have h4 : i * a / w ≤ i * a := Int.ediv_le_self _ h1
  rw [w64 (x := i * a) (by omega) (by omega), tdiv_nn h1, w64 (by omega) (by omega)]
  exact ⟨rfl, div_begins hw ⟨h1, by omega⟩⟩
theorem stage2 (n : Nat) {c : Conf} {s : Trs} (h : FoldOk c s) {i j : Int} (h0 : 0 ≤ i) (hij : i ≤ j) (hj : Begins c.2.1.1 j) :
    (tif (decide (IntKind.wrap .i64 (Int.tdiv (IntKind.wrap .i64 (i * c.2.1.1)) c.2.1.2.2) = IntKind.wrap .i64 (Int.tdiv (IntKind.wrap .i64 (j * c.2.1.1)) c.2.1.2.2))) (some (c, s))
      (obind (fold_stack_made (n + 19) (c, s) (2 : Int) (IntKind.wrap .i64 (Int.tdiv (IntKind.wrap .i64 (i * c.2.1.1)) c.2.1.2.2))) fun r0 =>
        tif (decide (r0.2.1 = (0 : Int))) (tif (decide ((0 : Int) < r0.1.1)) (obind (fold_stack_put (n + 19) r0.2.2 (2 : Int) (IntKind.wrap .i64 (Int.tdiv (IntKind.wrap .i64 (i * c.2.1.1)) c.2.1.2.2)) r0.1) fun r1 => some r1.2) (some r0.2.2)) (some r0.2.2))) = some (c, up2 c s i j) := by
  have hr := h.cok.rng
  have hjj : 0 ≤ j := hj.1
  obtain ⟨e1, b1⟩ := over_wraps hr.w0.1 hr.w2.1 h0 hij hj
  obtain ⟨e2, _⟩ := over_wraps hr.w0.1 hr.w2.1 hjj (Int.le_refl j) hj
  rw [e1, e2, fold_made2 n h b1]
  simp only [obind_some, tif_dec]
  unfold up2
  by_cases c1 : i * c.2.1.1 / c.2.1.2.2 = j * c.2.1.1 / c.2.1.2.2
  · rw [if_pos c1, if_pos c1]
  rw [if_neg c1, if_neg c1]
  generalize i * c.2.1.1 / c.2.1.2.2 = a at *
  have hok : CellOk (mk2 c s a).1 := tfold_okc _ _ _
  by_cases c2 : (mk2 c s a).2 = 0
  · rw [if_pos c2]
    by_cases c3 : 0 < (mk2 c s a).1.1
    · rw [if_pos c3, fold_put2 (n + 10) h a (CelW.of hok)]
      by_cases c4 : FitsP (mk2 c s a).1 c.2.1.2.2 a
      · rw [if_pos c4, if_pos (And.intro c2 c4)]; rfl
      · rw [if_neg c4, if_neg (fun k => c4 k.2)]; rfl
    · rw [if_neg c3, if_neg (fun k => c3 (by have := k.2.n.n1; omega))]
  · rw [if_neg c2, if_neg (fun k => c2 k.1)]
theorem fold_up (n : Nat) {c : Conf} {s : Trs} (h : FoldOk c s) {i j : Int} (h0 : 0 ≤ i) (hij : i ≤ j) (hj : Begins c.2.1.1 j) : fold_stack_up (n + 20) (c, s) i j = some (c, upw c s i j) := by
  have hr := h.cok.rng
  have hjj : 0 ≤ j := hj.1
  obtain ⟨e1, b1⟩ := over_wraps hr.w0.1 hr.w1.1 h0 hij hj
  obtain ⟨e2, _⟩ := over_wraps hr.w0.1 hr.w1.1 hjj (Int.le_refl j) hj
  have z1 : ¬ (c.2.1.2.1 = 0) := by have := hr.w1; omega
  have z2 : ¬ (c.2.1.2.2 = 0) := by have := hr.w2; omega
  rw [fold_stack_up_eq]
  simp only [e1, e2, decide_eq_false z1, decide_eq_false z2, tif_false, fold_made1 n h b1, obind_some, stage2 n h h0 hij hj]
  unfold upw
  simp only [tif_dec]
  by_cases c1 : i * c.2.1.1 / c.2.1.2.1 = j * c.2.1.1 / c.2.1.2.1
  · have : up1 c s i j = s := by unfold up1; rw [if_pos c1]
    rw [if_pos c1, this]
  rw [if_neg c1]
  have e3 : up1 c s i j = if (mk1 c s (i * c.2.1.1 / c.2.1.2.1)).2 = 0 ∧ FitsP (mk1 c s (i * c.2.1.1 / c.2.1.2.1)).1 c.2.1.2.1 (i * c.2.1.1 / c.2.1.2.1) then (s.1, (tput s.2.1 (i * c.2.1.1 / c.2.1.2.1) (mk1 c s (i * c.2.1.1 / c.2.1.2.1)).1, s.2.2)) else s := by
    unfold up1; rw [if_neg c1]
  have hk := up1_ok h i j
  rw [e3] at hk ⊢
  generalize i * c.2.1.1 / c.2.1.2.1 = a at *
  have hok : CellOk (mk1 c s a).1 := tfold_okc _ _ _
  by_cases c2 : (mk1 c s a).2 = 0
  · rw [if_pos c2]
    by_cases c3 : 0 < (mk1 c s a).1.1
    · rw [if_pos c3, fold_put1 (n + 10) h a (CelW.of hok)]
      by_cases c4 : FitsP (mk1 c s a).1 c.2.1.2.1 a
      · rw [if_pos (And.intro c2 c4)] at hk ⊢
        rw [if_pos c4]
        have := stage2 n hk h0 hij hj
        simp only [obind_some, if_neg z2]
        simp only [tif_dec] at this ⊢
        exact this
      · have hn1 : ¬ ((mk1 c s a).2 = 0 ∧ FitsP (mk1 c s a).1 c.2.1.2.1 a) := fun k => c4 k.2
        rw [if_neg hn1] at hk ⊢
        rw [if_neg c4]
        have := stage2 n hk h0 hij hj
        simp only [obind_some, if_neg z2]
        simp only [tif_dec] at this ⊢
        exact this
    · rw [if_neg c3, if_neg (fun k => c3 (by have := k.2.n.n1; omega))]
  · rw [if_neg c2, if_neg (fun k => c2 k.1)]
end Go.Proofs.YtapadkjknnfifaaGreat
