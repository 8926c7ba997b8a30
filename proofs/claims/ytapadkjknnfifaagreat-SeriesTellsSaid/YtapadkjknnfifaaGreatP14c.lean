/-
  Three tiers, third part: made, over, closed, asked from outside; the law FoldTells.
-/
import Derived.Test.YtapadkjknnfifaaGreatP14b
namespace Go.Proofs.YtapadkjknnfifaaGreat
open Go.Flat Go.Plim
set_option linter.unusedVariables false
set_option linter.unusedSimpArgs false

theorem r14_stage2 (n : Nat) {c : Conf} {s : Trs} (h : FoldOk c s) {i j : Int} (h0 : 0 ≤ i) (hij : i ≤ j) (hj : Begins c.2.1.1 j) :
    (tif (decide (IntKind.wrap .i64 (Int.tdiv (IntKind.wrap .i64 (i * c.2.1.1)) c.2.1.2.2) = IntKind.wrap .i64 (Int.tdiv (IntKind.wrap .i64 (j * c.2.1.1)) c.2.1.2.2))) (some s)
      (obind (r14_made (n + 8) c s (2 : Int) (IntKind.wrap .i64 (Int.tdiv (IntKind.wrap .i64 (i * c.2.1.1)) c.2.1.2.2))) fun r0 =>
        tif (decide (r0.2 = (0 : Int))) (tif (decide ((0 : Int) < r0.1.1)) (obind (r13_Put (n + 8) s.2.2 c.2.1.2.2 (IntKind.wrap .i64 (Int.tdiv (IntKind.wrap .i64 (i * c.2.1.1)) c.2.1.2.2)) r0.1) fun r1 => tif (decide (r1.2 = (0 : Int))) (some (s.1, (s.2.1, r1.1))) (some s)) (some s)) (some s))) = some (up2 c s i j) := by
  have hr := h.cok.rng
  have hjj : 0 ≤ j := hj.1
  obtain ⟨e1, b1⟩ := over_wraps hr.w0.1 hr.w2.1 h0 hij hj
  obtain ⟨e2, _⟩ := over_wraps hr.w0.1 hr.w2.1 hjj (Int.le_refl j) hj
  rw [e1, e2, r14_made2 n h b1]
  simp only [obind_some, tif_dec]
  unfold up2
  by_cases c1 : i * c.2.1.1 / c.2.1.2.2 = j * c.2.1.1 / c.2.1.2.2
  · rw [if_pos c1, if_pos c1]
  rw [if_neg c1, if_neg c1]
  generalize i * c.2.1.1 / c.2.1.2.2 = a at *
  have hok : CellOk (mk2 c s a).1 := tfold_okc _ _ _
  by_cases c2 : (mk2 c s a).2 = 0
  · rw [if_pos c2]
    by_cases c3 : 0 < (mk2 c s a).1.1
    · rw [if_pos c3, r13_put (n + 1) _ _ (tierOk_w h.t2) (CelW.of hok)]
      by_cases c4 : FitsP (mk2 c s a).1 c.2.1.2.2 a
      · rw [if_pos (And.intro h.t2 c4), if_pos (And.intro c2 c4)]; rfl
      · have hn : ¬ (TierOk s.2.2 c.2.1.2.2 ∧ FitsP (mk2 c s a).1 c.2.1.2.2 a) := fun k => c4 k.2
        have hn' : ¬ ((mk2 c s a).2 = 0 ∧ FitsP (mk2 c s a).1 c.2.1.2.2 a) := fun k => c4 k.2
        rw [if_neg hn, if_neg hn']; rfl
    · rw [if_neg c3, if_neg (fun k => c3 (by have := k.2.n.n1; omega))]
  · rw [if_neg c2, if_neg (fun k => c2 k.1)]
theorem r14_up_val (n : Nat) {c : Conf} {s : Trs} (h : FoldOk c s) {i j : Int} (h0 : 0 ≤ i) (hij : i ≤ j) (hj : Begins c.2.1.1 j) : r14_up (n + 9) c s i j = some (upw c s i j) := by
  have hr := h.cok.rng
  have hjj : 0 ≤ j := hj.1
  obtain ⟨e1, b1⟩ := over_wraps hr.w0.1 hr.w1.1 h0 hij hj
  obtain ⟨e2, _⟩ := over_wraps hr.w0.1 hr.w1.1 hjj (Int.le_refl j) hj
  have z1 : ¬ (c.2.1.2.1 = 0) := by have := hr.w1; omega
  have z2 : ¬ (c.2.1.2.2 = 0) := by have := hr.w2; omega
  rw [r14_up_eq]
  simp only [e1, e2, decide_eq_false z1, decide_eq_false z2, tif_false, r14_made1 n h b1, obind_some, r14_stage2 n h h0 hij hj]
  unfold upw
  simp only [tif_dec]
  by_cases c1 : i * c.2.1.1 / c.2.1.2.1 = j * c.2.1.1 / c.2.1.2.1
  · have : up1 c s i j = s := by unfold up1; rw [if_pos c1]
    rw [if_pos c1, this]
  rw [if_neg c1]
  have e3 : up1 c s i j = if (mk1 c s (i * c.2.1.1 / c.2.1.2.1)).2 = 0 ∧ FitsP (mk1 c s (i * c.2.1.1 / c.2.1.2.1)).1 c.2.1.2.1 (i * c.2.1.1 / c.2.1.2.1) then (s.1, (tput s.2.1 (i * c.2.1.1 / c.2.1.2.1) (mk1 c s (i * c.2.1.1 / c.2.1.2.1)).1, s.2.2)) else s := by
    unfold up1; rw [if_neg c1]
  have hk := up1_ok h i j
  rw [e3] at hk ⊢
  generalize i * c.2.1.1 / c.2.1.2.1 = a at *
  have hok : CellOk (mk1 c s a).1 := tfold_okc _ _ _
  by_cases c2 : (mk1 c s a).2 = 0
  · rw [if_pos c2]
    by_cases c3 : 0 < (mk1 c s a).1.1
    · rw [if_pos c3, r13_put (n + 1) _ _ (tierOk_w h.t1) (CelW.of hok)]
      by_cases c4 : FitsP (mk1 c s a).1 c.2.1.2.1 a
      · rw [if_pos (And.intro c2 c4)] at hk ⊢
        rw [if_pos (And.intro h.t1 c4)]
        have := r14_stage2 n hk h0 hij hj
        simp only [obind_some, if_neg z2, if_true]
        simp only [tif_dec] at this ⊢
        exact this
      · have hn1 : ¬ ((mk1 c s a).2 = 0 ∧ FitsP (mk1 c s a).1 c.2.1.2.1 a) := fun k => c4 k.2
        rw [if_neg hn1] at hk ⊢
        have hn : ¬ (TierOk s.2.1 c.2.1.2.1 ∧ FitsP (mk1 c s a).1 c.2.1.2.1 a) := fun k => c4 k.2
        rw [if_neg hn]
        rfl
    · rw [if_neg c3, if_neg (fun k => c3 (by have := k.2.n.n1; omega))]
  · rw [if_neg c2, if_neg (fun k => c2 k.1)]

/-! ### asked from outside -/
noncomputable def closeE (c : Conf) (s : Trs) (was : Slo) (j : Int) : Trs × Int :=
  if FoldOk c s then
    (if was = s0 then (s, 0)
     else if FitsP was.2 c.2.1.1 was.1 then
      (if was.1 = j then (s, 0) else if was.1 ≤ j ∧ Begins c.2.1.1 j then (upw c (tput s.1 was.1 was.2, s.2) was.1 j, 0) else (([], ([], [])), 1))
     else (([], ([], [])), 2))
  else (([], ([], [])), 2)
theorem foldOk_put0 {c : Conf} {s : Trs} (h : FoldOk c s) {i : Int} {x : Cel} (hf : FitsP x c.2.1.1 i) : FoldOk c (tput s.1 i x, s.2) :=
  ⟨h.cok, by simpa [tput] using h.n0, h.n1, h.n2, tput_ok h.t0 hf, h.t1, h.t2⟩
theorem fold_close (n : Nat) (c : Conf) {s : Trs} (hw : TrsW s) {was : Slo} (hx : SloW was) (j : Int) : fold_Close (n + 21) c s was j = some (closeE c s was j) := by
  rw [fold_Close_eq, fold_open_val (n + 12) c hw]
  unfold closeE
  by_cases h : FoldOk c s
  case neg => rw [if_neg h, if_neg h]; rfl
  have hr := h.cok.rng
  rw [if_pos h, if_pos h]
  simp only [obind_some, oelim_some, decide_true, Bool.not_true, tif_false, sloEq0, tif_not, tif_dec, if_true, tier_fits (n + 14) hx.c]
  by_cases c1 : was = s0
  · rw [if_pos c1, if_pos c1, if_pos c1]
  rw [if_neg c1, if_neg c1, if_neg c1]
  by_cases c2 : FitsP was.2 c.2.1.1 was.1
  case neg => rw [if_neg c2, if_neg c2]
  rw [if_pos c2, if_pos c2]
  by_cases c3 : was.1 = j
  · rw [if_pos c3, if_pos c3]
  rw [if_neg c3, if_neg c3]
  by_cases c4 : j < was.1
  · rw [if_pos c4, if_neg (fun q => by omega)]
  rw [if_neg c4, begins_0 (n + 19) c s hr.w0.1 j]
  simp only [obind_some, tif_not, tif_dec]
  by_cases hb : Begins c.2.1.1 j
  · have hi := c2.i0
    rw [if_pos hb, if_pos ⟨by omega, hb⟩, fold_put0 (n + 11) h was.1 hx.c, if_pos c2]
    simp only [obind_some, if_true, fold_up n (foldOk_put0 h c2) hi.1 (show was.1 ≤ j by omega) hb]
  · rw [if_neg hb, if_neg (fun q => hb q.2)]
theorem r14_close (n : Nat) (c : Conf) {s : Trs} (hw : TrsW s) {was : Slo} (hx : SloW was) (j : Int) : r14_Close (n + 10) c s was j = some (closeE c s was j) := by
  rw [r14_Close_eq, r14_check (n + 2) c hw]
  unfold closeE
  by_cases h : FoldOk c s
  case neg => rw [if_neg h, if_neg h]; rfl
  have hr := h.cok.rng
  rw [if_pos h, if_pos h]
  simp only [obind_some, decide_true, Bool.not_true, tif_false, sloEq0, tif_not, tif_dec, if_true, r13_fits (n + 4) hx.c]
  by_cases c1 : was = s0
  · rw [if_pos c1, if_pos c1, if_pos c1]
  rw [if_neg c1, if_neg c1, if_neg c1]
  by_cases c2 : FitsP was.2 c.2.1.1 was.1
  case neg => rw [if_neg c2, if_neg c2]
  rw [if_pos c2, if_pos c2]
  by_cases c3 : was.1 = j
  · rw [if_pos c3, if_pos c3]
  rw [if_neg c3, if_neg c3]
  by_cases c4 : j < was.1
  · rw [if_pos c4, if_neg (fun q => by omega)]
  rw [if_neg c4, r14_begins_val (n + 8) hr.w0.1 j]
  simp only [obind_some, tif_not, tif_dec]
  by_cases hb : Begins c.2.1.1 j
  · have hi := c2.i0
    rw [if_pos hb, if_pos ⟨by omega, hb⟩, r13_put (n + 2) _ _ (tierOk_w h.t0) hx.c, if_pos (And.intro h.t0 c2)]
    simp only [obind_some, r14_up_val n (foldOk_put0 h c2) hi.1 (show was.1 ≤ j by omega) hb]
  · rw [if_neg hb, if_neg (fun q => hb q.2)]

/-! ### equal -/
theorem r13_same_l (n : Nat) (l : List Slo) (hL : l.length ≤ 1000000) : ∀ (rest pre : List Slo) (f : Nat) (ix len : Int), l = pre ++ rest → ix = pre.length → len = l.length → rest.length < f → r13_Same_l4 n f (l, l, len, ix, ()) = some (.inl ()) := by
  intro rest
  induction rest with
  | nil =>
    intro pre f ix len hl hi hn hf
    obtain ⟨f, rfl⟩ : ∃ g, f = g + 1 := ⟨f - 1, by simp at hf; omega⟩
    rw [r13_Same_l4_eq]
    simp only [tif_dec, if_neg (idxe hl hi hn)]
  | cons x rest ih =>
    intro pre f ix len hl hi hn hf
    obtain ⟨f, rfl⟩ : ∃ g, f = g + 1 := ⟨f - 1, by simp at hf; omega⟩
    rw [r13_Same_l4_eq]
    simp only [tif_dec, if_pos (idx hl hi hn), at_mid hl hi, obind_some, sloEq, decide_true, Bool.not_true, tif_false, idxw hl hi (by omega)]
    exact ih (pre ++ [x]) f (ix + 1) len (idxl hl) (idxs hi) hn (by simp at hf; omega)
theorem r13_same_refl (n : Nat) (l : List Slo) (hL : l.length ≤ 1000000) : r13_Same (n + 1) l l = some true := by
  rw [r13_Same_eq]
  simp only [decide_true, Bool.not_true, tif_false, r13_same_l n l hL l [] loopFuel 0 _ rfl rfl rfl (by unfold loopFuel; omega), obind_some, selim_inl]
theorem r14_same_refl (n : Nat) (s : Trs) (h0 : s.1.length ≤ 1000000) (h1 : s.2.1.length ≤ 1000000) (h2 : s.2.2.length ≤ 1000000) : r14_Same (n + 2) s s = some true := by
  rw [r14_Same_eq, r13_same_refl n _ h0, r13_same_refl n _ h1, r13_same_refl n _ h2]
  simp only [obind_some, Bool.not_true, tif_false]
theorem FoldOk.lens {c : Conf} {s : Trs} (h : FoldOk c s) : s.1.length ≤ 1000000 ∧ s.2.1.length ≤ 1000000 ∧ s.2.2.length ≤ 1000000 := by
  have := h.t0.l1; have := h.t1.l1; have := h.t2.l1; omega
theorem same_closeE (n : Nat) (c : Conf) (s : Trs) (was : Slo) (j : Int) : r14_Same (n + 2) (closeE c s was j).1 (closeE c s was j).1 = some true := by
  unfold closeE
  by_cases h : FoldOk c s
  · obtain ⟨a, b, d⟩ := h.lens
    rw [if_pos h]
    split
    · exact r14_same_refl n _ a b d
    · split
      · rename_i hf
        split
        · exact r14_same_refl n _ a b d
        · split
          · obtain ⟨a, b, d⟩ := (upw_ok (foldOk_put0 h hf) was.1 j).lens
            exact r14_same_refl n _ a b d
          · exact r14_same_refl n _ (by simp) (by simp) (by simp)
      · exact r14_same_refl n _ (by simp) (by simp) (by simp)
  · rw [if_neg h]; exact r14_same_refl n _ (by simp) (by simp) (by simp)
theorem same_emp (n : Nat) (c : Conf) : r14_Same (n + 2) (emp c) (emp c) = some true := by
  unfold emp
  by_cases h : OkC c
  · have := h.rng.n0; have := h.rng.n1; have := h.rng.n2
    rw [if_pos h]; exact r14_same_refl n _ (by simp; omega) (by simp; omega) (by simp; omega)
  · rw [if_neg h]; exact r14_same_refl n _ (by simp) (by simp) (by simp)
theorem trs_wf {s : Trs} (h : Wf (.wrap (.pair (.slice tySlot) (.pair (.slice tySlot) (.slice tySlot)))) s) : TrsW s := by
  obtain ⟨h1, h2, h3⟩ := h
  exact ⟨slos_wf h1, slos_wf h2, slos_wf h3⟩
end Go.Proofs.YtapadkjknnfifaaGreat
