/-
  Cells, third part: merged, and those of events.
-/
import Derived.Test.YtapadkjknnfifaaGreatP08b
namespace Go.Proofs.YtapadkjknnfifaaGreat
open Go.Flat Go.Plim
set_option linter.unusedVariables false
set_option linter.unusedSimpArgs false
theorem z02 (p : Prop) [Decidable p] : ((if p then (0 : Int) else 2) = 0) ↔ p := by by_cases h : p <;> simp [h]
theorem ahead_n {a b : Cel} (ha : a ≠ z0) (hb : b ≠ z0) : Ahead a b ↔ a.2.2.1.1 < b.2.1.1 := ⟨fun h => (h.resolve_left ha).resolve_left hb, fun h => .inr (.inr h)⟩
theorem mrgE_z0 {b : Cel} (hb : CellOk b) : mrgE z0 b = (b, 0) := by
  unfold mrgE; rw [if_pos (And.intro ok_z0 hb), if_pos (.inl rfl), z0_mrg]
/-- what must hold for the sums of two that follow -/
theorem join_facts {a b : Cel} (na : CellN a) (nb : CellN b) (h : a.2.2.1.1 < b.2.1.1) :
    (∀ x ∈ [a.2.2.2.1, (dcell (btw a.2.2.1 b.2.1)).2.2.2.1, b.2.2.2.1], WdOk x) ∧ sumW [a.2.2.2.1, (dcell (btw a.2.2.1 b.2.1)).2.2.2.1, b.2.2.2.1] = wv a.2.2.2.1 + (btw a.2.2.1 b.2.1).1 + wv b.2.2.2.1 ∧
    wv a.2.2.2.1 + (btw a.2.2.1 b.2.1).1 + wv b.2.2.2.1 < 340282366920938463463374607431768211456 := by
  have d := btw_ok na.l nb.f h
  have ia := na.inc; have ib := nb.inc
  have sa := na.small; have sb := nb.small
  have d1 := d.i
  refine ⟨?_, ?_, by omega⟩
  · intro x hx
    simp only [List.mem_cons, List.not_mem_nil, or_false] at hx
    rcases hx with rfl | rfl | rfl
    · exact na.w
    · exact ⟨by simp [dcell], d1⟩
    · exact nb.w
  · simp [sumW, dcell, wv_lo]; omega
theorem cell_merge (n : Nat) {a b : Cel} (ha : CelW a) (hb : CelW b) : cell_Merge (n + 6) a b = some (mrgE a b) := by
  rw [cell_Merge_eq, cell_check n ha, cell_check n hb, cell_none_val, cell_none_val]
  simp only [obind_some, tif_dec, tif_not, z02]
  unfold mrgE
  by_cases h1 : CellOk a
  case neg => rw [if_neg h1, if_neg (fun k => h1 k.1)]; rfl
  by_cases h2 : CellOk b
  case neg => rw [if_pos h1, if_neg h2, if_neg (fun k => h2 k.2)]; rfl
  rw [if_pos h1, if_pos h2, if_pos (And.intro h1 h2)]
  by_cases h3 : a = z0
  · rw [if_pos h3, if_pos (.inl h3), h3, z0_mrg]
  by_cases h4 : b = z0
  · rw [if_neg h3, if_pos h4, if_pos (.inr (.inl h4)), h4, mrg_z0]
  rw [if_neg h3, if_neg h4]
  have na := h1.n h3; have nb := h2.n h4
  rw [cell_join_eq, event_between (n + 1) na.l nb.f]
  simp only [obind_some]
  by_cases h5 : a.2.2.1.1 < b.2.1.1
  · obtain ⟨w1, w2, w3⟩ := join_facts na nb h5
    have d := btw_ok na.l nb.f h5
    rw [if_pos h5, if_pos ((ahead_n h3 h4).2 h5)]
    simp only [decide_true, Bool.not_true, tif_false]
    rw [wide_sum (n + 1) _ (by simp) w1 (by rw [w2]; exact w3), w2]
    simp only [obind_some]
    rw [mrg_n na nb]
    have := na.small; have := nb.small; have := na.n1; have := nb.n1
    have := na.r; have := na.g; have := na.rg; have := nb.r; have := nb.g; have := nb.rg
    have := na.s0; have := na.s1; have := nb.s0; have := nb.s1
    have := na.f.t0; have := na.l.t1; have := nb.f.t0; have := nb.l.t1
    obtain ⟨d1, d2, d3, d4, d5⟩ := d
    simp only [dcell]
    rw [w64 (x := a.1 + b.1) (by omega) (by omega), w64 (x := a.2.2.2.2.1 + b.2.2.2.2.1) (by omega) (by omega), w64 (x := a.2.2.2.2.2.1 + b.2.2.2.2.2.1) (by omega) (by omega), w64 (x := a.2.2.2.2.2.2 + b.2.2.2.2.2.2) (by omega) (by omega)]
    rw [w64 (by omega) (by omega), w64 (by omega) (by omega), w64 (by omega) (by omega)]
    refine congrArg some (Prod.ext (Prod.ext rfl (Prod.ext rfl (Prod.ext rfl (Prod.ext rfl (Prod.ext ?_ (Prod.ext ?_ ?_)))))) rfl) <;> simp only <;> omega
  · rw [if_neg h5, if_neg (fun k => h5 ((ahead_n h3 h4).1 k))]
    simp only [tif_not, tif_dec]
    rw [if_neg (by decide)]
    rfl
theorem r08_merge (n : Nat) {a b : Cel} (ha : CelW a) (hb : CelW b) : r08_Merge (n + 5) a b = some (mrgE a b) := by
  rw [r08_Merge_eq, r08_check n ha, r08_check n hb]
  simp only [obind_some, tif_dec, tif_not, z02]
  unfold mrgE
  by_cases h1 : CellOk a
  case neg => rw [if_neg h1, if_neg (fun k => h1 k.1)]; rfl
  by_cases h2 : CellOk b
  case neg => rw [if_pos h1, if_neg h2, if_neg (fun k => h2 k.2)]; rfl
  rw [if_pos h1, if_pos h2, if_pos (And.intro h1 h2)]
  by_cases h3 : a = z0
  · rw [if_pos (h1.count.1.2 h3), if_pos (.inl h3), h3, z0_mrg]
  by_cases h4 : b = z0
  · rw [if_neg (mt h1.count.1.1 h3), if_pos (h2.count.1.2 h4), if_pos (.inr (.inl h4)), h4, mrg_z0]
  rw [if_neg (mt h1.count.1.1 h3), if_neg (mt h2.count.1.1 h4)]
  have na := h1.n h3; have nb := h2.n h4
  by_cases h5 : a.2.2.1.1 < b.2.1.1
  · obtain ⟨w1, w2, w3⟩ := join_facts na nb h5
    have d := btw_ok na.l nb.f h5
    rw [if_neg (by omega), if_pos ((ahead_n h3 h4).2 h5), r07_between (n + 2) na.l nb.f, if_pos h5]
    simp only [obind_some]
    rw [r01_sum (n + 1) _ (by simp) w1 (by rw [w2]; exact w3), w2]
    simp only [obind_some]
    rw [mrg_n na nb]
    have := na.small; have := nb.small; have := na.n1; have := nb.n1
    have := na.r; have := na.g; have := na.rg; have := nb.r; have := nb.g; have := nb.rg
    have := na.s0; have := na.s1; have := nb.s0; have := nb.s1
    have := na.f.t0; have := na.l.t1; have := nb.f.t0; have := nb.l.t1
    obtain ⟨d1, d2, d3, d4, d5⟩ := d
    simp only [dcell]
    rw [w64 (x := a.1 + b.1) (by omega) (by omega), w64 (x := a.2.2.2.2.1 + _) (by omega) (by omega), w64 (x := a.2.2.2.2.2.1 + _) (by omega) (by omega), w64 (x := a.2.2.2.2.2.2 + _) (by omega) (by omega)]
    rw [w64 (by omega) (by omega), w64 (by omega) (by omega), w64 (by omega) (by omega)]
  · rw [if_pos (by omega), if_neg (fun k => h5 ((ahead_n h3 h4).1 k))]
    rfl
theorem mrgE_ok {a b : Cel} (h : (mrgE a b).2 = 0) : CellOk a ∧ CellOk b ∧ Ahead a b ∧ (mrgE a b).1 = mrg a b ∧ CellOk (mrgE a b).1 := by
  unfold mrgE at h ⊢
  by_cases h1 : CellOk a ∧ CellOk b
  · rw [if_pos h1] at h ⊢
    by_cases h2 : Ahead a b
    · rw [if_pos h2]; exact ⟨h1.1, h1.2, h2, rfl, mrg_ok h1.1 h1.2 h2⟩
    · rw [if_neg h2] at h; simp at h
  · rw [if_neg h1] at h; simp at h
theorem mrgE_w (a b : Cel) : CelW (mrgE a b).1 := by
  by_cases h : (mrgE a b).2 = 0
  · exact .of (mrgE_ok h).2.2.2.2
  · unfold mrgE at h ⊢
    by_cases h1 : CellOk a ∧ CellOk b
    · rw [if_pos h1] at h ⊢
      by_cases h2 : Ahead a b
      · rw [if_pos h2] at h; simp at h
      · rw [if_neg h2]; exact celW_z0
    · rw [if_neg h1]; exact celW_z0
theorem cell_all_l (n : Nat) (s2 : Cel) (l : List Cel) (hL : l.length ≤ 1000000000000) (hw : ∀ x ∈ l, CelW x) : ∀ (rest pre : List Cel) (f : Nat) (c : Cel) (i len : Int), l = pre ++ rest → i = pre.length → len = l.length → rest.length < f → CelW c →
    cell_All_l3 (n + 6) f (s2, c, l, len, i, ()) = some (if (allE c rest).2 = 0 then .inl (s2, (allE c rest).1, ()) else .inr (z0, (allE c rest).2)) := by
  intro rest
  induction rest with
  | nil =>
    intro pre f c i len hl hi hn hf hc
    obtain ⟨f, rfl⟩ : ∃ g, f = g + 1 := ⟨f - 1, by simp at hf; omega⟩
    rw [cell_All_l3_eq]
    simp only [tif_dec, if_neg (idxe hl hi hn), allE, if_pos trivial]
  | cons x rest ih =>
    intro pre f c i len hl hi hn hf hc
    obtain ⟨f, rfl⟩ : ∃ g, f = g + 1 := ⟨f - 1, by simp at hf; omega⟩
    rw [cell_All_l3_eq]
    have hx : CelW x := hw x (by rw [hl]; simp)
    simp only [tif_dec, tif_not, if_pos (idx hl hi hn), at_mid hl hi, obind_some, cell_merge n hc hx, idxw hl hi hL]
    by_cases h : (mrgE c x).2 = 0
    · rw [if_pos h, ih (pre ++ [x]) f _ (i + 1) len (idxl hl) (idxs hi) hn (by simp at hf; omega) (mrgE_w c x)]
      simp only [allE, if_pos h]
    · rw [if_neg h]
      simp only [allE, if_neg h]
      rfl
theorem allE_z0 (l : List Cel) : ∀ c, (allE c l).2 ≠ 0 → (allE c l).1 = z0 := by
  induction l with
  | nil => intro c h; exact absurd rfl h
  | cons x l ih =>
    intro c h
    simp only [allE] at h ⊢
    split at h
    · rename_i k; rw [if_pos k]; exact ih _ h
    · rename_i k; rw [if_neg k]
theorem cell_all (n : Nat) (l : List Cel) (hL : l.length ≤ 1000000000000) (hw : ∀ x ∈ l, CelW x) : cell_All (n + 7) l = some (allE z0 l) := by
  have := cell_all_l n z0 l hL hw l [] loopFuel z0 0 l.length rfl rfl rfl (by unfold loopFuel; omega) celW_z0
  rw [cell_All_eq]
  have e : cell_All_l3 (n + 6) loopFuel (((0 : Int), (((0 : Int), ((0 : Int), ((0 : Int), false))), (((0 : Int), ((0 : Int), ((0 : Int), false))), (((0 : Int), (0 : Int)), ((0 : Int), ((0 : Int), (0 : Int))))))), ((0 : Int), (((0 : Int), ((0 : Int), ((0 : Int), false))), (((0 : Int), ((0 : Int), ((0 : Int), false))), (((0 : Int), (0 : Int)), ((0 : Int), ((0 : Int), (0 : Int))))))), l, (l.length : Int), (0 : Int), ()) = _ := this
  rw [e]
  by_cases h : (allE z0 l).2 = 0
  · rw [if_pos h]; simp only [obind_some, selim_inl]
    exact congrArg some (Prod.ext rfl h.symm)
  · rw [if_neg h]; simp only [obind_some, selim_inr]
    exact congrArg some (Prod.ext (allE_z0 l z0 h).symm rfl)
theorem r08_all_l (n : Nat) (s2 : Cel) (l : List Cel) (hL : l.length ≤ 1000000000000) (hw : ∀ x ∈ l, CelW x) : ∀ (rest pre : List Cel) (f : Nat) (c : Cel) (i len : Int), l = pre ++ rest → i = pre.length → len = l.length → rest.length < f → CelW c →
    r08_All_l3 (n + 5) f (s2, c, l, len, i, ()) = some (if (allE c rest).2 = 0 then .inl (s2, (allE c rest).1, ()) else .inr (z0, (allE c rest).2)) := by
  intro rest
  induction rest with
  | nil =>
    intro pre f c i len hl hi hn hf hc
    obtain ⟨f, rfl⟩ : ∃ g, f = g + 1 := ⟨f - 1, by simp at hf; omega⟩
    rw [r08_All_l3_eq]
    simp only [tif_dec, if_neg (idxe hl hi hn), allE, if_pos trivial]
  | cons x rest ih =>
    intro pre f c i len hl hi hn hf hc
    obtain ⟨f, rfl⟩ : ∃ g, f = g + 1 := ⟨f - 1, by simp at hf; omega⟩
    rw [r08_All_l3_eq]
    have hx : CelW x := hw x (by rw [hl]; simp)
    simp only [tif_dec, tif_not, if_pos (idx hl hi hn), at_mid hl hi, obind_some, r08_merge n hc hx, idxw hl hi hL]
    by_cases h : (mrgE c x).2 = 0
    · rw [if_pos h, ih (pre ++ [x]) f _ (i + 1) len (idxl hl) (idxs hi) hn (by simp at hf; omega) (mrgE_w c x)]
      simp only [allE, if_pos h]
    · rw [if_neg h]
      simp only [allE, if_neg h]
      rfl
theorem r08_all (n : Nat) (l : List Cel) (hL : l.length ≤ 1000000000000) (hw : ∀ x ∈ l, CelW x) : r08_All (n + 6) l = some (allE z0 l) := by
  have := r08_all_l n z0 l hL hw l [] loopFuel z0 0 l.length rfl rfl rfl (by unfold loopFuel; omega) celW_z0
  rw [r08_All_eq]
  have e : r08_All_l3 (n + 5) loopFuel (((0 : Int), (((0 : Int), ((0 : Int), ((0 : Int), false))), (((0 : Int), ((0 : Int), ((0 : Int), false))), (((0 : Int), (0 : Int)), ((0 : Int), ((0 : Int), (0 : Int))))))), ((0 : Int), (((0 : Int), ((0 : Int), ((0 : Int), false))), (((0 : Int), ((0 : Int), ((0 : Int), false))), (((0 : Int), (0 : Int)), ((0 : Int), ((0 : Int), (0 : Int))))))), l, (l.length : Int), (0 : Int), ()) = _ := this
  rw [e]
  by_cases h : (allE z0 l).2 = 0
  · rw [if_pos h]; simp only [obind_some, selim_inl]
    exact congrArg some (Prod.ext rfl h.symm)
  · rw [if_neg h]; simp only [obind_some, selim_inr]
    exact congrArg some (Prod.ext (allE_z0 l z0 h).symm rfl)
/-! ### those of events -/
theorem cell_one_val (n : Nat) (e : Ev) : cell_one (n + 1) e = some (evCell e) := by rw [cell_one_eq]; rfl
theorem evCell_w {e : Ev} (h : EvW e) : CelW (evCell e) := ⟨by simp [I64, evCell], h, h, ⟨by simp [evCell], by simp [evCell]⟩, by simp [I64, evCell], by simp [I64, evCell], by simp [I64, evCell]⟩
theorem cell_add (n : Nat) {c : Cel} {e : Ev} (hc : CelW c) (he : EvW e) : cell_Add (n + 7) c e = some (if EvOk e then mrgE c (evCell e) else (z0, 2)) := by
  rw [cell_Add_eq, event_check _ he, cell_one_val]
  simp only [obind_some, tif_not, tif_dec, z02, cell_merge n hc (evCell_w he)]
  by_cases h : EvOk e
  · rw [if_pos h, if_pos h]
  · rw [if_neg h, if_neg h, if_neg h]; rfl
theorem foll_snoc {l : List Ev} {x : Ev} : Foll (l ++ [x]) ↔ Foll l ∧ EvOk x ∧ ∀ e ∈ l, e.1 < x.1 := by
  rw [foll_append]
  constructor
  · rintro ⟨h1, h2, h3⟩; exact ⟨h1, h2.ok x (by simp), fun e he => h3 e he x (by simp)⟩
  · rintro ⟨h1, h2, h3⟩
    refine ⟨h1, ⟨by simpa using h2, by simp⟩, fun e he y hy => ?_⟩
    simp at hy; subst hy; exact h3 e he
theorem last_all {l : List Ev} (h : Foll l) {x y : Ev} (hy : l.getLast? = some y) (hlt : y.1 < x.1) : ∀ e ∈ l, e.1 < x.1 := by
  intro e he
  rcases List.eq_nil_or_concat l with rfl | ⟨q, z, rfl⟩
  · cases he
  rw [List.concat_eq_append] at *
  simp at hy; subst hy
  rcases List.mem_append.1 he with h1 | h1
  · have := (foll_append.1 h).2.2 e h1 z (by simp); omega
  · simp at h1; subst h1; exact hlt
/-- one more event, merged -/
theorem mrgE_snoc {pre : List Ev} {x : Ev} (h : Foll pre) (hx : EvOk x) : (Foll (pre ++ [x]) → mrgE (cellOf pre) (evCell x) = (cellOf (pre ++ [x]), 0)) ∧ (¬ Foll (pre ++ [x]) → mrgE (cellOf pre) (evCell x) = (z0, 9)) := by
  have ho := cellOf_ok h
  have hn := evCell_N hx
  unfold mrgE
  rw [if_pos (And.intro ho hn.ok)]
  constructor
  · intro hf
    have := cellOf_ahead hf
    rw [cellOf_one] at this
    rw [if_pos this, cellOf_snoc]
  · intro hf
    rw [if_neg]
    intro ha
    refine hf (foll_snoc.2 ⟨h, hx, ?_⟩)
    by_cases e : pre = []
    · subst e; simp
    have hs := cellOf_N h e
    exact last_all h hs.last ((ahead_n hs.n.ne hn.ne).1 ha)
theorem ofE_foll {l : List Ev} (h : Foll l) : ofE l = (cellOf l, 0) := by unfold ofE; rw [if_pos h.ok, if_pos h.inc]
end Go.Proofs.YtapadkjknnfifaaGreat
