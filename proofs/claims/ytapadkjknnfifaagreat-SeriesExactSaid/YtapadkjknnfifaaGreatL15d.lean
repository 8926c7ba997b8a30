/-
  The law SeriesExact. Printed by tools/genL15d.py.
-/
import Derived.Test.YtapadkjknnfifaaGreatL15c
import Derived.Test.YtapadkjknnfifaaGreatP15e
import Derived.Test.YtapadkjknnfifaaGreatP08d
namespace Go.Proofs.YtapadkjknnfifaaGreat
open Go.Flat Go.Plim
set_option linter.unusedVariables false
set_option linter.unusedSimpArgs false
theorem exact_l10 (n : Nat) (k i j : Int) (c : Conf) (l : List Ev) (hL : l.length ≤ 1000) (hf : Foll l) : ∀ (rest pre : List Ev) (f : Nat) (s : Ser) (ix len : Int), l = pre ++ rest → ix = pre.length → len = l.length → rest.length < f → SerInv c s pre →
    ∃ s', l15_SeriesExact_l10 (n + 23) f (l, k, i, j, c, s, l, len, ix, ()) = some (.inl (l, k, i, j, c, s', ())) ∧ SerInv c s' l := by
  intro rest
  induction rest with
  | nil =>
    intro pre f s ix len hl hi hn hf' ho
    obtain ⟨f, rfl⟩ : ∃ g, f = g + 1 := ⟨f - 1, by simp at hf'; omega⟩
    rw [l15_SeriesExact_l10_eq]
    have e : l = pre := by rw [hl, List.append_nil]
    exact ⟨s, by simp only [tif_dec, if_neg (idxe hl hi hn)], by rw [e]; exact ho⟩
  | cons x rest ih =>
    intro pre f s ix len hl hi hn hf' ho
    obtain ⟨f, rfl⟩ : ∃ g, f = g + 1 := ⟨f - 1, by simp at hf'; omega⟩
    have hpx : Foll (pre ++ [x]) := by
      have := hf; rw [idxl hl] at this
      exact (foll_append.1 this).1
    have hxw : EvW x := EvW.of (hpx.ok x (by simp))
    have hp : pre.length + 1 ≤ l.length := by have := congrArg List.length hl; simp at this; omega
    rw [l15_SeriesExact_l10_eq]
    obtain ⟨s', k1, k2⟩ := serInv_next ho hpx (by omega)
    simp only [tif_dec, tif_not, if_pos (idx hl hi hn), at_mid hl hi, obind_some, idxw hl hi (show l.length ≤ 1000000000000 by omega), series_put n c (serInv_w ho) hxw, k1, if_true]
    exact ih (pre ++ [x]) f s' (ix + 1) len (idxl hl) (idxs hi) hn (by simp at hf'; omega) k2
theorem last_ix {l : List Ev} (hL : l.length ≤ 1000000) {e : Ev} (h : l.getLast? = some e) : at? l (IntKind.wrap .i64 ((l.length : Int) - 1)) = some e := by
  have hn : 0 < l.length := List.length_pos_iff.2 fun k => by rw [k] at h; cases h
  rw [w64 (by omega) (by omega)]
  unfold at?
  rw [decide_eq_true (show 0 ≤ (l.length : Int) - 1 by omega), show ((l.length : Int) - 1).toNat = l.length - 1 by omega, ← List.getLast?_eq_getElem?, h]
  rfl
theorem cut_ix {l : List Ev} {room : Int} (hr : 1 ≤ room) (hL : l.length ≤ 1000000) : IntKind.wrap .i64 ((l.length : Int) - (if room < (l.length : Int) then room else (l.length : Int))) = ((l.length - room.toNat : Nat) : Int) := by
  split
  · rw [w64 (by omega) (by omega)]; omega
  · rw [w64 (by omega) (by omega)]; omega
theorem samel_refl (n : Nat) (l : List Ev) (hL : l.length ≤ 1000000) : r12_SameList (n + 1) l l = some true := by
  rw [r12_SameList_eq]
  simp only [decide_true, Bool.not_true, tif_false, tif_true, r12_samel_l n l hL l [] loopFuel 0 _ rfl rfl rfl (by unfold loopFuel; omega), obind_some, selim_inl]
theorem exact_from {t w m i : Int} (ht : 0 ≤ t ∧ t < 35184372088832) (hw : 1 ≤ w) (hm : 1 ≤ m ∧ m ≤ 4096) : ∃ q, (if (if i < IntKind.wrap .i64 (IntKind.wrap .i64 (IntKind.wrap .i64 (Int.tdiv t w) - m) + 1) then IntKind.wrap .i64 (IntKind.wrap .i64 (IntKind.wrap .i64 (Int.tdiv t w) - m) + 1) else i) < 0 then 0 else (if i < IntKind.wrap .i64 (IntKind.wrap .i64 (IntKind.wrap .i64 (Int.tdiv t w) - m) + 1) then IntKind.wrap .i64 (IntKind.wrap .i64 (IntKind.wrap .i64 (Int.tdiv t w) - m) + 1) else i)) = q ∧ 0 ≤ q ∧ t / w < q + m := by
  refine ⟨_, rfl, ?_⟩
  have : 0 ≤ t / w := Int.ediv_nonneg ht.1 (by omega)
  have : t / w ≤ t := Int.ediv_le_self _ ht.1
  rw [gone_wrap ht hw hm, w64 (by omega) (by omega)]
  split <;> split <;> omega
theorem ofE_follows {l : List Ev} (h : (ofE l).2 = 0) : Foll l := by
  unfold ofE at h
  by_cases h1 : ∀ e ∈ l, EvOk e
  case neg => rw [if_neg h1] at h; cases h
  rw [if_pos h1] at h
  by_cases h2 : l.Pairwise fun a b => a.1 < b.1
  case neg => rw [if_neg h2] at h; cases h
  exact ⟨h1, h2⟩
/-! ### tier 0 -/
theorem exact_l24_0 (n : Nat) (i j : Int) (c : Conf) (s : Ser) (hw : 1 ≤ c.2.1.1) (l : List Ev) (hL : l.length ≤ 1000) (hf : Foll l) : ∀ (rest pre : List Ev) (f : Nat) (q : List Ev) (ix len : Int), l = pre ++ rest → ix = pre.length → len = l.length → rest.length < f → q.length ≤ pre.length →
    l15_SeriesExact_l24 n f ((0 : Int), i, j, c, s, q, l, len, ix, ()) = some (.inl ((0 : Int), i, j, c, s, q ++ rng c.2.1.1 rest i j, ())) := by
  intro rest
  induction rest with
  | nil =>
    intro pre f q ix len hl hi hn hf' hq
    obtain ⟨f, rfl⟩ : ∃ g, f = g + 1 := ⟨f - 1, by simp at hf'; omega⟩
    rw [l15_SeriesExact_l24_eq]
    simp only [tif_dec, if_neg (idxe hl hi hn), rng, List.filter_nil, List.append_nil]
  | cons x rest ih =>
    intro pre f q ix len hl hi hn hf' hq
    obtain ⟨f, rfl⟩ : ∃ g, f = g + 1 := ⟨f - 1, by simp at hf'; omega⟩
    have hx : EvOk x := hf.ok x (by rw [hl]; simp)
    have hp : pre.length + 1 ≤ l.length := by have := congrArg List.length hl; simp at this; omega
    rw [l15_SeriesExact_l24_eq, decide_eq_true (idx hl hi hn), tif_true, at_mid hl hi, obind_some]
    rw [show (decide ((0 : Int) = 0)) = true from rfl, tif_true]
    simp only [tif_dec, if_neg (nz hw), quo_ev hx hw, idxw hl hi (show l.length ≤ 1000000000000 by omega)]
    by_cases h1 : i ≤ x.1 / c.2.1.1 ∧ x.1 / c.2.1.1 < j
    · rw [if_pos h1.1, if_pos h1.2, if_pos (by omega), ih (pre ++ [x]) f _ (ix + 1) len (idxl hl) (idxs hi) hn (by simp at hf'; omega) (by simp; omega)]
      have : rng c.2.1.1 (x :: rest) i j = x :: rng c.2.1.1 rest i j := List.filter_cons_of_pos (by simpa using h1)
      rw [this]; simp
    · have : rng c.2.1.1 (x :: rest) i j = rng c.2.1.1 rest i j := List.filter_cons_of_neg (by simpa using h1)
      rw [this]
      by_cases h2 : i ≤ x.1 / c.2.1.1
      · rw [if_pos h2, if_neg (fun k => h1 ⟨h2, k⟩), ih (pre ++ [x]) f _ (ix + 1) len (idxl hl) (idxs hi) hn (by simp at hf'; omega) (by simp; omega)]
      · rw [if_neg h2, ih (pre ++ [x]) f _ (ix + 1) len (idxl hl) (idxs hi) hn (by simp at hf'; omega) (by simp; omega)]
/-! ### tier 1 -/
theorem exact_l24_1 (n : Nat) (i j : Int) (c : Conf) (s : Ser) (hw : 1 ≤ c.2.1.2.1) (l : List Ev) (hL : l.length ≤ 1000) (hf : Foll l) : ∀ (rest pre : List Ev) (f : Nat) (q : List Ev) (ix len : Int), l = pre ++ rest → ix = pre.length → len = l.length → rest.length < f → q.length ≤ pre.length →
    l15_SeriesExact_l24 n f ((1 : Int), i, j, c, s, q, l, len, ix, ()) = some (.inl ((1 : Int), i, j, c, s, q ++ rng c.2.1.2.1 rest i j, ())) := by
  intro rest
  induction rest with
  | nil =>
    intro pre f q ix len hl hi hn hf' hq
    obtain ⟨f, rfl⟩ : ∃ g, f = g + 1 := ⟨f - 1, by simp at hf'; omega⟩
    rw [l15_SeriesExact_l24_eq]
    simp only [tif_dec, if_neg (idxe hl hi hn), rng, List.filter_nil, List.append_nil]
  | cons x rest ih =>
    intro pre f q ix len hl hi hn hf' hq
    obtain ⟨f, rfl⟩ : ∃ g, f = g + 1 := ⟨f - 1, by simp at hf'; omega⟩
    have hx : EvOk x := hf.ok x (by rw [hl]; simp)
    have hp : pre.length + 1 ≤ l.length := by have := congrArg List.length hl; simp at this; omega
    rw [l15_SeriesExact_l24_eq, decide_eq_true (idx hl hi hn), tif_true, at_mid hl hi, obind_some]
    rw [show (decide ((1 : Int) = 0)) = false from rfl, tif_false, show (decide ((1 : Int) = 1)) = true from rfl, tif_true]
    simp only [tif_dec, if_neg (nz hw), quo_ev hx hw, idxw hl hi (show l.length ≤ 1000000000000 by omega)]
    by_cases h1 : i ≤ x.1 / c.2.1.2.1 ∧ x.1 / c.2.1.2.1 < j
    · rw [if_pos h1.1, if_pos h1.2, if_pos (by omega), ih (pre ++ [x]) f _ (ix + 1) len (idxl hl) (idxs hi) hn (by simp at hf'; omega) (by simp; omega)]
      have : rng c.2.1.2.1 (x :: rest) i j = x :: rng c.2.1.2.1 rest i j := List.filter_cons_of_pos (by simpa using h1)
      rw [this]; simp
    · have : rng c.2.1.2.1 (x :: rest) i j = rng c.2.1.2.1 rest i j := List.filter_cons_of_neg (by simpa using h1)
      rw [this]
      by_cases h2 : i ≤ x.1 / c.2.1.2.1
      · rw [if_pos h2, if_neg (fun k => h1 ⟨h2, k⟩), ih (pre ++ [x]) f _ (ix + 1) len (idxl hl) (idxs hi) hn (by simp at hf'; omega) (by simp; omega)]
      · rw [if_neg h2, ih (pre ++ [x]) f _ (ix + 1) len (idxl hl) (idxs hi) hn (by simp at hf'; omega) (by simp; omega)]
/-! ### tier 2 -/
theorem exact_l24_2 (n : Nat) (i j : Int) (c : Conf) (s : Ser) (hw : 1 ≤ c.2.1.2.2) (l : List Ev) (hL : l.length ≤ 1000) (hf : Foll l) : ∀ (rest pre : List Ev) (f : Nat) (q : List Ev) (ix len : Int), l = pre ++ rest → ix = pre.length → len = l.length → rest.length < f → q.length ≤ pre.length →
    l15_SeriesExact_l24 n f ((2 : Int), i, j, c, s, q, l, len, ix, ()) = some (.inl ((2 : Int), i, j, c, s, q ++ rng c.2.1.2.2 rest i j, ())) := by
  intro rest
  induction rest with
  | nil =>
    intro pre f q ix len hl hi hn hf' hq
    obtain ⟨f, rfl⟩ : ∃ g, f = g + 1 := ⟨f - 1, by simp at hf'; omega⟩
    rw [l15_SeriesExact_l24_eq]
    simp only [tif_dec, if_neg (idxe hl hi hn), rng, List.filter_nil, List.append_nil]
  | cons x rest ih =>
    intro pre f q ix len hl hi hn hf' hq
    obtain ⟨f, rfl⟩ : ∃ g, f = g + 1 := ⟨f - 1, by simp at hf'; omega⟩
    have hx : EvOk x := hf.ok x (by rw [hl]; simp)
    have hp : pre.length + 1 ≤ l.length := by have := congrArg List.length hl; simp at this; omega
    rw [l15_SeriesExact_l24_eq, decide_eq_true (idx hl hi hn), tif_true, at_mid hl hi, obind_some]
    rw [show (decide ((2 : Int) = 0)) = false from rfl, tif_false, show (decide ((2 : Int) = 1)) = false from rfl, tif_false, show (decide ((2 : Int) = 2)) = true from rfl, tif_true]
    simp only [tif_dec, if_neg (nz hw), quo_ev hx hw, idxw hl hi (show l.length ≤ 1000000000000 by omega)]
    by_cases h1 : i ≤ x.1 / c.2.1.2.2 ∧ x.1 / c.2.1.2.2 < j
    · rw [if_pos h1.1, if_pos h1.2, if_pos (by omega), ih (pre ++ [x]) f _ (ix + 1) len (idxl hl) (idxs hi) hn (by simp at hf'; omega) (by simp; omega)]
      have : rng c.2.1.2.2 (x :: rest) i j = x :: rng c.2.1.2.2 rest i j := List.filter_cons_of_pos (by simpa using h1)
      rw [this]; simp
    · have : rng c.2.1.2.2 (x :: rest) i j = rng c.2.1.2.2 rest i j := List.filter_cons_of_neg (by simpa using h1)
      rw [this]
      by_cases h2 : i ≤ x.1 / c.2.1.2.2
      · rw [if_pos h2, if_neg (fun k => h1 ⟨h2, k⟩), ih (pre ++ [x]) f _ (ix + 1) len (idxl hl) (idxs hi) hn (by simp at hf'; omega) (by simp; omega)]
      · rw [if_neg h2, ih (pre ++ [x]) f _ (ix + 1) len (idxl hl) (idxs hi) hn (by simp at hf'; omega) (by simp; omega)]
/-- THE LAW SeriesExact -/
theorem seriesExact_true (n : Nat) (c : Conf) (l : List Ev) (k i j : Int) (hl : Wf (.slice tyEvent) l) : l15_SeriesExact (n + 41) c l k i j = some true := by
  have hlw := evs_wf hl
  have hlen : l.length ≤ 9223372036854775807 := by
    have h1 := hl.1
    simpa only [maxLen] using h1
  have hlive := l15_lives_true n
  have hs1 : la.length ≤ 9223372036854775807 := by decide
  rw [l15_SeriesExact_eq]
  change _ = some true
  have enew : series_New (n + 40) c ((((97 : UInt8) :: []), []) :: []) = some (newV c la) := series_new (n + 33) c la
  rw [hlive, enew]
  simp only [obind_some, Bool.not_true, tif_false]
  rcases newA c with h | ⟨hc, hla, h⟩
  · rw [decide_eq_false h]
    simp only [Bool.not_false, tif_true, tif_same]
  have hr := hc.rng
  rw [h]
  simp only [decide_true, Bool.not_true, tif_false]
  rcases l15_small (n + 38) (la, (-1, (r0w, (emp c, s0)))) hs1 with hsm | hsm
  · rw [hsm]
    simp only [obind_some, decide_true, tif_true, tif_same]
  rw [hsm]
  simp only [obind_some, show (decide ((1 : Int) = 0)) = false from rfl, tif_false]
  by_cases c1 : (60 : Int) < (l.length : Int)
  · rw [decide_eq_true c1]
    simp only [tif_true, tif_same]
  rw [decide_eq_false c1]
  by_cases c2 : (l.length : Int) = 0
  · rw [decide_eq_true c2]
    simp only [tif_true, tif_false, tif_same]
  rw [decide_eq_false c2, cell_of (n + 33) l (by omega) hlw]
  simp only [tif_false, obind_some]
  by_cases c3 : (ofE l).2 = 0
  case neg =>
    rw [decide_eq_false c3]
    simp only [Bool.not_false, tif_true, tif_same]
  rw [decide_eq_true c3]
  have hf := ofE_follows c3
  have hln : l ≠ [] := fun k => c2 (by rw [k]; rfl)
  have h10 := fun k => exact_l10 (n + 17) k i j c l (by omega) hf l [] loopFuel (la, (-1, (r0w, (emp c, s0)))) 0 l.length rfl rfl rfl (by unfold loopFuel; omega) (new_inv hc hla)
  simp only [Bool.not_true, tif_false]
  by_cases k0 : k = 0
  · subst k0
    obtain ⟨s', e7, hinv⟩ := h10 0
    obtain ⟨he, _, _⟩ := hinv.at_ hln
    obtain ⟨x, hx1, hx2⟩ := ends_getLast he
    have ht := (serInv_time hinv).resolve_left fun k => hln k.2
    have hok := serInv_ok hinv
    have hw := serInv_w hinv
    obtain ⟨q, hq, q0, q1⟩ := exact_from (i := i) ht.1 hr.w0.1 hr.n0
    have hrl := rng_foll (w := c.2.1.1) hf q j
    have hrn : (rng c.2.1.1 l q j).length ≤ l.length := List.length_filter_le _ _
    rw [show (decide ((0 : Int) = 0)) = true from rfl, tif_true, e7]
    simp only [obind_some, selim_inl, decide_true, tif_true]
    rw [series_check (n + 29) c hw, if_pos hok]
    simp only [obind_some, decide_true, Bool.not_true, tif_false]
    rw [last_ix (by omega) hx1]
    simp only [obind_some]
    rw [hx2]
    simp only [decide_true, Bool.not_true, tif_false]
    rw [cut_ix hr.raw.1 (by omega), decide_eq_true (show (0 : Int) ≤ ((l.length - c.1.toNat : Nat) : Int) by omega), tif_true, Int.toNat_natCast, decide_eq_true (show l.length - c.1.toNat ≤ l.length by omega), tif_true, List.take_length,
      show s'.2.2.1.2.2 = l.drop (l.length - c.1.toNat) by rw [hinv.raw]; rfl, samel_refl (n + 39) _ (by simp; omega)]
    simp only [obind_some, Bool.not_true, tif_false]
    rw [decide_eq_false (nz hr.w0.1), tif_false, hq]
    by_cases d1 : j < q
    · rw [decide_eq_true d1, tif_true]
    rw [decide_eq_false d1, tif_false, exact_l24_0 (n + 40) q j c s' hr.w0.1 l (by omega) hf l [] loopFuel [] 0 l.length rfl rfl rfl (by unfold loopFuel; omega) (by simp)]
    simp only [obind_some, selim_inl, List.nil_append, decide_true, tif_true]
    rw [cell_of (n + 33) _ (by omega) (fun e hm => EvW.of (hrl.ok e hm)), ofE_foll hrl, series_range0 (n + 18) c hw, inv_range0 hinv hln q0 (by omega) q1]
    simp only [obind_some, celEq, decide_true, tif_true]
  rw [decide_eq_false k0, tif_false]
  by_cases k1 : k = 1
  · subst k1
    obtain ⟨s', e7, hinv⟩ := h10 1
    obtain ⟨he, _, _⟩ := hinv.at_ hln
    obtain ⟨x, hx1, hx2⟩ := ends_getLast he
    have ht := (serInv_time hinv).resolve_left fun k => hln k.2
    have hok := serInv_ok hinv
    have hw := serInv_w hinv
    obtain ⟨q, hq, q0, q1⟩ := exact_from (i := i) ht.1 hr.w1.1 hr.n1
    have hrl := rng_foll (w := c.2.1.2.1) hf q j
    have hrn : (rng c.2.1.2.1 l q j).length ≤ l.length := List.length_filter_le _ _
    rw [show (decide ((1 : Int) = 1)) = true from rfl, tif_true, e7]
    simp only [obind_some, selim_inl, decide_true, tif_true]
    rw [show (decide ((1 : Int) = 0)) = false from rfl, tif_false, series_check (n + 29) c hw, if_pos hok]
    simp only [obind_some, decide_true, Bool.not_true, tif_false]
    rw [last_ix (by omega) hx1]
    simp only [obind_some]
    rw [hx2]
    simp only [decide_true, Bool.not_true, tif_false]
    rw [cut_ix hr.raw.1 (by omega), decide_eq_true (show (0 : Int) ≤ ((l.length - c.1.toNat : Nat) : Int) by omega), tif_true, Int.toNat_natCast, decide_eq_true (show l.length - c.1.toNat ≤ l.length by omega), tif_true, List.take_length,
      show s'.2.2.1.2.2 = l.drop (l.length - c.1.toNat) by rw [hinv.raw]; rfl, samel_refl (n + 39) _ (by simp; omega)]
    simp only [obind_some, Bool.not_true, tif_false]
    rw [decide_eq_false (nz hr.w1.1), tif_false, hq]
    by_cases d1 : j < q
    · rw [decide_eq_true d1, tif_true]
    rw [decide_eq_false d1, tif_false, exact_l24_1 (n + 40) q j c s' hr.w1.1 l (by omega) hf l [] loopFuel [] 0 l.length rfl rfl rfl (by unfold loopFuel; omega) (by simp)]
    simp only [obind_some, selim_inl, List.nil_append, decide_true, tif_true]
    rw [show (decide ((1 : Int) = 0)) = false from rfl, tif_false, cell_of (n + 33) _ (by omega) (fun e hm => EvW.of (hrl.ok e hm)), ofE_foll hrl, series_range1 (n + 18) c hw, inv_range1 hinv hln q0 (by omega) q1]
    simp only [obind_some, celEq, decide_true, tif_true]
  rw [decide_eq_false k1, tif_false]
  by_cases k2 : k = 2
  · subst k2
    obtain ⟨s', e7, hinv⟩ := h10 2
    obtain ⟨he, _, _⟩ := hinv.at_ hln
    obtain ⟨x, hx1, hx2⟩ := ends_getLast he
    have ht := (serInv_time hinv).resolve_left fun k => hln k.2
    have hok := serInv_ok hinv
    have hw := serInv_w hinv
    obtain ⟨q, hq, q0, q1⟩ := exact_from (i := i) ht.1 hr.w2.1 hr.n2
    have hrl := rng_foll (w := c.2.1.2.2) hf q j
    have hrn : (rng c.2.1.2.2 l q j).length ≤ l.length := List.length_filter_le _ _
    rw [show (decide ((2 : Int) = 2)) = true from rfl, tif_true, e7]
    simp only [obind_some, selim_inl, decide_true, tif_true]
    rw [show (decide ((2 : Int) = 0)) = false from rfl, tif_false, show (decide ((2 : Int) = 1)) = false from rfl, tif_false, series_check (n + 29) c hw, if_pos hok]
    simp only [obind_some, decide_true, Bool.not_true, tif_false]
    rw [last_ix (by omega) hx1]
    simp only [obind_some]
    rw [hx2]
    simp only [decide_true, Bool.not_true, tif_false]
    rw [cut_ix hr.raw.1 (by omega), decide_eq_true (show (0 : Int) ≤ ((l.length - c.1.toNat : Nat) : Int) by omega), tif_true, Int.toNat_natCast, decide_eq_true (show l.length - c.1.toNat ≤ l.length by omega), tif_true, List.take_length,
      show s'.2.2.1.2.2 = l.drop (l.length - c.1.toNat) by rw [hinv.raw]; rfl, samel_refl (n + 39) _ (by simp; omega)]
    simp only [obind_some, Bool.not_true, tif_false]
    rw [decide_eq_false (nz hr.w2.1), tif_false, hq]
    by_cases d1 : j < q
    · rw [decide_eq_true d1, tif_true]
    rw [decide_eq_false d1, tif_false, exact_l24_2 (n + 40) q j c s' hr.w2.1 l (by omega) hf l [] loopFuel [] 0 l.length rfl rfl rfl (by unfold loopFuel; omega) (by simp)]
    simp only [obind_some, selim_inl, List.nil_append, decide_true, tif_true]
    rw [show (decide ((2 : Int) = 0)) = false from rfl, tif_false, show (decide ((2 : Int) = 1)) = false from rfl, tif_false, cell_of (n + 33) _ (by omega) (fun e hm => EvW.of (hrl.ok e hm)), ofE_foll hrl, series_range2 (n + 18) c hw, inv_range2 hinv hln q0 (by omega) q1]
    simp only [obind_some, celEq, decide_true, tif_true]
  rw [decide_eq_false k2, tif_false]
  by_cases k3 : k < 0
  · rw [decide_eq_true k3]; rfl
  · rw [decide_eq_false k3, decide_eq_true (show 2 < k by omega)]; rfl
end Go.Proofs.YtapadkjknnfifaaGreat
