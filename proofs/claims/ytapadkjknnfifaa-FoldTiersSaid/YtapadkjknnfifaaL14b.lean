/-
  The law FoldTiers.
-/
import Derived.Test.YtapadkjknnfifaaL14
import Derived.Test.YtapadkjknnfifaaM14c
namespace Go.Proofs.Ytapadkjknnfifaa
open Go.Flat Go.Plim
set_option linter.unusedVariables false
set_option linter.unusedSimpArgs false

theorem openSlot_w {c : Conf} {s : Trs} {o : Slo} {l : List Ev} (h : OpenInv c s o l) : SloW o := by
  rcases h with ⟨_, rfl, _⟩ | ⟨t, he, hi, rfl⟩
  · exact slow_s0
  · obtain ⟨x, hx, hxt⟩ := he.last
    have hxo := he.foll.ok x hx
    have := quo_ev_range hxo hi.ok.cok.rng.w0.1
    rw [hxt] at this
    exact ⟨by unfold I64; simp only; omega, .of (cellOf_ok (win_foll he.foll _))⟩
theorem foldTiers_l11 (n : Nat) (c : Conf) (l : List Ev) (hL : l.length ≤ 1000000) (hf : Foll l) (h0 : ¬ (c.2.1.1 = 0)) (hw0 : 1 ≤ c.2.1.1) : ∀ (rest pre : List Ev) (f : Nat) (s : Trs) (o : Slo) (ix len : Int), l = pre ++ rest → ix = pre.length → len = l.length → rest.length < f → OpenInv c s o pre →
    ∃ s' o', l14_FoldTiers_l11 (n + 21) f (l, c, s, o, l, len, ix, ()) = some (.inl (l, c, s', ())) ∧ OpenInv c s' o' l := by
  intro rest
  induction rest with
  | nil =>
    intro pre f s o ix len hl hi hn hf' ho
    obtain ⟨f, rfl⟩ : ∃ g, f = g + 1 := ⟨f - 1, by simp at hf'; omega⟩
    rw [l14_FoldTiers_l11_eq]
    have e : l = pre := by rw [hl, List.append_nil]
    exact ⟨s, o, by simp only [tif_dec, if_neg (idxe hl hi hn)], by rw [e]; exact ho⟩
  | cons x rest ih =>
    intro pre f s o ix len hl hi hn hf' ho
    obtain ⟨f, rfl⟩ : ∃ g, f = g + 1 := ⟨f - 1, by simp at hf'; omega⟩
    rw [l14_FoldTiers_l11_eq]
    have hpx : Foll (pre ++ [x]) := by
      have := hf; rw [idxl hl] at this
      exact (foll_append.1 this).1
    have hx : EvOk x := hpx.ok x (by simp)
    have hok := ho.fold
    have e0 : ((0 : Int), (((0 : Int), ((0 : Int), ((0 : Int), false))), (((0 : Int), ((0 : Int), ((0 : Int), false))), (((0 : Int), (0 : Int)), ((0 : Int), ((0 : Int), (0 : Int))))))) = z0 := rfl
    simp only [tif_dec, tif_not, if_pos (idx hl hi hn), at_mid hl hi, obind_some, if_neg h0, quo_ev hx hw0, idxw hl hi (by omega), e0,
      fold_close n c hok.w (openSlot_w ho) (x.1 / c.2.1.1), cell_add (n + 14) celW_z0 (EvW.of hx), cell_add (n + 14) (openSlot_w ho).c (EvW.of hx), if_pos hx]
    by_cases ht : Turn o (x.1 / c.2.1.1)
    · obtain ⟨s', h1, h2, h3⟩ := openInv_turn ho hpx ht
      rw [if_pos ht.1, if_neg ht.2, h1, h2]
      simp only [if_true]
      exact ih (pre ++ [x]) f s' _ (ix + 1) len (idxl hl) (idxs hi) hn (by simp at hf'; omega) h3
    · obtain ⟨h1, h2, h3⟩ := openInv_stay ho hpx ht
      rw [if_pos h2]
      have : (if 0 < o.2.1 then (if o.1 = x.1 / c.2.1.1 then l14_FoldTiers_l11 (n + 21) f (l, c, s, (x.1 / c.2.1.1, (mrgE o.2 (evCell x)).1), l, len, ix + 1, ()) else none) else l14_FoldTiers_l11 (n + 21) f (l, c, s, (x.1 / c.2.1.1, (mrgE o.2 (evCell x)).1), l, len, ix + 1, ())) = l14_FoldTiers_l11 (n + 21) f (l, c, s, (x.1 / c.2.1.1, (mrgE o.2 (evCell x)).1), l, len, ix + 1, ()) := by
        by_cases k : 0 < o.2.1
        · rw [if_pos k, if_pos (Decidable.byContradiction fun q => ht ⟨k, q⟩)]
        · rw [if_neg k]
      obtain ⟨s', o', r1, r2⟩ := ih (pre ++ [x]) f s _ (ix + 1) len (idxl hl) (idxs hi) hn (by simp at hf'; omega) h3
      refine ⟨s', o', ?_, r2⟩
      by_cases k : 0 < o.2.1
      · rw [if_pos k, if_pos (Decidable.byContradiction fun q => ht ⟨k, q⟩)]; exact r1
      · rw [if_neg k]; exact r1


/-! ### tier 0 -/
theorem foldTiers_l35_0 (n : Nat) (c : Conf) (s : Trs) (lst i : Int) (hw : 1 ≤ c.2.1.1) (a1 a3 a4 : Int) (a2 : List Ev) (l0 l : List Ev) (hL : l.length ≤ 1000000) (hf : Foll l) : ∀ (rest pre : List Ev) (f : Nat) (q : List Ev) (ix len : Int), l = pre ++ rest → ix = pre.length → len = l.length → rest.length < f → q.length ≤ pre.length →
    l14_FoldTiers_l35 n f (l0, c, s, lst, (0 : Int), i, q, a1, a2, a3, a4, l, len, ix, ()) = some (.inl (l0, c, s, lst, (0 : Int), i, q ++ win c.2.1.1 rest i, a1, a2, a3, a4, ())) := by
  intro rest
  induction rest with
  | nil =>
    intro pre f q ix len hl hi hn hf' hq
    obtain ⟨f, rfl⟩ : ∃ g, f = g + 1 := ⟨f - 1, by simp at hf'; omega⟩
    rw [l14_FoldTiers_l35_eq]
    simp only [tif_dec, if_neg (idxe hl hi hn), win, List.filter_nil, List.append_nil]
  | cons x rest ih =>
    intro pre f q ix len hl hi hn hf' hq
    obtain ⟨f, rfl⟩ : ∃ g, f = g + 1 := ⟨f - 1, by simp at hf'; omega⟩
    rw [l14_FoldTiers_l35_eq, decide_eq_true (idx hl hi hn), tif_true, at_mid hl hi, obind_some]
    rw [show (decide ((0 : Int) = 0)) = true from rfl, tif_true]
    have hx : EvOk x := hf.ok x (by rw [hl]; simp)
    have hp : pre.length + 1 ≤ l.length := by have := congrArg List.length hl; simp at this; omega
    simp only [tif_dec, if_neg (show ¬ (c.2.1.1 = 0) by omega), quo_ev hx hw, idxw hl hi (by omega)]
    by_cases h1 : x.1 / c.2.1.1 = i
    · rw [if_pos h1, if_pos (by omega), ih (pre ++ [x]) f _ (ix + 1) len (idxl hl) (idxs hi) hn (by simp at hf'; omega) (by simp; omega)]
      have : win c.2.1.1 (x :: rest) i = x :: win c.2.1.1 rest i := List.filter_cons_of_pos (by simpa using h1)
      rw [this]; simp
    · rw [if_neg h1, ih (pre ++ [x]) f _ (ix + 1) len (idxl hl) (idxs hi) hn (by simp at hf'; omega) (by simp; omega)]
      have : win c.2.1.1 (x :: rest) i = win c.2.1.1 rest i := List.filter_cons_of_neg (by simpa using h1)
      rw [this]
theorem foldTiers_l29_0 (n : Nat) (c : Conf) (s : Trs) (l : List Ev) (hL : l.length ≤ 1000000) (lst : Ev) (hlo : EvOk lst) (a1 : Int) (h : FInv c s l lst.1) (he : EndsAt l lst.1) : ∀ (rest pre : List Ev) (f : Nat) (ix len : Int), l = pre ++ rest → ix = pre.length → len = l.length → rest.length < f →
    l14_FoldTiers_l29 (n + 7) f (l, c, s, lst.1, (0 : Int), a1, l, len, ix, ()) = some (.inl (l, c, s, lst.1, a1, ())) := by
  have hr := h.ok.cok.rng
  have hw := hr.w0.1
  have hnn := hr.n0
  have hlen := h.ok.n0
  intro rest
  induction rest with
  | nil =>
    intro pre f ix len hl hi hn hf'
    obtain ⟨f, rfl⟩ : ∃ g, f = g + 1 := ⟨f - 1, by simp at hf'; omega⟩
    rw [l14_FoldTiers_l29_eq_0]
    simp only [tif_dec, if_neg (idxe hl hi hn)]
  | cons x rest ih =>
    intro pre f ix len hl hi hn hf'
    obtain ⟨f, rfl⟩ : ∃ g, f = g + 1 := ⟨f - 1, by simp at hf'; omega⟩
    rw [l14_FoldTiers_l29_eq_0]
    have hxl : x ∈ l := by rw [hl]; simp
    have hx : EvOk x := he.foll.ok x hxl
    have ih' := ih (pre ++ [x]) f (ix + 1) len (idxl hl) (idxs hi) hn (by simp at hf'; omega)
    have qr := quo_ev_range hlo hw
    have hle := he.wle hw x hxl
    have hf35 := foldTiers_l35_0 (n + 7) c s lst.1 (x.1 / c.2.1.1) hw a1 len ix l l l hL he.foll l [] loopFuel [] 0 l.length rfl rfl rfl (by unfold loopFuel; omega) (by simp)
    simp only [tif_dec, if_pos (idx hl hi hn), at_mid hl hi, obind_some, if_neg (show ¬ (c.2.1.1 = 0) by omega), quo_ev hx hw, quo_ev hlo hw, idxw hl hi (by omega), w64 (x := lst.1 / c.2.1.1 - c.2.2.1.1) (by omega) (by omega)]
    by_cases c1 : x.1 / c.2.1.1 = lst.1 / c.2.1.1
    · rw [if_pos c1]; exact ih'
    rw [if_neg c1]
    by_cases c2 : x.1 / c.2.1.1 ≤ lst.1 / c.2.1.1 - c.2.2.1.1
    · rw [if_pos c2]; exact ih'
    rw [if_neg c2, hf35]
    have hwf := win_foll (w := c.2.1.1) he.foll (x.1 / c.2.1.1)
    have hwl : (win c.2.1.1 l (x.1 / c.2.1.1)).length ≤ l.length := List.length_filter_le _ _
    have hget := kept_get h.i0 ⟨x, hxl, rfl⟩ (show x.1 / c.2.1.1 < lst.1 / c.2.1.1 by omega) (by omega)
    have hl0 := h.i0.ok.l0
    simp only [obind_some, selim_inl, List.nil_append, cell_of n _ (by omega) (fun e hm => EvW.of (hwf.ok e hm)), ofE_foll hwf, tif_not, tif_dec, if_true]
    simp only [if_true, tier_get (n + 5) hl0, hget, obind_some, celEq, tif_dec, idxw hl hi (show l.length ≤ 1000000000000 by omega)]
    exact ih'


/-! ### tier 1 -/
theorem foldTiers_l35_1 (n : Nat) (c : Conf) (s : Trs) (lst i : Int) (hw : 1 ≤ c.2.1.2.1) (a1 a3 a4 : Int) (a2 : List Ev) (l0 l : List Ev) (hL : l.length ≤ 1000000) (hf : Foll l) : ∀ (rest pre : List Ev) (f : Nat) (q : List Ev) (ix len : Int), l = pre ++ rest → ix = pre.length → len = l.length → rest.length < f → q.length ≤ pre.length →
    l14_FoldTiers_l35 n f (l0, c, s, lst, (1 : Int), i, q, a1, a2, a3, a4, l, len, ix, ()) = some (.inl (l0, c, s, lst, (1 : Int), i, q ++ win c.2.1.2.1 rest i, a1, a2, a3, a4, ())) := by
  intro rest
  induction rest with
  | nil =>
    intro pre f q ix len hl hi hn hf' hq
    obtain ⟨f, rfl⟩ : ∃ g, f = g + 1 := ⟨f - 1, by simp at hf'; omega⟩
    rw [l14_FoldTiers_l35_eq]
    simp only [tif_dec, if_neg (idxe hl hi hn), win, List.filter_nil, List.append_nil]
  | cons x rest ih =>
    intro pre f q ix len hl hi hn hf' hq
    obtain ⟨f, rfl⟩ : ∃ g, f = g + 1 := ⟨f - 1, by simp at hf'; omega⟩
    rw [l14_FoldTiers_l35_eq, decide_eq_true (idx hl hi hn), tif_true, at_mid hl hi, obind_some]
    rw [show (decide ((1 : Int) = 0)) = false from rfl, tif_false, show (decide ((1 : Int) = 1)) = true from rfl, tif_true]
    have hx : EvOk x := hf.ok x (by rw [hl]; simp)
    have hp : pre.length + 1 ≤ l.length := by have := congrArg List.length hl; simp at this; omega
    simp only [tif_dec, if_neg (show ¬ (c.2.1.2.1 = 0) by omega), quo_ev hx hw, idxw hl hi (by omega)]
    by_cases h1 : x.1 / c.2.1.2.1 = i
    · rw [if_pos h1, if_pos (by omega), ih (pre ++ [x]) f _ (ix + 1) len (idxl hl) (idxs hi) hn (by simp at hf'; omega) (by simp; omega)]
      have : win c.2.1.2.1 (x :: rest) i = x :: win c.2.1.2.1 rest i := List.filter_cons_of_pos (by simpa using h1)
      rw [this]; simp
    · rw [if_neg h1, ih (pre ++ [x]) f _ (ix + 1) len (idxl hl) (idxs hi) hn (by simp at hf'; omega) (by simp; omega)]
      have : win c.2.1.2.1 (x :: rest) i = win c.2.1.2.1 rest i := List.filter_cons_of_neg (by simpa using h1)
      rw [this]
theorem foldTiers_l29_1 (n : Nat) (c : Conf) (s : Trs) (l : List Ev) (hL : l.length ≤ 1000000) (lst : Ev) (hlo : EvOk lst) (a1 : Int) (h : FInv c s l lst.1) (he : EndsAt l lst.1) : ∀ (rest pre : List Ev) (f : Nat) (ix len : Int), l = pre ++ rest → ix = pre.length → len = l.length → rest.length < f →
    l14_FoldTiers_l29 (n + 7) f (l, c, s, lst.1, (1 : Int), a1, l, len, ix, ()) = some (.inl (l, c, s, lst.1, a1, ())) := by
  have hr := h.ok.cok.rng
  have hw := hr.w1.1
  have hnn := hr.n1
  have hlen := h.ok.n1
  intro rest
  induction rest with
  | nil =>
    intro pre f ix len hl hi hn hf'
    obtain ⟨f, rfl⟩ : ∃ g, f = g + 1 := ⟨f - 1, by simp at hf'; omega⟩
    rw [l14_FoldTiers_l29_eq_1]
    simp only [tif_dec, if_neg (idxe hl hi hn)]
  | cons x rest ih =>
    intro pre f ix len hl hi hn hf'
    obtain ⟨f, rfl⟩ : ∃ g, f = g + 1 := ⟨f - 1, by simp at hf'; omega⟩
    rw [l14_FoldTiers_l29_eq_1]
    have hxl : x ∈ l := by rw [hl]; simp
    have hx : EvOk x := he.foll.ok x hxl
    have ih' := ih (pre ++ [x]) f (ix + 1) len (idxl hl) (idxs hi) hn (by simp at hf'; omega)
    have qr := quo_ev_range hlo hw
    have hle := he.wle hw x hxl
    have hf35 := foldTiers_l35_1 (n + 7) c s lst.1 (x.1 / c.2.1.2.1) hw a1 len ix l l l hL he.foll l [] loopFuel [] 0 l.length rfl rfl rfl (by unfold loopFuel; omega) (by simp)
    simp only [tif_dec, if_pos (idx hl hi hn), at_mid hl hi, obind_some, if_neg (show ¬ (c.2.1.2.1 = 0) by omega), quo_ev hx hw, quo_ev hlo hw, idxw hl hi (by omega), w64 (x := lst.1 / c.2.1.2.1 - c.2.2.1.2.1) (by omega) (by omega)]
    by_cases c1 : x.1 / c.2.1.2.1 = lst.1 / c.2.1.2.1
    · rw [if_pos c1]; exact ih'
    rw [if_neg c1]
    by_cases c2 : x.1 / c.2.1.2.1 ≤ lst.1 / c.2.1.2.1 - c.2.2.1.2.1
    · rw [if_pos c2]; exact ih'
    rw [if_neg c2, hf35]
    have hwf := win_foll (w := c.2.1.2.1) he.foll (x.1 / c.2.1.2.1)
    have hwl : (win c.2.1.2.1 l (x.1 / c.2.1.2.1)).length ≤ l.length := List.length_filter_le _ _
    have hget := kept_get h.i1 ⟨x, hxl, rfl⟩ (show x.1 / c.2.1.2.1 < lst.1 / c.2.1.2.1 by omega) (by omega)
    have hl0 := h.i1.ok.l0
    simp only [obind_some, selim_inl, List.nil_append, cell_of n _ (by omega) (fun e hm => EvW.of (hwf.ok e hm)), ofE_foll hwf, tif_not, tif_dec, if_true]
    simp only [if_neg (show ¬ ((1 : Int) = 0) by decide), if_true, tier_get (n + 5) hl0, hget, obind_some, celEq, tif_dec, idxw hl hi (show l.length ≤ 1000000000000 by omega)]
    exact ih'


/-! ### tier 2 -/
theorem foldTiers_l35_2 (n : Nat) (c : Conf) (s : Trs) (lst i : Int) (hw : 1 ≤ c.2.1.2.2) (a1 a3 a4 : Int) (a2 : List Ev) (l0 l : List Ev) (hL : l.length ≤ 1000000) (hf : Foll l) : ∀ (rest pre : List Ev) (f : Nat) (q : List Ev) (ix len : Int), l = pre ++ rest → ix = pre.length → len = l.length → rest.length < f → q.length ≤ pre.length →
    l14_FoldTiers_l35 n f (l0, c, s, lst, (2 : Int), i, q, a1, a2, a3, a4, l, len, ix, ()) = some (.inl (l0, c, s, lst, (2 : Int), i, q ++ win c.2.1.2.2 rest i, a1, a2, a3, a4, ())) := by
  intro rest
  induction rest with
  | nil =>
    intro pre f q ix len hl hi hn hf' hq
    obtain ⟨f, rfl⟩ : ∃ g, f = g + 1 := ⟨f - 1, by simp at hf'; omega⟩
    rw [l14_FoldTiers_l35_eq]
    simp only [tif_dec, if_neg (idxe hl hi hn), win, List.filter_nil, List.append_nil]
  | cons x rest ih =>
    intro pre f q ix len hl hi hn hf' hq
    obtain ⟨f, rfl⟩ : ∃ g, f = g + 1 := ⟨f - 1, by simp at hf'; omega⟩
    rw [l14_FoldTiers_l35_eq, decide_eq_true (idx hl hi hn), tif_true, at_mid hl hi, obind_some]
    rw [show (decide ((2 : Int) = 0)) = false from rfl, tif_false, show (decide ((2 : Int) = 1)) = false from rfl, tif_false, show (decide ((2 : Int) = 2)) = true from rfl, tif_true]
    have hx : EvOk x := hf.ok x (by rw [hl]; simp)
    have hp : pre.length + 1 ≤ l.length := by have := congrArg List.length hl; simp at this; omega
    simp only [tif_dec, if_neg (show ¬ (c.2.1.2.2 = 0) by omega), quo_ev hx hw, idxw hl hi (by omega)]
    by_cases h1 : x.1 / c.2.1.2.2 = i
    · rw [if_pos h1, if_pos (by omega), ih (pre ++ [x]) f _ (ix + 1) len (idxl hl) (idxs hi) hn (by simp at hf'; omega) (by simp; omega)]
      have : win c.2.1.2.2 (x :: rest) i = x :: win c.2.1.2.2 rest i := List.filter_cons_of_pos (by simpa using h1)
      rw [this]; simp
    · rw [if_neg h1, ih (pre ++ [x]) f _ (ix + 1) len (idxl hl) (idxs hi) hn (by simp at hf'; omega) (by simp; omega)]
      have : win c.2.1.2.2 (x :: rest) i = win c.2.1.2.2 rest i := List.filter_cons_of_neg (by simpa using h1)
      rw [this]
theorem foldTiers_l29_2 (n : Nat) (c : Conf) (s : Trs) (l : List Ev) (hL : l.length ≤ 1000000) (lst : Ev) (hlo : EvOk lst) (a1 : Int) (h : FInv c s l lst.1) (he : EndsAt l lst.1) : ∀ (rest pre : List Ev) (f : Nat) (ix len : Int), l = pre ++ rest → ix = pre.length → len = l.length → rest.length < f →
    l14_FoldTiers_l29 (n + 7) f (l, c, s, lst.1, (2 : Int), a1, l, len, ix, ()) = some (.inl (l, c, s, lst.1, a1, ())) := by
  have hr := h.ok.cok.rng
  have hw := hr.w2.1
  have hnn := hr.n2
  have hlen := h.ok.n2
  intro rest
  induction rest with
  | nil =>
    intro pre f ix len hl hi hn hf'
    obtain ⟨f, rfl⟩ : ∃ g, f = g + 1 := ⟨f - 1, by simp at hf'; omega⟩
    rw [l14_FoldTiers_l29_eq_2]
    simp only [tif_dec, if_neg (idxe hl hi hn)]
  | cons x rest ih =>
    intro pre f ix len hl hi hn hf'
    obtain ⟨f, rfl⟩ : ∃ g, f = g + 1 := ⟨f - 1, by simp at hf'; omega⟩
    rw [l14_FoldTiers_l29_eq_2]
    have hxl : x ∈ l := by rw [hl]; simp
    have hx : EvOk x := he.foll.ok x hxl
    have ih' := ih (pre ++ [x]) f (ix + 1) len (idxl hl) (idxs hi) hn (by simp at hf'; omega)
    have qr := quo_ev_range hlo hw
    have hle := he.wle hw x hxl
    have hf35 := foldTiers_l35_2 (n + 7) c s lst.1 (x.1 / c.2.1.2.2) hw a1 len ix l l l hL he.foll l [] loopFuel [] 0 l.length rfl rfl rfl (by unfold loopFuel; omega) (by simp)
    simp only [tif_dec, if_pos (idx hl hi hn), at_mid hl hi, obind_some, if_neg (show ¬ (c.2.1.2.2 = 0) by omega), quo_ev hx hw, quo_ev hlo hw, idxw hl hi (by omega), w64 (x := lst.1 / c.2.1.2.2 - c.2.2.1.2.2) (by omega) (by omega)]
    by_cases c1 : x.1 / c.2.1.2.2 = lst.1 / c.2.1.2.2
    · rw [if_pos c1]; exact ih'
    rw [if_neg c1]
    by_cases c2 : x.1 / c.2.1.2.2 ≤ lst.1 / c.2.1.2.2 - c.2.2.1.2.2
    · rw [if_pos c2]; exact ih'
    rw [if_neg c2, hf35]
    have hwf := win_foll (w := c.2.1.2.2) he.foll (x.1 / c.2.1.2.2)
    have hwl : (win c.2.1.2.2 l (x.1 / c.2.1.2.2)).length ≤ l.length := List.length_filter_le _ _
    have hget := kept_get h.i2 ⟨x, hxl, rfl⟩ (show x.1 / c.2.1.2.2 < lst.1 / c.2.1.2.2 by omega) (by omega)
    have hl0 := h.i2.ok.l0
    simp only [obind_some, selim_inl, List.nil_append, cell_of n _ (by omega) (fun e hm => EvW.of (hwf.ok e hm)), ofE_foll hwf, tif_not, tif_dec, if_true]
    simp only [if_neg (show ¬ ((2 : Int) = 0) by decide), if_neg (show ¬ ((2 : Int) = 1) by decide), if_true, tier_get (n + 5) hl0, hget, obind_some, celEq, tif_dec, idxw hl hi (show l.length ≤ 1000000000000 by omega)]
    exact ih'


theorem l26_3 (n f : Nat) (c : Conf) (s : Trs) (l : List Ev) (t : Int) : l14_FoldTiers_l26 n (f + 1) (l, c, s, t, (3 : Int), ()) = some (.inl (c, s, ())) := by
  rw [l14_FoldTiers_l26_eq, show (decide ((3 : Int) < 3)) = false from rfl, tif_false]
theorem foldTiers_l26 (n f : Nat) (c : Conf) (s : Trs) (l : List Ev) (hL : l.length ≤ 1000000) (lst : Ev) (hlo : EvOk lst) (h : FInv c s l lst.1) (he : EndsAt l lst.1) : l14_FoldTiers_l26 (n + 7) (f + 4) (l, c, s, lst.1, (0 : Int), ()) = some (.inl (c, s, ())) := by
  have hfl : l.length < loopFuel := by unfold loopFuel; omega
  rw [l14_FoldTiers_l26_eq, show (decide ((0 : Int) < 3)) = true from rfl, tif_true, foldTiers_l29_0 n c s l hL lst hlo 0 h he l [] loopFuel 0 _ rfl rfl rfl hfl]
  simp only [obind_some, selim_inl]
  rw [show IntKind.wrap .i64 ((0 : Int) + 1) = 1 from rfl, l14_FoldTiers_l26_eq, show (decide ((1 : Int) < 3)) = true from rfl, tif_true, foldTiers_l29_1 n c s l hL lst hlo 1 h he l [] loopFuel 0 _ rfl rfl rfl hfl]
  simp only [obind_some, selim_inl]
  rw [show IntKind.wrap .i64 ((1 : Int) + 1) = 2 from rfl, l14_FoldTiers_l26_eq, show (decide ((2 : Int) < 3)) = true from rfl, tif_true, foldTiers_l29_2 n c s l hL lst hlo 2 h he l [] loopFuel 0 _ rfl rfl rfl hfl]
  simp only [obind_some, selim_inl]
  rw [show IntKind.wrap .i64 ((2 : Int) + 1) = 3 from rfl, l26_3]

/-- THE LAW FoldTiers -/
theorem foldTiers_true (n : Nat) (c : Conf) (l : List Ev) (hl : Wf (.slice tyEvent) l) : l14_FoldTiers (n + 35) c l = some true := by
  rw [l14_FoldTiers_eq, l14_lives_true, fold_empty (n + 30)]
  simp only [obind_some, Bool.not_true, tif_false]
  have hwe : TrsW (emp c) := by
    unfold emp
    split
    · exact ⟨fun x hx => by rw [List.eq_of_mem_replicate hx]; exact slow_s0, fun x hx => by rw [List.eq_of_mem_replicate hx]; exact slow_s0, fun x hx => by rw [List.eq_of_mem_replicate hx]; exact slow_s0⟩
    · exact ⟨by simp, by simp, by simp⟩
  rw [fold_check (n + 25) c hwe, l14_small]
  simp only [obind_some, tif_not, tif_dec]
  by_cases h1 : FoldOk c (emp c)
  case neg => rw [if_neg (mt (z02 _).1 h1)]
  rw [if_pos ((z02 _).2 h1)]
  by_cases h2 : (if Small14 (emp c) then (1 : Int) else 0) = 0
  · rw [if_pos h2]
  by_cases h3 : (60 : Int) < l.length
  · rw [if_neg h2, if_pos h3]
  by_cases h4 : (l.length : Int) = 0
  · rw [if_neg h2, if_neg h3, if_pos h4]
  rw [if_neg h2, if_neg h3, if_neg h4, cell_of (n + 27) l (by omega) (fun e he => ev_wf (hl.2 e he))]
  simp only [obind_some]
  by_cases h5 : Foll l
  case neg => rw [if_neg (mt ofE_ok.1 h5)]
  have hok := h1.cok
  have hr := hok.rng
  obtain ⟨s, o, r1, r2⟩ := foldTiers_l11 (n + 13) c l (by omega) h5 (by have := hr.w0; omega) hr.w0.1 l [] loopFuel (emp c) s0 0 l.length rfl rfl rfl (by unfold loopFuel; omega) (emp_inv hok)
  have r1' : l14_FoldTiers_l11 (n + 34) loopFuel (l, c, emp c, (((0 : Int), ((0 : Int), (((0 : Int), ((0 : Int), ((0 : Int), false))), (((0 : Int), ((0 : Int), ((0 : Int), false))), (((0 : Int), (0 : Int)), ((0 : Int), ((0 : Int), (0 : Int)))))))) : TSlot), l, (l.length : Int), (0 : Int), ()) = _ := r1
  rw [if_pos (ofE_ok.2 h5), r1']
  simp only [obind_some, selim_inl]
  rw [w64 (x := (l.length : Int) - 1) (by omega) (by omega)]
  obtain ⟨q, x, rfl⟩ : ∃ q x, l = q ++ [x] := by
    rcases List.eq_nil_or_concat l with rfl | ⟨q, x, rfl⟩
    · simp at h4
    · exact ⟨q, x, by simp⟩
  have hat : at? (q ++ [x]) (((q ++ [x]).length : Int) - 1) = some x := at_mid (pre := q) (rest := []) rfl (by simp)
  rw [hat]
  have hx : EvOk x := h5.ok x (by simp)
  have hends := ends_snoc h5
  have hinv : FInv c s (q ++ [x]) x.1 := by
    rcases r2 with ⟨e, _⟩ | ⟨t, he, hi, _⟩
    · simp at e
    · have : t = x.1 := by
        obtain ⟨y, hy, hyt⟩ := he.last
        have a1 := he.le x (by simp)
        have a2 := hends.le y hy
        omega
      rw [← this]; exact hi
  simp only [obind_some]
  rw [show loopFuel = (2 ^ 70 - 4) + 4 from by decide, foldTiers_l26 (n + 27) _ c s (q ++ [x]) (by omega) x hx hinv hends]
  simp only [obind_some, selim_inl, fold_check (n + 25) c hinv.ok.w, if_pos hinv.ok, decide_true]
end Go.Proofs.Ytapadkjknnfifaa
