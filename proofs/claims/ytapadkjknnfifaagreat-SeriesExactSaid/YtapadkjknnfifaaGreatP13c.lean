/-
  A tier's slots, third part: got, put, merged.
-/
import Derived.Test.YtapadkjknnfifaaGreatP13b
namespace Go.Proofs.YtapadkjknnfifaaGreat
open Go.Flat Go.Plim
set_option linter.unusedVariables false
set_option linter.unusedSimpArgs false
theorem ev_wf {e : Ev} (h : Wf tyEvent e) : EvW e := by
  obtain ⟨h1, h2, h3, _⟩ := h
  exact ⟨h1, h2, h3⟩
theorem tier_get (n : Nat) {l : List Slo} (h0 : 1 ≤ l.length) (i : Int) : tier_Get (n + 2) l i = some (tget l i) := by
  rw [tier_Get_eq]
  simp only [tif_dec]
  unfold tget
  by_cases h1 : i < 0
  · rw [if_pos h1, if_pos h1]; rfl
  rw [if_neg h1, if_neg h1, if_neg (by omega), window_slot, slotOf_val (by omega) (by omega)]
  have hm := Int.emod_nonneg i (show (l.length : Int) ≠ 0 by omega)
  have hm' := Int.emod_lt_of_pos i (show (0 : Int) < l.length by omega)
  have e : at? l (i % (l.length : Int)) = l[(i % (l.length : Int)).toNat]? := by
    obtain ⟨k, hk⟩ := Int.eq_ofNat_of_zero_le hm
    rw [hk]; exact at_nat l k
  have hlt : (i % (l.length : Int)).toNat < l.length := by omega
  simp only [obind_some, e, List.getElem?_eq_getElem hlt]
  by_cases h2 : l[(i % (l.length : Int)).toNat].1 = i
  · rw [if_pos h2, if_pos h2]
  · rw [if_neg h2, if_neg h2]; rfl
theorem r13_get (n : Nat) {l : List Slo} (h0 : 1 ≤ l.length) (i : Int) : r13_Get (n + 2) l i = some (tget l i) := by
  rw [r13_Get_eq]
  simp only [tif_dec, tif_not]
  unfold tget
  by_cases h1 : i < 0
  · rw [if_pos h1, if_pos h1]; rfl
  rw [if_neg h1, if_neg h1, if_neg (by omega), r09_slot, slotOf_val (by omega) (by omega)]
  have hm := Int.emod_nonneg i (show (l.length : Int) ≠ 0 by omega)
  have hm' := Int.emod_lt_of_pos i (show (0 : Int) < l.length by omega)
  have e : at? l (i % (l.length : Int)) = l[(i % (l.length : Int)).toNat]? := by
    obtain ⟨k, hk⟩ := Int.eq_ofNat_of_zero_le hm
    rw [hk]; exact at_nat l k
  have hlt : (i % (l.length : Int)).toNat < l.length := by omega
  simp only [obind_some, e, List.getElem?_eq_getElem hlt]
  by_cases h2 : l[(i % (l.length : Int)).toNat].1 = i
  · rw [if_pos h2, if_pos h2]
  · rw [if_neg h2, if_neg h2]; rfl
theorem tier_put (n : Nat) {l : List Slo} (w i : Int) {c : Cel} (hw : ∀ s ∈ l, SloW s) (hc : CelW c) : tier_Put (n + 8) l w i c = some (if TierOk l w ∧ FitsP c w i then (tput l i c, 0) else ([], 2)) := by
  rw [tier_Put_eq, tier_check n l w hw, tier_fits (n + 1) hc]
  simp only [obind_some, tif_not, tif_dec, z02]
  by_cases h1 : TierOk l w
  case neg => rw [if_neg h1, if_neg (fun k => h1 k.1)]
  by_cases h2 : FitsP c w i
  case neg => rw [if_pos h1, if_neg h2, if_neg (fun k => h2 k.2)]
  have l0 := h1.l0; have l1 := h1.l1
  have hi := h2.i0
  rw [if_pos h1, if_pos h2, if_pos (And.intro h1 h2), clone_slot _ l (by omega)]
  simp only [obind_some, window_slot, slotOf_val hi.1 (show (1 : Int) ≤ l.length by omega)]
  have hm := Int.emod_nonneg i (show (l.length : Int) ≠ 0 by omega)
  have hm' := Int.emod_lt_of_pos i (show (0 : Int) < l.length by omega)
  have e : at? l (i % (l.length : Int)) = l[(i % (l.length : Int)).toNat]? := by
    obtain ⟨k, hk⟩ := Int.eq_ofNat_of_zero_le hm
    rw [hk]; exact at_nat l k
  have hlt : (i % (l.length : Int)).toNat < l.length := by omega
  simp only [e, List.getElem?_eq_getElem hlt, obind_some]
  rfl
theorem tier_new (n : Nat) (m : Int) : tier_New (n + 1) m = some (if 1 ≤ m ∧ m ≤ 4096 then List.replicate m.toNat s0 else []) := by
  rw [tier_New_eq]
  simp only [tif_dec, tif_and]
  by_cases h1 : m < 1
  · rw [if_pos h1, if_neg (by omega)]
  by_cases h2 : 4096 < m
  · rw [if_neg h1, if_pos h2, if_neg (by omega)]
  rw [if_neg h1, if_neg h2, if_pos (by omega), if_pos (by omega), if_pos (by omega), if_pos (by omega)]
  rfl
/-! ### merged -/
def inW (i k : Int) (s : Slo) : Bool := decide (i ≤ s.1 ∧ s.1 < k)
theorem tier_fold_l (n : Nat) (i k : Int) (s6 : Cel) (l : List Slo) (hL : l.length ≤ 1000000) : ∀ (rest pre : List Slo) (f : Nat) (cells : List Cel) (ix len : Int), l = pre ++ rest → ix = pre.length → len = l.length → rest.length < f → cells.length ≤ pre.length →
    tier_Fold_l5 n f (i, k, s6, cells, l, len, ix, ()) = some (.inl (s6, cells ++ (rest.filter (inW i k)).map (·.2), ())) := by
  intro rest
  induction rest with
  | nil =>
    intro pre f cells ix len hl hi hn hf hc
    obtain ⟨f, rfl⟩ : ∃ g, f = g + 1 := ⟨f - 1, by simp at hf; omega⟩
    rw [tier_Fold_l5_eq]
    simp only [tif_dec, if_neg (idxe hl hi hn), List.filter_nil, List.map_nil, List.append_nil]
  | cons x rest ih =>
    intro pre f cells ix len hl hi hn hf hc
    obtain ⟨f, rfl⟩ : ∃ g, f = g + 1 := ⟨f - 1, by simp at hf; omega⟩
    rw [tier_Fold_l5_eq]
    have hp : pre.length + 1 ≤ l.length := by have := congrArg List.length hl; simp at this; omega
    simp only [tif_dec, if_pos (idx hl hi hn), at_mid hl hi, obind_some, idxw hl hi (by omega)]
    by_cases h1 : i ≤ x.1
    · rw [if_pos h1]
      by_cases h2 : x.1 < k
      · rw [if_pos h2, if_pos (by omega), ih (pre ++ [x]) f _ (ix + 1) len (idxl hl) (idxs hi) hn (by simp at hf; omega) (by simp; omega)]
        have : inW i k x = true := by simp [inW, h1, h2]
        rw [List.filter_cons_of_pos this]
        simp
      · rw [if_neg h2, ih (pre ++ [x]) f _ (ix + 1) len (idxl hl) (idxs hi) hn (by simp at hf; omega) (by simp; omega)]
        rw [List.filter_cons_of_neg (by simp [inW, h2])]
    · rw [if_neg h1, ih (pre ++ [x]) f _ (ix + 1) len (idxl hl) (idxs hi) hn (by simp at hf; omega) (by simp; omega)]
      rw [List.filter_cons_of_neg (by simp [inW, h1])]
theorem within_w {l : List Slo} {w : Int} (h : TierOk l w) (i k : Int) : ∀ c ∈ within l i k, CellN c := by
  intro c hc
  simp only [within, List.mem_map, List.mem_filter] at hc
  obtain ⟨s, ⟨hs, _⟩, rfl⟩ := hc
  exact (tall_fits h hs).1.n
theorem tall_len {l : List Slo} : (tall l).length ≤ l.length := by
  rw [(tall_perm l).length_eq]; exact List.length_filter_le _ _
theorem within_len (l : List Slo) (i k : Int) : (within l i k).length ≤ l.length := by
  unfold within
  rw [List.length_map]
  exact Nat.le_trans (List.length_filter_le _ _) tall_len
theorem tier_fold (n : Nat) {l : List Slo} {w : Int} (h : TierOk l w) (i k : Int) : tier_Fold (n + 18) l i k = some (tfold l i k) := by
  have l1 := h.l1
  have ht := tall_len (l := l)
  rw [tier_Fold_eq]
  simp only [tif_dec]
  unfold tfold
  by_cases h1 : i < 0
  · rw [if_pos h1, if_pos (.inl h1)]; rfl
  by_cases h2 : k < i
  · rw [if_neg h1, if_pos h2, if_pos (.inr h2)]; rfl
  rw [if_neg h1, if_neg h2, if_neg (by omega), tier_all n h]
  simp only [obind_some]
  rw [tier_fold_l (n + 17) i k _ (tall l) (by omega) (tall l) [] loopFuel [] 0 _ rfl rfl rfl (by unfold loopFuel; omega) (by simp)]
  simp only [obind_some, selim_inl, List.nil_append]
  have e : List.map (·.2) (List.filter (inW i k) (tall l)) = within l i k := rfl
  rw [e, cell_all (n + 10) _ (by have := within_len l i k; omega) (fun c hc => .ofN (within_w h i k c hc))]
  rfl
theorem r13_fold_l (n : Nat) (i k : Int) (s6 : Cel) (l0 : List Slo) (hl0 : 1 ≤ l0.length) (l : List Slo) (hL : l.length ≤ 1000000) (hg : ∀ s ∈ l, tget l0 s.1 = s.2) : ∀ (rest pre : List Slo) (f : Nat) (cells : List Cel) (ix len : Int), l = pre ++ rest → ix = pre.length → len = l.length → rest.length < f → cells.length ≤ pre.length →
    r13_Fold_l5 (n + 2) f (l0, i, k, s6, cells, l, len, ix, ()) = some (.inl (s6, cells ++ (rest.filter (inW i k)).map (·.2), ())) := by
  intro rest
  induction rest with
  | nil =>
    intro pre f cells ix len hl hi hn hf hc
    obtain ⟨f, rfl⟩ : ∃ g, f = g + 1 := ⟨f - 1, by simp at hf; omega⟩
    rw [r13_Fold_l5_eq]
    simp only [tif_dec, if_neg (idxe hl hi hn), List.filter_nil, List.map_nil, List.append_nil]
  | cons x rest ih =>
    intro pre f cells ix len hl hi hn hf hc
    obtain ⟨f, rfl⟩ : ∃ g, f = g + 1 := ⟨f - 1, by simp at hf; omega⟩
    rw [r13_Fold_l5_eq]
    have hp : pre.length + 1 ≤ l.length := by have := congrArg List.length hl; simp at this; omega
    have hx := hg x (by rw [hl]; simp)
    simp only [tif_dec, if_pos (idx hl hi hn), at_mid hl hi, obind_some, idxw hl hi (by omega), r13_get n hl0, hx, celEq]
    by_cases h1 : i ≤ x.1
    · rw [if_pos h1]
      by_cases h2 : x.1 < k
      · rw [if_pos h2, if_pos trivial, if_pos (by omega), ih (pre ++ [x]) f _ (ix + 1) len (idxl hl) (idxs hi) hn (by simp at hf; omega) (by simp; omega)]
        have : inW i k x = true := by simp [inW, h1, h2]
        rw [List.filter_cons_of_pos this]
        simp
      · rw [if_neg h2, ih (pre ++ [x]) f _ (ix + 1) len (idxl hl) (idxs hi) hn (by simp at hf; omega) (by simp; omega)]
        rw [List.filter_cons_of_neg (by simp [inW, h2])]
    · rw [if_neg h1, ih (pre ++ [x]) f _ (ix + 1) len (idxl hl) (idxs hi) hn (by simp at hf; omega) (by simp; omega)]
      rw [List.filter_cons_of_neg (by simp [inW, h1])]
theorem r13_fold (n : Nat) {l : List Slo} {w : Int} (h : TierOk l w) (i k : Int) : r13_Fold (n + 7) l i k = some (tfold l i k) := by
  have l1 := h.l1
  have ht := tall_len (l := l)
  rw [r13_Fold_eq]
  simp only [tif_dec]
  unfold tfold
  by_cases h1 : i < 0
  · rw [if_pos h1, if_pos (.inl h1)]; rfl
  by_cases h2 : k < i
  · rw [if_neg h1, if_pos h2, if_pos (.inr h2)]; rfl
  rw [if_neg h1, if_neg h2, if_neg (by omega), r13_all _ h]
  simp only [obind_some]
  rw [r13_fold_l (n + 4) i k _ l h.l0 (tall l) (by omega) (fun s hs => tget_mem h hs) (tall l) [] loopFuel [] 0 _ rfl rfl rfl (by unfold loopFuel; omega) (by simp)]
  simp only [obind_some, selim_inl, List.nil_append]
  have e : List.map (·.2) (List.filter (inW i k) (tall l)) = within l i k := rfl
  rw [e, r08_all n _ (by have := within_len l i k; omega) (fun c hc => .ofN (within_w h i k c hc))]
  rfl
theorem slow_s0 : SloW s0 := ⟨by simp [I64, s0], celW_z0⟩
theorem tierOk_w {l : List Slo} {w : Int} (h : TierOk l w) : ∀ s ∈ l, SloW s := by
  intro s hs
  obtain ⟨j, hj⟩ := List.getElem?_of_mem hs
  rcases h.s j s hj with rfl | ⟨_, hf⟩
  · exact slow_s0
  · have := hf.i0
    exact ⟨by unfold I64; omega, .ofN hf.n⟩
theorem quo_ev {e : Ev} (h : EvOk e) {w : Int} (hw : 1 ≤ w) : IntKind.wrap .i64 (Int.tdiv e.1 w) = e.1 / w := by
  have h0 := h.t0; have h1 := h.t1
  have : 0 ≤ e.1 / w := Int.ediv_nonneg h0 (by omega)
  have : e.1 / w ≤ e.1 := Int.ediv_le_self _ h0
  rw [tdiv_nn h0, w64 (by omega) (by omega)]
theorem quo_ev_range {e : Ev} (h : EvOk e) {w : Int} (hw : 1 ≤ w) : 0 ≤ e.1 / w ∧ e.1 / w < 35184372088832 := by
  have h0 := h.t0; have h1 := h.t1
  have : 0 ≤ e.1 / w := Int.ediv_nonneg h0 (by omega)
  have : e.1 / w ≤ e.1 := Int.ediv_le_self _ h0
  omega
end Go.Proofs.YtapadkjknnfifaaGreat
