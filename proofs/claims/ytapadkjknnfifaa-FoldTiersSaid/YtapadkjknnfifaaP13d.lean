/-
  The law of a tier's last windows.
-/
import Derived.Test.YtapadkjknnfifaaP13c
import Derived.Test.YtapadkjknnfifaaM13b
namespace Go.Proofs.Ytapadkjknnfifaa
open Go.Flat Go.Plim
set_option linter.unusedVariables false
set_option linter.unusedSimpArgs false

theorem slow_s0 : SloW s0 := ⟨by simp [I64, s0], celW_z0⟩
theorem tierOk_w {l : List Slo} {w : Int} (h : TierOk l w) : ∀ s ∈ l, SloW s := by
  intro s hs
  obtain ⟨j, hj⟩ := List.getElem?_of_mem hs
  rcases h.s j s hj with rfl | ⟨_, hf⟩
  · exact slow_s0
  · have := hf.i0
    exact ⟨by unfold I64; omega, .ofN hf.n⟩
theorem quo_ev {e : Ev} (h : EvOk e) {w : Int} (hw : 1 ≤ w) : IntKind.wrap .i64 (Int.tdiv e.1 w) = e.1 / w := by
  have h0 := h.t0; have h1 := h.t1
  have : 0 ≤ e.1 / w := Int.ediv_nonneg h0 (by omega)
  have : e.1 / w ≤ e.1 := Int.ediv_le_self _ h0
  rw [tdiv_nn h0, w64 (by omega) (by omega)]
theorem quo_ev_range {e : Ev} (h : EvOk e) {w : Int} (hw : 1 ≤ w) : 0 ≤ e.1 / w ∧ e.1 / w < 35184372088832 := by
  have h0 := h.t0; have h1 := h.t1
  have : 0 ≤ e.1 / w := Int.ediv_nonneg h0 (by omega)
  have : e.1 / w ≤ e.1 := Int.ediv_le_self _ h0
  omega
theorem tierLast_l10 (n : Nat) (n_ w from_ : Int) (w0 : 1 ≤ w) (w1 : w ≤ 1099511627776) (l : List Ev) (hL : l.length ≤ 1000000) (hf : Foll l) : ∀ (rest pre : List Ev) (f : Nat) (t : List Slo) (ix len : Int), l = pre ++ rest → ix = pre.length → len = l.length → rest.length < f → TierInv t w pre →
    ∃ t', l13_TierLast_l10 (n + 8) f (n_, w, l, from_, t, l, len, ix, ()) = some (.inl (n_, w, l, from_, t', ())) ∧ TierInv t' w l ∧ t'.length = t.length := by
  intro rest
  induction rest with
  | nil =>
    intro pre f t ix len hl hi hn hf' ht
    obtain ⟨f, rfl⟩ : ∃ g, f = g + 1 := ⟨f - 1, by simp at hf'; omega⟩
    rw [l13_TierLast_l10_eq]
    have e : l = pre := by rw [hl, List.append_nil]
    exact ⟨t, by simp only [tif_dec, if_neg (idxe hl hi hn)], by rw [e]; exact ht, rfl⟩
  | cons x rest ih =>
    intro pre f t ix len hl hi hn hf' ht
    obtain ⟨f, rfl⟩ : ∃ g, f = g + 1 := ⟨f - 1, by simp at hf'; omega⟩
    rw [l13_TierLast_l10_eq]
    have hpx : Foll (pre ++ [x]) := by
      have := hf; rw [idxl hl] at this
      exact (foll_append.1 this).1
    have hp := (foll_append.1 hpx).1
    have hx : EvOk x := hpx.ok x (by simp)
    obtain ⟨hfit, hinv⟩ := tierInv_put ht hpx
    have hwx : Foll (win w pre (x.1 / w) ++ [x]) := by
      have := win_foll (w := w) hpx (x.1 / w)
      rwa [win_snoc, if_pos rfl] at this
    have hget := tierInv_get ht hp (i := x.1 / w) (fun e he => by
      have := wd_mono w0 ((foll_append.1 hpx).2.2 e he x (by simp))
      have := ht.ok.l0
      omega)
    have hadd := (mrgE_snoc (win_foll hp (x.1 / w)) hx).1 hwx
    have hw0 : ¬ (w = 0) := by omega
    simp only [tif_dec, tif_not, if_pos (idx hl hi hn), at_mid hl hi, obind_some, if_neg hw0, quo_ev hx w0, tier_get (n + 6) ht.ok.l0, hget, cell_add (n + 1) (CelW.of (cellOf_ok (win_foll hp _))) (EvW.of hx), if_pos hx, hadd,
      tier_put n w (x.1 / w) (tierOk_w ht.ok) (CelW.ofN hfit.n), if_pos (And.intro ht.ok hfit), idxw hl hi (by omega), if_pos trivial]
    obtain ⟨t', r1, r2, r3⟩ := ih (pre ++ [x]) f _ (ix + 1) len (idxl hl) (idxs hi) hn (by simp at hf'; omega) hinv
    exact ⟨t', r1, r2, by rw [r3, tput_len]⟩
theorem tierLast_l23 (n : Nat) (w from_ last : Int) (w0 : 1 ≤ w) (t : List Slo) (l : List Ev) (hL : l.length ≤ 1000000) (hf : Foll l) : ∀ (rest pre : List Ev) (f : Nat) (s : List Ev) (ix len : Int), l = pre ++ rest → ix = pre.length → len = l.length → rest.length < f → s.length ≤ pre.length →
    l13_TierLast_l23 n f (w, from_, t, last, s, l, len, ix, ()) = some (.inl (w, from_, t, last, s ++ rest.filter (fun e => decide (from_ ≤ e.1 / w)), ())) := by
  intro rest
  induction rest with
  | nil =>
    intro pre f s ix len hl hi hn hf' hs
    obtain ⟨f, rfl⟩ : ∃ g, f = g + 1 := ⟨f - 1, by simp at hf'; omega⟩
    rw [l13_TierLast_l23_eq]
    simp only [tif_dec, if_neg (idxe hl hi hn), List.filter_nil, List.append_nil]
  | cons x rest ih =>
    intro pre f s ix len hl hi hn hf' hs
    obtain ⟨f, rfl⟩ : ∃ g, f = g + 1 := ⟨f - 1, by simp at hf'; omega⟩
    rw [l13_TierLast_l23_eq]
    have hx : EvOk x := hf.ok x (by rw [hl]; simp)
    have hp : pre.length + 1 ≤ l.length := by have := congrArg List.length hl; simp at this; omega
    have hw0 : ¬ (w = 0) := by omega
    simp only [tif_dec, if_pos (idx hl hi hn), at_mid hl hi, obind_some, if_neg hw0, quo_ev hx w0, idxw hl hi (by omega)]
    by_cases h1 : from_ ≤ x.1 / w
    · rw [if_pos h1, if_pos (by omega), ih (pre ++ [x]) f _ (ix + 1) len (idxl hl) (idxs hi) hn (by simp at hf'; omega) (by simp; omega), List.filter_cons_of_pos (by simpa using h1)]
      simp
    · rw [if_neg h1, ih (pre ++ [x]) f _ (ix + 1) len (idxl hl) (idxs hi) hn (by simp at hf'; omega) (by simp; omega), List.filter_cons_of_neg (by simpa using h1)]

/-- THE LAW TierLast -/
theorem tierLast_true (n : Nat) (n_ w : Int) (l : List Ev) (from_ : Int) (hl : Wf (.slice tyEvent) l) : l13_TierLast (n + 31) n_ w l from_ = some true := by
  rw [l13_TierLast_eq, l13_lives_true]
  simp only [obind_some, Bool.not_true, tif_false, tif_dec]
  by_cases h1 : n_ < 1
  · rw [if_pos h1]
  by_cases h2 : 20 < n_
  · rw [if_neg h1, if_pos h2]
  by_cases h3 : w < 1
  · rw [if_neg h1, if_neg h2, if_pos h3]
  by_cases h4 : 1099511627776 < w
  · rw [if_neg h1, if_neg h2, if_neg h3, if_pos h4]
  by_cases h5 : (100 : Int) < l.length
  · rw [if_neg h1, if_neg h2, if_neg h3, if_neg h4, if_pos h5]
  rw [if_neg h1, if_neg h2, if_neg h3, if_neg h4, if_neg h5, cell_of (n + 23) l (by omega) (fun e he => ev_wf (hl.2 e he))]
  simp only [obind_some, tif_not, tif_dec]
  by_cases h6 : Foll l
  case neg => rw [if_neg (mt ofE_ok.1 h6)]
  by_cases h7 : (l.length : Int) = 0
  · rw [if_pos (ofE_ok.2 h6), if_pos h7]
  rw [if_pos (ofE_ok.2 h6), if_neg h7, tier_new, if_pos (by omega)]
  simp only [obind_some]
  have hn : n_.toNat = n_ := by omega
  obtain ⟨t, r1, r2, r3⟩ := tierLast_l10 (n + 22) n_ w from_ (by omega) (by omega) l (by omega) h6 l [] loopFuel (List.replicate n_.toNat s0) 0 l.length rfl rfl rfl (by unfold loopFuel; omega) (tierInv_nil (by omega) (by omega) (by omega) (by omega))
  rw [List.length_replicate] at r3
  rw [r1]
  simp only [obind_some, selim_inl]
  rw [w64 (x := (l.length : Int) - 1) (by omega) (by omega)]
  obtain ⟨q, x, rfl⟩ : ∃ q x, l = q ++ [x] := by
    rcases List.eq_nil_or_concat l with rfl | ⟨q, x, rfl⟩
    · simp at h7
    · exact ⟨q, x, by simp⟩
  have hat : at? (q ++ [x]) (((q ++ [x]).length : Int) - 1) = some x := at_mid (pre := q) (rest := []) rfl (by simp)
  rw [hat]
  have hx : EvOk x := h6.ok x (by simp)
  have w0 : 1 ≤ w := by omega
  simp only [obind_some, quo_ev hx w0]
  obtain ⟨x0, x1⟩ := quo_ev_range hx w0
  have hle : ∀ e ∈ q ++ [x], e.1 / w ≤ x.1 / w := by
    intro e he
    rcases List.mem_append.1 he with he | he
    · exact wd_mono w0 ((foll_append.1 h6).2.2 e he x (by simp))
    · simp at he; rw [he]; exact Int.le_refl _
  rw [if_neg (show ¬ (w = 0) by omega)]
  generalize x.1 / w = last at *
  rw [w64 (x := last - n_) (by omega) (by omega), w64 (x := last - n_ + 1) (by omega) (by omega)]
  generalize hfr : (if last < (if from_ < (if last - n_ + 1 < 0 then (0 : Int) else last - n_ + 1) then (if last - n_ + 1 < 0 then (0 : Int) else last - n_ + 1) else from_) then last else (if from_ < (if last - n_ + 1 < 0 then (0 : Int) else last - n_ + 1) then (if last - n_ + 1 < 0 then (0 : Int) else last - n_ + 1) else from_)) = fr
  have hfr1 : 0 ≤ fr ∧ fr ≤ last ∧ last - n_ + 1 ≤ fr := by
    rw [← hfr]
    by_cases c1 : last - n_ + 1 < 0
    · simp only [if_pos c1]
      by_cases c2 : from_ < 0
      · simp only [if_pos c2]
        by_cases c3 : last < 0
        · omega
        · rw [if_neg c3]; omega
      · simp only [if_neg c2]
        by_cases c3 : last < from_
        · rw [if_pos c3]; omega
        · rw [if_neg c3]; omega
    · simp only [if_neg c1]
      by_cases c2 : from_ < last - n_ + 1
      · simp only [if_pos c2]
        by_cases c3 : last < last - n_ + 1
        · omega
        · rw [if_neg c3]; omega
      · simp only [if_neg c2]
        by_cases c3 : last < from_
        · rw [if_pos c3]; omega
        · rw [if_neg c3]; omega
  clear hfr
  rw [tierLast_l23 (n + 30) w fr last w0 t (q ++ [x]) (by omega) h6 (q ++ [x]) [] loopFuel [] 0 _ rfl rfl rfl (by unfold loopFuel; omega) (by simp)]
  simp only [obind_some, selim_inl, List.nil_append]
  have er : (q ++ [x]).filter (fun e => decide (fr ≤ e.1 / w)) = rng w (q ++ [x]) fr (last + 1) := by
    unfold rng
    apply List.filter_congr
    intro e he
    have := hle e he
    exact decide_eq_decide.2 (by omega)
  rw [er, w64 (x := last + 1) (by omega) (by omega)]
  have hff := rng_foll (w := w) h6 fr (last + 1)
  have hlen : (rng w (q ++ [x]) fr (last + 1)).length ≤ (q ++ [x]).length := List.length_filter_le _ _
  rw [cell_of (n + 23) _ (by omega) (fun e he => .of (hff.ok e he)), ofE_foll hff, tier_fold (n + 12) r2.ok fr (last + 1), tierInv_fold r2 h6 hfr1.1 (by omega) (fun e he => by have := hle e he; omega), tier_check (n + 23) t w (tierOk_w r2.ok), if_pos r2.ok]
  simp only [obind_some, celEq, decide_true, tif_true, if_true]
end Go.Proofs.Ytapadkjknnfifaa
