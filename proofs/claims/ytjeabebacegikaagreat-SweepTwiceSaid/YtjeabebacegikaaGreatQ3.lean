/-
  Plain proofs about the functions of this seat, part 3 of 3.
-/
import Derived.Test.YtjeabebacegikaaGreatQ2
import Derived.Test.YtjeabebacegikaaGreatTr
namespace Go.Proofs.YtjeabebacegikaaGreat
open Go.Flat Go.Plim
set_option linter.unusedVariables false
set_option linter.unusedSimpArgs false
theorem el_get {l : List Ser} {k : Nat} (h : k < l.length) : ∃ y, l[k]? = some y := ⟨l[k], List.getElem?_eq_getElem h⟩
noncomputable def liveR (s : Sta) : List Int := if Whole s then (liveV s).map Int.ofNat else []
theorem lvAt_el {s : Sta} {k : Nat} {y : Ser} (h : s.2.2.2[k]? = some y) : decide (LvX s y) = lvAt s k := (lvAt_some h).symm
theorem st_live_l6 (n : Nat) {s : Sta} (hw : StaW s) (hL : s.2.2.2.length ≤ 1000000) : ∀ (d k f : Nat) (out : List Int), k + d = s.2.2.2.length → d < f → out.length ≤ k →
    state_Live_l6 (n + 7) f (s, out, (s.2.2.2.length : Int), (k : Int), ()) = some (.inl (out ++ ((List.range' k d).filter (lvAt s)).map Int.ofNat, ())) := by
  intro d
  induction d with
  | zero =>
    intro k f out hk hf ho
    obtain ⟨f, rfl⟩ : ∃ g, f = g + 1 := ⟨f - 1, by omega⟩
    rw [state_Live_l6_eq, decide_eq_false (by omega), tif_false]; simp
  | succ d ih =>
    intro k f out hk hf ho
    obtain ⟨f, rfl⟩ : ∃ g, f = g + 1 := ⟨f - 1, by omega⟩
    obtain ⟨y, hy⟩ := el_get (l := s.2.2.2) (k := k) (by omega)
    rw [state_Live_l6_eq, decide_eq_true (by omega), tif_true, st_lives n hy (hw.at hy).2, obind_some, lvAt_el hy, w64 (by omega) (by omega), show ((k : Int) + 1) = ((k + 1 : Nat) : Int) by omega, List.range'_succ]
    cases h : lvAt s k
    · rw [tif_false, ih (k + 1) f out (by omega) (by omega) (by omega), List.filter_cons_of_neg (by simp [h])]
    · rw [tif_true, decide_eq_true (by omega), tif_true, ih (k + 1) f _ (by omega) (by omega) (by simp; omega), List.filter_cons_of_pos h]; simp
theorem state_live (n : Nat) {s : Sta} (hw : StaW s) : state_Live (n + 8) s = some (liveR s) := by
  rw [state_Live_eq, st_open (n + 3) s, obind_some, tif_not, tif_dec]
  unfold liveR
  by_cases h : Whole s
  case neg => rw [if_neg h, if_neg h, if_neg (show ¬ ((sta0, (2 : Int)).2 = 0) by decide)]
  rw [if_pos h, if_pos h, if_pos rfl]
  have hL := h.len
  have e : state_Live_l6 (n + 7) loopFuel (s, ([] : List Int), (s.2.2.2.length : Int), (0 : Int), ()) = _ := st_live_l6 n hw (by omega) s.2.2.2.length 0 loopFuel [] (by omega) (by unfold loopFuel; omega) (by simp)
  simp only
  rw [e, obind_some, selim_inl]
  unfold liveV
  rw [List.range_eq_range']; rfl
theorem r17_live_l5 (n : Nat) {s : Sta} (hw : StaW s) (hL : s.2.2.2.length ≤ 1000000) : ∀ (d k f : Nat) (out : List Int), k + d = s.2.2.2.length → d < f → out.length ≤ k →
    r17_Live_l5 (n + 6) f (s, out, (s.2.2.2.length : Int), (k : Int), ()) = some (.inl (out ++ ((List.range' k d).filter (lvAt s)).map Int.ofNat, ())) := by
  intro d
  induction d with
  | zero =>
    intro k f out hk hf ho
    obtain ⟨f, rfl⟩ : ∃ g, f = g + 1 := ⟨f - 1, by omega⟩
    rw [r17_Live_l5_eq, decide_eq_false (by omega), tif_false]; simp
  | succ d ih =>
    intro k f out hk hf ho
    obtain ⟨f, rfl⟩ : ∃ g, f = g + 1 := ⟨f - 1, by omega⟩
    obtain ⟨y, hy⟩ := el_get (l := s.2.2.2) (k := k) (by omega)
    rw [r17_Live_l5_eq, decide_eq_true (by omega), tif_true, r17_lives_val n hy (hw.at hy).2, obind_some, lvAt_el hy, w64 (by omega) (by omega), show ((k : Int) + 1) = ((k + 1 : Nat) : Int) by omega, List.range'_succ]
    cases h : lvAt s k
    · rw [tif_false, ih (k + 1) f out (by omega) (by omega) (by omega), List.filter_cons_of_neg (by simp [h])]
    · rw [tif_true, decide_eq_true (by omega), tif_true, ih (k + 1) f _ (by omega) (by omega) (by simp; omega), List.filter_cons_of_pos h]; simp
theorem r17_live (n : Nat) {s : Sta} (hw : StaW s) : r17_Live (n + 7) s = some (liveR s) := by
  rw [r17_Live_eq, r17_whole_val (n + 2) s, obind_some, tif_not, tif_dec]
  unfold liveR
  by_cases h : Whole s
  case neg => rw [if_neg h, if_neg h]
  rw [if_pos h, if_pos h]
  have hL := h.len
  have e : r17_Live_l5 (n + 6) loopFuel (s, ([] : List Int), (s.2.2.2.length : Int), (0 : Int), ()) = _ := r17_live_l5 n hw (by omega) s.2.2.2.length 0 loopFuel [] (by omega) (by unfold loopFuel; omega) (by simp)
  rw [e, obind_some, selim_inl]
  unfold liveV
  rw [List.range_eq_range']; rfl
theorem state_many (n : Nat) {s : Sta} (hw : StaW s) : state_Many (n + 9) s = some ((liveR s).length : Int) := by
  rw [state_Many_eq, state_live n hw]; rfl
theorem liveR_len {s : Sta} (h : Whole s) : (liveR s).length = (liveV s).length := by
  unfold liveR; rw [if_pos h]; simp
theorem r06_same_l4 (n : Nat) (a : List Int) (hL : a.length ≤ 1000000) : ∀ (rest pre : List Int) (f : Nat) (ix len : Int), a = pre ++ rest → ix = pre.length → len = a.length → rest.length < f → r06_Same_l4 n f (a, a, len, ix, ()) = some (.inl ()) := by
  intro rest
  induction rest with
  | nil =>
    intro pre f ix len hl hi hn hf
    obtain ⟨f, rfl⟩ : ∃ g, f = g + 1 := ⟨f - 1, by simp at hf; omega⟩
    rw [r06_Same_l4_eq]
    simp only [tif_dec, if_neg (idxe hl hi hn)]
  | cons x rest ih =>
    intro pre f ix len hl hi hn hf
    obtain ⟨f, rfl⟩ : ∃ g, f = g + 1 := ⟨f - 1, by simp at hf; omega⟩
    rw [r06_Same_l4_eq]
    simp only [tif_dec, if_pos (idx hl hi hn), at_mid hl hi, obind_some, decide_true, Bool.not_true, tif_false, idxw hl hi (show a.length ≤ 1000000000000 by omega)]
    exact ih (pre ++ [x]) f (ix + 1) len (idxl hl) (idxs hi) hn (by simp at hf; omega)
theorem r06_same_refl (n : Nat) (a : List Int) (hL : a.length ≤ 1000000) : r06_Same (n + 1) a a = some true := by
  rw [r06_Same_eq]
  simp only [decide_true, Bool.not_true, tif_false, r06_same_l4 n a hL a [] loopFuel 0 _ rfl rfl rfl (by unfold loopFuel; omega), obind_some, selim_inl]
noncomputable def livesB (s : Sta) (i : Int) : Bool := decide (Whole s ∧ 0 ≤ i ∧ lvAt s i.toNat = true)
theorem lvAt_lt {s : Sta} {k : Nat} (h : lvAt s k = true) : k < s.2.2.2.length := by
  unfold lvAt at h
  cases hx : s.2.2.2[k]? with
  | none => rw [hx] at h; cases h
  | some x => exact (List.getElem?_eq_some_iff.1 hx).1
theorem state_lives (n : Nat) {s : Sta} (hw : StaW s) (i : Int) : state_Lives (n + 8) s i = some (livesB s i) := by
  rw [state_Lives_eq, st_open (n + 3) s, obind_some, tif_dec, tif_dec, tif_dec]
  unfold livesB
  by_cases h : Whole s
  case neg => rw [if_neg h, if_neg (show ¬ ((sta0, (2 : Int)).2 = 0) by decide), decide_eq_false (fun k => h k.1)]
  rw [if_pos h, if_pos rfl]
  by_cases h1 : 0 ≤ i
  case neg => rw [if_neg h1, decide_eq_false (fun k => h1 k.2.1)]
  rw [if_pos h1]
  by_cases h2 : i < (s.2.2.2.length : Int)
  · rw [if_pos h2]
    obtain ⟨y, hy⟩ := el_get (l := s.2.2.2) (k := i.toNat) (by omega)
    have e := st_lives n hy (hw.at hy).2
    rw [show ((i.toNat : Nat) : Int) = i by omega] at e
    simp only
    rw [e, obind_some, lvAt_el hy]
    cases h3 : lvAt s i.toNat
    · rw [decide_eq_false (by rintro ⟨_, _, k⟩; cases k)]
    · rw [decide_eq_true ⟨h, h1, rfl⟩]
  · rw [if_neg h2, decide_eq_false (fun k => by have := lvAt_lt k.2.2; omega)]
/-! ### two that are equal -/
theorem eqFunc_l4 (n : Nat) (a b : List Ser) (hL : a.length ≤ 9223372036854775807) (eq : Ser × (Ser × Unit) → Option Bool) (he : ∀ x ∈ a, ∀ y, eq (x, (y, ())) = some (decide (x = y))) : ∀ (ra rb pa pb : List Ser) (f : Nat) (ix len : Int), a = pa ++ ra → b = pb ++ rb → pa.length = pb.length → ra.length = rb.length → ix = pa.length → len = a.length → ra.length < f →
    slices_EqualFunc_SeriesSeries_Series_Series_l4 n f (b, eq, a, len, ix, ()) = some (if ra = rb then .inl () else .inr false) := by
  intro ra
  induction ra with
  | nil =>
    intro rb pa pb f ix len ha hb hp hr hi hn hf
    obtain ⟨f, rfl⟩ : ∃ g, f = g + 1 := ⟨f - 1, by simp at hf; omega⟩
    have : rb = [] := List.length_eq_zero_iff.1 (by simpa using hr.symm)
    subst this
    rw [slices_EqualFunc_SeriesSeries_Series_Series_l4_eq, decide_eq_false (idxe ha hi hn), tif_false, if_pos rfl]
  | cons x ra ih =>
    intro rb pa pb f ix len ha hb hp hr hi hn hf
    obtain ⟨f, rfl⟩ : ∃ g, f = g + 1 := ⟨f - 1, by simp at hf; omega⟩
    cases rb with
    | nil => simp at hr
    | cons y rb =>
      have hlen := congrArg List.length ha
      simp at hlen
      rw [slices_EqualFunc_SeriesSeries_Series_Series_l4_eq, decide_eq_true (idx ha hi hn), tif_true, at_mid ha hi, obind_some, at_mid hb (by rw [hi, hp]), obind_some, he x (by rw [ha]; simp) y, obind_some, tif_not, tif_dec, w64 (by omega) (by omega)]
      by_cases h : x = y
      · subst h
        rw [if_pos rfl, ih rb (pa ++ [x]) (pb ++ [x]) f (ix + 1) len (idxl ha) (idxl hb) (by simp [hp]) (by simpa using hr) (idxs hi) hn (by simp at hf; omega)]
        by_cases h2 : ra = rb
        · rw [if_pos h2, if_pos (by rw [h2])]
        · rw [if_neg h2, if_neg (by intro k; injection k with _ k; exact h2 k)]
      · rw [if_neg h, if_neg (by intro k; injection k with k _; exact h k)]
theorem state_same (n : Nat) {a : Sta} (ha : StaW a) (b : Sta) : state_Same (n + 5) a b = some (decide (a = b)) := by
  have he : ∀ x ∈ a.2.2.2, ∀ y, (fun y0 : Ser × (Ser × Unit) => series_Same (n + 4) y0.1 y0.2.1) (x, (y, ())) = some (decide (x = y)) := fun x hx y => series_same (n + 1) x y (ha.ser x hx).2
  rw [state_Same_eq, confEq, tif_dec, tif_dec, tif_dec, slices_EqualFunc_SeriesSeries_Series_Series_eq, tif_not, tif_dec]
  obtain ⟨a1, a2, a3, a4⟩ := a
  obtain ⟨b1, b2, b3, b4⟩ := b
  simp only at ha he ⊢
  by_cases h1 : a1 = b1
  case neg => rw [if_neg h1, decide_eq_false (fun k => h1 (congrArg Prod.fst k))]
  rw [if_pos h1]
  by_cases h2 : a2 = b2
  case neg => rw [if_neg h2, decide_eq_false (fun k => h2 (congrArg (fun z => z.2.1) k))]
  rw [if_pos h2]
  by_cases h3 : a3 = b3
  case neg => rw [if_neg h3, decide_eq_false (fun k => h3 (congrArg (fun z => z.2.2.1) k))]
  rw [if_pos h3]
  by_cases h4 : (a4.length : Int) = b4.length
  case neg => rw [if_neg h4, obind_some, decide_eq_false (fun k => h4 (congrArg (fun z => ((z.2.2.2.length : Nat) : Int)) k))]
  rw [if_pos h4, eqFunc_l4 (n + 3) a4 b4 ha.len (fun y0 : Ser × (Ser × Unit) => series_Same (n + 4) y0.1 y0.2.1) he a4 b4 [] [] loopFuel 0 _ rfl rfl rfl (by omega) rfl rfl (by have := ha.len; simp only at this; unfold loopFuel; omega)]
  by_cases h5 : a4 = b4
  · rw [if_pos h5, decide_eq_true (by rw [h1, h2, h3, h5])]; rfl
  · rw [if_neg h5, decide_eq_false (fun k => h5 (congrArg (fun z => z.2.2.2) k))]; rfl
theorem r17_same_l4g (n : Nat) {s t : Sta} (hw : StaW s) (hl : s.2.2.2.length = t.2.2.2.length) : ∀ (d i f : Nat), i + d = s.2.2.2.length → d < f → r17_Same_l4 (n + 3) f (s, t, (s.2.2.2.length : Int), (i : Int), ()) = some (if s.2.2.2.drop i = t.2.2.2.drop i then .inl () else .inr false) := by
  have hL := hw.len
  intro d
  induction d with
  | zero =>
    intro i f hi hf
    obtain ⟨f, rfl⟩ : ∃ g, f = g + 1 := ⟨f - 1, by omega⟩
    rw [r17_Same_l4_eq, decide_eq_false (by omega), tif_false, if_pos]
    rw [List.drop_eq_nil_of_le (by omega), List.drop_eq_nil_of_le (by omega)]
  | succ d ih =>
    intro i f hi hf
    obtain ⟨f, rfl⟩ : ∃ g, f = g + 1 := ⟨f - 1, by omega⟩
    obtain ⟨x, hx⟩ := el_get (l := s.2.2.2) (k := i) (by omega)
    obtain ⟨y, hy⟩ := el_get (l := t.2.2.2) (k := i) (by omega)
    have ex : s.2.2.2.drop i = x :: s.2.2.2.drop (i + 1) := by
      obtain ⟨h1, h2⟩ := List.getElem?_eq_some_iff.1 hx
      rw [List.drop_eq_getElem_cons h1, h2]
    have ey : t.2.2.2.drop i = y :: t.2.2.2.drop (i + 1) := by
      obtain ⟨h1, h2⟩ := List.getElem?_eq_some_iff.1 hy
      rw [List.drop_eq_getElem_cons h1, h2]
    rw [r17_Same_l4_eq, decide_eq_true (by omega), tif_true, at_el hx, obind_some, at_el hy, obind_some, r15_same n x y (hw.at hx).2, obind_some, tif_not, tif_dec, w64 (by omega) (by omega), show ((i : Int) + 1) = ((i + 1 : Nat) : Int) by omega, ih (i + 1) f (by omega) (by omega), ex, ey]
    by_cases h : x = y
    · subst h
      rw [if_pos rfl]
      by_cases h2 : s.2.2.2.drop (i + 1) = t.2.2.2.drop (i + 1)
      · rw [if_pos h2, if_pos (by rw [h2])]
      · rw [if_neg h2, if_neg (by intro k; injection k with _ k; exact h2 k)]
    · rw [if_neg h, if_neg (by intro k; injection k with k _; exact h k)]
theorem r17_same (n : Nat) {a : Sta} (ha : StaW a) (b : Sta) : r17_Same (n + 4) a b = some (decide (a = b)) := by
  rw [r17_Same_eq, confEq, tif_not, tif_dec, tif_not, tif_dec, tif_not, tif_dec, tif_not, tif_dec]
  by_cases h1 : a.1 = b.1
  case neg => rw [if_neg h1, decide_eq_false (fun k => h1 (congrArg Prod.fst k))]
  rw [if_pos h1]
  by_cases h2 : a.2.1 = b.2.1
  case neg => rw [if_neg h2, decide_eq_false (fun k => h2 (congrArg (fun z : Sta => z.2.1) k))]
  rw [if_pos h2]
  by_cases h3 : a.2.2.1 = b.2.2.1
  case neg => rw [if_neg h3, decide_eq_false (fun k => h3 (congrArg (fun z : Sta => z.2.2.1) k))]
  rw [if_pos h3]
  by_cases h4 : (a.2.2.2.length : Int) = b.2.2.2.length
  case neg => rw [if_neg h4, decide_eq_false (fun k => h4 (congrArg (fun z : Sta => ((z.2.2.2.length : Nat) : Int)) k))]
  have e : r17_Same_l4 (n + 3) loopFuel (a, b, (a.2.2.2.length : Int), (0 : Int), ()) = _ := r17_same_l4g n ha (by omega) a.2.2.2.length 0 loopFuel (by omega) (by have := ha.len; unfold loopFuel; omega)
  rw [if_pos h4, e, List.drop_zero, List.drop_zero]
  by_cases h5 : a.2.2.2 = b.2.2.2
  · rw [if_pos h5, decide_eq_true (Prod.ext h1 (Prod.ext h2 (Prod.ext h3 h5)))]; rfl
  · rw [if_neg h5, decide_eq_false (fun k => h5 (congrArg (fun z : Sta => z.2.2.2) k))]; rfl
/-! ### a new one -/
theorem sta0_w : StaW sta0 := ⟨by simp [sta0], by simp [sta0]⟩
theorem ser0_w : SerW ser0 := by
  refine ⟨?_, ?_, ⟨?_, ?_, ?_⟩, slow_s0⟩
  · unfold I64; simp [ser0]
  · intro e he; simp [ser0, r0w] at he
  · intro x hx; simp [ser0] at hx
  · intro x hx; simp [ser0] at hx
  · intro x hx; simp [ser0] at hx
end Go.Proofs.YtjeabebacegikaaGreat

namespace Go.Proofs.YtjeabebacegikaaGreat
open Go.Flat Go.Plim
set_option linter.unusedVariables false
set_option linter.unusedSimpArgs false
theorem chk_ok {α : Type} {s : Sta} (h : StaOk s) (x y : α) : tif (decide ((if StaOk s then (0 : Int) else 2) = 0)) x y = x := by rw [if_pos h]; rfl
theorem chk_no {α : Type} {s : Sta} (h : ¬ StaOk s) (x y : α) : tif (decide ((if StaOk s then (0 : Int) else 2) = 0)) x y = y := by rw [if_neg h]; rfl
theorem get_mid {α : Type} {l pre rest : List α} {x : α} {i : Int} (h : l = pre ++ x :: rest) (hi : i = pre.length) : l[i.toNat]? = some x := by subst h hi; simp
theorem set_mid {α : Type} {pre rest : List α} {x v : α} {i : Int} (hi : i = pre.length) : (pre ++ x :: rest).set i.toNat v = (pre ++ [v]) ++ rest := by subst hi; simp
theorem at_nn {α : Type} {l : List α} {i : Int} {x : α} (h0 : 0 ≤ i) (h : l[i.toNat]? = some x) : at? l i = some x := by unfold at?; rw [decide_eq_true h0]; exact h
/-! ### numbers that are kept -/
section
variable {del : Int × Unit → Option Bool} {p : Int → Bool} {L : List Int} (hd : ∀ x ∈ L, del (x, ()) = some (p x))
include hd
theorem index_il (n : Nat) (l : List Int) (hL : l.length ≤ 1000000) : ∀ (rest pre : List Int) (f : Nat) (i len : Int), (∀ x ∈ rest, x ∈ L) → l = pre ++ rest → i = pre.length → len = l.length → rest.length < f →
    (slices_IndexFunc_int_l2 n f (l, del, len, i, ()) = some (.inl ()) ∧ ∀ x ∈ rest, p x = false) ∨
    (∃ A x B, rest = A ++ x :: B ∧ (∀ y ∈ A, p y = false) ∧ p x = true ∧ slices_IndexFunc_int_l2 n f (l, del, len, i, ()) = some (.inr (i + A.length))) := by
  intro rest
  induction rest with
  | nil =>
    intro pre f i len hm hl hi hn hf
    obtain ⟨f, rfl⟩ : ∃ g, f = g + 1 := ⟨f - 1, by simp at hf; omega⟩
    rw [slices_IndexFunc_int_l2_eq]
    exact .inl ⟨by simp only [tif_dec, if_neg (idxe hl hi hn)], by simp⟩
  | cons x rest ih =>
    intro pre f i len hm hl hi hn hf
    obtain ⟨f, rfl⟩ : ∃ g, f = g + 1 := ⟨f - 1, by simp at hf; omega⟩
    rw [slices_IndexFunc_int_l2_eq]
    simp only [tif_dec, if_pos (idx hl hi hn), at_mid hl hi, obind_some, hd x (hm x (by simp)), idxw hl hi (show l.length ≤ 1000000000000 by omega)]
    cases hp : p x with
    | true => exact .inr ⟨[], x, rest, rfl, by simp, hp, by simp⟩
    | false =>
      rw [tif_false]
      rcases ih (pre ++ [x]) f (i + 1) len (fun y hy => hm y (by simp [hy])) (idxl hl) (idxs hi) hn (by simp at hf; omega) with ⟨h1, h2⟩ | ⟨A, y, B, h1, h2, h3, h4⟩
      · exact .inl ⟨h1, by intro z hz; rcases List.mem_cons.1 hz with rfl | hz; exact hp; exact h2 z hz⟩
      · refine .inr ⟨x :: A, y, B, by rw [h1]; rfl, ?_, h3, by rw [h4, List.length_cons, show i + 1 + (A.length : Int) = i + ((A.length + 1 : Nat) : Int) by omega]⟩
        intro z hz
        rcases List.mem_cons.1 hz with rfl | hz
        · exact hp
        · exact h2 z hz
theorem delete_il (n : Nat) (l0 : List Int) (hL : l0.length ≤ 1000000) : ∀ (rest F G : List Int) (f : Nat) (i j : Int), (∀ x ∈ rest, x ∈ L) → (F ++ (G ++ rest)).length = l0.length → G ≠ [] → i = F.length → j = F.length + G.length → rest.length < f →
    ∃ G', slices_DeleteFunc_int_l5 n f (F ++ (G ++ rest), del, i, j, ()) = some (.inl (F ++ rest.filter (fun x => !p x) ++ G', (F ++ rest.filter (fun x => !p x)).length, ())) ∧ (F ++ rest.filter (fun x => !p x) ++ G').length = l0.length := by
  intro rest
  induction rest with
  | nil =>
    intro F G f i j hm hl hg hi hj hf
    obtain ⟨f, rfl⟩ : ∃ g, f = g + 1 := ⟨f - 1, by simp at hf; omega⟩
    rw [slices_DeleteFunc_int_l5_eq]
    have : ¬ (j < ((F ++ (G ++ [])).length : Int)) := by simp; omega
    simp only [tif_dec, if_neg this]
    exact ⟨G, by simp [hi], by simpa using hl⟩
  | cons x rest ih =>
    intro F G f i j hm hl hg hi hj hf
    have hm' : ∀ y ∈ rest, y ∈ L := fun y hy => hm y (by simp [hy])
    obtain ⟨f, rfl⟩ : ∃ g, f = g + 1 := ⟨f - 1, by simp at hf; omega⟩
    rw [slices_DeleteFunc_int_l5_eq]
    simp only [List.length_append, List.length_cons] at hl
    have hlt : j < ((F ++ (G ++ x :: rest)).length : Int) := by simp; omega
    have hat : at? (F ++ (G ++ x :: rest)) j = some x := at_mid (pre := F ++ G) (rest := rest) (by simp) (by simp; omega)
    have hget : (F ++ (G ++ x :: rest))[j.toNat]? = some x := by
      rw [show j.toNat = F.length + G.length by omega, List.getElem?_append_right (by omega), List.getElem?_append_right (by omega)]
      simp
    simp only [tif_dec, if_pos hlt, hat, hget, obind_some, hd x (hm x (by simp))]
    have wj : IntKind.wrap .i64 (j + 1) = j + 1 := by rw [w64 (by omega) (by omega)]
    have wi : IntKind.wrap .i64 (i + 1) = i + 1 := by rw [w64 (by omega) (by omega)]
    rw [wj, wi]
    match G, hg with
    | g :: G, _ =>
    cases hp : p x with
    | false =>
      have hat' : at? (F ++ (g :: G ++ x :: rest)) i = some g := at_mid (pre := F) (rest := G ++ x :: rest) (by simp) hi
      have hget' : (F ++ (g :: G ++ x :: rest))[i.toNat]? = some g := by
        rw [show i.toNat = F.length by omega]; simp
      have hset : (F ++ (g :: G ++ x :: rest)).set i.toNat x = (F ++ [x]) ++ ((G ++ [x]) ++ rest) := by
        rw [show i.toNat = F.length by omega, List.set_append_right _ _ (by omega)]
        simp
      simp only [Bool.not_false, tif_true, hat', hget', obind_some, hset]
      obtain ⟨G', h1, h2⟩ := ih (F ++ [x]) (G ++ [x]) f (i + 1) (j + 1) hm' (by simp at hl ⊢; omega) (by simp) (by simp; omega) (by simp at hj ⊢; omega) (by simp at hf; omega)
      refine ⟨G', ?_, ?_⟩
      · rw [h1]; simp [List.filter_cons, hp]
      · rw [← h2]; simp [List.filter_cons, hp]
    | true =>
      simp only [Bool.not_true, tif_false]
      obtain ⟨G', h1, h2⟩ := ih F (g :: G ++ [x]) f i (j + 1) hm' (by simp at hl ⊢; omega) (by simp) hi (by simp at hj ⊢; omega) (by simp at hf; omega)
      simp only [List.append_assoc, List.singleton_append] at h1
      refine ⟨G', ?_, ?_⟩
      · rw [h1]; simp [List.filter_cons, hp]
      · rw [← h2]; simp [List.filter_cons, hp]
theorem delete_int (n : Nat) (l : List Int) (hL : l.length ≤ 1000000) (hm : ∀ x ∈ l, x ∈ L) : slices_DeleteFunc_int (n + 2) l del = some (l.filter fun x => !p x) := by
  rw [slices_DeleteFunc_int_eq, slices_IndexFunc_int_eq]
  rcases index_il hd n l hL l [] loopFuel 0 l.length hm rfl rfl rfl (by unfold loopFuel; omega) with ⟨h1, h2⟩ | ⟨A, x, B, h1, h2, h3, h4⟩
  · rw [h1]
    simp only [obind_some, selim_inl, tif_dec, if_pos trivial]
    exact congrArg some (List.filter_eq_self.2 fun y hy => by simp [h2 y hy]).symm
  · rw [h4]
    have hl : l.length = A.length + (B.length + 1) := by rw [h1]; simp
    simp only [obind_some, selim_inr, tif_dec, Int.zero_add]
    rw [if_neg (by omega), w64 (x := (A.length : Int) + 1) (by omega) (by omega)]
    obtain ⟨G', g1, g2⟩ := delete_il hd (n + 1) l hL B A [x] loopFuel (A.length : Int) (A.length + 1) (fun y hy => hm y (by rw [h1]; simp [hy])) (by rw [h1]; simp) (by simp) rfl (by simp) (by unfold loopFuel; omega)
    rw [show A ++ ([x] ++ B) = l by rw [h1]; simp] at g1
    rw [g1]
    have hF : A ++ B.filter (fun x => !p x) = l.filter fun x => !p x := by
      rw [h1, List.filter_append, List.filter_cons]
      have : A.filter (fun x => !p x) = A := List.filter_eq_self.2 fun y hy => by simp [h2 y hy]
      simp [h3, this]
    rw [hF] at g2 ⊢
    generalize (l.filter fun x => !p x) = F at *
    simp only [obind_some, selim_inl, tif_and, tif_dec, Int.toNat_natCast]
    have hle : F.length ≤ (F ++ G').length := by simp
    have k1 : putRow (F ++ G') F.length (List.replicate ((F ++ G').length - F.length) (0 : Int)) = F ++ List.replicate ((F ++ G').length - F.length) (0 : Int) := by
      unfold putRow
      rw [List.drop_of_length_le (by simp)]
      simp
    rw [k1, if_pos (by omega), if_pos hle, if_pos (by omega), if_pos (by omega), if_pos (by simp; omega)]
    simp
end
/-! ### what is due -/
theorem live_at {s : Sta} {z : Int} (h : z ∈ (liveV s).map Int.ofNat) : 0 ≤ z ∧ ∃ y, s.2.2.2[z.toNat]? = some y ∧ LvX s y := by
  obtain ⟨i, hi, rfl⟩ := List.mem_map.1 h
  have h1 := (List.mem_filter.1 hi).2
  obtain ⟨x, hx, hl⟩ := lvAt_iff.1 h1
  exact ⟨Int.natCast_nonneg i, x, hx, hl⟩
theorem sweep_due_1 (n : Nat) {s : Sta} {z : Int} {x : Ser} (h0 : 0 ≤ z) (hx : s.2.2.2[z.toNat]? = some x) : sweep_Due_1 (n + 7) z s = some (!dueAt s z.toNat) := by
  rw [sweep_Due_1_eq, at_nn h0 hx, obind_some, series_dead n, obind_some]
  unfold dueAt
  rw [hx]
theorem due_list (s : Sta) : ((liveV s).map Int.ofNat).filter (fun z => dueAt s z.toNat) = ((liveV s).filter (dueAt s)).map Int.ofNat := by
  rw [List.filter_map]; rfl
theorem sweep_due (n : Nat) {s : Sta} (hw : StaW s) : sweep_Due (n + 15) s = some ((dueV s).map Int.ofNat) := by
  rw [sweep_Due_eq, state_check n hw, obind_some, tif_not]
  unfold dueV
  by_cases h : StaOk s
  case neg => rw [chk_no h, if_neg h]; rfl
  have hd : ∀ z ∈ (liveV s).map Int.ofNat, (fun y2 : Int × Unit => sweep_Due_1 (n + 14) y2.1 s) (z, ()) = some (!dueAt s z.toNat) := fun z hz => by
    obtain ⟨h0, y, hy, _⟩ := live_at hz
    exact sweep_due_1 (n + 7) h0 hy
  have hL : ((liveV s).map Int.ofNat).length ≤ 1000000 := by have := live_len s; have := h.whole.len; simp; omega
  have e : liveR s = (liveV s).map Int.ofNat := if_pos h.whole
  rw [chk_ok h, state_live (n + 6) hw, obind_some, e, delete_int (del := fun y2 : Int × Unit => sweep_Due_1 (n + 14) y2.1 s) (p := fun z => !dueAt s z.toNat) hd (n + 12) _ hL (fun _ hx => hx), obind_some, if_pos h, ← due_list]
  simp only [Bool.not_not]
theorem r21_due_l5 (n : Nat) (s : Sta) (L : List Int) (hL : L.length ≤ 1000000) (hm : ∀ z ∈ L, 0 ≤ z ∧ ∃ y, s.2.2.2[z.toNat]? = some y ∧ LvX s y) : ∀ (rest pre : List Int) (f : Nat) (out : List Int) (ix len : Int), L = pre ++ rest → ix = pre.length → len = L.length → rest.length < f → out.length ≤ pre.length →
    r21_Due_l5 (n + 5) f (s, out, L, len, ix, ()) = some (.inl (out ++ rest.filter (fun z => dueAt s z.toNat), ())) := by
  intro rest
  induction rest with
  | nil =>
    intro pre f out ix len hl hi hn hf ho
    obtain ⟨f, rfl⟩ : ∃ g, f = g + 1 := ⟨f - 1, by simp at hf; omega⟩
    rw [r21_Due_l5_eq, decide_eq_false (idxe hl hi hn), tif_false]; simp
  | cons z rest ih =>
    intro pre f out ix len hl hi hn hf ho
    obtain ⟨f, rfl⟩ : ∃ g, f = g + 1 := ⟨f - 1, by simp at hf; omega⟩
    obtain ⟨h0, y, hy, _⟩ := hm z (by rw [hl]; simp)
    have hpl : pre.length ≤ L.length := by rw [hl]; simp
    rw [r21_Due_l5_eq, decide_eq_true (idx hl hi hn), tif_true, at_mid hl hi, obind_some, at_nn h0 hy, obind_some, r15_dead n, obind_some, idxw hl hi (show L.length ≤ 1000000000000 by omega)]
    have e : dueAt s z.toNat = deadV s.1 y.2.1 s.2.1 := by unfold dueAt; rw [hy]
    rw [← e]
    cases hd : dueAt s z.toNat with
    | true =>
      rw [tif_true, tif_dec, if_pos (by omega), ih (pre ++ [z]) f (out ++ [z]) (ix + 1) len (idxl hl) (idxs hi) hn (by simp at hf; omega) (by simp; omega), List.filter_cons_of_pos (p := fun z : Int => dueAt s z.toNat) hd]; simp
    | false => rw [tif_false, ih (pre ++ [z]) f out (ix + 1) len (idxl hl) (idxs hi) hn (by simp at hf; omega) (by simp; omega), List.filter_cons_of_neg (p := fun z : Int => dueAt s z.toNat) (by simp [hd])]
theorem r21_due (n : Nat) {s : Sta} (hw : StaW s) : r21_Due (n + 10) s = some ((dueV s).map Int.ofNat) := by
  rw [r21_Due_eq, r17_check n hw, obind_some, tif_not]
  unfold dueV
  by_cases h : StaOk s
  case neg => rw [chk_no h, if_neg h]; rfl
  have hL : ((liveV s).map Int.ofNat).length ≤ 1000000 := by have := live_len s; have := h.whole.len; simp; omega
  have e : liveR s = (liveV s).map Int.ofNat := if_pos h.whole
  rw [chk_ok h, r17_live (n + 2) hw, obind_some, e, r21_due_l5 (n + 4) s _ hL (fun z hz => live_at hz) _ [] loopFuel [] 0 _ rfl rfl rfl (by unfold loopFuel; omega) (by simp), obind_some, selim_inl, if_pos h, ← due_list]
  rfl
/-! ### swept -/
noncomputable def doV (s : Sta) : Sta × (Int × Int) := if StaOk s then (sweptS s, (((dueV s).length : Int), 0)) else (sta0, (0, 2))
theorem sweep_do (n : Nat) {s : Sta} (hw : StaW s) : sweep_Do (n + 16) s = some (doV s) := by
  rw [sweep_Do_eq, state_check (n + 1) hw, obind_some, tif_not]
  unfold doV
  by_cases h : StaOk s
  case neg => rw [chk_no h, if_neg h, if_neg h]; rfl
  rw [chk_ok h, if_pos h, sweep_due n hw, obind_some, List.length_map]; rfl
theorem r21_do (n : Nat) {s : Sta} (hw : StaW s) : r21_Do (n + 11) s = some (doV s) := by
  rw [r21_Do_eq, r17_check (n + 1) hw, obind_some, tif_not]
  unfold doV
  by_cases h : StaOk s
  case neg => rw [chk_no h, if_neg h]; rfl
  rw [chk_ok h, if_pos h, r21_due n hw, obind_some, List.length_map]; rfl
theorem sweptS_w {s : Sta} (hw : StaW s) : StaW (sweptS s) := ⟨hw.len, hw.ser⟩
theorem doV_w {s : Sta} (hw : StaW s) : StaW (doV s).1 := by
  unfold doV; split
  · exact sweptS_w hw
  · exact sta0_w
end Go.Proofs.YtjeabebacegikaaGreat

namespace Go.Proofs.YtjeabebacegikaaGreat
open Go.Flat Go.Plim
set_option linter.unusedVariables false
set_option linter.unusedSimpArgs false
theorem fade_cons (o : Int) (r : Int × Int) (x : Slo) (l : List Slo) : fadeT o r (x :: l) = (if KeepP o r x then x else s0) :: fadeT o r l := rfl
theorem fade_l4 (n : Nat) (o a b : Int) : ∀ (rest pre : List Slo) (f : Nat) (ix len : Int), pre.length + rest.length ≤ 1000000 → ix = pre.length → len = (pre.length : Int) + rest.length → rest.length < f →
    sweep_fade_l4 n f (o, a, b, pre ++ rest, len, ix, ()) = some (.inl (pre ++ fadeT o (a, b) rest, ())) := by
  intro rest
  induction rest with
  | nil =>
    intro pre f ix len hL hi hn hf
    obtain ⟨f, rfl⟩ : ∃ g, f = g + 1 := ⟨f - 1, by simp at hf; omega⟩
    rw [sweep_fade_l4_eq, decide_eq_false (by simp at hn; omega), tif_false]; rfl
  | cons x rest ih =>
    intro pre f ix len hL hi hn hf
    obtain ⟨f, rfl⟩ : ∃ g, f = g + 1 := ⟨f - 1, by simp at hf; omega⟩
    simp only [List.length_cons] at hL hn hf
    have go : ∀ v : Slo, v = (if KeepP o (a, b) x then x else s0) → sweep_fade_l4 n f (o, a, b, (pre ++ [v]) ++ rest, len, ix + 1, ()) = some (.inl (pre ++ fadeT o (a, b) (x :: rest), ())) := by
      intro v hv
      rw [ih (pre ++ [v]) f (ix + 1) len (by simp; omega) (by simp; omega) (by simp; omega) (by omega), fade_cons, ← hv]
      simp
    have same : (pre ++ [x]) ++ rest = pre ++ x :: rest := by simp
    have gm : ∀ v : Slo, (pre ++ x :: rest).set ix.toNat v = (pre ++ [v]) ++ rest := fun v => set_mid hi
    rw [sweep_fade_l4_eq, decide_eq_true (by omega), tif_true, at_mid rfl hi, obind_some, get_mid rfl hi, obind_some, w64 (by omega) (by omega)]
    simp only [tif_dec, obind_some, gm]
    by_cases h1 : x.1 < o
    · rw [if_pos h1]
      by_cases h2 : x.1 < a
      · rw [if_pos h2]
        exact go s0 (if_neg (fun k : KeepP o (a, b) x => k ⟨h1, .inl h2⟩)).symm
      · rw [if_neg h2]
        by_cases h3 : b ≤ x.1
        · rw [if_pos h3]
          exact go s0 (if_neg (fun k : KeepP o (a, b) x => k ⟨h1, .inr h3⟩)).symm
        · rw [if_neg h3, ← same]
          exact go x (if_pos (show KeepP o (a, b) x from fun k => k.2.elim h2 h3)).symm
    · rw [if_neg h1, ← same]
      exact go x (if_pos (show KeepP o (a, b) x from fun k => h1 k.1)).symm
/-! ### what the window above is made of -/
def needK (c : Conf) (last k : Int) : Int × Int := if k = 0 then need0 c last else if k = 1 then need1 c last else (0, 0)
theorem need_rng {t a b : Int} (ht : 0 ≤ t ∧ t < 35184372088832) (ha : 1 ≤ a) (hb : 1 ≤ b) (hb1 : b ≤ 1099511627776) (hm : b % a = 0) : 0 ≤ t / b * (b / a) ∧ t / b * (b / a) ≤ t ∧ 1 ≤ b / a ∧ b / a ≤ 1099511627776 := by
  have hp := factor_pos ha hb hm
  have q := (ediv_mul_ediv (t := t) ha hb hm).2
  have h0 : 0 ≤ t / b := Int.ediv_nonneg ht.1 (by omega)
  have h1 : t / b * (b / a) ≤ t / a := by rw [← q]; exact Int.ediv_mul_le _ (by omega)
  have h2 : t / a ≤ t := Int.ediv_le_self _ ht.1
  have h3 : b / a ≤ b := Int.ediv_le_self _ (by omega)
  exact ⟨Int.mul_nonneg h0 (by omega), by omega, by omega, by omega⟩
theorem need_quo {a b : Int} (ha : 1 ≤ a) (hb : 1 ≤ b) (hb1 : b ≤ 1099511627776) : IntKind.wrap .i64 (Int.tdiv b a) = b / a := quo_at ⟨by omega, by omega⟩ ha
theorem needed_0 (n : Nat) {c : Conf} (h : OkC c) {t : Int} (ht : 0 ≤ t ∧ t < 35184372088832) : sweep_needed (n + 1) c t 0 = some (need0 c t) := by
  have hr := h.rng
  obtain ⟨a1, a2, a3, a4⟩ := need_rng ht hr.w0.1 hr.w1.1 hr.w1.2 h.m1
  rw [sweep_needed_eq_0, tif_dec, if_neg (nz hr.w0.1), tif_dec, if_neg (nz hr.w1.1), quo_at ht hr.w1.1, need_quo hr.w0.1 hr.w1.1 hr.w1.2, w64 (x := t / c.2.1.2.1 * (c.2.1.2.1 / c.2.1.1)) (by omega) (by omega), w64 (by omega) (by omega)]; rfl
theorem needed_1 (n : Nat) {c : Conf} (h : OkC c) {t : Int} (ht : 0 ≤ t ∧ t < 35184372088832) : sweep_needed (n + 1) c t 1 = some (need1 c t) := by
  have hr := h.rng
  obtain ⟨a1, a2, a3, a4⟩ := need_rng ht hr.w1.1 hr.w2.1 hr.w2.2 h.m2
  rw [sweep_needed_eq_1, tif_dec, if_neg (nz hr.w1.1), tif_dec, if_neg (nz hr.w2.1), quo_at ht hr.w2.1, need_quo hr.w1.1 hr.w2.1 hr.w2.2, w64 (x := t / c.2.1.2.2 * (c.2.1.2.2 / c.2.1.2.1)) (by omega) (by omega), w64 (by omega) (by omega)]; rfl
theorem fade_0 (n : Nat) {c : Conf} (h : OkC c) (x : Ser) (ht : 0 ≤ x.2.1 ∧ x.2.1 < 35184372088832) (hL : x.2.2.2.1.1.length ≤ 1000000) (o : Int) : sweep_fade (n + 2) c x 0 o = some (fadeT o (need0 c x.2.1) x.2.2.2.1.1) := by
  rw [sweep_fade_eq_0, needed_0 n h ht, obind_some, clone_slot n _ hL, obind_some]
  have e := fade_l4 (n + 1) o (need0 c x.2.1).1 (need0 c x.2.1).2 x.2.2.2.1.1 [] loopFuel 0 (x.2.2.2.1.1.length : Int) (by simpa using hL) rfl (by simp) (by unfold loopFuel; omega)
  rw [List.nil_append] at e
  rw [e, obind_some, selim_inl]; rfl
theorem fade_1 (n : Nat) {c : Conf} (h : OkC c) (x : Ser) (ht : 0 ≤ x.2.1 ∧ x.2.1 < 35184372088832) (hL : x.2.2.2.1.2.1.length ≤ 1000000) (o : Int) : sweep_fade (n + 2) c x 1 o = some (fadeT o (need1 c x.2.1) x.2.2.2.1.2.1) := by
  rw [sweep_fade_eq_1, needed_1 n h ht, obind_some, clone_slot n _ hL, obind_some]
  have e := fade_l4 (n + 1) o (need1 c x.2.1).1 (need1 c x.2.1).2 x.2.2.2.1.2.1 [] loopFuel 0 (x.2.2.2.1.2.1.length : Int) (by simpa using hL) rfl (by simp) (by unfold loopFuel; omega)
  rw [List.nil_append] at e
  rw [e, obind_some, selim_inl]; rfl
theorem fade_2 (n : Nat) (c : Conf) (x : Ser) (hL : x.2.2.2.1.2.2.length ≤ 1000000) (o : Int) : sweep_fade (n + 2) c x 2 o = some (fadeT o (0, 0) x.2.2.2.1.2.2) := by
  rw [sweep_fade_eq_2, sweep_needed_eq_2, obind_some, clone_slot n _ hL, obind_some]
  have e := fade_l4 (n + 1) o 0 0 x.2.2.2.1.2.2 [] loopFuel 0 (x.2.2.2.1.2.2.length : Int) (by simpa using hL) rfl (by simp) (by unfold loopFuel; omega)
  rw [List.nil_append] at e
  rw [e, obind_some, selim_inl]; rfl
theorem in_quo {i f q : Int} (hf : 1 ≤ f) : i / f = q ↔ ¬ (i < q * f ∨ q * f + f ≤ i) := by
  have h1 := Int.mul_ediv_add_emod i f
  have h2 := Int.emod_nonneg i (show f ≠ 0 by omega)
  have h3 := Int.emod_lt_of_pos i (show 0 < f by omega)
  constructor
  · rintro rfl
    rw [Int.mul_comm (i / f) f]
    omega
  · intro h
    have a1 : q ≤ i / f := by rw [Int.le_ediv_iff_mul_le (by omega)]; omega
    have a2 : i / f < q + 1 := by rw [Int.ediv_lt_iff_lt_mul (by omega), Int.add_mul, Int.one_mul]; omega
    omega
theorem above_val (n : Nat) {c : Conf} (h : OkC c) {t : Int} (ht : 0 ≤ t ∧ t < 35184372088832) {k : Int} (hk : k = 0 ∨ k = 1 ∨ k = 2) {i : Int} (hi : 0 ≤ i ∧ i < 35184372088832) :
    r21_above (n + 5) c t k i = some (decide (¬ (i < (needK c t k).1 ∨ (needK c t k).2 ≤ i))) := by
  have hr := h.rng
  rcases hk with rfl | rfl | rfl
  · obtain ⟨a1, a2, a3, a4⟩ := need_rng ht hr.w0.1 hr.w1.1 hr.w1.2 h.m1
    rw [r21_above_eq_0, r10_factor1 n h, obind_some, tif_dec, if_neg (by omega), tif_dec, if_neg (nz hr.w1.1), quo_at hi a3, quo_at ht hr.w1.1]
    exact congrArg some (decide_eq_decide.2 (in_quo a3))
  · obtain ⟨a1, a2, a3, a4⟩ := need_rng ht hr.w1.1 hr.w2.1 hr.w2.2 h.m2
    rw [r21_above_eq_1, r10_factor2 n h, obind_some, tif_dec, if_neg (by omega), tif_dec, if_neg (nz hr.w2.1), quo_at hi a3, quo_at ht hr.w2.1]
    exact congrArg some (decide_eq_decide.2 (in_quo a3))
  · rw [r21_above_eq_2]
    refine congrArg some (decide_eq_false (fun q => q ?_)).symm
    show i < 0 ∨ 0 ≤ i
    omega
theorem tier_win {l : List Slo} {w : Int} (h : TierOk l w) : ∀ z ∈ l, 0 ≤ z.1 ∧ z.1 < 35184372088832 := by
  intro z hz
  obtain ⟨j, hj⟩ := List.getElem?_of_mem hz
  rcases h.s j z hj with rfl | ⟨_, hf⟩
  · simp [s0]
  · exact hf.i0
theorem r21_l14 (n : Nat) {s : Sta} (h : OkC s.1) (s2 : Sta) (out : List Ser) (i : Int) (x : Ser) (ht : 0 ≤ x.2.1 ∧ x.2.1 < 35184372088832) {k : Int} (hk : k = 0 ∨ k = 1 ∨ k = 2) (o : Int) (L : List Int) (q1 q2 : Int) : ∀ (rest pre : List Slo) (f : Nat) (ix len : Int),
    (∀ z ∈ rest, 0 ≤ z.1 ∧ z.1 < 35184372088832) → pre.length + rest.length ≤ 1000000 → ix = pre.length → len = (pre.length : Int) + rest.length → rest.length < f →
    r21_Clean_l14 (n + 5) f (s, s2, out, i, x, k, o, pre ++ rest, L, q1, q2, len, ix, ()) = some (.inl (s, s2, out, i, x, k, pre ++ fadeT o (needK s.1 x.2.1 k) rest, L, q1, q2, ())) := by
  intro rest
  induction rest with
  | nil =>
    intro pre f ix len hz hL hi hn hf
    obtain ⟨f, rfl⟩ : ∃ g, f = g + 1 := ⟨f - 1, by simp at hf; omega⟩
    rw [r21_Clean_l14_eq, decide_eq_false (by simp at hn; omega), tif_false]; rfl
  | cons z rest ih =>
    intro pre f ix len hz hL hi hn hf
    obtain ⟨f, rfl⟩ : ∃ g, f = g + 1 := ⟨f - 1, by simp at hf; omega⟩
    simp only [List.length_cons] at hL hn hf
    have go : ∀ v : Slo, v = (if KeepP o (needK s.1 x.2.1 k) z then z else s0) → r21_Clean_l14 (n + 5) f (s, s2, out, i, x, k, o, (pre ++ [v]) ++ rest, L, q1, q2, len, ix + 1, ()) = some (.inl (s, s2, out, i, x, k, pre ++ fadeT o (needK s.1 x.2.1 k) (z :: rest), L, q1, q2, ())) := by
      intro v hv
      rw [ih (pre ++ [v]) f (ix + 1) len (fun y hy => hz y (by simp [hy])) (by simp; omega) (by simp; omega) (by simp; omega) (by omega), fade_cons, ← hv]
      simp
    have same : (pre ++ [z]) ++ rest = pre ++ z :: rest := by simp
    have gm : ∀ v : Slo, (pre ++ z :: rest).set ix.toNat v = (pre ++ [v]) ++ rest := fun v => set_mid hi
    rw [r21_Clean_l14_eq, decide_eq_true (by omega), tif_true, at_mid rfl hi, obind_some, get_mid rfl hi, obind_some, above_val n h ht hk (hz z (by simp)), obind_some, obind_some, obind_some, w64 (by omega) (by omega)]
    simp only [tif_dec, tif_not, obind_some, gm]
    by_cases h1 : z.1 < o
    · rw [if_pos h1]
      by_cases h2 : z.1 < (needK s.1 x.2.1 k).1 ∨ (needK s.1 x.2.1 k).2 ≤ z.1
      · rw [if_neg (fun k => k h2)]
        exact go s0 (if_neg (fun q : KeepP o (needK s.1 x.2.1 k) z => q ⟨h1, h2⟩)).symm
      · rw [if_pos h2, ← same]
        exact go z (if_pos (show KeepP o (needK s.1 x.2.1 k) z from fun q => h2 q.2)).symm
    · rw [if_neg h1, ← same]
      exact go z (if_pos (show KeepP o (needK s.1 x.2.1 k) z from fun q => h1 q.1)).symm
/-! ### a series -/
theorem time_of {s : Sta} (h : StaOk s) {x : Ser} (hx : SerOk s.1 x) (h0 : 0 ≤ x.2.1) : 0 ≤ x.2.1 ∧ x.2.1 < 35184372088832 := serOk_at hx (by omega)
theorem clean_l10 (n : Nat) {s : Sta} (h : StaOk s) {x : Ser} (hx : SerOk s.1 x) (h0 : 0 ≤ x.2.1) (s2 : Sta) (out : List Ser) (i : Int) (L : List Int) (q1 q2 : Int) (f : Nat) :
    sweep_Clean_l10 (n + 14) (f + 4) (s, s2, out, i, x, L, q1, q2, s.1.2.1, (0 : Int), ()) = some (.inl (s, s2, out, i, cleanX s.1 s.2.1 x, L, q1, q2, ())) := by
  have hr := h.whole.1.rng
  have ht := h.clock.1
  have hc := h.whole.1
  have hT := time_of h hx h0
  have l0 := hx.fold.t0.l1; have l1 := hx.fold.t1.l1; have l2 := hx.fold.t2.l1
  rw [sweep_Clean_l10_eq_0, window_oldest (n + 10), obind_some, tif_not, decide_eq_true (old_none ⟨ht.1, ht.2, hr.w0.1, hr.w0.2⟩ hr.n0), tif_true, fade_0 (n + 12) hc x hT (by omega), obind_some]
  generalize e0 : fadeT (oldV s.2.1 s.1.2.1.1 s.1.2.2.1.1).1 (need0 s.1 x.2.1) x.2.2.2.1.1 = F0
  rw [sweep_Clean_l10_eq_1, window_oldest (n + 10), obind_some, tif_not, decide_eq_true (old_none ⟨ht.1, ht.2, hr.w1.1, hr.w1.2⟩ hr.n1), tif_true,
    fade_1 (n + 12) hc (x.1, (x.2.1, (x.2.2.1, ((F0, x.2.2.2.1.2), x.2.2.2.2)))) hT (by show x.2.2.2.1.2.1.length ≤ _; omega), obind_some]
  dsimp only
  generalize e1 : fadeT (oldV s.2.1 s.1.2.1.2.1 s.1.2.2.1.2.1).1 (need1 s.1 x.2.1) x.2.2.2.1.2.1 = F1
  rw [sweep_Clean_l10_eq_2, window_oldest (n + 10), obind_some, tif_not, decide_eq_true (old_none ⟨ht.1, ht.2, hr.w2.1, hr.w2.2⟩ hr.n2), tif_true,
    fade_2 (n + 12) s.1 (x.1, (x.2.1, (x.2.2.1, ((F0, (F1, x.2.2.2.1.2.2)), x.2.2.2.2)))) (by show x.2.2.2.1.2.2.length ≤ _; omega), obind_some, sweep_Clean_l10_eq_3]
  subst e0 e1
  rfl
theorem r21_l9 (n : Nat) {s : Sta} (h : StaOk s) {x : Ser} (hx : SerOk s.1 x) (h0 : 0 ≤ x.2.1) (s2 : Sta) (out : List Ser) (i : Int) (L : List Int) (q1 q2 : Int) (f : Nat) :
    r21_Clean_l9 (n + 5) (f + 4) (s, s2, out, i, x, (0 : Int), L, q1, q2, ()) = some (.inl (s, s2, out, i, cleanX s.1 s.2.1 x, L, q1, q2, ())) := by
  have hr := h.whole.1.rng
  have ht := h.clock.1
  have hc := h.whole.1
  have hT := time_of h hx h0
  have l0 := hx.fold.t0.l1; have l1 := hx.fold.t1.l1; have l2 := hx.fold.t2.l1
  rw [r21_Clean_l9_eq_0, r09_oldest (n + 2), obind_some, tif_dec, if_pos (by omega)]
  simp only [List.nil_append]
  have g0 := r21_l14 n hc s2 out i x hT (k := 0) (.inl rfl) (oldV s.2.1 s.1.2.1.1 s.1.2.2.1.1).1 L q1 q2 x.2.2.2.1.1 [] loopFuel 0 (x.2.2.2.1.1.length : Int) (tier_win hx.fold.t0) (by simp; omega) rfl (by simp) (by unfold loopFuel; omega)
  simp only [List.nil_append] at g0
  rw [g0, obind_some, selim_inl]
  dsimp only
  rw [show (decide ((0 : Int) = 0)) = true from rfl, tif_true, show IntKind.wrap .i64 ((0 : Int) + 1) = 1 from rfl]
  rw [show needK s.1 x.2.1 0 = need0 s.1 x.2.1 from rfl]
  generalize e0 : fadeT (oldV s.2.1 s.1.2.1.1 s.1.2.2.1.1).1 (need0 s.1 x.2.1) x.2.2.2.1.1 = F0
  rw [r21_Clean_l9_eq_1, r09_oldest (n + 2), obind_some, tif_dec, if_pos (by dsimp only; omega)]
  simp only [List.nil_append]
  have g1 := r21_l14 n hc s2 out i (x.1, (x.2.1, (x.2.2.1, ((F0, x.2.2.2.1.2), x.2.2.2.2)))) hT (k := 1) (.inr (.inl rfl)) (oldV s.2.1 s.1.2.1.2.1 s.1.2.2.1.2.1).1 L q1 q2 x.2.2.2.1.2.1 [] loopFuel 0 (x.2.2.2.1.2.1.length : Int) (tier_win hx.fold.t1) (by simp; omega) rfl (by simp) (by unfold loopFuel; omega)
  simp only [List.nil_append] at g1
  rw [g1, obind_some, selim_inl]
  dsimp only
  rw [show (decide ((1 : Int) = 0)) = false from rfl, tif_false, show (decide ((1 : Int) = 1)) = true from rfl, tif_true, show IntKind.wrap .i64 ((1 : Int) + 1) = 2 from rfl]
  rw [show needK s.1 x.2.1 1 = need1 s.1 x.2.1 from rfl]
  generalize e1 : fadeT (oldV s.2.1 s.1.2.1.2.1 s.1.2.2.1.2.1).1 (need1 s.1 x.2.1) x.2.2.2.1.2.1 = F1
  rw [r21_Clean_l9_eq_2, r09_oldest (n + 2), obind_some, tif_dec, if_pos (by dsimp only; omega)]
  simp only [List.nil_append]
  have g2 := r21_l14 n hc s2 out i (x.1, (x.2.1, (x.2.2.1, ((F0, (F1, x.2.2.2.1.2.2)), x.2.2.2.2)))) hT (k := 2) (.inr (.inr rfl)) (oldV s.2.1 s.1.2.1.2.2 s.1.2.2.1.2.2).1 L q1 q2 x.2.2.2.1.2.2 [] loopFuel 0 (x.2.2.2.1.2.2.length : Int) (tier_win hx.fold.t2) (by simp; omega) rfl (by simp) (by unfold loopFuel; omega)
  simp only [List.nil_append] at g2
  rw [g2, obind_some, selim_inl]
  dsimp only
  rw [show (decide ((2 : Int) = 0)) = false from rfl, tif_false, show (decide ((2 : Int) = 1)) = false from rfl, tif_false, show (decide ((2 : Int) = 2)) = true from rfl, tif_true, show IntKind.wrap .i64 ((2 : Int) + 1) = 3 from rfl, r21_Clean_l9_eq_3]
  subst e0 e1
  rfl
/-! ### a state -/
noncomputable def cleanO (s : Sta) (L : List Int) (out : List Ser) : List Ser := L.foldl (fun o z => o.set z.toNat (cleanX s.1 s.2.1 ((s.2.2.2[z.toNat]?).getD ser0))) out
theorem clean_l6 (n : Nat) {s : Sta} (h : StaOk s) (s2 : Sta) (L : List Int) (hL : L.length ≤ 1000000) (hm : ∀ z ∈ L, 0 ≤ z ∧ ∃ y, s.2.2.2[z.toNat]? = some y ∧ SerOk s.1 y ∧ 0 ≤ y.2.1) : ∀ (rest pre : List Int) (f : Nat) (out : List Ser) (ix len : Int), L = pre ++ rest → ix = pre.length → len = L.length → rest.length < f → out.length = s.2.2.2.length →
    sweep_Clean_l6 (n + 14) f (s, s2, out, L, len, ix, ()) = some (.inl (s, s2, cleanO s rest out, ())) := by
  intro rest
  induction rest with
  | nil =>
    intro pre f out ix len hl hi hn hf ho
    obtain ⟨f, rfl⟩ : ∃ g, f = g + 1 := ⟨f - 1, by simp at hf; omega⟩
    rw [sweep_Clean_l6_eq, decide_eq_false (idxe hl hi hn), tif_false]; rfl
  | cons z rest ih =>
    intro pre f out ix len hl hi hn hf ho
    obtain ⟨f, rfl⟩ : ∃ g, f = g + 1 := ⟨f - 1, by simp at hf; omega⟩
    obtain ⟨h0, y, hy, hs, hy0⟩ := hm z (by rw [hl]; simp)
    have hlt : z.toNat < out.length := by rw [ho]; exact (List.getElem?_eq_some_iff.1 hy).1
    have hg : out[z.toNat]? = some out[z.toNat] := List.getElem?_eq_getElem hlt
    have e10 := clean_l10 n h hs hy0 s2 out z L len ix (2 ^ 70 - 4)
    rw [show 2 ^ 70 - 4 + 4 = loopFuel from by decide] at e10
    rw [sweep_Clean_l6_eq, decide_eq_true (idx hl hi hn), tif_true, at_mid hl hi, obind_some, get_mid hl hi, obind_some, at_nn h0 hy, obind_some, e10, obind_some, selim_inl]
    dsimp only
    rw [at_nn h0 hg, obind_some, hg, obind_some, idxw hl hi (show L.length ≤ 1000000000000 by omega), ih (pre ++ [z]) f _ (ix + 1) len (idxl hl) (idxs hi) hn (by simp at hf; omega) (by simpa using ho)]
    unfold cleanO
    rw [List.foldl_cons, hy]; rfl
theorem r21_l5 (n : Nat) {s : Sta} (h : StaOk s) (s2 : Sta) (L : List Int) (hL : L.length ≤ 1000000) (hm : ∀ z ∈ L, 0 ≤ z ∧ ∃ y, s.2.2.2[z.toNat]? = some y ∧ SerOk s.1 y ∧ 0 ≤ y.2.1) : ∀ (rest pre : List Int) (f : Nat) (out : List Ser) (ix len : Int), L = pre ++ rest → ix = pre.length → len = L.length → rest.length < f → out.length = s.2.2.2.length →
    r21_Clean_l5 (n + 5) f (s, s2, out, L, len, ix, ()) = some (.inl (s, s2, cleanO s rest out, ())) := by
  intro rest
  induction rest with
  | nil =>
    intro pre f out ix len hl hi hn hf ho
    obtain ⟨f, rfl⟩ : ∃ g, f = g + 1 := ⟨f - 1, by simp at hf; omega⟩
    rw [r21_Clean_l5_eq, decide_eq_false (idxe hl hi hn), tif_false]; rfl
  | cons z rest ih =>
    intro pre f out ix len hl hi hn hf ho
    obtain ⟨f, rfl⟩ : ∃ g, f = g + 1 := ⟨f - 1, by simp at hf; omega⟩
    obtain ⟨h0, y, hy, hs, hy0⟩ := hm z (by rw [hl]; simp)
    have hlt : z.toNat < out.length := by rw [ho]; exact (List.getElem?_eq_some_iff.1 hy).1
    have hg : out[z.toNat]? = some out[z.toNat] := List.getElem?_eq_getElem hlt
    have e9 := r21_l9 n h hs hy0 s2 out z L len ix (2 ^ 70 - 4)
    rw [show 2 ^ 70 - 4 + 4 = loopFuel from by decide] at e9
    rw [r21_Clean_l5_eq, decide_eq_true (idx hl hi hn), tif_true, at_mid hl hi, obind_some, at_nn h0 hy, obind_some, e9, obind_some, selim_inl]
    dsimp only
    rw [at_nn h0 hg, obind_some, hg, obind_some, idxw hl hi (show L.length ≤ 1000000000000 by omega), ih (pre ++ [z]) f _ (ix + 1) len (idxl hl) (idxs hi) hn (by simp at hf; omega) (by simpa using ho)]
    unfold cleanO
    rw [List.foldl_cons, hy]; rfl
theorem set_fold {α : Type} (g : Int → α) (j : Nat) : ∀ (L : List Int) (out : List α), (∀ z ∈ L, 0 ≤ z) → (L.foldl (fun o z => o.set z.toNat (g z)) out)[j]? = if (j : Int) ∈ L then (if j < out.length then some (g j) else none) else out[j]? := by
  intro L
  induction L with
  | nil => intro out _; simp
  | cons z L ih =>
    intro out hz
    have h0 := hz z (by simp)
    rw [List.foldl_cons, ih _ (fun y hy => hz y (by simp [hy])), List.length_set]
    by_cases h : (j : Int) ∈ L
    · rw [if_pos h, if_pos (show (j : Int) ∈ z :: L by simp [h])]
    · rw [if_neg h, List.getElem?_set]
      by_cases e : z.toNat = j
      · have e' : z = (j : Int) := by omega
        rw [if_pos e, if_pos (show (j : Int) ∈ z :: L by simp [e']), e, e']
      · rw [if_neg e, if_neg (show ¬ (j : Int) ∈ z :: L by simp [h]; omega)]
theorem cleanO_all {s : Sta} (h : StaOk s) : cleanO s ((liveV s).map Int.ofNat) (List.replicate s.2.2.2.length ser0) = s.2.2.2.map (cleanP s) := by
  apply List.ext_getElem?
  intro j
  unfold cleanO
  rw [set_fold (fun z => cleanX s.1 s.2.1 ((s.2.2.2[z.toNat]?).getD ser0)) j _ _ (fun z hz => (live_at hz).1), List.getElem?_map, List.length_replicate]
  have hmem : ((j : Int) ∈ (liveV s).map Int.ofNat) ↔ lvAt s j = true := by
    constructor
    · intro hz
      obtain ⟨i, hi, e⟩ := List.mem_map.1 hz
      have e : i = j := by injection e
      rw [← e]; exact (List.mem_filter.1 hi).2
    · intro hl
      exact List.mem_map.2 ⟨j, List.mem_filter.2 ⟨List.mem_range.2 (lvAt_lt hl), hl⟩, rfl⟩
  by_cases hl : lvAt s j = true
  · obtain ⟨x, hx, hlx⟩ := lvAt_iff.1 hl
    rw [if_pos (hmem.2 hl), if_pos (lvAt_lt hl), hx]
    simp only [Option.map_some, Int.toNat_natCast, hx, Option.getD_some]
    exact congrArg some (if_pos hlx).symm
  · rw [if_neg (fun k => hl (hmem.1 k)), List.getElem?_replicate]
    cases hx : s.2.2.2[j]? with
    | none => rw [if_neg (by have := List.getElem?_eq_none_iff.1 hx; omega)]; rfl
    | some x =>
      rw [if_pos (List.getElem?_eq_some_iff.1 hx).1]
      have hn : ¬ LvX s x := fun k => hl (lvAt_iff.2 ⟨x, hx, k⟩)
      exact congrArg some (if_neg hn).symm
noncomputable def cleanV (s : Sta) : Sta × Int := if StaOk s then (cleanS s, 0) else (sta0, 2)
theorem live_all_ok {s : Sta} (h : StaOk s) : ∀ z ∈ (liveV s).map Int.ofNat, 0 ≤ z ∧ ∃ y, s.2.2.2[z.toNat]? = some y ∧ SerOk s.1 y ∧ 0 ≤ y.2.1 := by
  intro z hz
  obtain ⟨h0, y, hy, hl⟩ := live_at hz
  exact ⟨h0, y, hy, live_ok h (List.mem_of_getElem? hy) hl⟩
theorem sweep_clean (n : Nat) {s : Sta} (hw : StaW s) : sweep_Clean (n + 15) s = some (cleanV s) := by
  rw [sweep_Clean_eq, state_check n hw, obind_some, tif_not]
  unfold cleanV
  by_cases h : StaOk s
  case neg => rw [chk_no h, if_neg h, if_neg h]; rfl
  have hlen := h.whole.len
  have hL : ((liveV s).map Int.ofNat).length ≤ 1000000 := by have := live_len s; simp; omega
  have e : liveR s = (liveV s).map Int.ofNat := if_pos h.whole
  have e6 := clean_l6 n h sta0 _ hL (live_all_ok h) _ [] loopFuel (List.replicate s.2.2.2.length ser0) 0 _ rfl rfl rfl (by unfold loopFuel; omega) (by simp)
  rw [cleanO_all h] at e6
  rw [chk_ok h, if_pos h, decide_eq_true (by omega), decide_eq_true (Int.le_refl _), decide_eq_true (show (s.2.2.2.length : Int) * 264 ≤ 140737488355328 by omega), Bool.and_self, Bool.and_self, tif_true, state_live (n + 6) hw, obind_some, e, Int.toNat_natCast]
  change obind (sweep_Clean_l6 (n + 14) loopFuel (s, sta0, List.replicate s.2.2.2.length ser0, (liveV s).map Int.ofNat, (((liveV s).map Int.ofNat).length : Int), (0 : Int), ())) _ = _
  rw [e6, obind_some, selim_inl]; rfl
theorem r21_clean (n : Nat) {s : Sta} (hw : StaW s) : r21_Clean (n + 10) s = some (cleanV s) := by
  rw [r21_Clean_eq, r17_check n hw, obind_some, tif_not]
  unfold cleanV
  by_cases h : StaOk s
  case neg => rw [chk_no h, if_neg h]; rfl
  have hlen := h.whole.len
  have hL : ((liveV s).map Int.ofNat).length ≤ 1000000 := by have := live_len s; simp; omega
  have e : liveR s = (liveV s).map Int.ofNat := if_pos h.whole
  have e5 := r21_l5 (n + 4) h sta0 _ hL (live_all_ok h) _ [] loopFuel (List.replicate s.2.2.2.length ser0) 0 _ rfl rfl rfl (by unfold loopFuel; omega) (by simp)
  rw [cleanO_all h] at e5
  rw [chk_ok h, if_pos h, decide_eq_true (by omega), decide_eq_true (Int.le_refl _), decide_eq_true (show (s.2.2.2.length : Int) * 264 ≤ 140737488355328 by omega), Bool.and_self, Bool.and_self, tif_true, r17_live (n + 2) hw, obind_some, e, Int.toNat_natCast]
  change obind (r21_Clean_l5 (n + 9) loopFuel (s, sta0, List.replicate s.2.2.2.length ser0, (liveV s).map Int.ofNat, (((liveV s).map Int.ofNat).length : Int), (0 : Int), ())) _ = _
  rw [e5, obind_some, selim_inl]; rfl
theorem cleanX_w {c : Conf} {now : Int} {x : Ser} (hx : SerW x ∧ SerM x) : SerW (cleanX c now x) ∧ SerM (cleanX c now x) := by
  obtain ⟨⟨h1, h2, h3, h4⟩, m1, m2, m3, m4, m5⟩ := hx
  have fw : ∀ (o : Int) (r : Int × Int) (l : List Slo), (∀ z ∈ l, SloW z) → ∀ z ∈ fadeT o r l, SloW z := by
    intro o r l hl z hz
    obtain ⟨y, hy, e⟩ := List.mem_map.1 hz
    split at e
    · rw [← e]; exact hl y hy
    · rw [← e]; exact slow_s0
  refine ⟨⟨h1, h2, ?_, h4⟩, m1, m2, by simpa [cleanX, fadeT_len] using m3, by simpa [cleanX, fadeT_len] using m4, by simpa [cleanX, fadeT_len] using m5⟩
  obtain ⟨t1, t2, t3⟩ := h3
  exact ⟨fw _ _ _ t1, fw _ _ _ t2, fw _ _ _ t3⟩
theorem cleanS_w {s : Sta} (hw : StaW s) : StaW (cleanS s) := by
  refine ⟨by simpa [cleanS] using hw.len, fun x hx => ?_⟩
  obtain ⟨y, hy, e⟩ := List.mem_map.1 hx
  unfold cleanP at e
  split at e
  · rw [← e]; exact cleanX_w (hw.ser y hy)
  · rw [← e]; exact ⟨ser0_w, ser0_m⟩
theorem cleanV_w {s : Sta} (hw : StaW s) : StaW (cleanV s).1 := by
  unfold cleanV; split
  · exact cleanS_w hw
  · exact sta0_w
end Go.Proofs.YtjeabebacegikaaGreat

namespace Go.Proofs.YtjeabebacegikaaGreat
open Go.Flat
theorem ob {α β : Type} {o : Option α} {x : α} {f : α → Option β} {r : Option β} (h : o = some x) (k : f x = r) : obind o f = r := by rw [h]; exact k
theorem tt {α : Type} {b : Bool} {x y r : α} (h : b = true) (k : x = r) : tif b x y = r := by rw [h]; exact k
theorem tf {α : Type} {b : Bool} {x y r : α} (h : b = false) (k : y = r) : tif b x y = r := by rw [h]; exact k
end Go.Proofs.YtjeabebacegikaaGreat

namespace Go.Proofs.YtjeabebacegikaaGreat
open Go.Flat
set_option linter.unusedVariables false
theorem l21_lives_eq (n : Nat)  : l21_lives (n + 1)  =
  obind (l10_Fit n ) fun r0 =>
  obind (state_New n r0) fun r1 =>
  tif ((!(decide (r1.2 = (0 : Int))))) (
  some false) (
  obind (write_One n r1.1 ((((97 : UInt8) :: []), []) :: []) ((5 : Int), ((1 : Int), ((0 : Int), false)))) fun r2 =>
  tif ((!(decide (r2.2 = (0 : Int))))) (
  some false) (
  obind (sweep_Due n (r2.1.1, ((500 : Int), r2.1.2.2))) fun r3 =>
  obind (sweep_Do n (r2.1.1, ((500 : Int), r2.1.2.2))) fun r4 =>
  obind (sweep_Clean n r4.1) fun r5 =>
  obind (sweep_Clean n (r2.1.1, ((500 : Int), r2.1.2.2))) fun r6 =>
  obind (sweep_Do n (((0 : Int), (((0 : Int), ((0 : Int), (0 : Int))), (((0 : Int), ((0 : Int), (0 : Int))), ((0 : Int), (0 : Int))))), ((0 : Int), ((0 : Int), [])))) fun r7 =>
  obind (r06_Same n r3 ((0 : Int) :: [])) fun r8 =>
  tif (r8) (
  tif ((decide (r4.2.1 = (1 : Int)))) (
  tif ((decide (r4.2.2 = (0 : Int)))) (
  tif ((decide (r4.1.2.2.1 = (500 : Int)))) (
  obind (state_Many n r4.1) fun r9 =>
  tif ((decide (r9 = (0 : Int)))) (
  tif ((decide (r5.2 = (0 : Int)))) (
  obind (at? r5.1.2.2.2 (0 : Int)) fun r10 =>
  tif ((decide ((((List.length r10.1) : Nat) : Int) = (0 : Int)))) (
  tif ((decide (r6.2 = (0 : Int)))) (
  obind (at? r6.1.2.2.2 (0 : Int)) fun r11 =>
  tif ((decide ((((List.length r11.1) : Nat) : Int) = (1 : Int)))) (
  some (decide (r7.2.2 = (2 : Int)))) (
  some false)) (
  some false)) (
  some false)) (
  some false)) (
  some false)) (
  some false)) (
  some false)) (
  some false)) (
  some false))) := by kernel_rfl
theorem lvl21_lives_0 (n : Nat) : l10_Fit (n + 39) = some (20, ((10, (20, 60)), ((4, (5, 6)), (3, 9)))) := by kernel_rfl
theorem lvl21_lives_1 (n : Nat) : state_New (n + 39) (20, ((10, (20, 60)), ((4, (5, 6)), (3, 9)))) = some (((20, ((10, (20, 60)), ((4, (5, 6)), (3, 9)))), (0, ((-1), [([], (0, ((0, (0, [])), (([], ([], [])), (0, (0, ((0, (0, (0, false))), ((0, (0, (0, false))), ((0, 0), (0, (0, 0))))))))))), ([], (0, ((0, (0, [])), (([], ([], [])), (0, (0, ((0, (0, (0, false))), ((0, (0, (0, false))), ((0, 0), (0, (0, 0))))))))))), ([], (0, ((0, (0, [])), (([], ([], [])), (0, (0, ((0, (0, (0, false))), ((0, (0, (0, false))), ((0, 0), (0, (0, 0)))))))))))]))), 0) := by kernel_rfl
theorem lvl21_lives_2 (n : Nat) : write_One (n + 39) ((20, ((10, (20, 60)), ((4, (5, 6)), (3, 9)))), (0, ((-1), [([], (0, ((0, (0, [])), (([], ([], [])), (0, (0, ((0, (0, (0, false))), ((0, (0, (0, false))), ((0, 0), (0, (0, 0))))))))))), ([], (0, ((0, (0, [])), (([], ([], [])), (0, (0, ((0, (0, (0, false))), ((0, (0, (0, false))), ((0, 0), (0, (0, 0))))))))))), ([], (0, ((0, (0, [])), (([], ([], [])), (0, (0, ((0, (0, (0, false))), ((0, (0, (0, false))), ((0, 0), (0, (0, 0)))))))))))]))) [([97], [])] (5, (1, (0, false))) = some (((20, ((10, (20, 60)), ((4, (5, 6)), (3, 9)))), (0, ((-1), [([([97], [])], (5, ((0, (0, [(5, (1, (0, false)))])), (([(0, (0, ((0, (0, (0, false))), ((0, (0, (0, false))), ((0, 0), (0, (0, 0))))))), (0, (0, ((0, (0, (0, false))), ((0, (0, (0, false))), ((0, 0), (0, (0, 0))))))), (0, (0, ((0, (0, (0, false))), ((0, (0, (0, false))), ((0, 0), (0, (0, 0))))))), (0, (0, ((0, (0, (0, false))), ((0, (0, (0, false))), ((0, 0), (0, (0, 0)))))))], ([(0, (0, ((0, (0, (0, false))), ((0, (0, (0, false))), ((0, 0), (0, (0, 0))))))), (0, (0, ((0, (0, (0, false))), ((0, (0, (0, false))), ((0, 0), (0, (0, 0))))))), (0, (0, ((0, (0, (0, false))), ((0, (0, (0, false))), ((0, 0), (0, (0, 0))))))), (0, (0, ((0, (0, (0, false))), ((0, (0, (0, false))), ((0, 0), (0, (0, 0))))))), (0, (0, ((0, (0, (0, false))), ((0, (0, (0, false))), ((0, 0), (0, (0, 0)))))))], [(0, (0, ((0, (0, (0, false))), ((0, (0, (0, false))), ((0, 0), (0, (0, 0))))))), (0, (0, ((0, (0, (0, false))), ((0, (0, (0, false))), ((0, 0), (0, (0, 0))))))), (0, (0, ((0, (0, (0, false))), ((0, (0, (0, false))), ((0, 0), (0, (0, 0))))))), (0, (0, ((0, (0, (0, false))), ((0, (0, (0, false))), ((0, 0), (0, (0, 0))))))), (0, (0, ((0, (0, (0, false))), ((0, (0, (0, false))), ((0, 0), (0, (0, 0))))))), (0, (0, ((0, (0, (0, false))), ((0, (0, (0, false))), ((0, 0), (0, (0, 0)))))))])), (0, (1, ((5, (1, (0, false))), ((5, (1, (0, false))), ((0, 0), (0, (0, 0))))))))))), ([], (0, ((0, (0, [])), (([], ([], [])), (0, (0, ((0, (0, (0, false))), ((0, (0, (0, false))), ((0, 0), (0, (0, 0))))))))))), ([], (0, ((0, (0, [])), (([], ([], [])), (0, (0, ((0, (0, (0, false))), ((0, (0, (0, false))), ((0, 0), (0, (0, 0)))))))))))]))), 0) := by kernel_rfl
theorem lvl21_lives_3 (n : Nat) : sweep_Due (n + 39) ((20, ((10, (20, 60)), ((4, (5, 6)), (3, 9)))), (500, ((-1), [([([97], [])], (5, ((0, (0, [(5, (1, (0, false)))])), (([(0, (0, ((0, (0, (0, false))), ((0, (0, (0, false))), ((0, 0), (0, (0, 0))))))), (0, (0, ((0, (0, (0, false))), ((0, (0, (0, false))), ((0, 0), (0, (0, 0))))))), (0, (0, ((0, (0, (0, false))), ((0, (0, (0, false))), ((0, 0), (0, (0, 0))))))), (0, (0, ((0, (0, (0, false))), ((0, (0, (0, false))), ((0, 0), (0, (0, 0)))))))], ([(0, (0, ((0, (0, (0, false))), ((0, (0, (0, false))), ((0, 0), (0, (0, 0))))))), (0, (0, ((0, (0, (0, false))), ((0, (0, (0, false))), ((0, 0), (0, (0, 0))))))), (0, (0, ((0, (0, (0, false))), ((0, (0, (0, false))), ((0, 0), (0, (0, 0))))))), (0, (0, ((0, (0, (0, false))), ((0, (0, (0, false))), ((0, 0), (0, (0, 0))))))), (0, (0, ((0, (0, (0, false))), ((0, (0, (0, false))), ((0, 0), (0, (0, 0)))))))], [(0, (0, ((0, (0, (0, false))), ((0, (0, (0, false))), ((0, 0), (0, (0, 0))))))), (0, (0, ((0, (0, (0, false))), ((0, (0, (0, false))), ((0, 0), (0, (0, 0))))))), (0, (0, ((0, (0, (0, false))), ((0, (0, (0, false))), ((0, 0), (0, (0, 0))))))), (0, (0, ((0, (0, (0, false))), ((0, (0, (0, false))), ((0, 0), (0, (0, 0))))))), (0, (0, ((0, (0, (0, false))), ((0, (0, (0, false))), ((0, 0), (0, (0, 0))))))), (0, (0, ((0, (0, (0, false))), ((0, (0, (0, false))), ((0, 0), (0, (0, 0)))))))])), (0, (1, ((5, (1, (0, false))), ((5, (1, (0, false))), ((0, 0), (0, (0, 0))))))))))), ([], (0, ((0, (0, [])), (([], ([], [])), (0, (0, ((0, (0, (0, false))), ((0, (0, (0, false))), ((0, 0), (0, (0, 0))))))))))), ([], (0, ((0, (0, [])), (([], ([], [])), (0, (0, ((0, (0, (0, false))), ((0, (0, (0, false))), ((0, 0), (0, (0, 0)))))))))))]))) = some [0] := by kernel_rfl
theorem lvl21_lives_4 (n : Nat) : sweep_Do (n + 39) ((20, ((10, (20, 60)), ((4, (5, 6)), (3, 9)))), (500, ((-1), [([([97], [])], (5, ((0, (0, [(5, (1, (0, false)))])), (([(0, (0, ((0, (0, (0, false))), ((0, (0, (0, false))), ((0, 0), (0, (0, 0))))))), (0, (0, ((0, (0, (0, false))), ((0, (0, (0, false))), ((0, 0), (0, (0, 0))))))), (0, (0, ((0, (0, (0, false))), ((0, (0, (0, false))), ((0, 0), (0, (0, 0))))))), (0, (0, ((0, (0, (0, false))), ((0, (0, (0, false))), ((0, 0), (0, (0, 0)))))))], ([(0, (0, ((0, (0, (0, false))), ((0, (0, (0, false))), ((0, 0), (0, (0, 0))))))), (0, (0, ((0, (0, (0, false))), ((0, (0, (0, false))), ((0, 0), (0, (0, 0))))))), (0, (0, ((0, (0, (0, false))), ((0, (0, (0, false))), ((0, 0), (0, (0, 0))))))), (0, (0, ((0, (0, (0, false))), ((0, (0, (0, false))), ((0, 0), (0, (0, 0))))))), (0, (0, ((0, (0, (0, false))), ((0, (0, (0, false))), ((0, 0), (0, (0, 0)))))))], [(0, (0, ((0, (0, (0, false))), ((0, (0, (0, false))), ((0, 0), (0, (0, 0))))))), (0, (0, ((0, (0, (0, false))), ((0, (0, (0, false))), ((0, 0), (0, (0, 0))))))), (0, (0, ((0, (0, (0, false))), ((0, (0, (0, false))), ((0, 0), (0, (0, 0))))))), (0, (0, ((0, (0, (0, false))), ((0, (0, (0, false))), ((0, 0), (0, (0, 0))))))), (0, (0, ((0, (0, (0, false))), ((0, (0, (0, false))), ((0, 0), (0, (0, 0))))))), (0, (0, ((0, (0, (0, false))), ((0, (0, (0, false))), ((0, 0), (0, (0, 0)))))))])), (0, (1, ((5, (1, (0, false))), ((5, (1, (0, false))), ((0, 0), (0, (0, 0))))))))))), ([], (0, ((0, (0, [])), (([], ([], [])), (0, (0, ((0, (0, (0, false))), ((0, (0, (0, false))), ((0, 0), (0, (0, 0))))))))))), ([], (0, ((0, (0, [])), (([], ([], [])), (0, (0, ((0, (0, (0, false))), ((0, (0, (0, false))), ((0, 0), (0, (0, 0)))))))))))]))) = some (((20, ((10, (20, 60)), ((4, (5, 6)), (3, 9)))), (500, (500, [([([97], [])], (5, ((0, (0, [(5, (1, (0, false)))])), (([(0, (0, ((0, (0, (0, false))), ((0, (0, (0, false))), ((0, 0), (0, (0, 0))))))), (0, (0, ((0, (0, (0, false))), ((0, (0, (0, false))), ((0, 0), (0, (0, 0))))))), (0, (0, ((0, (0, (0, false))), ((0, (0, (0, false))), ((0, 0), (0, (0, 0))))))), (0, (0, ((0, (0, (0, false))), ((0, (0, (0, false))), ((0, 0), (0, (0, 0)))))))], ([(0, (0, ((0, (0, (0, false))), ((0, (0, (0, false))), ((0, 0), (0, (0, 0))))))), (0, (0, ((0, (0, (0, false))), ((0, (0, (0, false))), ((0, 0), (0, (0, 0))))))), (0, (0, ((0, (0, (0, false))), ((0, (0, (0, false))), ((0, 0), (0, (0, 0))))))), (0, (0, ((0, (0, (0, false))), ((0, (0, (0, false))), ((0, 0), (0, (0, 0))))))), (0, (0, ((0, (0, (0, false))), ((0, (0, (0, false))), ((0, 0), (0, (0, 0)))))))], [(0, (0, ((0, (0, (0, false))), ((0, (0, (0, false))), ((0, 0), (0, (0, 0))))))), (0, (0, ((0, (0, (0, false))), ((0, (0, (0, false))), ((0, 0), (0, (0, 0))))))), (0, (0, ((0, (0, (0, false))), ((0, (0, (0, false))), ((0, 0), (0, (0, 0))))))), (0, (0, ((0, (0, (0, false))), ((0, (0, (0, false))), ((0, 0), (0, (0, 0))))))), (0, (0, ((0, (0, (0, false))), ((0, (0, (0, false))), ((0, 0), (0, (0, 0))))))), (0, (0, ((0, (0, (0, false))), ((0, (0, (0, false))), ((0, 0), (0, (0, 0)))))))])), (0, (1, ((5, (1, (0, false))), ((5, (1, (0, false))), ((0, 0), (0, (0, 0))))))))))), ([], (0, ((0, (0, [])), (([], ([], [])), (0, (0, ((0, (0, (0, false))), ((0, (0, (0, false))), ((0, 0), (0, (0, 0))))))))))), ([], (0, ((0, (0, [])), (([], ([], [])), (0, (0, ((0, (0, (0, false))), ((0, (0, (0, false))), ((0, 0), (0, (0, 0)))))))))))]))), (1, 0)) := by kernel_rfl
theorem lvl21_lives_5 (n : Nat) : sweep_Clean (n + 39) ((20, ((10, (20, 60)), ((4, (5, 6)), (3, 9)))), (500, (500, [([([97], [])], (5, ((0, (0, [(5, (1, (0, false)))])), (([(0, (0, ((0, (0, (0, false))), ((0, (0, (0, false))), ((0, 0), (0, (0, 0))))))), (0, (0, ((0, (0, (0, false))), ((0, (0, (0, false))), ((0, 0), (0, (0, 0))))))), (0, (0, ((0, (0, (0, false))), ((0, (0, (0, false))), ((0, 0), (0, (0, 0))))))), (0, (0, ((0, (0, (0, false))), ((0, (0, (0, false))), ((0, 0), (0, (0, 0)))))))], ([(0, (0, ((0, (0, (0, false))), ((0, (0, (0, false))), ((0, 0), (0, (0, 0))))))), (0, (0, ((0, (0, (0, false))), ((0, (0, (0, false))), ((0, 0), (0, (0, 0))))))), (0, (0, ((0, (0, (0, false))), ((0, (0, (0, false))), ((0, 0), (0, (0, 0))))))), (0, (0, ((0, (0, (0, false))), ((0, (0, (0, false))), ((0, 0), (0, (0, 0))))))), (0, (0, ((0, (0, (0, false))), ((0, (0, (0, false))), ((0, 0), (0, (0, 0)))))))], [(0, (0, ((0, (0, (0, false))), ((0, (0, (0, false))), ((0, 0), (0, (0, 0))))))), (0, (0, ((0, (0, (0, false))), ((0, (0, (0, false))), ((0, 0), (0, (0, 0))))))), (0, (0, ((0, (0, (0, false))), ((0, (0, (0, false))), ((0, 0), (0, (0, 0))))))), (0, (0, ((0, (0, (0, false))), ((0, (0, (0, false))), ((0, 0), (0, (0, 0))))))), (0, (0, ((0, (0, (0, false))), ((0, (0, (0, false))), ((0, 0), (0, (0, 0))))))), (0, (0, ((0, (0, (0, false))), ((0, (0, (0, false))), ((0, 0), (0, (0, 0)))))))])), (0, (1, ((5, (1, (0, false))), ((5, (1, (0, false))), ((0, 0), (0, (0, 0))))))))))), ([], (0, ((0, (0, [])), (([], ([], [])), (0, (0, ((0, (0, (0, false))), ((0, (0, (0, false))), ((0, 0), (0, (0, 0))))))))))), ([], (0, ((0, (0, [])), (([], ([], [])), (0, (0, ((0, (0, (0, false))), ((0, (0, (0, false))), ((0, 0), (0, (0, 0)))))))))))]))) = some (((20, ((10, (20, 60)), ((4, (5, 6)), (3, 9)))), (500, (500, [([], (0, ((0, (0, [])), (([], ([], [])), (0, (0, ((0, (0, (0, false))), ((0, (0, (0, false))), ((0, 0), (0, (0, 0))))))))))), ([], (0, ((0, (0, [])), (([], ([], [])), (0, (0, ((0, (0, (0, false))), ((0, (0, (0, false))), ((0, 0), (0, (0, 0))))))))))), ([], (0, ((0, (0, [])), (([], ([], [])), (0, (0, ((0, (0, (0, false))), ((0, (0, (0, false))), ((0, 0), (0, (0, 0)))))))))))]))), 0) := by kernel_rfl
theorem lvl21_lives_6 (n : Nat) : sweep_Clean (n + 39) ((20, ((10, (20, 60)), ((4, (5, 6)), (3, 9)))), (500, ((-1), [([([97], [])], (5, ((0, (0, [(5, (1, (0, false)))])), (([(0, (0, ((0, (0, (0, false))), ((0, (0, (0, false))), ((0, 0), (0, (0, 0))))))), (0, (0, ((0, (0, (0, false))), ((0, (0, (0, false))), ((0, 0), (0, (0, 0))))))), (0, (0, ((0, (0, (0, false))), ((0, (0, (0, false))), ((0, 0), (0, (0, 0))))))), (0, (0, ((0, (0, (0, false))), ((0, (0, (0, false))), ((0, 0), (0, (0, 0)))))))], ([(0, (0, ((0, (0, (0, false))), ((0, (0, (0, false))), ((0, 0), (0, (0, 0))))))), (0, (0, ((0, (0, (0, false))), ((0, (0, (0, false))), ((0, 0), (0, (0, 0))))))), (0, (0, ((0, (0, (0, false))), ((0, (0, (0, false))), ((0, 0), (0, (0, 0))))))), (0, (0, ((0, (0, (0, false))), ((0, (0, (0, false))), ((0, 0), (0, (0, 0))))))), (0, (0, ((0, (0, (0, false))), ((0, (0, (0, false))), ((0, 0), (0, (0, 0)))))))], [(0, (0, ((0, (0, (0, false))), ((0, (0, (0, false))), ((0, 0), (0, (0, 0))))))), (0, (0, ((0, (0, (0, false))), ((0, (0, (0, false))), ((0, 0), (0, (0, 0))))))), (0, (0, ((0, (0, (0, false))), ((0, (0, (0, false))), ((0, 0), (0, (0, 0))))))), (0, (0, ((0, (0, (0, false))), ((0, (0, (0, false))), ((0, 0), (0, (0, 0))))))), (0, (0, ((0, (0, (0, false))), ((0, (0, (0, false))), ((0, 0), (0, (0, 0))))))), (0, (0, ((0, (0, (0, false))), ((0, (0, (0, false))), ((0, 0), (0, (0, 0)))))))])), (0, (1, ((5, (1, (0, false))), ((5, (1, (0, false))), ((0, 0), (0, (0, 0))))))))))), ([], (0, ((0, (0, [])), (([], ([], [])), (0, (0, ((0, (0, (0, false))), ((0, (0, (0, false))), ((0, 0), (0, (0, 0))))))))))), ([], (0, ((0, (0, [])), (([], ([], [])), (0, (0, ((0, (0, (0, false))), ((0, (0, (0, false))), ((0, 0), (0, (0, 0)))))))))))]))) = some (((20, ((10, (20, 60)), ((4, (5, 6)), (3, 9)))), (500, ((-1), [([([97], [])], (5, ((0, (0, [(5, (1, (0, false)))])), (([(0, (0, ((0, (0, (0, false))), ((0, (0, (0, false))), ((0, 0), (0, (0, 0))))))), (0, (0, ((0, (0, (0, false))), ((0, (0, (0, false))), ((0, 0), (0, (0, 0))))))), (0, (0, ((0, (0, (0, false))), ((0, (0, (0, false))), ((0, 0), (0, (0, 0))))))), (0, (0, ((0, (0, (0, false))), ((0, (0, (0, false))), ((0, 0), (0, (0, 0)))))))], ([(0, (0, ((0, (0, (0, false))), ((0, (0, (0, false))), ((0, 0), (0, (0, 0))))))), (0, (0, ((0, (0, (0, false))), ((0, (0, (0, false))), ((0, 0), (0, (0, 0))))))), (0, (0, ((0, (0, (0, false))), ((0, (0, (0, false))), ((0, 0), (0, (0, 0))))))), (0, (0, ((0, (0, (0, false))), ((0, (0, (0, false))), ((0, 0), (0, (0, 0))))))), (0, (0, ((0, (0, (0, false))), ((0, (0, (0, false))), ((0, 0), (0, (0, 0)))))))], [(0, (0, ((0, (0, (0, false))), ((0, (0, (0, false))), ((0, 0), (0, (0, 0))))))), (0, (0, ((0, (0, (0, false))), ((0, (0, (0, false))), ((0, 0), (0, (0, 0))))))), (0, (0, ((0, (0, (0, false))), ((0, (0, (0, false))), ((0, 0), (0, (0, 0))))))), (0, (0, ((0, (0, (0, false))), ((0, (0, (0, false))), ((0, 0), (0, (0, 0))))))), (0, (0, ((0, (0, (0, false))), ((0, (0, (0, false))), ((0, 0), (0, (0, 0))))))), (0, (0, ((0, (0, (0, false))), ((0, (0, (0, false))), ((0, 0), (0, (0, 0)))))))])), (0, (1, ((5, (1, (0, false))), ((5, (1, (0, false))), ((0, 0), (0, (0, 0))))))))))), ([], (0, ((0, (0, [])), (([], ([], [])), (0, (0, ((0, (0, (0, false))), ((0, (0, (0, false))), ((0, 0), (0, (0, 0))))))))))), ([], (0, ((0, (0, [])), (([], ([], [])), (0, (0, ((0, (0, (0, false))), ((0, (0, (0, false))), ((0, 0), (0, (0, 0)))))))))))]))), 0) := by kernel_rfl
theorem lvl21_lives_7 (n : Nat) : sweep_Do (n + 39) ((0, ((0, (0, 0)), ((0, (0, 0)), (0, 0)))), (0, (0, []))) = some (((0, ((0, (0, 0)), ((0, (0, 0)), (0, 0)))), (0, (0, []))), (0, 2)) := by kernel_rfl
theorem lvl21_lives_8 (n : Nat) : r06_Same (n + 39) [0] [0] = some true := by kernel_rfl
theorem lvl21_lives_9 (n : Nat) : state_Many (n + 39) ((20, ((10, (20, 60)), ((4, (5, 6)), (3, 9)))), (500, (500, [([([97], [])], (5, ((0, (0, [(5, (1, (0, false)))])), (([(0, (0, ((0, (0, (0, false))), ((0, (0, (0, false))), ((0, 0), (0, (0, 0))))))), (0, (0, ((0, (0, (0, false))), ((0, (0, (0, false))), ((0, 0), (0, (0, 0))))))), (0, (0, ((0, (0, (0, false))), ((0, (0, (0, false))), ((0, 0), (0, (0, 0))))))), (0, (0, ((0, (0, (0, false))), ((0, (0, (0, false))), ((0, 0), (0, (0, 0)))))))], ([(0, (0, ((0, (0, (0, false))), ((0, (0, (0, false))), ((0, 0), (0, (0, 0))))))), (0, (0, ((0, (0, (0, false))), ((0, (0, (0, false))), ((0, 0), (0, (0, 0))))))), (0, (0, ((0, (0, (0, false))), ((0, (0, (0, false))), ((0, 0), (0, (0, 0))))))), (0, (0, ((0, (0, (0, false))), ((0, (0, (0, false))), ((0, 0), (0, (0, 0))))))), (0, (0, ((0, (0, (0, false))), ((0, (0, (0, false))), ((0, 0), (0, (0, 0)))))))], [(0, (0, ((0, (0, (0, false))), ((0, (0, (0, false))), ((0, 0), (0, (0, 0))))))), (0, (0, ((0, (0, (0, false))), ((0, (0, (0, false))), ((0, 0), (0, (0, 0))))))), (0, (0, ((0, (0, (0, false))), ((0, (0, (0, false))), ((0, 0), (0, (0, 0))))))), (0, (0, ((0, (0, (0, false))), ((0, (0, (0, false))), ((0, 0), (0, (0, 0))))))), (0, (0, ((0, (0, (0, false))), ((0, (0, (0, false))), ((0, 0), (0, (0, 0))))))), (0, (0, ((0, (0, (0, false))), ((0, (0, (0, false))), ((0, 0), (0, (0, 0)))))))])), (0, (1, ((5, (1, (0, false))), ((5, (1, (0, false))), ((0, 0), (0, (0, 0))))))))))), ([], (0, ((0, (0, [])), (([], ([], [])), (0, (0, ((0, (0, (0, false))), ((0, (0, (0, false))), ((0, 0), (0, (0, 0))))))))))), ([], (0, ((0, (0, [])), (([], ([], [])), (0, (0, ((0, (0, (0, false))), ((0, (0, (0, false))), ((0, 0), (0, (0, 0)))))))))))]))) = some 0 := by kernel_rfl
theorem l21_lives_true (n : Nat) : l21_lives (n + 40) = some true := by
  rw [l21_lives_eq]
  refine ob (lvl21_lives_0 n) ?_
  refine ob (lvl21_lives_1 n) ?_
  refine tf (by kernel_rfl) ?_
  refine ob (lvl21_lives_2 n) ?_
  refine tf (by kernel_rfl) ?_
  refine ob (lvl21_lives_3 n) ?_
  refine ob (lvl21_lives_4 n) ?_
  refine ob (lvl21_lives_5 n) ?_
  refine ob (lvl21_lives_6 n) ?_
  refine ob (lvl21_lives_7 n) ?_
  refine ob (lvl21_lives_8 n) ?_
  refine tt (by kernel_rfl) ?_
  refine tt (by kernel_rfl) ?_
  refine tt (by kernel_rfl) ?_
  refine tt (by kernel_rfl) ?_
  refine ob (lvl21_lives_9 n) ?_
  refine tt (by kernel_rfl) ?_
  refine tt (by kernel_rfl) ?_
  refine ob (x := ([], (0, ((0, (0, [])), (([], ([], [])), (0, (0, ((0, (0, (0, false))), ((0, (0, (0, false))), ((0, 0), (0, (0, 0)))))))))))) (by kernel_rfl) ?_
  refine tt (by kernel_rfl) ?_
  refine tt (by kernel_rfl) ?_
  refine ob (x := ([([97], [])], (5, ((0, (0, [(5, (1, (0, false)))])), (([(0, (0, ((0, (0, (0, false))), ((0, (0, (0, false))), ((0, 0), (0, (0, 0))))))), (0, (0, ((0, (0, (0, false))), ((0, (0, (0, false))), ((0, 0), (0, (0, 0))))))), (0, (0, ((0, (0, (0, false))), ((0, (0, (0, false))), ((0, 0), (0, (0, 0))))))), (0, (0, ((0, (0, (0, false))), ((0, (0, (0, false))), ((0, 0), (0, (0, 0)))))))], ([(0, (0, ((0, (0, (0, false))), ((0, (0, (0, false))), ((0, 0), (0, (0, 0))))))), (0, (0, ((0, (0, (0, false))), ((0, (0, (0, false))), ((0, 0), (0, (0, 0))))))), (0, (0, ((0, (0, (0, false))), ((0, (0, (0, false))), ((0, 0), (0, (0, 0))))))), (0, (0, ((0, (0, (0, false))), ((0, (0, (0, false))), ((0, 0), (0, (0, 0))))))), (0, (0, ((0, (0, (0, false))), ((0, (0, (0, false))), ((0, 0), (0, (0, 0)))))))], [(0, (0, ((0, (0, (0, false))), ((0, (0, (0, false))), ((0, 0), (0, (0, 0))))))), (0, (0, ((0, (0, (0, false))), ((0, (0, (0, false))), ((0, 0), (0, (0, 0))))))), (0, (0, ((0, (0, (0, false))), ((0, (0, (0, false))), ((0, 0), (0, (0, 0))))))), (0, (0, ((0, (0, (0, false))), ((0, (0, (0, false))), ((0, 0), (0, (0, 0))))))), (0, (0, ((0, (0, (0, false))), ((0, (0, (0, false))), ((0, 0), (0, (0, 0))))))), (0, (0, ((0, (0, (0, false))), ((0, (0, (0, false))), ((0, 0), (0, (0, 0)))))))])), (0, (1, ((5, (1, (0, false))), ((5, (1, (0, false))), ((0, 0), (0, (0, 0)))))))))))) (by kernel_rfl) ?_
  refine tt (by kernel_rfl) ?_
  kernel_rfl
end Go.Proofs.YtjeabebacegikaaGreat

namespace Go.Proofs.YtjeabebacegikaaGreat
open Go.Flat Go.Plim
set_option linter.unusedVariables false
set_option linter.unusedSimpArgs false
theorem due_small (s : Sta) : ((dueV s).map Int.ofNat).length ≤ 1000000 := by
  rw [List.length_map]
  unfold dueV
  split
  · rename_i h
    have h1 := h.whole.len; have h2 := live_len s
    have h3 := List.length_filter_le (dueAt s) (liveV s)
    omega
  · simp
/-- THE LAW SweepTells -/
theorem sweepTells_true (n : Nat) (s : Sta) (hs : Wf tyState s) : l21_SweepTells (n + 41) s = some true := by
  have hw := sta_wf hs
  rw [l21_SweepTells_eq]
  rcases l17_small (n + 37) hw with h | ⟨h, _⟩
  · rw [h, l21_lives_true n]; rfl
  simp only [h, l21_lives_true n, sweep_do (n + 24) hw, r21_do (n + 29) hw, sweep_clean (n + 25) hw, r21_clean (n + 30) hw, sweep_due (n + 25) hw, r21_due (n + 30) hw, r17_same (n + 36) (doV_w hw), r17_same (n + 36) (cleanV_w hw), r06_same_refl (n + 39) _ (due_small s), obind_some, decide_true, tif_true, tif_false, show (decide ((1 : Int) = 0)) = false from rfl]
theorem swept_twice (s : Sta) : sweptS (sweptS s) = sweptS s := rfl
theorem doV_ok {s : Sta} (h : StaOk s) : doV s = (sweptS s, (((dueV s).length : Int), 0)) := if_pos h
theorem cleanV_ok {s : Sta} (h : StaOk s) : cleanV s = (cleanS s, 0) := if_pos h
/-- THE LAW SweepTwice -/
theorem sweepTwice_true (n : Nat) (s : Sta) (hs : Wf tyState s) : l21_SweepTwice (n + 41) s = some true := by
  have hw := sta_wf hs
  rw [l21_SweepTwice_eq, l21_lives_true n, obind_some, Bool.not_true, tif_false]
  rcases l17_small (n + 37) hw with h | ⟨h, _⟩
  · rw [h]; rfl
  rw [h, obind_some, show (decide ((1 : Int) = 0)) = false from rfl, tif_false, state_check (n + 26) hw, obind_some, tif_not]
  by_cases hok : StaOk s
  case neg => rw [chk_no hok]
  have h1 := swept_ok hok
  have h2 := clean_ok h1
  have w1 := sweptS_w hw
  have w2 := cleanS_w w1
  rw [chk_ok hok, sweep_do (n + 24) hw, doV_ok hok, obind_some]
  dsimp only
  rw [sweep_do (n + 24) w1, doV_ok h1, obind_some, sweep_clean (n + 25) w1, cleanV_ok h1, obind_some]
  dsimp only
  rw [sweep_clean (n + 25) w2, cleanV_ok h2, obind_some, clean_twice h1, swept_twice, due_swept hok]
  simp only [decide_true, tif_true, List.length_nil, Int.natCast_zero, state_same (n + 35) w1, state_same (n + 35) w2, sweep_due (n + 25) w1, due_swept hok, obind_some, List.map_nil]
theorem series_rangeK (n : Nat) (c : Conf) {s : Ser} (hw : SerW s) {k : Int} (h0 : 0 ≤ k) (h2 : k ≤ 2) (i j : Int) : series_Range (n + 22) c s k i j = some (rangeK c s k i j) := by
  unfold rangeK
  rcases (by omega : k = 0 ∨ k = 1 ∨ k = 2) with e | e | e
  · subst e; rw [if_pos rfl]; exact series_range0 n c hw i j
  · subst e; rw [if_neg (by decide), if_pos rfl]; exact series_range1 n c hw i j
  · subst e; rw [if_neg (by decide), if_neg (by decide)]; exact series_range2 n c hw i j
theorem sees_l13 (n : Nat) {s : Sta} (hw : StaW s) (h : StaOk s) {k : Int} (hk0 : 0 ≤ k) (hk2 : k ≤ 2) {i j : Int} (h0 : 0 ≤ i) (hij : i ≤ j) (hi : (oldV s.2.1 (tierW s.1 k) (tierN s.1 k)).1 ≤ i) : ∀ (rest pre : List Int) (f : Nat) (ix len : Int), (liveV s).map Int.ofNat = pre ++ rest → ix = pre.length → len = ((liveV s).map Int.ofNat).length → rest.length < f →
    l21_SweepSees_l13 (n + 22) f (k, i, j, s, sweptS s, cleanS (sweptS s), (liveV s).map Int.ofNat, len, ix, ()) = some (.inl ()) := by
  have hL : ((liveV s).map Int.ofNat).length ≤ 1000000000000 := by have := live_len s; have := h.whole.len; simp; omega
  have h1 := swept_ok h
  have w1 := sweptS_w hw
  have w2 := cleanS_w w1
  intro rest
  induction rest with
  | nil =>
    intro pre f ix len hl hx hn hf
    obtain ⟨f, rfl⟩ : ∃ g, f = g + 1 := ⟨f - 1, by simp at hf; omega⟩
    rw [l21_SweepSees_l13_eq, decide_eq_false (idxe hl hx hn), tif_false]
  | cons z rest ih =>
    intro pre f ix len hl hx hn hf
    obtain ⟨f, rfl⟩ : ∃ g, f = g + 1 := ⟨f - 1, by simp at hf; omega⟩
    obtain ⟨z0', y, hy, hlv⟩ := live_at (s := s) (z := z) (by rw [hl]; simp)
    obtain ⟨hs, hy0⟩ := live_ok h (List.mem_of_getElem? hy) hlv
    have hyw := (hw.at hy).1
    have next := ih (pre ++ [z]) f (ix + 1) len (idxl hl) (idxs hx) hn (by simp at hf; omega)
    rw [l21_SweepSees_l13_eq, decide_eq_true (idx hl hx hn), tif_true, at_mid hl hx, obind_some, get_mid hl hx, obind_some, at_nn z0' hy, obind_some, series_rangeK n s.1 hyw hk0 hk2, obind_some, tif_not, decide_eq_true (rangeK_fine hs k h0 hij), tif_true, idxw hl hx hL]
    rw [state_lives (n + 14) w2, obind_some, tif_not]
    have eT : lvAt (sweptS s) z.toNat = decide (LvX (sweptS s) y) := lvAt_some (s := sweptS s) hy
    have eU : lvAt (cleanS (sweptS s)) z.toNat = decide (LvX (sweptS s) y) := (lvAt_clean h1 z.toNat).trans eT
    by_cases hT : LvX (sweptS s) y
    · have e1 : livesB (cleanS (sweptS s)) z = true := decide_eq_true ⟨(clean_ok h1).whole, z0', by rw [eU]; exact decide_eq_true hT⟩
      have hu : (cleanS (sweptS s)).2.2.2[z.toNat]? = some (cleanX s.1 s.2.1 y) := by
        show (s.2.2.2.map (cleanP (sweptS s)))[z.toNat]? = _
        rw [List.getElem?_map, hy]
        exact congrArg some (if_pos hT)
      have ex : series_Range (n + 22) (cleanS (sweptS s)).1 (cleanX s.1 s.2.1 y) k i j = some (rangeK s.1 y k i j) := by
        rw [series_rangeK n _ (cleanX_w (hw.at hy)).1 hk0 hk2]
        exact congrArg some (rangeK_clean hs s.2.1 hk0 hk2 hi)
      rw [e1, tif_true, at_nn z0' hu, obind_some, ex, obind_some, tif_not, decide_eq_true (rangeK_fine hs k h0 hij), tif_true, celEq, tif_not, decide_eq_true rfl, tif_true]
      exact next
    · have e1 : livesB (cleanS (sweptS s)) z = false := decide_eq_false (fun q => by rw [eU] at q; exact hT (of_decide_eq_true q.2.2))
      have e2 : livesB (sweptS s) z = false := decide_eq_false (fun q => by rw [eT] at q; exact hT (of_decide_eq_true q.2.2))
      have hd : deadV s.1 y.2.1 s.2.1 = true := by
        cases hd : deadV s.1 y.2.1 s.2.1 with
        | true => rfl
        | false => exact absurd ((swept_lv h).2 ⟨hlv.1, hd⟩) hT
      have hr : rangeK s.1 y k i j = (z0, 0) := dead_range h hs hd hk0 hk2 h0 hij hi
      rw [e1, tif_false, hr, tif_not, show (decide ((z0, (0 : Int)).1.1 = 0)) = true from rfl, tif_true, state_lives (n + 14) w1, obind_some, e2, tif_false]
      exact next
def mx (i x : Int) : Int := if (if i < x then x else i) < (0 : Int) then (0 : Int) else (if i < x then x else i)
theorem mx_le (i x : Int) : 0 ≤ mx i x ∧ x ≤ mx i x := by
  unfold mx
  split <;> split <;> omega
theorem sees_at (n : Nat) {s : Sta} (hw : StaW s) {k : Int} (hk0 : 0 ≤ k) (hk2 : k ≤ 2) (i j : Int) {W M Y : Int} (hW : W = tierW s.1 k) (hM : M = tierN s.1 k) (hY : Y = mx i (IntKind.wrap .i64 ((IntKind.wrap .i64 ((IntKind.wrap .i64 (Int.tdiv s.2.1 W)) - M)) + (1 : Int)))) :
    (obind (l21_lives (n + 40)) fun r0 =>
    tif (!r0) (some false) (
    obind (l17_Small (n + 40) s) fun r1 =>
    tif (decide (r1 = (0 : Int))) (some true) (
    obind (state_Check (n + 40) s) fun r2 =>
    tif (!(decide (r2 = (0 : Int)))) (some true) (
    obind (sweep_Do (n + 40) s) fun r3 =>
    obind (sweep_Clean (n + 40) r3.1) fun r4 =>
    tif (!(decide (r3.2.2 = (0 : Int)))) (some false) (
    tif (!(decide (r4.2 = (0 : Int)))) (some false) (
    obind (state_Check (n + 40) r3.1) fun r5 =>
    tif (!(decide (r5 = (0 : Int)))) (some false) (
    obind (state_Check (n + 40) r4.1) fun r6 =>
    tif (!(decide (r6 = (0 : Int)))) (some false) (
    obind (state_Many (n + 40) r3.1) fun r7 =>
    obind (state_Many (n + 40) s) fun r8 =>
    tif (!(decide (r7 = (IntKind.wrap .i64 (r8 - r3.2.1))))) (some false) (
    obind (state_Many (n + 40) r4.1) fun r9 =>
    obind (state_Many (n + 40) r3.1) fun r10 =>
    tif (!(decide (r9 = r10))) (some false) (
    tif (decide (W = (0 : Int))) none (
    tif (decide (j < Y)) (some true) (
    obind (state_Live (n + 40) s) fun r11 =>
    obind (l21_SweepSees_l13 (n + 40) loopFuel (k, (Y, (j, (s, (r3.1, (r4.1, (r11, ((((List.length r11) : Nat) : Int), ((0 : Int), ())))))))))) fun r12 =>
    selim (fun y13 => some true) (fun z14 => some z14) r12)))))))))))) = some true := by
  subst hW hM hY
  rw [l21_lives_true n, obind_some, Bool.not_true, tif_false]
  rcases l17_small (n + 37) hw with h | ⟨h, _⟩
  · rw [h]; rfl
  rw [h, obind_some, show (decide ((1 : Int) = 0)) = false from rfl, tif_false, state_check (n + 26) hw, obind_some, tif_not]
  by_cases hok : StaOk s
  case neg => rw [chk_no hok]
  have h1 := swept_ok hok
  have h2 := clean_ok h1
  have w1 := sweptS_w hw
  have w2 := cleanS_w w1
  obtain ⟨r1, r2, r3, r4⟩ := tier_rng hok.whole.1 k
  have ht := hok.clock.1
  have hlen := hok.whole.len
  have hll := live_len s
  have a0 : 0 ≤ s.2.1 / tierW s.1 k := Int.ediv_nonneg ht.1 (by omega)
  have a1 : s.2.1 / tierW s.1 k ≤ s.2.1 := Int.ediv_le_self _ ht.1
  have a2 := ht.2
  have m1 : ((liveR (sweptS s)).length : Int) = (liveV (sweptS s)).length := by rw [liveR_len h1.whole]
  have m2 : ((liveR s).length : Int) = (liveV s).length := by rw [liveR_len hok.whole]
  have m3 : ((liveR (cleanS (sweptS s))).length : Int) = (liveV (sweptS s)).length := by rw [liveR_len h2.whole, live_clean h1]
  have mm := many_swept hok
  have e : liveR s = (liveV s).map Int.ofNat := if_pos hok.whole
  rw [chk_ok hok, sweep_do (n + 24) hw, doV_ok hok, obind_some]
  dsimp only
  rw [sweep_clean (n + 25) w1, cleanV_ok h1, obind_some]
  dsimp only
  rw [decide_eq_true rfl, Bool.not_true, tif_false, tif_false, state_check (n + 26) w1, obind_some, tif_not, chk_ok h1, state_check (n + 26) w2, obind_some, tif_not, chk_ok h2, state_many (n + 31) w1, state_many (n + 31) hw, obind_some, obind_some, m1, m2, w64 (by omega) (by omega), decide_eq_true (by omega), Bool.not_true, tif_false, state_many (n + 31) w2, obind_some, obind_some, m3, decide_eq_true rfl, Bool.not_true, tif_false, decide_eq_false (by omega), tif_false, quo_at ht r1,
    w64 (x := s.2.1 / tierW s.1 k - tierN s.1 k) (by omega) (by omega), w64 (x := s.2.1 / tierW s.1 k - tierN s.1 k + 1) (by omega) (by omega)]
  obtain ⟨x1, x2⟩ := mx_le i (s.2.1 / tierW s.1 k - tierN s.1 k + 1)
  generalize mx i (s.2.1 / tierW s.1 k - tierN s.1 k + 1) = i' at x1 x2
  by_cases hj : j < i'
  · rw [decide_eq_true hj, tif_true]
  have hi : (oldV s.2.1 (tierW s.1 k) (tierN s.1 k)).1 ≤ i' := by
    unfold oldV
    rw [if_pos (show OfP s.2.1 (tierW s.1 k) ∧ 1 ≤ tierN s.1 k ∧ tierN s.1 k ≤ 4096 from ⟨⟨ht.1, ht.2, r1, r2⟩, r3, r4⟩)]
    simp only
    split <;> omega
  rw [decide_eq_false hj, tif_false, state_live (n + 32) hw, obind_some, e, sees_l13 (n + 18) hw hok hk0 hk2 x1 (by omega) hi _ [] loopFuel 0 _ rfl rfl rfl (by simp; unfold loopFuel; omega), obind_some, selim_inl]
/-- THE LAW SweepSees -/
theorem sweepSees_true (n : Nat) (s : Sta) (k i j : Int) (hs : Wf tyState s) : l21_SweepSees (n + 41) s k i j = some true := by
  have hw := sta_wf hs
  rw [l21_SweepSees_eq]
  by_cases k0 : k = 0
  · subst k0
    rw [decide_eq_true rfl, tif_true]
    exact sees_at n hw (by decide) (by decide) i j (if_pos rfl).symm (if_pos rfl).symm rfl
  rw [decide_eq_false k0, tif_false]
  by_cases k1 : k = 1
  · subst k1
    rw [decide_eq_true rfl, tif_true]
    exact sees_at n hw (by decide) (by decide) i j (by rw [tierW, if_neg (by decide), if_pos rfl]) (by rw [tierN, if_neg (by decide), if_pos rfl]) rfl
  rw [decide_eq_false k1, tif_false]
  by_cases k2 : k = 2
  · subst k2
    rw [decide_eq_true rfl, tif_true]
    exact sees_at n hw (by decide) (by decide) i j (by rw [tierW, if_neg (by decide), if_neg (by decide)]) (by rw [tierN, if_neg (by decide), if_neg (by decide)]) rfl
  rw [decide_eq_false k2, tif_false, l21_lives_true n, obind_some, Bool.not_true, tif_false]
  rcases l17_small (n + 37) hw with h | ⟨h, _⟩
  · rw [h]; rfl
  rw [h, obind_some, show (decide ((1 : Int) = 0)) = false from rfl, tif_false, state_check (n + 26) hw, obind_some, tif_not]
  by_cases hok : StaOk s
  case neg => rw [chk_no hok]
  rw [chk_ok hok]
  by_cases hn : k < 0
  · rw [decide_eq_true hn, tif_true]
  rw [decide_eq_false hn, tif_false, decide_eq_true (by omega), tif_true]
end Go.Proofs.YtjeabebacegikaaGreat
